import PyProof.Rows.All
import HandS.Codes
import HandS.Defaults
import HandS.Evl
import HandS.ExcField
import HandS.ExcInit
import HandS.ExcIs
import HandS.ExcOwn
import HandS.ExcValue
import HandS.ForExc
import HandS.ForMost
import HandS.Head0
import HandS.Head1
import HandS.Head2
import HandS.HeadEnd
import HandS.HeadHook1
import HandS.HeadHook2
import HandS.IsInst
import HandS.More
import KE.KExcIs
import KE.KStateDown
import Lean
import OpenK.AllK
import PySem.Challenge.RW_tailheard_k06_errors_made
import Wide.All
import Wide.FinOn
set_option Elab.async false
set_option linter.all false
set_option maxRecDepth 100000
namespace TB
open PySem PySem.Spec PyProof.Rows L2
def noneB (K : PySem.W.Frag) (ns : Addr) (names : List Str) : Bool := match K.lookup ns with
  | some ⟨_, _, .dict es _, _⟩ => es.toList.all fun e => !e.refKey && names.all fun n => !e.key.isStr n
  | _ => false
def slB (sl : Array (Option Value)) : Bool := match sl.toList with
  | [_, _, _, _, some (.builtin n), _] => decide (n = "ValueError.__new__")
  | _ => false
def mroB (C T : Addr) (m : List Value) : Bool := match m with
  | [.ref C', .ref T', .type a, .type b, .type c, .type d] => decide (C' = C) && (decide (T' = T) && (decide (a = "ValueError") && (decide (b = "Exception") && (decide (c = "BaseException") && decide (d = "object")))))
  | _ => false
def eclB (K : PySem.W.Frag) (T : Addr) (names : List Str) (C : Addr) : Bool := match K.lookup C with
  | some ⟨.type t, _, .cls cd, sl⟩ => decide (t = "type") && (mroB C T cd.mro && (cd.hasDict && (!cd.hasDel && (slB sl && noneB K cd.ns names))))
  | _ => false
def tclB (K : PySem.W.Frag) (names : List Str) (T : Addr) : Bool := match K.lookup T with
  | some ⟨.type t, _, .cls cd, _⟩ => decide (t = "type") && noneB K cd.ns names
  | _ => false
def incB : List Nat → Bool
  | a :: b :: r => Nat.blt a b && incB (b :: r)
  | _ => true
end TB
namespace K6
open PySem PySem.Spec PyProof.Rows L2 TB
def topS (i : Nat) : Stmt := PySem.Challenge.pw_tailheard_k06_errors_made.main.body.getD i (.Pass ⟨0, 0, 0, 0⟩)
abbrev s__law_mix : Stmt := topS 62
abbrev s__law_pick : Stmt := topS 63
abbrev s__law_draw : Stmt := topS 61
abbrev s__law_string : Stmt := topS 64
abbrev s__law_thing : Stmt := topS 65
abbrev s__law_flags : Stmt := topS 66
abbrev s__law_right : Stmt := topS 67
abbrev s__law_strings : Stmt := topS 72
abbrev s__law_first_things : Stmt := topS 68
abbrev s__law_other_things : Stmt := topS 69
abbrev s__law_first_numbers : Stmt := topS 70
abbrev s__law_other_numbers : Stmt := topS 71
abbrev s_law : Stmt := topS 73
def ini (st : Stmt) : Stmt := match st with
  | .ClassDef (body := b) .. => b.headD (.Pass ⟨0, 0, 0, 0⟩)
  | _ => .Pass ⟨0, 0, 0, 0⟩
abbrev St := PySem.Str
abbrev i0 : Stmt := ini (topS 2)
abbrev i1 : Stmt := ini (topS 3)
abbrev i2 : Stmt := ini (topS 4)
abbrev i3 : Stmt := ini (topS 5)
abbrev i4 : Stmt := ini (topS 6)
abbrev i5 : Stmt := ini (topS 7)
abbrev i6 : Stmt := ini (topS 8)
abbrev i7 : Stmt := ini (topS 9)
abbrev i8 : Stmt := ini (topS 10)
abbrev i9 : Stmt := ini (topS 11)
abbrev i10 : Stmt := ini (topS 12)
abbrev i11 : Stmt := ini (topS 13)
abbrev i12 : Stmt := ini (topS 14)
abbrev i13 : Stmt := ini (topS 15)
abbrev i14 : Stmt := ini (topS 16)
abbrev i15 : Stmt := ini (topS 17)
abbrev i16 : Stmt := ini (topS 18)
abbrev i17 : Stmt := ini (topS 19)
abbrev i18 : Stmt := ini (topS 20)
abbrev i19 : Stmt := ini (topS 21)
abbrev i20 : Stmt := ini (topS 22)
abbrev i21 : Stmt := ini (topS 23)
abbrev i22 : Stmt := ini (topS 24)
abbrev i23 : Stmt := ini (topS 25)
abbrev i24 : Stmt := ini (topS 26)
abbrev i25 : Stmt := ini (topS 27)
abbrev i26 : Stmt := ini (topS 28)
abbrev i27 : Stmt := ini (topS 29)
abbrev i28 : Stmt := ini (topS 30)
abbrev i29 : Stmt := ini (topS 31)
abbrev i30 : Stmt := ini (topS 32)
abbrev i31 : Stmt := ini (topS 33)
abbrev i32 : Stmt := ini (topS 34)
abbrev i33 : Stmt := ini (topS 35)
abbrev i34 : Stmt := ini (topS 36)
abbrev i35 : Stmt := ini (topS 37)
abbrev i36 : Stmt := ini (topS 38)
abbrev i37 : Stmt := ini (topS 39)
abbrev i38 : Stmt := ini (topS 40)
abbrev i39 : Stmt := ini (topS 41)
abbrev i40 : Stmt := ini (topS 42)
abbrev i41 : Stmt := ini (topS 43)
abbrev i42 : Stmt := ini (topS 44)
abbrev i43 : Stmt := ini (topS 45)
abbrev i44 : Stmt := ini (topS 46)
abbrev i45 : Stmt := ini (topS 47)
abbrev i46 : Stmt := ini (topS 48)
abbrev i48 : Stmt := ini (topS 50)
abbrev i49 : Stmt := ini (topS 51)
abbrev i50 : Stmt := ini (topS 52)
abbrev i51 : Stmt := ini (topS 53)
abbrev i52 : Stmt := ini (topS 54)
abbrev i53 : Stmt := ini (topS 55)
abbrev i54 : Stmt := ini (topS 56)
abbrev i55 : Stmt := ini (topS 57)
abbrev i56 : Stmt := ini (topS 58)
abbrev i57 : Stmt := ini (topS 59)
def four : List St := ["__setattr__", "__getattribute__", "__getattr__", "__class__"]
def flds : List St := (["words", "number", "space", "beats", "wish", "sign", "at", "line", "word", "least", "wait", "name"] : List St) ++ (["delay", "places", "names", "delays", "first", "most", "bands", "slow", "cycle", "ear", "relay", "within"] : List St) ++ (["standing", "between", "length", "node", "ahead", "behind"] : List St)
def nT : List St := four ++ flds
def cls : List (St × List St) := ([("BadWords", ["words"]), ("BadStanding", ["number"]), ("BadKind", ["number"]), ("BadSpace", ["space"]), ("BadSeat", ["number"]), ("BadColumn", ["number"]), ("BadCalling", ["number"]), ("BadBeats", ["beats"]), ("BadWish", ["wish"]), ("BadPlan", ["number"]), ("BadSign", ["sign"]), ("BadText", ["at"])] : List (St × List St)) ++ ([("BadLine", ["line", "word"]), ("BadLeast", ["least"]), ("BadWait", ["wait"]), ("BadGoal", ["number"]), ("BadFile", ["word"]), ("BadNumber", ["number"]), ("BadStatement", ["number"]), ("BadValue", ["name"]), ("BadDelay", ["delay"]), ("BadPlaces", ["places"]), ("BadWay", ["number"]), ("BadRule", ["number"])] : List (St × List St)) ++ ([("BadNames", ["names"]), ("BadTable", ["number"]), ("BadDelays", ["delays"]), ("BadFirst", ["first"]), ("BadStream", ["number"]), ("BadChain", ["number"]), ("BadMost", ["most"]), ("BadBands", ["bands"]), ("BadSlow", ["slow"]), ("BadCycle", ["cycle"]), ("BadEar", ["ear"]), ("BadRelay", ["relay"])] : List (St × List St)) ++ ([("BadWithin", ["within"]), ("BadLooks", ["number"]), ("BadSeen", ["word"]), ("BadSight", ["number"]), ("BadSample", ["number"]), ("BadName", ["name"]), ("TooMany", ["word"]), ("TooLong", ["number"]), ("Twice", ["name"]), ("Unknown", ["name"]), ("Unlike", ["word"]), ("Empty", [])] : List (St × List St)) ++ ([("NoStanding", ["standing"]), ("NoBetween", ["between"]), ("NoLength", ["length"]), ("NoNode", ["node"]), ("NoSeat", ["ahead", "behind"]), ("NotSteady", ["name"]), ("HasAnswer", ["number"]), ("HasVariable", ["name"]), ("Nested", ["name"]), ("Torn", ["line"])] : List (St × List St))
def glos : List St := (["BadWords", "BadStanding", "BadKind", "BadSpace", "BadSeat", "BadColumn", "BadCalling", "BadBeats", "BadWish", "BadPlan", "BadSign", "BadText"] : List St) ++ (["BadLine", "BadLeast", "BadWait", "BadGoal", "BadFile", "BadNumber", "BadStatement", "BadValue", "BadDelay", "BadPlaces", "BadWay", "BadRule"] : List St) ++ (["BadNames", "BadTable", "BadDelays", "BadFirst", "BadStream", "BadChain", "BadMost", "BadBands", "BadSlow", "BadCycle", "BadEar", "BadRelay"] : List St) ++ (["BadWithin", "BadLooks", "BadSeen", "BadSight", "BadSample", "BadName", "TooMany", "TooLong", "Twice", "Unknown", "Unlike", "Empty"] : List St) ++ (["NoStanding", "NoBetween", "NoLength", "NoNode", "NoSeat", "NotSteady", "HasAnswer", "HasVariable", "Nested", "Torn", "law", "_law_draw"] : List St) ++ (["_law_mix", "_law_pick", "_law_string", "_law_thing", "_law_flags", "_law_right", "_law_first_things", "_law_other_things", "_law_first_numbers", "_law_other_numbers", "_law_strings", "TailError"] : List St)
def frees : List St := (["len", "int", "sum", "abs", "range", "str", "tuple", "list", "isinstance", "all", "any", "repr"] : List St) ++ (["bool", "sorted", "enumerate", "zip", "min", "max", "ValueError"] : List St)
def d0 : He.DefD := ⟨("BadWords", some "__init__"), "__init__", "BadWords.__init__", defArgs i0, defBody i0, defScope i0, [], []⟩
def d1 : He.DefD := ⟨("BadStanding", some "__init__"), "__init__", "BadStanding.__init__", defArgs i1, defBody i1, defScope i1, [], []⟩
def d2 : He.DefD := ⟨("BadKind", some "__init__"), "__init__", "BadKind.__init__", defArgs i2, defBody i2, defScope i2, [], []⟩
def d3 : He.DefD := ⟨("BadSpace", some "__init__"), "__init__", "BadSpace.__init__", defArgs i3, defBody i3, defScope i3, [], []⟩
def d4 : He.DefD := ⟨("BadSeat", some "__init__"), "__init__", "BadSeat.__init__", defArgs i4, defBody i4, defScope i4, [], []⟩
def d5 : He.DefD := ⟨("BadColumn", some "__init__"), "__init__", "BadColumn.__init__", defArgs i5, defBody i5, defScope i5, [], []⟩
def d6 : He.DefD := ⟨("BadCalling", some "__init__"), "__init__", "BadCalling.__init__", defArgs i6, defBody i6, defScope i6, [], []⟩
def d7 : He.DefD := ⟨("BadBeats", some "__init__"), "__init__", "BadBeats.__init__", defArgs i7, defBody i7, defScope i7, [], []⟩
def d8 : He.DefD := ⟨("BadWish", some "__init__"), "__init__", "BadWish.__init__", defArgs i8, defBody i8, defScope i8, [], []⟩
def d9 : He.DefD := ⟨("BadPlan", some "__init__"), "__init__", "BadPlan.__init__", defArgs i9, defBody i9, defScope i9, [], []⟩
def d10 : He.DefD := ⟨("BadSign", some "__init__"), "__init__", "BadSign.__init__", defArgs i10, defBody i10, defScope i10, [], []⟩
def d11 : He.DefD := ⟨("BadText", some "__init__"), "__init__", "BadText.__init__", defArgs i11, defBody i11, defScope i11, [], []⟩
def d12 : He.DefD := ⟨("BadLine", some "__init__"), "__init__", "BadLine.__init__", defArgs i12, defBody i12, defScope i12, [], []⟩
def d13 : He.DefD := ⟨("BadLeast", some "__init__"), "__init__", "BadLeast.__init__", defArgs i13, defBody i13, defScope i13, [], []⟩
def d14 : He.DefD := ⟨("BadWait", some "__init__"), "__init__", "BadWait.__init__", defArgs i14, defBody i14, defScope i14, [], []⟩
def d15 : He.DefD := ⟨("BadGoal", some "__init__"), "__init__", "BadGoal.__init__", defArgs i15, defBody i15, defScope i15, [], []⟩
def d16 : He.DefD := ⟨("BadFile", some "__init__"), "__init__", "BadFile.__init__", defArgs i16, defBody i16, defScope i16, [], []⟩
def d17 : He.DefD := ⟨("BadNumber", some "__init__"), "__init__", "BadNumber.__init__", defArgs i17, defBody i17, defScope i17, [], []⟩
def d18 : He.DefD := ⟨("BadStatement", some "__init__"), "__init__", "BadStatement.__init__", defArgs i18, defBody i18, defScope i18, [], []⟩
def d19 : He.DefD := ⟨("BadValue", some "__init__"), "__init__", "BadValue.__init__", defArgs i19, defBody i19, defScope i19, [], []⟩
def d20 : He.DefD := ⟨("BadDelay", some "__init__"), "__init__", "BadDelay.__init__", defArgs i20, defBody i20, defScope i20, [], []⟩
def d21 : He.DefD := ⟨("BadPlaces", some "__init__"), "__init__", "BadPlaces.__init__", defArgs i21, defBody i21, defScope i21, [], []⟩
def d22 : He.DefD := ⟨("BadWay", some "__init__"), "__init__", "BadWay.__init__", defArgs i22, defBody i22, defScope i22, [], []⟩
def d23 : He.DefD := ⟨("BadRule", some "__init__"), "__init__", "BadRule.__init__", defArgs i23, defBody i23, defScope i23, [], []⟩
def d24 : He.DefD := ⟨("BadNames", some "__init__"), "__init__", "BadNames.__init__", defArgs i24, defBody i24, defScope i24, [], []⟩
def d25 : He.DefD := ⟨("BadTable", some "__init__"), "__init__", "BadTable.__init__", defArgs i25, defBody i25, defScope i25, [], []⟩
def d26 : He.DefD := ⟨("BadDelays", some "__init__"), "__init__", "BadDelays.__init__", defArgs i26, defBody i26, defScope i26, [], []⟩
def d27 : He.DefD := ⟨("BadFirst", some "__init__"), "__init__", "BadFirst.__init__", defArgs i27, defBody i27, defScope i27, [], []⟩
def d28 : He.DefD := ⟨("BadStream", some "__init__"), "__init__", "BadStream.__init__", defArgs i28, defBody i28, defScope i28, [], []⟩
def d29 : He.DefD := ⟨("BadChain", some "__init__"), "__init__", "BadChain.__init__", defArgs i29, defBody i29, defScope i29, [], []⟩
def d30 : He.DefD := ⟨("BadMost", some "__init__"), "__init__", "BadMost.__init__", defArgs i30, defBody i30, defScope i30, [], []⟩
def d31 : He.DefD := ⟨("BadBands", some "__init__"), "__init__", "BadBands.__init__", defArgs i31, defBody i31, defScope i31, [], []⟩
def d32 : He.DefD := ⟨("BadSlow", some "__init__"), "__init__", "BadSlow.__init__", defArgs i32, defBody i32, defScope i32, [], []⟩
def d33 : He.DefD := ⟨("BadCycle", some "__init__"), "__init__", "BadCycle.__init__", defArgs i33, defBody i33, defScope i33, [], []⟩
def d34 : He.DefD := ⟨("BadEar", some "__init__"), "__init__", "BadEar.__init__", defArgs i34, defBody i34, defScope i34, [], []⟩
def d35 : He.DefD := ⟨("BadRelay", some "__init__"), "__init__", "BadRelay.__init__", defArgs i35, defBody i35, defScope i35, [], []⟩
def d36 : He.DefD := ⟨("BadWithin", some "__init__"), "__init__", "BadWithin.__init__", defArgs i36, defBody i36, defScope i36, [], []⟩
def d37 : He.DefD := ⟨("BadLooks", some "__init__"), "__init__", "BadLooks.__init__", defArgs i37, defBody i37, defScope i37, [], []⟩
def d38 : He.DefD := ⟨("BadSeen", some "__init__"), "__init__", "BadSeen.__init__", defArgs i38, defBody i38, defScope i38, [], []⟩
def d39 : He.DefD := ⟨("BadSight", some "__init__"), "__init__", "BadSight.__init__", defArgs i39, defBody i39, defScope i39, [], []⟩
def d40 : He.DefD := ⟨("BadSample", some "__init__"), "__init__", "BadSample.__init__", defArgs i40, defBody i40, defScope i40, [], []⟩
def d41 : He.DefD := ⟨("BadName", some "__init__"), "__init__", "BadName.__init__", defArgs i41, defBody i41, defScope i41, [], []⟩
def d42 : He.DefD := ⟨("TooMany", some "__init__"), "__init__", "TooMany.__init__", defArgs i42, defBody i42, defScope i42, [], []⟩
def d43 : He.DefD := ⟨("TooLong", some "__init__"), "__init__", "TooLong.__init__", defArgs i43, defBody i43, defScope i43, [], []⟩
def d44 : He.DefD := ⟨("Twice", some "__init__"), "__init__", "Twice.__init__", defArgs i44, defBody i44, defScope i44, [], []⟩
def d45 : He.DefD := ⟨("Unknown", some "__init__"), "__init__", "Unknown.__init__", defArgs i45, defBody i45, defScope i45, [], []⟩
def d46 : He.DefD := ⟨("Unlike", some "__init__"), "__init__", "Unlike.__init__", defArgs i46, defBody i46, defScope i46, [], []⟩
def d48 : He.DefD := ⟨("NoStanding", some "__init__"), "__init__", "NoStanding.__init__", defArgs i48, defBody i48, defScope i48, [], []⟩
def d49 : He.DefD := ⟨("NoBetween", some "__init__"), "__init__", "NoBetween.__init__", defArgs i49, defBody i49, defScope i49, [], []⟩
def d50 : He.DefD := ⟨("NoLength", some "__init__"), "__init__", "NoLength.__init__", defArgs i50, defBody i50, defScope i50, [], []⟩
def d51 : He.DefD := ⟨("NoNode", some "__init__"), "__init__", "NoNode.__init__", defArgs i51, defBody i51, defScope i51, [], []⟩
def d52 : He.DefD := ⟨("NoSeat", some "__init__"), "__init__", "NoSeat.__init__", defArgs i52, defBody i52, defScope i52, [], []⟩
def d53 : He.DefD := ⟨("NotSteady", some "__init__"), "__init__", "NotSteady.__init__", defArgs i53, defBody i53, defScope i53, [], []⟩
def d54 : He.DefD := ⟨("HasAnswer", some "__init__"), "__init__", "HasAnswer.__init__", defArgs i54, defBody i54, defScope i54, [], []⟩
def d55 : He.DefD := ⟨("HasVariable", some "__init__"), "__init__", "HasVariable.__init__", defArgs i55, defBody i55, defScope i55, [], []⟩
def d56 : He.DefD := ⟨("Nested", some "__init__"), "__init__", "Nested.__init__", defArgs i56, defBody i56, defScope i56, [], []⟩
def d57 : He.DefD := ⟨("Torn", some "__init__"), "__init__", "Torn.__init__", defArgs i57, defBody i57, defScope i57, [], []⟩
def e_law : He.DefD := ⟨("law", none), "law", "law", defArgs s_law, defBody s_law, defScope s_law, [], []⟩
def e__law_draw : He.DefD := ⟨("_law_draw", none), "_law_draw", "_law_draw", defArgs s__law_draw, defBody s__law_draw, defScope s__law_draw, [], []⟩
def e__law_mix : He.DefD := ⟨("_law_mix", none), "_law_mix", "_law_mix", defArgs s__law_mix, defBody s__law_mix, defScope s__law_mix, [], []⟩
def e__law_pick : He.DefD := ⟨("_law_pick", none), "_law_pick", "_law_pick", defArgs s__law_pick, defBody s__law_pick, defScope s__law_pick, [], []⟩
def e__law_string : He.DefD := ⟨("_law_string", none), "_law_string", "_law_string", defArgs s__law_string, defBody s__law_string, defScope s__law_string, [], []⟩
def e__law_thing : He.DefD := ⟨("_law_thing", none), "_law_thing", "_law_thing", defArgs s__law_thing, defBody s__law_thing, defScope s__law_thing, [], []⟩
def e__law_flags : He.DefD := ⟨("_law_flags", none), "_law_flags", "_law_flags", defArgs s__law_flags, defBody s__law_flags, defScope s__law_flags, [], []⟩
def e__law_right : He.DefD := ⟨("_law_right", none), "_law_right", "_law_right", defArgs s__law_right, defBody s__law_right, defScope s__law_right, [], []⟩
def e__law_first_things : He.DefD := ⟨("_law_first_things", none), "_law_first_things", "_law_first_things", defArgs s__law_first_things, defBody s__law_first_things, defScope s__law_first_things, [], []⟩
def e__law_other_things : He.DefD := ⟨("_law_other_things", none), "_law_other_things", "_law_other_things", defArgs s__law_other_things, defBody s__law_other_things, defScope s__law_other_things, [], []⟩
def e__law_first_numbers : He.DefD := ⟨("_law_first_numbers", none), "_law_first_numbers", "_law_first_numbers", defArgs s__law_first_numbers, defBody s__law_first_numbers, defScope s__law_first_numbers, [], []⟩
def e__law_other_numbers : He.DefD := ⟨("_law_other_numbers", none), "_law_other_numbers", "_law_other_numbers", defArgs s__law_other_numbers, defBody s__law_other_numbers, defScope s__law_other_numbers, [], []⟩
def e__law_strings : He.DefD := ⟨("_law_strings", none), "_law_strings", "_law_strings", defArgs s__law_strings, defBody s__law_strings, defScope s__law_strings, [], []⟩
def fn : List He.DefD := ([d0, d1, d2, d3, d4, d5, d6, d7, d8, d9, d10, d11] : List He.DefD) ++ ([d12, d13, d14, d15, d16, d17, d18, d19, d20, d21, d22, d23] : List He.DefD) ++ ([d24, d25, d26, d27, d28, d29, d30, d31, d32, d33, d34, d35] : List He.DefD) ++ ([d36, d37, d38, d39, d40, d41, d42, d43, d44, d45, d46, d48] : List He.DefD) ++ ([d49, d50, d51, d52, d53, d54, d55, d56, d57, e_law, e__law_draw, e__law_mix] : List He.DefD) ++ ([e__law_pick, e__law_string, e__law_thing, e__law_flags, e__law_right, e__law_first_things, e__law_other_things, e__law_first_numbers, e__law_other_numbers, e__law_strings] : List He.DefD)
abbrev tE (K : PySem.W.Frag) : Addr := He.ga K "TailError"
def iniB (K : PySem.W.Frag) (x : St) : Bool := He.eqO (PySem.W.findIn K (.ref (He.ga K x)) "__init__") (some (some (.ref (He.ma K (He.ga K x) "__init__")))) && decide (PySem.W.typeIn K (.ref (He.ma K (He.ga K x) "__init__")) = some (.type "function"))
def chk1 (K : PySem.W.Frag) : Bool := (glos.all fun x => (He.Fa.glo x).ok K) && ((frees.all fun x => (He.Fa.free x).ok K) && (tclB K nT (tE K) && incB (tE K :: cls.map fun p => He.ga K p.1)))
def chk2 (K : PySem.W.Frag) : Bool := (cls.all fun p => eclB K (tE K) (four ++ p.2) (He.ga K p.1)) && ((cls.all fun p => p.2.isEmpty || iniB K p.1) && PySem.W.excIn K (He.ga K "Empty") He.veBase "ValueError.__new__")
def chk3 (K : PySem.W.Frag) : Bool := fn.all fun d => d.ok K
def chk4 (K : PySem.W.Frag) : List He.FnW := fn.map fun d => He.fnW K d.at_
/-- the objects that the facts look at -/
def fnAt (g : Addr → Option Obj) (v : Value) : List Addr := match v with
  | .ref f => (match g f with
    | some ⟨_, _, .func fd, _⟩ => f :: He.refV fd.code
    | _ => [])
  | _ => []
def clsAt (g : Addr → Option Obj) (v : Value) : List Addr := match v with
  | .ref a => (match g a with
    | some ⟨_, _, .cls cd, _⟩ => a :: cd.ns :: (match g cd.ns with
      | some ⟨_, _, .dict es _, _⟩ => es.toList.flatMap fun e => fnAt g e.val
      | _ => [])
    | some ⟨_, _, .func fd, _⟩ => a :: He.refV fd.code
    | _ => [])
  | _ => []
def AS (g : Addr → Option Obj) : List Addr := mainGlobals :: (match g mainGlobals with
  | some ⟨_, _, .dict es _, _⟩ => es.toList.flatMap fun e => clsAt g e.val
  | _ => [])
def FR (g : Addr → Option Obj) : PySem.W.Frag := He.frG g (AS g)
abbrev Al : Type := (Bool × Bool) × (Bool × List He.FnW)
def obs (g : Addr → Option Obj) : Al := ((chk1 (FR g), chk2 (FR g)), (chk3 (FR g), chk4 (FR g)))
def okV : Al := ((true, true), (true, fn.map He.DefD.val))
structure Says (K : PySem.W.Frag) : Prop where
  c1 : chk1 K = true
  c2 : chk2 K = true
  c3 : chk3 K = true
  c4 : chk4 K = fn.map He.DefD.val
def hk : PySem.W.Hook where
  α := Al
  obs := fun s => obs s.heap.get?
  val := fun _ => okV
  says := fun _ h => ∃ K : PySem.W.Frag, K.In h ∧ Says K
  of := fun _ s e => ⟨FR s.heap.get?, He.frG_in, congrArg (fun z : Al => z.1.1) e, congrArg (fun z : Al => z.1.2) e, congrArg (fun z : Al => z.2.1) e, congrArg (fun z : Al => z.2.2) e⟩
  keeps := fun _ _ _ ⟨K, hK, c⟩ k => ⟨K, PySem.W.Frag.In.keeps hK k, c⟩
def ob (s : PySem.W.SharedT) : Al := obs (HandSHeadRun.getT s)
theorem ob_eq (s : PySem.W.SharedT) : ob s = hk.obs s.abs := by
  have e : HandSHeadRun.getT s = s.abs.heap.get? := funext (HandSHeadRun.getT_eq s)
  show obs (HandSHeadRun.getT s) = obs s.abs.heap.get?
  rw [e]
set_option maxHeartbeats 0
noncomputable abbrev R : PySem.W.OpenRow := PySem.W.OpenLaw.row PySem.Challenge.rw_tailheard_k06_errors_made
def loose : List PySem.Str := (["TailError", "BadWords", "BadStanding", "BadKind", "BadSpace", "BadSeat", "BadColumn", "BadCalling", "BadBeats", "BadWish", "BadPlan", "BadSign", "BadText", "BadLine", "BadLeast", "BadWait", "BadGoal", "BadFile", "BadNumber", "BadStatement"] : List PySem.Str) ++ (["BadValue", "BadDelay", "BadPlaces", "BadWay", "BadRule", "BadNames", "BadTable", "BadDelays", "BadFirst", "BadStream", "BadChain", "BadMost", "BadBands", "BadSlow", "BadCycle", "BadEar", "BadRelay", "BadWithin", "BadLooks", "BadSeen"] : List PySem.Str) ++ (["BadSight", "BadSample", "BadName", "TooMany", "TooLong", "Twice", "Unknown", "Unlike", "Empty", "NoStanding", "NoBetween", "NoLength", "NoNode", "NoSeat", "NotSteady", "HasAnswer", "HasVariable", "Nested", "Torn", "_law_draw"] : List PySem.Str) ++ (["_law_mix", "_law_pick", "_law_string", "_law_thing", "_law_flags", "_law_right", "_law_first_things", "_law_other_things", "_law_first_numbers", "_law_other_numbers", "_law_strings"] : List PySem.Str)
theorem run1 (w : World) (os : OsState) : (HandSHeadRun.endF (HandSHeadRun.stepQ (HandSHeadRun.denQ HandSHeadRun.tabQ) R.prog w) 20000 R.prog w os).map (fun s => HandSHeadRun.looksF R.prog (PySem.W.boot_heap w.params) s.abs) = some true := by
  kernel_rfl
theorem run2 (w : World) (os : OsState) : (HandSHeadRun.endF (HandSHeadRun.stepQ (HandSHeadRun.denQ HandSHeadRun.tabQ) R.prog w) 20000 R.prog w os).map (fun s => HandSHeadRun.seenQ (PySem.W.view R.prog [73]) loose (importedModules R.prog.main.body) (fun s => PySem.W.xlAt (PySem.W.view R.prog [73]) [] s && PySem.W.recOk R.toRowW.records s) s.abs) = some (PySem.W.openGood (PySem.W.view R.prog [73]) loose) := by
  kernel_rfl
theorem run3 (w : World) (os : OsState) : (HandSHeadRun.endF (HandSHeadRun.stepQ (HandSHeadRun.denQ HandSHeadRun.tabQ) R.prog w) 20000 R.prog w os).map (fun s => (ob s).1) = some (true, true) := by
  kernel_rfl
theorem run4 (w : World) (os : OsState) : (HandSHeadRun.endF (HandSHeadRun.stepQ (HandSHeadRun.denQ HandSHeadRun.tabQ) R.prog w) 20000 R.prog w os).map (fun s => (ob s).2) = some (true, fn.map He.DefD.val) := by
  kernel_rfl
end K6
set_option maxHeartbeats 4000000
namespace TB
open PySem PySem.Spec PyProof.Rows L2
/-! ### a def of the text, how it is called -/
structure Df (K : PySem.W.Frag) (mg : Str → Option Value) (x : Str) (st : Stmt) (ps : List Str) where
  f : Addr
  fd : FuncData
  F : Fun K x x st f fd
  g : mg x = some (.ref f)
  b : Binds K fd ps []
/-- the built-in names that the text leaves free -/
structure Bi (mg : Str → Option Value) : Prop where
  len : mg "len" = none
  int : mg "int" = none
  sum : mg "sum" = none
  abs : mg "abs" = none
  range : mg "range" = none
  str : mg "str" = none
  tuple : mg "tuple" = none
  list : mg "list" = none
  isinstance : mg "isinstance" = none
  all : mg "all" = none
  any : mg "any" = none
  repr : mg "repr" = none
  bool : mg "bool" = none
  sorted : mg "sorted" = none
  enumerate : mg "enumerate" = none
  zip : mg "zip" = none
  min : mg "min" = none
  max : mg "max" = none
  ValueError : mg "ValueError" = none
theorem cmul_mod {a b m : Int} (h0 : 0 < m) (h1 : m < 2 ^ 64) : CMul (a % m) b := .inl ⟨by have := Int.emod_nonneg a (show m ≠ 0 by omega); omega, by have := Int.emod_lt_of_pos a h0; omega⟩
theorem at_ints {ns : List Int} {i : Int} (h0 : 0 ≤ i) (h1 : i < ns.length) : ∃ z, atI (ns.map V.int) i = some (.int z) := by
  obtain ⟨j, rfl⟩ := Int.eq_ofNat_of_zero_le h0
  have hj : j < ns.length := by omega
  exact ⟨ns[j], atI_nat (by rw [List.getElem?_map, List.getElem?_eq_getElem hj] <;> rfl)⟩
theorem sq_ne {K : PySem.W.Frag} {H : Hp} {a c : Addr} {o : HO} {xs : List V} (h : SqL K H c xs) (n : c ≠ a) : SqL K (upd H a o) c xs := by
  rcases h with (h | ⟨u, h⟩) | h
  · exact .inl (.inl (by rw [L2.upd_ne n]; exact h))
  · exact .inl (.inr ⟨u, by rw [L2.upd_ne n]; exact h⟩)
  · exact .inr h
/-! ### heaps -/
def SB (a : Addr) (H H' : Hp) : Prop := ∀ b o, b ≠ a → H b = some o → H' b = some o
theorem SB.refl (a : Addr) (H : Hp) : SB a H H := fun _ _ _ h => h
theorem SB.trans {a : Addr} {H H1 H2 : Hp} (x : SB a H H1) (y : SB a H1 H2) : SB a H H2 := fun b o h e => y b o h (x b o h e)
theorem SB.put {a : Addr} {H : Hp} {o : HO} : SB a H (upd H a o) := fun b u h e => by
  rw [upd_ne h]
  exact e
theorem upd_id {H : Hp} {a : Addr} {o : HO} (h : H a = some o) : upd H a o = H := by
  funext b
  unfold upd
  split
  · rename_i e
    rw [e, h]
  · rfl
/-! ### named readings of built-ins -/
def rInt : List V → Hp → VK → Prop := fun xs H Q => (∃ i, xs = [.int i] ∧ Q (.int i) H) ∨ ∃ k, xs = [.bl k] ∧ Q (.int (if k then 1 else 0)) H
def rLen (K : PySem.W.Frag) : List V → Hp → VK → Prop := fun xs H Q => ∃ p ys, xs = [.ref p] ∧ (SqL K H p ys ∨ SqT K H p ys) ∧ Q (.int ys.length) H
def rLenS : List V → Hp → VK → Prop := fun xs H Q => ∃ z, xs = [.str z] ∧ z.length ≤ sizeLine ∧ Q (.int z.length) H
def rAbs : List V → Hp → VK → Prop := fun xs H Q => ∃ i, xs = [.int i] ∧ Q (.int (if i < 0 then -i else i)) H
section
variable {X : Cx}
theorem c_int : CallR X (.type "int") rInt := call_int1
theorem c_len : CallR X (.builtin "len") (rLen X.K) := call_len_seq
theorem c_lenS : CallR X (.builtin "len") rLenS := call_len_str
theorem c_abs : CallR X (.builtin "abs") rAbs := call_abs
def CPowB (i j : Int) : Prop := 0 ≤ j ∧ (Builtin.Int.intBits i : Int) * j ≤ 2 ^ 27
theorem op_powB : OpR X (binaryOp .Pow) (rI CPowB fun i j => .int (i ^ j.toNat)) := opI fun _ _ _ _ _ _ _ hc q => pow_int hc.1 hc.2 q
def rGe : R2 := rI0 fun i j => .bl (decide (j ≤ i))
def rGt : R2 := rI0 fun i j => .bl (decide (j < i))
def rLt : R2 := rI0 fun i j => .bl (decide (i < j))
def rLe : R2 := rI0 fun i j => .bl (decide (i ≤ j))
theorem o_lt : OpR X (compareOp .Lt) rLt := op_lt
theorem o_le : OpR X (compareOp .LtE) rLe := op_le
theorem o_gt : OpR X (compareOp .Gt) rGt := op_gt
theorem o_ge : OpR X (compareOp .GtE) rGe := op_ge
end
/-! ### the steps of a reading -/
section
variable {K : PySem.W.Frag} {σ : L2.St} {H : Hp} {Q : VK} {D : Ends} {t u : TS} {ta tb te to ti : TE} {tt tu : TT} {v x y : V} {P : Bool → Prop} {QB : Bool → Hp → Prop} {QA : List V → Hp → Prop} {tA tR : TA} {i : Nat}
theorem z_seq (h : t { D with nx := u D } σ H) : tSeq t u D σ H := h
theorem z_asg {g : TG} (h : te σ H fun x H1 => g x σ H1 D.nx) : tAsg te g D σ H := h
theorem z_drop (h : te σ H fun _ H1 => D.nx σ H1) : tDrop te D σ H := h
theorem z_ret (h : te σ H D.rt) : tRet te D σ H := h
theorem z_retN (h : D.rt .non H) : tRetN D σ H := h
theorem z_next (h : D.nx σ H) : tNext D σ H := h
theorem z_brk (h : D.bk σ H) : tBreak D σ H := h
theorem z_cont (h : D.ct σ H) : tCont D σ H := h
theorem z_if (h : tt σ H fun b H1 => if b = true then t D σ H1 else u D σ H1) : tIfS tt t u D σ H := h
theorem z_name {QS : L2.St → Hp → Prop} (h : QS (σ.set i (some v)) H) : gName i v σ H QS := h
theorem z_sub {QS : L2.St → Hp → Prop} {ts : TSet} (h : to σ H fun o H1 => ti σ H1 fun i H2 => ts o i v H2 fun H3 => QS σ H3) : gSub to ti ts v σ H QS := h
theorem z_var (h : σ[i]? = some (some v)) (q : Q v H) : tVar i σ H Q := ⟨v, h, q⟩
theorem z_c (q : Q v H) : tC v σ H Q := q
theorem z_op {r : R2} (h : ta σ H fun x H1 => tb σ H1 fun y H2 => r x y H2 Q) : tOp r ta tb σ H Q := h
theorem z_un {r : V → Hp → VK → Prop} (h : ta σ H fun x H1 => r x H1 Q) : tUn r ta σ H Q := h
theorem z_I0 {g : Int → Int → V} {a b : Int} (q : Q (g a b) H) : rI0 g (.int a) (.int b) H Q := ⟨a, b, rfl, rfl, q⟩
theorem z_I {g : Int → Int → V} {C : Int → Int → Prop} {a b : Int} (hc : C a b) (q : Q (g a b) H) : rI C g (.int a) (.int b) H Q := ⟨a, b, rfl, rfl, hc, q⟩
theorem z_U {g : Int → V} {a : Int} (q : Q (g a) H) : rU g (.int a) H Q := ⟨a, rfl, q⟩
theorem z_lt {a b : Int} (q : Q (.bl (decide (a < b))) H) : rLt (.int a) (.int b) H Q := ⟨a, b, rfl, rfl, q⟩
theorem z_le {a b : Int} (q : Q (.bl (decide (a ≤ b))) H) : rLe (.int a) (.int b) H Q := ⟨a, b, rfl, rfl, q⟩
theorem z_gt {a b : Int} (q : Q (.bl (decide (b < a))) H) : rGt (.int a) (.int b) H Q := ⟨a, b, rfl, rfl, q⟩
theorem z_ge {a b : Int} (q : Q (.bl (decide (b ≤ a))) H) : rGe (.int a) (.int b) H Q := ⟨a, b, rfl, rfl, q⟩
theorem dec_i {a b : Int} : decide (V.int a = V.int b) = decide (a = b) := by
  by_cases h : a = b
  · rw [h]
    simp
  · rw [decide_eq_false h, decide_eq_false fun e => h (V.int.inj e)]
theorem dec_s {a b : Str} : decide (V.str a = V.str b) = decide (a = b) := by
  by_cases h : a = b
  · rw [h]
    simp
  · rw [decide_eq_false h, decide_eq_false fun e => h (V.str.inj e)]
theorem z_eqI {a b : Int} (q : Q (.bl (decide (a = b))) H) : rEq (.int a) (.int b) H Q := ⟨rfl, by rw [dec_i]; exact q⟩
theorem z_neI {a b : Int} (q : Q (.bl (!decide (a = b))) H) : rNe (.int a) (.int b) H Q := ⟨rfl, by rw [dec_i]; exact q⟩
theorem z_eqS {a b : Str} (q : Q (.bl (decide (a = b))) H) : rEq (.str a) (.str b) H Q := ⟨rfl, by rw [dec_s]; exact q⟩
theorem z_neS {a b : Str} (q : Q (.bl (!decide (a = b))) H) : rNe (.str a) (.str b) H Q := ⟨rfl, by rw [dec_s]; exact q⟩
theorem z_test (h : te σ H fun x H' => ∃ k, x = .bl k ∧ QB k H') : tTest te σ H QB := h
theorem z_tB (h : te σ H fun x H' => ∃ k, x = .bl k ∧ QB k H') : tB te σ H QB := h
theorem z_bl {b : Bool} (h : P b) : ∃ k, V.bl b = .bl k ∧ P k := ⟨b, rfl, h⟩
theorem z_and (h : tt σ H fun c H1 => if c = true then tu σ H1 QB else QB false H1) : tAnd tt tu σ H QB := h
theorem z_or (h : tt σ H fun c H1 => if c = true then QB true H1 else tu σ H1 QB) : tOr tt tu σ H QB := h
theorem z_not (h : tt σ H fun c H1 => QB (!c) H1) : tNot tt σ H QB := h
theorem z_notV (h : ta σ H fun x H1 => ∃ c, x = .bl c ∧ Q (.bl (!c)) H1) : tNotV ta σ H Q := h
theorem z_andV (h : ta σ H fun x H1 => ∃ c, x = .bl c ∧ if c = true then tb σ H1 Q else Q (.bl false) H1) : tAndV ta tb σ H Q := h
theorem z_orV (h : ta σ H fun x H1 => ∃ c, x = .bl c ∧ if c = true then Q (.bl true) H1 else tb σ H1 Q) : tOrV ta tb σ H Q := h
theorem z_ifE (h : tt σ H fun c H1 => if c = true then ta σ H1 Q else tb σ H1 Q) : tIf tt ta tb σ H Q := h
theorem z_ite {p A B : Prop} [Decidable p] (h1 : p → A) (h2 : ¬p → B) : if decide p = true then A else B := by
  by_cases h : p
  · rw [if_pos (decide_eq_true h)]
    exact h1 h
  · rw [if_neg (by rw [decide_eq_false h]; exact Bool.false_ne_true)]
    exact h2 h
theorem z_iteN {p A B : Prop} [Decidable p] (h1 : ¬p → A) (h2 : p → B) : if (!decide p) = true then A else B := by
  by_cases h : p
  · rw [decide_eq_true h]
    exact h2 h
  · rw [decide_eq_false h]
    exact h1 h
theorem z_iteB {b : Bool} {A B : Prop} (h1 : b = true → A) (h2 : b = false → B) : if b = true then A else B := by
  cases b with
  | true => exact h1 rfl
  | false => exact h2 rfl
theorem z_iteT {A B : Prop} (h1 : A) : if true = true then A else B := iteT h1
theorem z_iteF {A B : Prop} (h1 : B) : if false = true then A else B := iteF h1
theorem z_cb {r : List V → Hp → VK → Prop} (h : tA σ H fun vs H1 => r vs H1 Q) : tCB r tA σ H Q := h
theorem z_call {sp : Sp} {dvs : List V} {E : XK} (h : tA σ H fun vs H1 => sp (vs ++ dvs) H1 Q E) : tCall sp dvs E tA σ H Q := h
theorem z_nil (h : QA [] H) : tNil σ H QA := h
theorem z_cons (h : ta σ H fun x H1 => tR σ H1 fun xs H2 => QA (x :: xs) H2) : tCons ta tR σ H QA := h
theorem z_tup (h : tA σ H fun xs H1 => xs.length ≤ sizeLine ∧ ∀ p, H1 p = none → Q (.ref p) (upd H1 p (.tup xs))) : tTup tA σ H Q := h
theorem z_lst (h : tA σ H fun xs H1 => xs.length ≤ sizeLine ∧ ∀ p, H1 p = none → Q (.ref p) (upd H1 p (.lst xs))) : tLst tA σ H Q := h
theorem z_rInt {a : Int} (q : Q (.int a) H) : rInt [.int a] H Q := .inl ⟨a, rfl, q⟩
theorem z_rAbs {a : Int} (q : Q (.int (if a < 0 then -a else a)) H) : rAbs [.int a] H Q := ⟨a, rfl, q⟩
theorem z_rLen {p : Addr} {ys : List V} (h : SqL K H p ys ∨ SqT K H p ys) (q : Q (.int ys.length) H) : rLen K [.ref p] H Q := ⟨p, ys, rfl, h, q⟩
theorem z_rLenS {z : Str} (h : z.length ≤ sizeLine) (q : Q (.int z.length) H) : rLenS [.str z] H Q := ⟨z, rfl, h, q⟩
theorem z_ixL {p : Addr} {xs : List V} {j : Int} (h : SqL K H p xs) (ha : atI xs j = some v) (q : Q v H) : rIxL K (.ref p) (.int j) H Q := ⟨p, xs, j, v, rfl, rfl, h, ha, q⟩
theorem z_ixT {p : Addr} {xs : List V} {j : Int} (h : SqT K H p xs) (ha : atI xs j = some v) (q : Q v H) : rIxT K (.ref p) (.int j) H Q := ⟨p, xs, j, v, rfl, rfl, h, ha, q⟩
theorem z_ixS {z : Str} {j : Int} {c : Nat} (h : z.length ≤ sizeLine) (ha : atI z.cps.toList j = some c) (q : Q (.str ⟨#[c]⟩) H) : rIxS (.str z) (.int j) H Q := ⟨z, j, c, rfl, rfl, h, ha, q⟩
theorem z_setL {p : Addr} {xs : List V} {j : Int} {k : Nat} {QH : Hp → Prop} (h : H p = some (.lst xs)) (ha : ixN xs.length j = some k) (q : QH (upd H p (.lst (xs.set k v)))) : rSetL (.ref p) (.int j) v H QH := ⟨p, xs, j, k, rfl, rfl, h, ha, q⟩
theorem z_setU {p : Addr} {xs : List V} {j : Int} {k : Nat} {QH : Hp → Prop} (ha : ixN xs.length j = some k) (q : QH (upd H p (.lst (xs.set k v)))) : rSetL (.ref p) (.int j) v (upd H p (.lst xs)) QH := ⟨p, xs, j, k, rfl, rfl, upd_same, ha, by rw [upd_upd]; exact q⟩
theorem z_bm {T : String} {r : V → List V → Hp → VK → Prop} (h : to σ H fun x H1 => tyV K T x H1 ∧ tA σ H1 fun xs H2 => r x xs H2 Q) : tBM K T r to tA σ H Q := h
theorem z_bm0 {T : String} {r : V → List V → Hp → VK → Prop} (h : to σ H fun x H1 => tyV K T x H1 ∧ r x [] H1 Q) : tBM0 K T r to σ H Q := h
theorem z_app {l : Addr} {xs : List V} {y : V} (h : H l = some (.lst xs)) (hz : xs.length < sizeLine) (q : Q .non (upd H l (.lst (xs ++ [y])))) : rAppend (.ref l) [y] H Q := ⟨l, xs, y, rfl, rfl, h, hz, q⟩
end
end TB
set_option maxHeartbeats 4000000
namespace TB
open PySem PySem.Spec PyProof.Rows L2
open SX (S S_len S_cat)
/-! ### a def that prints (repr asks that no printing is under way) -/
structure FnG (P : Program) (w : World) (K : PySem.W.Frag) (mg : Str → Option Value) (base : Heap) (CX : CXT) (k : Nat) (f : Addr) (fd : FuncData) (ps : List Str) (sp : Sp) : Prop where
  len : ∀ vs H Q E, sp vs H Q E → vs.length = ps.length
  run : ∀ (A : Around) (o : List Env) (s : Shared) (H : Hp) (args : Args) (us : List Value) (vs : List V) (Q : VK) (E : XK),
    A.guards = some [] → Room k A → Env0 P w K mg base A o s H → BindsTo s fd args (ps.zip us) → Vals vs us → sp vs H Q E → codeAny (model P w) A (.call (.ref f) args) (CR CX o P w H s Q E) s
section
variable {P : Program} {w : World} {K : PySem.W.Frag} {mg : Str → Option Value} {base : Heap} {CX : CXT} {k : Nat} {f : Addr} {fd : FuncData} {ps N : List Str} {sp : Sp} {x qual : Str} {st : Stmt}
theorem FnG.of (F : FnOk P w K mg base CX k f fd ps sp) : FnG P w K mg base CX k f fd ps sp := ⟨F.len, fun A o s H args us vs Q E _ => F.run A o s H args us vs Q E⟩
theorem okG (F : Fun K x qual st f fd) (S : FnScope N ps (defScope st)) (len : ∀ vs H Q E, sp vs H Q E → vs.length = ps.length)
    (hbody : ∀ (cdv : Value) (A : Around) (outer : List Env) (s : Shared) (H : Hp) (vs : List V) (Q : VK) (E : XK), A.guards = some [] → Room k (A.deeper (envOfC qual (defScope st) s.heap.objs.size f cdv)) → sp vs H Q E →
      ∃ t, PSs (cxOf CX P w K mg base N qual (defScope st) f cdv A outer s H E).nox (defBody st) t ∧ t { nx := fun _ H' => Q .non H', rt := Q } (start N vs) H) : FnG P w K mg base CX (k + 1) f fd ps sp := by
  obtain ⟨oc, od, kV, doc, pm, an, cdv, ct, osl, rfl, lk, hcd⟩ := F.ex
  refine ⟨len, fun A o s H args us vs Q E hgd hr e0 hb r hsp => ?_⟩
  have hl := len _ _ _ _ hsp
  have KX : K.In s.heap := e0.mod.kin.keeps fun b u e => (e0.bs b u e).1
  have hk : ∀ y ∈ ps.zip us, (defScope st).names.lookup y.1 = some .local ∨ ((defScope st).names.lookup y.1 = some .cell ∧ ((cellsFrom (s.heap.objs.size + 1) (defScope st).names []).lookup y.1).isSome = true) := by
    rintro ⟨n, v⟩ hy
    exact (S.par n (List.of_mem_zip hy).1).imp id fun q => ⟨q, PySem.W.cellsFrom_some _ _ _ (.inl q)⟩
  refine codeAny_call_function hr.depth (KX _ _ lk) rfl S.co S.gen rfl (PySem.W.codeRec_of KX hcd) (hb _ _ _ _ ?_)
  refine wpAny_newFunctionEnv_cells S.kind hk fun env he s1 q1 => ?_
  subst he
  refine ⟨(e0.mod.nolimit.keeps fun b u e => (e0.bs b u e).1).keeps q1.toInCall.keep, codeAny_func ?_⟩
  obtain ⟨t, ht, hq⟩ := hbody cdv A o s H vs Q E hgd (hr.deeper _) hsp
  refine wpAny_mono (ht.nox.run [] s1 (start N vs) H _ (inv_start S hr.hd e0 hl r q1) hq) (fun fl s' hs => ?_) fun e s' hs => hs
  cases fl with
  | ret u =>
    obtain ⟨v, σ', H', J, rv, q⟩ := hs
    exact ⟨v, H', J.os, J.bare, J.base, J.hok, rv, q⟩
  | next =>
    obtain ⟨σ', H', J, q⟩ := hs
    exact ⟨.non, H', J.os, J.bare, J.base, J.hok, rfl, q⟩
  | brk => exact (let ⟨_, _, _, q⟩ := hs; q : False).elim
  | cont => exact (let ⟨_, _, _, q⟩ := hs; q : False).elim
end
section
variable {X : Cx} {CX : CXT} {k : Nat} {f : Addr} {fd : FuncData} {ps : List Str} {sp : Sp} {dvs : List V} {ds : List Value} {E : XK} {x : Str} {p pos : Pos} {e : Expr} {es : List Expr} {t : TA}
theorem pe_callG (F : FnG X.prog X.w X.K X.mg X.base CX k f fd ps sp) (hgd : X.A.guards = some []) (hr : Room k X.A) (hg : Gl X x) (hm : X.mg x = some (.ref f)) (hk : PySem.W.keepIn X.K (.ref f) = true) (hb : Binds X.K fd ps ds) (hd : Vals dvs ds) (hx : Passes CX X E)
    (ha : PA X (e :: es) t) (hdb : (x == ("__debug__" : Str)) = false := by decide) (he : starEach (e :: es) X.env = (false, eval e X.env) :: starEach es X.env := by rfl) (hpl : (backTo pos (starEach es X.env)).any (·.1) = false := by rfl) :
    PE X (.Call (.Name x p) (e :: es) [] pos) (tCall sp dvs E t) := by
  refine ⟨fun pins s σ H Q I h => wpAny_Call_Name_kw (ld_glob I hg hm ?_ hdb)⟩
  refine PySem.W.callWith_K (h₀ := X.base) I.ok.mod.kin hk (thn (ha.run pos pins s σ H _ I h) fun us s1 hh => ?_) he hpl
  obtain ⟨vs, H1, I1, r, q⟩ := hh
  refine ⟨I1.kIn, ?_⟩
  have r2 : Vals (vs ++ dvs) (us ++ ds) := r.append hd
  have hl : (us ++ ds).length = ps.length := r2.length ▸ F.len _ _ _ _ q
  refine wpAny_call (codeAny_mono (F.run X.A X.stack s1 H1 ⟨us, []⟩ (us ++ ds) (vs ++ dvs) Q E hgd hr I1.env0 (hb s1 us I1.kIn hl) r2 q) fun r s' hq => ?_)
  cases r with
  | error e => exact hx pins σ H1 s1 e s' I1 hq
  | ok fl =>
    cases fl with
    | ret u => exact I1.after hq
    | next => exact False.elim hq
    | brk => exact False.elim hq
    | cont => exact False.elim hq
end
/-! ### data -/
mutual
theorem dp_same {K : PySem.W.Frag} {H H' : Hp} (e : Same H H') : ∀ {v : V} {d : PyData}, Dp K H v d → Dp K H' v d
  | _, _, .non => .non
  | _, _, .bl b => .bl b
  | _, _, .int i => .int i
  | _, _, .str x => .str x
  | _, _, .lst h a => .lst (e.seq h) (dpAll_same e a)
  | _, _, .tup h a => .tup (Evl.ex_t e h) (dpAll_same e a)
theorem dpAll_same {K : PySem.W.Frag} {H H' : Hp} (e : Same H H') : ∀ {vs : List V} {ds : List PyData}, DpAll K H vs ds → DpAll K H' vs ds
  | _, _, .nil => .nil
  | _, _, .cons h a => .cons (dp_same e h) (dpAll_same e a)
end
theorem dpAll_snoc {K : PySem.W.Frag} {H : Hp} {v : V} {d : PyData} (h : Dp K H v d) : ∀ {vs : List V} {ds : List PyData}, DpAll K H vs ds → DpAll K H (vs ++ [v]) (ds ++ [d])
  | _, _, .nil => .cons h .nil
  | _, _, .cons g a => .cons g (dpAll_snoc h a)
mutual
theorem dp_noDict {K : PySem.W.Frag} {H : Hp} : ∀ {v : V} {d : PyData}, Dp K H v d → d.hasDict = false
  | _, _, .non => by simp only [PyData.hasDict]
  | _, _, .bl b => by simp only [PyData.hasDict]
  | _, _, .int i => by simp only [PyData.hasDict]
  | _, _, .str x => by simp only [PyData.hasDict]
  | _, _, .lst h a => by
    simp only [PyData.hasDict]
    exact dpAll_noDict a
  | _, _, .tup h a => by
    simp only [PyData.hasDict]
    exact dpAll_noDict a
theorem dpAll_noDict {K : PySem.W.Frag} {H : Hp} : ∀ {vs : List V} {ds : List PyData}, DpAll K H vs ds → PyData.hasDictAll ds = false
  | _, _, .nil => by simp only [PyData.hasDictAll]
  | _, _, .cons h a => by
    simp only [PyData.hasDictAll]
    rw [dp_noDict h, dpAll_noDict a] <;> rfl
end
/-- repr of data -/
def rRepr (K : PySem.W.Frag) : List V → Hp → VK → Prop := fun xs H Q => ∃ v d, xs = [v] ∧ Dp K H v d ∧ d.showable = true ∧ d.shown.length ≤ sizeLine ∧ d.depth ≤ 60 ∧ Q (.str d.shown) H
section
variable {X : Cx}
theorem c_repr (hgd : X.A.guards = some []) (hu : X.A.units + 64 < cLine) : CallR X (.builtin "repr") (rRepr X.K) := by
  intro pins s σ H xs us Q I r h
  obtain ⟨v, d, rfl, hd, hs, hz, hdp, q⟩ := h
  cases r with
  | cons rv rn =>
    rename_i u us'
    cases rn
    obtain ⟨as, hr⟩ := Dp.reads I d v u hd rv
    cases hd with
    | non =>
      cases rv
      refine P.repr_of_none ?_
      simp only [PyData.shown] at q
      exact ⟨.str _, H, I.tok _, ⟨_, rfl⟩, q⟩
    | bl b =>
      cases rv
      refine P.repr_of_bool ?_
      simp only [PyData.shown] at q
      exact ⟨.str _, H, I.tok _, ⟨_, rfl⟩, q⟩
    | int i =>
      obtain ⟨t, rfl⟩ := rv
      simp only [PyData.showable, decide_eq_true_eq] at hs
      refine P.repr_of_int hs ?_
      simp only [PyData.shown] at q
      exact ⟨.str _, H, I.tok _, ⟨_, rfl⟩, q⟩
    | str x =>
      obtain ⟨t, rfl⟩ := rv
      simp only [PyData.shown] at hz q
      exact P.repr_of_str ⟨.str _, H, I.tok _, ⟨_, rfl⟩, q⟩ hz
    | lst h1 h2 =>
      cases rv
      have hnd := dp_noDict (K := X.K) (H := H) (.lst h1 h2)
      exact repr_of_reads' hr hs (PyData.noDict_hsm hnd) hgd (by omega) (fun _ _ e => e) (fun h' u tk hk => ⟨.str _, H, I.kept (t' := tk) hk, ⟨_, rfl⟩, q⟩) hz
    | tup h1 h2 =>
      cases rv
      have hnd := dp_noDict (K := X.K) (H := H) (.tup h1 h2)
      exact repr_of_reads' hr hs (PyData.noDict_hsm hnd) hgd (by omega) (fun _ _ e => e) (fun h' u tk hk => ⟨.str _, H, I.kept (t' := tk) hk, ⟨_, rfl⟩, q⟩) hz
/-- one sign, so many times -/
def rRepS : R2 := fun x y H Q => ∃ (c : Nat) (n : Int), x = .str (S [c]) ∧ y = .int n ∧ -1000 ≤ n ∧ n ≤ 1000 ∧ Q (.str (S (List.replicate n.toNat c))) H
theorem fold_rep (c : Nat) : ∀ (n : Nat) (acc : Array Nat), (List.replicate n (#[c] : Array Nat)).foldl (· ++ ·) acc = acc ++ (List.replicate n c).toArray
  | 0, acc => by simp
  | n + 1, acc => by
    rw [List.replicate_succ, List.foldl_cons, fold_rep c n]
    rw [List.replicate_succ, Array.append_assoc]
    congr 1
    simp
theorem mul_S (c : Nat) (n : Int) : Txt.mul (S [c]) n = S (List.replicate n.toNat c) := by
  unfold Txt.mul
  by_cases h : n < 1
  · rw [if_pos h, show n.toNat = 0 by omega]
    rfl
  · rw [if_neg h]
    by_cases h1 : n = 1
    · subst h1
      rfl
    · rw [if_neg (by simp [h1, S, Str.length])]
      have e := fold_rep c n.toNat #[]
      show (⟨(List.replicate n.toNat (#[c] : Array Nat)).foldl (· ++ ·) #[]⟩ : Str) = _
      rw [e]
      simp [S]
theorem op_repS : OpR X (binaryOp .Mult) rRepS := by
  intro pins s σ H x y v u Q I rx ry h
  obtain ⟨c, n, rfl, rfl, h0, h1, q⟩ := h
  obtain ⟨t, rfl⟩ := rx
  obtain ⟨t', rfl⟩ := ry
  refine PySem.SB.mul ⟨by rw [decide_eq_false (by omega), decide_eq_false (by omega)] <;> rfl, fun a _ => ?_, fun a _ => ?_⟩ fun t2 k => ?_
  · show ¬ ((((S [c]).length : Nat) : Int) > (2 ^ 63 - 1) / n)
    have e : (S [c]).length = 1 := rfl
    rw [e]
    have := Int.ediv_le_ediv (c := n) (a := n) (b := 2 ^ 63 - 1) (by omega) (by omega)
    rw [Int.ediv_self (by omega)] at this
    omega
  · exact decide_eq_false (by
      show ¬ (1 * n.toNat > sizeLine)
      rw [sizeLine_eq]
      omega)
  · rw [mul_S]
    exact ⟨.str _, H, I.tok _, ⟨_, rfl⟩, q⟩
end
end TB
set_option maxHeartbeats 4000000
namespace TB
open PySem PySem.Spec PyProof.Rows L2
open SX (S S_len S_cat)
/-! ### comprehensions -/
section
variable {K : PySem.W.Frag} {σ : L2.St} {H H1 : Hp} {Q : VK} {te tl : TE} {ta : TA} {j : Nat} {vs : List Nat} {D : Addr}
/-- one turn of a comprehension without tests -/
def Turn1 (te : TE) (σ : L2.St) (vs : List Nat) (j : Nat) (D : Addr) (x : V) (H' : Hp) (N : Hp → Prop) : Prop :=
  te ((wipe σ vs).set j (some x)) H' fun y H4 => ∃ acc, H4 D = some (.lst acc) ∧ acc.length < sizeLine ∧ N (upd H4 D (.lst (acc ++ [y])))
/-- what a comprehension over a range wants of the range's argument; over a list, of the list -/
def kRng (te : TE) (j : Nat) (vs : List Nat) (σ : L2.St) (Q : VK) : List V → Hp → Prop := fun xs H1 => ∃ z : Int, xs = [V.int z] ∧ -(2 ^ 62) ≤ z ∧ z < 2 ^ 62 ∧ ∀ D, H1 D = none → ∃ W : Nat → Nat → Hp → Prop, (∃ m, W 0 m (upd H1 D (.lst []))) ∧
  ∀ i m H, W i m H → ((Itr 0 z.toNat).stop i H ∧ Q (.ref D) H) ∨ ((Itr 0 z.toNat).go i H ∧ ∃ Nx : Hp → Prop, (∀ H', Nx H' → ∃ m', m' < m ∧ W (i + 1) m' H') ∧ ∀ x H', (Itr 0 z.toNat).yld i H x H' → gName j x (wipe σ vs) H' fun σ2 H2 => wipe σ2 vs = wipe σ vs ∧
    tYes σ2 H2 fun b H3 => if b = true then te σ2 H3 fun y H4 => ∃ acc, H4 D = some (.lst acc) ∧ acc.length < sizeLine ∧ Nx (upd H4 D (.lst (acc ++ [y]))) else Nx H3)
def kLst (K : PySem.W.Frag) (te : TE) (j : Nat) (vs : List Nat) (σ : L2.St) (Q : VK) : V → Hp → Prop := fun x H1 => ∃ a, x = V.ref a ∧ (∃ xs, SqL K H1 a xs) ∧ ∀ D, H1 D = none → ∃ W : Nat → Nat → Hp → Prop, (∃ m, W 0 m (upd H1 D (.lst []))) ∧
  ∀ i m H, W i m H → ((Itl K a).stop i H ∧ Q (.ref D) H) ∨ ((Itl K a).go i H ∧ ∃ Nx : Hp → Prop, (∀ H', Nx H' → ∃ m', m' < m ∧ W (i + 1) m' H') ∧ ∀ x H', (Itl K a).yld i H x H' → gName j x (wipe σ vs) H' fun σ2 H2 => wipe σ2 vs = wipe σ vs ∧
    tYes σ2 H2 fun b H3 => if b = true then te σ2 H3 fun y H4 => ∃ acc, H4 D = some (.lst acc) ∧ acc.length < sizeLine ∧ Nx (upd H4 D (.lst (acc ++ [y]))) else Nx H3)
theorem z_lcR (h : ta σ H (kRng te j vs σ Q)) : tLc (iRng1 ta) (gName j) tYes te vs σ H Q := h
theorem z_lcL (h : tl σ H (kLst K te j vs σ Q)) : tLc (iList K tl) (gName j) tYes te vs σ H Q := h
theorem z_kRng {r : Int} (h0 : -(2 ^ 62) ≤ r) (h1 : r < 2 ^ 62) (hw : ∀ x, wipe ((wipe σ vs).set j (some x)) vs = wipe σ vs)
    (h : ∀ D, H D = none → ∃ Pv : Nat → Hp → Prop, Pv 0 (upd H D (.lst [])) ∧ (∀ i H', i < r.toNat → Pv i H' → Turn1 te σ vs j D (.int (i : Int)) H' (Pv (i + 1))) ∧ ∀ H', Pv r.toNat H' → Q (.ref D) H') :
    kRng te j vs σ Q [.int r] H := by
  refine ⟨r, rfl, h0, h1, fun D hD => ?_⟩
  obtain ⟨Pv, p0, ps, pe⟩ := h D hD
  refine lc_range (lo := 0) (n := r.toNat) Pv p0 (fun i H' hi p => ?_) pe
  have e : (0 : Int) + (i : Int) = (i : Int) := Int.zero_add _
  rw [e]
  exact ⟨hw _, iteT (B := Pv (i + 1) H') (ps i H' hi p)⟩
theorem z_kLst {a : Addr} {xs : List V} (hx : SqL K H a xs) (hw : ∀ x, wipe ((wipe σ vs).set j (some x)) vs = wipe σ vs)
    (h : ∀ D, H D = none → ∃ Pv : Nat → Hp → Prop, Pv 0 (upd H D (.lst [])) ∧ (∀ i H', i ≤ xs.length → Pv i H' → SqL K H' a xs) ∧ (∀ i x H', xs[i]? = some x → Pv i H' → Turn1 te σ vs j D x H' (Pv (i + 1))) ∧ ∀ H', Pv xs.length H' → Q (.ref D) H') :
    kLst K te j vs σ Q (.ref a) H := by
  refine ⟨a, rfl, ⟨xs, hx⟩, fun D hD => ?_⟩
  obtain ⟨Pv, p0, pl, ps, pe⟩ := h D hD
  exact lc_list (xs := xs) Pv p0 pl (fun i x H' hi p => ⟨hw x, iteT (B := Pv (i + 1) H') (ps i x H' hi p)⟩) pe
end
/-! ### an exception of the program's own, as a value -/
/-- C(e, ..), kept as a value -/
def tMkV (C : Addr) (sp : Sp) (ta : TA) : TE := fun σ H Q => ta σ H fun vs H1 => vs.length ≤ 1000 ∧ ∀ a, H1 a = none → sp (.ref a :: vs) (upd H1 a (exo a C none)) (fun v H2 => v = .non ∧ Q (.ref a) H2) (fun _ _ _ => False)
/-- e.f of such a value -/
def tOfl (K : PySem.W.Frag) (f : Str) (te : TE) : TE := fun σ H Q => te σ H fun x H1 => ∃ (a C d : Addr) (fs : List (Str × V)) (v : V), x = .ref a ∧ H1 a = some (exo a C (some d)) ∧ H1 d = some (exd d fs) ∧ XfC K C ∧ PySem.W.findIn K (.ref C) f = some none ∧ fs.lookup f = some v ∧ Q v H1
/-- isinstance(e, c) of such a value -/
def rIsV (K : PySem.W.Frag) : List V → Hp → VK → Prop := fun xs H Q => ∃ (a C : Addr) (d : Option Addr) (c : V) (cv : Value) (b : Bool), xs = [.ref a, c] ∧ H a = some (exo a C d) ∧ (∀ d', d = some d' → ∃ fs, H d' = some (exd d' fs)) ∧ ExcC K C ∧ ClsV c cv ∧ PySem.W.kitOne K (.ref C) cv = some b ∧ Q (.bl b) H
section
variable {X : Cx} {o e : Expr} {es : List Expr} {te : TE} {ta : TA} {f x : Str} {p pos : Pos} {C fI : Addr} {k : Nat} {fd : FuncData} {ps : List Str} {sp : Sp} {CX : CXT}
theorem pe_oexV (T : OexC X.K C) (iC : PySem.W.findIn X.K (.ref C) "__init__" = some (some (.ref fI))) (tI : PySem.W.typeIn X.K (.ref fI) = some (.type "function"))
    (F1 : FnOk X.prog X.w X.K X.mg X.base CX k fI fd ps sp) (hr : Room (k + 1) X.A) (hb : Binds X.K fd ps []) (hx : Passes CX X (fun _ _ _ => False)) (hg : Gl X x) (hm : X.mg x = some (.ref C)) (ha : PA X (e :: es) ta)
    (hdb : (x == ("__debug__" : Str)) = false := by decide) (he : starEach (e :: es) X.env = (false, eval e X.env) :: starEach es X.env := by rfl) (hpl : (backTo pos (starEach es X.env)).any (·.1) = false := by rfl) :
    PE X (.Call (.Name x p) (e :: es) [] pos) (tMkV C sp ta) := by
  refine ⟨fun pins s σ H Q I h => ?_⟩
  obtain ⟨nm, q, N, bs, bm, sn, sub, ab, col, dd, k0, k1, k2, k3, k5, hC, hbm⟩ := T.cls
  refine wpAny_Call_Name_kw (ld_glob I hg hm ?_ hdb)
  refine PySem.W.callWith_K (h₀ := X.base) I.ok.mod.kin T.kC (thn (ha.run pos pins s σ H _ I h) fun us s1 hh => ?_) he hpl
  obtain ⟨vs, H1, I1, r1, hz, q1⟩ := hh
  refine ⟨I1.kIn, ?_⟩
  obtain ⟨hp, g, dr, tk, os⟩ := s1
  have hn : H1 (hp.objs.size + 1) = none := I1.hok.fresh (Nat.le_succ _)
  have hq := q1 (hp.objs.size + 1) hn
  have kk : ∀ b u, hp.get? b = some u → ((hp.push (PySem.W.kdv_tup us)).push (PySem.HandSPX.excO C hp.objs.size)).get? b = some u := fun b u z => Heap.get?_push_of_some _ (Heap.get?_push_of_some _ z)
  have hget : ((hp.push (PySem.W.kdv_tup us)).push (PySem.HandSPX.excO C hp.objs.size)).get? (hp.objs.size + 1) = some (PySem.HandSPX.excO C hp.objs.size) := by heap_get
  have I2 : Inv X pins σ (upd H1 (hp.objs.size + 1) (exo (hp.objs.size + 1) C none)) ⟨(hp.push (PySem.W.kdv_tup us)).push (PySem.HandSPX.excO C hp.objs.size), g, dr, tk, os⟩ :=
    I1.laid (t' := tk) (h' := (hp.push (PySem.W.kdv_tup us)).push (PySem.HandSPX.excO C hp.objs.size)) kk (Nat.le_succ _) (exo_ok hget)
  have r2 : Vals (V.ref (hp.objs.size + 1) :: vs) (Value.ref (hp.objs.size + 1) :: us) := .cons rfl r1
  have hl : (Value.ref (hp.objs.size + 1) :: us).length = ps.length := r2.length ▸ F1.len _ _ _ _ hq
  have hus : us.length ≤ sizeLine := by
    rw [← Paired.length r1, sizeLine_eq]
    omega
  have hbb := hb (s := ⟨(hp.push (PySem.W.kdv_tup us)).push (PySem.HandSPX.excO C hp.objs.size), g, dr, tk, os⟩) (Value.ref (hp.objs.size + 1) :: us) I2.kIn (by rw [List.append_nil]; exact hl)
  rw [List.append_nil] at hbb
  refine wpAny_call (PySem.HandSPX.call_own F.excBase_ValueError (fun Y => PySem.HandSPX.refsVE_contains Y bm hbm) (I1.kIn _ _ hC) (PySem.W.looks_findIn I1.kIn iC) (fun self => PySem.W.bind_fn I1.kIn self tI) hus
    (codeAny_mono (F1.run _ X.stack _ _ ⟨Value.ref (hp.objs.size + 1) :: us, []⟩ _ _ _ (fun _ _ _ => False) (hr.make C us []) (I2.env0.make C us []) hbb r2 hq) fun r s' hq' => ?_))
  cases r with
  | error er => exact hx pins σ _ _ er s' I2 hq'
  | ok fl =>
    cases fl with
    | ret u =>
      obtain ⟨v, H2, os2, bare2, un2, hok2, rv, ev, q2⟩ := hq'
      subst ev
      exact ⟨rv, .ref (hp.objs.size + 1), H2, I2.call' (ch := []) os2 un2 hok2 bare2 (fun b z => absurd z (by simp)), rfl, q2⟩
    | next => exact False.elim hq'
    | brk => exact False.elim hq'
    | cont => exact False.elim hq'
theorem pe_ofl (he : PE X e te) (hb : attributeBase e f X.env (eval e X.env) = eval e X.env := by rfl) : PE X (.Attribute e f pos) (tOfl X.K f te) := by
  refine ⟨fun pins s σ H Q I h => attr_of hb (thn (he.run pins s σ H _ I h) fun u s1 hh => ?_)⟩
  obtain ⟨x, H1, I1, rx, a, C, d, fs, v, rfl, ea, ed, T, hno, l, q⟩ := hh
  obtain rfl : u = Value.ref a := rx
  obtain ⟨t1, ho⟩ := exo_at I1.hok ea
  obtain ⟨mA, hns, hr⟩ := exd_at I1.hok ed
  obtain ⟨od, hod, hl⟩ := lookIn_ns hns
  obtain ⟨u, hu, ru⟩ := RelO.some_of (v := v) (o := mA f) (by rw [← l]; exact hr f)
  have J : PySem.W.InstAt s1.heap a _ C (some od) := ⟨ho, rfl, rfl, hod⟩
  exact HandSPX.exc_get I1.kIn J T.ga T.gg T.exC (PySem.W.findObj_own T.hdC hno rfl (by rw [hl, hu])) (handed_of ru) ⟨v, H1, I1.tok _, ru, q⟩
theorem c_isV : CallR X (.builtin "isinstance") (rIsV X.K) := by
  intro pins s σ H xs us Q I r h
  obtain ⟨a, C, d, c, cv, b, rfl, ea, hd, T, hc, hk, q⟩ := h
  obtain ⟨u1, u2, rfl, r1, r2⟩ := vals2 r
  have e2 := hc.eq r2
  subst e2
  obtain rfl : u1 = Value.ref a := r1
  obtain ⟨t1, ho⟩ := exo_at I.hok ea
  have hcl : (PySem.W.clsIn X.K C).isSome = true := by
    obtain ⟨cd, hc', _⟩ := PySem.W.any_some T.hd
    rw [hc'] <;> rfl
  have fin : ∀ od, PySem.W.InstAt s.heap a { cls := .ref C, dict := d, data := .fields #[.ref t1, .none, .none, .none, .bool false, .none] } C od → wpAny (model X.prog X.w) X.A (call (.builtin "isinstance") [.ref a, u2]) (EP X pins σ Q) X.xe s := fun od J =>
    PySem.W.kia_one (PySem.W.kitx_exc hcl T.hg T.hk T.hs T.ha T.hn T.ht T.hm) I.kIn J hk (fun z => nomatch z) fun tk => ⟨.bl b, H, I.tok tk, rfl, q⟩
  cases d with
  | none => exact fin none ⟨ho, rfl, rfl, trivial⟩
  | some d' =>
    obtain ⟨fs, ed⟩ := hd d' rfl
    obtain ⟨mA, hns, _⟩ := exd_at I.hok ed
    obtain ⟨od, hod, _⟩ := lookIn_ns hns
    exact fin (some od) ⟨ho, rfl, rfl, hod⟩
/-- C(), C without an __init__ of its own -/
def tMk0 (C : Addr) : TE := fun _ H Q => ∀ a, H a = none → Q (.ref a) (upd H a (exo a C none))
theorem pe_oex0 {bmB : List Value} {B newId initId : String} (F : ExcBaseFacts B newId initId bmB) (q : PySem.W.excIn X.K C bmB newId = true) (kC : PySem.W.keepIn X.K (.ref C) = true) (hg : Gl X x) (gC : X.mg x = some (.ref C))
    (hdb : (x == ("__debug__" : Str)) = false := by decide) : PE X (.Call (.Name x p) [] [] pos) (tMk0 C) := by
  refine ⟨fun pins s σ H Q I h => wpAny_Call_Name_kw (ld_glob I hg gC ?_ hdb)⟩
  refine PySem.W.callWith_K0 I.kIn kC ?_
  obtain ⟨bm, N, nm, qn, bs, hdct, sn, sub, ab, col, dd, k0, k1, k2, k3, k5, mN, hC, hN, hni, T⟩ := exc_obj I.kIn q
  obtain ⟨hp, g, dr, tk, os⟩ := s
  refine wpAny_call_exc_subT F T hC hN hni (fun h' a hm => ?_) (Nat.zero_le _)
  have hn : H a = none := I.hok.gone hm.new
  obtain ⟨t, ht, _, _⟩ := hm.there
  exact ⟨.ref a, upd H a (exo a C none), I.laidN hm.keeps hm.new hn (exo_ok ht), rfl, h a hn⟩
end
end TB
set_option maxHeartbeats 4000000
namespace TB
open PySem PySem.Spec PyProof.Rows L2
open SX (S S_len S_cat)
/-! ### the drawer: a list at a that the draws change; G: what is told and stays, without a -/
def dw (c : Addr) (x1 x2 x3 x4 x5 : Int) : HO := .lst [.ref c, .int x1, .int x2, .int x3, .int x4, .int x5]
structure Dr (K : PySem.W.Frag) (G H : Hp) (a : Addr) : Prop where
  same : Same G H
  out : G a = none
  at_ : ∃ (c : Addr) (ns : List Int) (x1 x2 x3 x4 x5 : Int), H a = some (dw c x1 x2 x3 x4 x5) ∧ SqL K G c (ns.map V.int) ∧ ns.length ≤ 63 ∧ 0 ≤ x1 ∧ x1 ≤ ns.length
/-- from (G, H) to (G', H'): what is told stays, only a changes of what was tracked, what is told anew is new -/
structure Gr (a : Addr) (G H G' H' : Hp) : Prop where
  gs : Same G G'
  sb : SB a H H'
  new : ∀ b, G' b ≠ none → G b ≠ none ∨ H b = none
theorem Gr.refl (a : Addr) (G H : Hp) : Gr a G H G H := ⟨.refl _, .refl _ _, fun _ h => .inl h⟩
theorem SB.some {a b : Addr} {H H' : Hp} (x : SB a H H') (ha : H' a ≠ none) (h : H b ≠ none) : H' b ≠ none := by
  by_cases e : b = a
  · rw [e]
    exact ha
  · cases q : H b with
    | none => exact absurd q h
    | some o =>
      rw [x b o e q]
      intro z
      cases z
theorem Gr.trans {a : Addr} {G H G1 H1 G2 H2 : Hp} (x : Gr a G H G1 H1) (y : Gr a G1 H1 G2 H2) (ha : H1 a ≠ none) : Gr a G H G2 H2 :=
  ⟨x.gs.trans y.gs, x.sb.trans y.sb, fun b h => (y.new b h).elim (x.new b) fun e => by
    cases q : H b with
    | none => exact .inr rfl
    | some o => exact absurd e (x.sb.some ha (by rw [q]; intro z; cases z))⟩
theorem SB.newO {a D : Addr} {H H' : Hp} {o : HO} (x : SB a H H') (h : H D = none) : SB a H (upd H' D o) := fun b u n e => by
  rw [upd_ne (ne_of_none e h)]
  exact x b u n e
theorem SB.own {a : Addr} {H H' : Hp} {o : HO} (x : SB a H H') : SB a H (upd H' a o) := fun b u n e => by
  rw [upd_ne n]
  exact x b u n e
/-- what is untracked behind was so before -/
theorem SB.free' {a b : Addr} {H H' : Hp} (x : SB a H H') (n : b ≠ a) (h : H' b = none) : H b = none := by
  cases q : H b with
  | none => rfl
  | some o =>
    rw [x b o n q] at h
    cases h
theorem Dr.ne {K : PySem.W.Frag} {G H : Hp} {a : Addr} (d : Dr K G H a) : H a ≠ none := by
  obtain ⟨c, ns, x1, x2, x3, x4, x5, h, _⟩ := d.at_
  rw [h]
  intro z
  cases z
theorem same_upd {G H : Hp} {l : Addr} {o : HO} (s : Same G H) (h : G l = none) : Same G (upd H l o) := fun b u e => by
  rw [upd_ne (ne_of_none e h)]
  exact s b u e
theorem none_of {G H : Hp} {l : Addr} (s : Same G H) (h : H l = none) : G l = none := s.free h
/-- another object changes (or is new) -/
theorem Dr.other {K : PySem.W.Frag} {G H : Hp} {a l : Addr} {o : HO} (d : Dr K G H a) (hl : G l = none) (n : l ≠ a) : Dr K G (upd H l o) a := by
  obtain ⟨s, u, c, ns, x1, x2, x3, x4, x5, h, r⟩ := d
  exact ⟨same_upd s hl, u, c, ns, x1, x2, x3, x4, x5, by rw [upd_ne (Ne.symm n)]; exact h, r⟩
/-- more is told -/
theorem Dr.told {K : PySem.W.Frag} {G G' H : Hp} {a : Addr} (d : Dr K G H a) (s : Same G G') (s' : Same G' H) (u : G' a = none) : Dr K G' H a := by
  obtain ⟨_, _, c, ns, x1, x2, x3, x4, x5, h, q, r⟩ := d
  exact ⟨s', u, c, ns, x1, x2, x3, x4, x5, h, s.seq q, r⟩
theorem Dr.new_ne {K : PySem.W.Frag} {G H : Hp} {a l : Addr} (d : Dr K G H a) (h : H l = none) : l ≠ a := fun e => d.ne (e ▸ h)
theorem same_told {G H : Hp} {l : Addr} {o : HO} (s : Same G H) (h : H l = some o) : Same (upd G l o) H := fun b u e => by
  by_cases q : b = l
  · subst q
    rw [upd_same] at e
    cases e
    exact h
  · rw [upd_ne q] at e
    exact s b u e
theorem told_same {G : Hp} {l : Addr} {o : HO} (h : G l = none) : Same G (upd G l o) := fun b u e => by
  rw [upd_ne (ne_of_none e h)]
  exact e
theorem sq_new {K : PySem.W.Frag} {H : Hp} {p c : Addr} {o : HO} {xs : List V} (h : H p = none) (s : SqL K H c xs) : SqL K (upd H p o) c xs := (told_same h).seq s
theorem st_new {K : PySem.W.Frag} {H : Hp} {p c : Addr} {o : HO} {xs : List V} (h : H p = none) (s : SqT K H c xs) : SqT K (upd H p o) c xs := Evl.ex_t (told_same h) s
theorem dpAll_len {K : PySem.W.Frag} {H : Hp} : ∀ {vs : List V} {ds : List PyData}, DpAll K H vs ds → vs.length = ds.length
  | _, _, .nil => rfl
  | _, _, .cons _ a => congrArg (· + 1) (dpAll_len a)
/-! ### join of signs -/
theorem join_signs (l : List Nat) : Txt.join (S []) (l.map fun c => S [c]) = S l := by
  show PySem.Builtin.Str.glued (S []) _ = _
  rw [StrLaws.glued_eq_join]
  have h := PyProof.Rows.join_nil_signs (S l)
  have e : PyProof.Rows.signs (S l) = l.map fun c => S [c] := by
    unfold PyProof.Rows.signs
    show (S l).cps.toList.map _ = _
    rfl
  rw [e] at h
  exact h
/-! ### a number of digits -/
theorem digits_lt : ∀ (cs : List Nat) (acc : Nat), (∀ c ∈ cs, 48 ≤ c ∧ c ≤ 57) → cs.foldl (fun acc c => acc * 10 + (c - 48)) acc < (acc + 1) * 10 ^ cs.length
  | [], acc, _ => by simp
  | c :: r, acc, h => by
    have h1 := h c List.mem_cons_self
    have ih := digits_lt r (acc * 10 + (c - 48)) fun d hd => h d (List.mem_cons_of_mem _ hd)
    rw [List.foldl_cons, List.length_cons, Nat.pow_succ]
    have e : (acc * 10 + (c - 48) + 1) * 10 ^ r.length ≤ ((acc + 1) * 10) * 10 ^ r.length := Nat.mul_le_mul_right _ (by omega)
    have e2 : (acc + 1) * 10 * 10 ^ r.length = (acc + 1) * (10 ^ r.length * 10) := by rw [Nat.mul_assoc, Nat.mul_comm 10]
    omega
theorem sum_signs : ∀ l : List Nat, ((l.map fun c => S [c]).map fun x : Str => x.length).sum = l.length
  | [] => rfl
  | c :: r => by
    rw [List.map_cons, List.map_cons, List.sum_cons, sum_signs r, List.length_cons]
    show 1 + r.length = _
    omega
/-! ### sep.join(xs) -/
def rJoin (K : PySem.W.Frag) : V → List V → Hp → VK → Prop := fun x xs H Q => ∃ (a : Str) (p : Addr) (ys : List Str), x = .str a ∧ xs = [.ref p] ∧ (SqL K H p (ys.map V.str) ∨ SqT K H p (ys.map V.str)) ∧
  (ys.map (·.length)).sum + ys.length * a.length ≤ 16777216 ∧ Q (.str (Txt.join a ys)) H
section
variable {X : Cx} {o e : Expr} {to te : TE} {apos pos : Pos} {σ : L2.St} {H : Hp} {Q : VK}
theorem pe_joinN (ho : PE X o to) (he : PE X e te) (hs : starEach [e] X.env = [(false, eval e X.env)] := by rfl) (hbase : attributeBase o "join" X.env (eval o X.env) = eval o X.env := by rfl) (hline : (apos.endLine == pos.line) = true := by rfl) :
    PE X (.Call (.Attribute o "join" apos) [e] [] pos) (tM1 (rJoin X.K) to te) := pe_join ho he hs hbase hline
theorem z_m1 {r : V → List V → Hp → VK → Prop} {a : Str} (h : te σ H fun y H2 => r (.str a) [y] H2 Q) : tM1 r (tC (.str a)) te σ H Q := ⟨⟨a, rfl⟩, h⟩
/-- the empty text joins signs -/
theorem z_joinS {K : PySem.W.Frag} {p : Addr} {l : List Nat} (h : SqL K H p (l.map fun c => V.str (S [c]))) (hl : l.length ≤ 1000) (q : Q (.str (S l)) H) : rJoin K (.str (S [])) [.ref p] H Q := by
  refine ⟨S [], p, l.map fun c => S [c], rfl, rfl, .inl ?_, ?_, ?_⟩
  · rw [List.map_map]
    exact h
  · rw [sum_signs, List.length_map]
    show l.length + l.length * 0 ≤ _
    omega
  · rw [join_signs]
    exact q
end
end TB
set_option maxHeartbeats 4000000
namespace TB
open PySem PySem.Spec PyProof.Rows L2
open SX (S S_len S_cat)
/-! ### small data: what repr can print -/
structure Small (n : Nat) (d : PyData) : Prop where
  show_ : d.showable = true
  dep : d.depth ≤ n
  len : d.shown.length ≤ 1000 * 10 ^ n
theorem small_none (n : Nat) : Small n .none := ⟨by simp only [PyData.showable], by simp only [PyData.depth]; omega, by
  have : 1 ≤ 10 ^ n := Nat.one_le_pow _ _ (by decide)
  simp only [PyData.shown]
  show 4 ≤ _
  omega⟩
theorem small_bool (n : Nat) (b : Bool) : Small n (.bool b) := ⟨by simp only [PyData.showable], by simp only [PyData.depth]; omega, by
  have : 1 ≤ 10 ^ n := Nat.one_le_pow _ _ (by decide)
  simp only [PyData.shown]
  cases b
  · show 5 ≤ _
    omega
  · show 4 ≤ _
    omega⟩
theorem log2_of_lt {m k : Nat} (h : m < 2 ^ k) (hk : 0 < k) : m.log2 < k := by
  by_cases h0 : m = 0
  · subst h0
    exact hk
  · exact (Nat.log2_lt h0).mpr h
theorem small_int (n : Nat) {i : Int} (h : i.natAbs < 2 ^ 150) : Small n (.int i) := ⟨by
    simp only [PyData.showable, decide_eq_true_eq]
    have := log2_of_lt h (by decide)
    omega, by simp only [PyData.depth]; omega, by
  have h1 : 1 ≤ 10 ^ n := Nat.one_le_pow _ _ (by decide)
  have e := int_text_length_le (a := i) (k := 150) (by decide) (log2_of_lt h (by decide))
  simp only [PyData.shown]
  rw [PySem.ofString_length]
  omega⟩
theorem small_str (n : Nat) {l : List Nat} (hl : l.length ≤ 90) (hc : ∀ c ∈ l, c < 128) : Small n (.str (S l)) := ⟨by simp only [PyData.showable], by simp only [PyData.depth]; omega, by
  have h1 : 1 ≤ 10 ^ n := Nat.one_le_pow _ _ (by decide)
  have e := StrLaws.reprText_len (S l) fun c hc' => Nat.lt_of_lt_of_le (hc c hc') (by decide)
  have e2 : (S l).length = l.length := S_len l
  rw [e2] at e
  simp only [PyData.shown]
  omega⟩
theorem small_mono {n m : Nat} {d : PyData} (h : Small n d) (e : n ≤ m) : Small m d :=
  ⟨h.show_, Nat.le_trans h.dep e, Nat.le_trans h.len (Nat.mul_le_mul_left _ (Nat.pow_le_pow_right (by decide) e))⟩
theorem all_small {n : Nat} : ∀ {ds : List PyData}, (∀ d ∈ ds, Small n d) → PyData.showableAll ds = true ∧ PyData.depthAll ds ≤ n ∧ piled (PyData.shownAll ds) ≤ ds.length * (1000 * 10 ^ n + 2)
  | [], _ => ⟨by simp only [PyData.showableAll], by simp only [PyData.depthAll]; omega, by simp only [PyData.shownAll]; rw [piled_nil]; exact Nat.zero_le _⟩
  | d :: ds, h => by
    obtain ⟨a, b, c⟩ := all_small (n := n) (ds := ds) fun x hx => h x (List.mem_cons_of_mem _ hx)
    have s := h d List.mem_cons_self
    refine ⟨?_, ?_, ?_⟩
    · simp only [PyData.showableAll]
      rw [s.show_, a] <;> rfl
    · simp only [PyData.depthAll]
      exact Nat.max_le.mpr ⟨s.dep, b⟩
    · simp only [PyData.shownAll]
      rw [piled_cons, List.length_cons, Nat.succ_mul]
      have := s.len
      omega
theorem listText_len (ts : List Str) : (listText ts).length ≤ piled ts + 2 := by
  cases ts with
  | nil => decide +kernel
  | cons t r =>
    have h := textFrom_length_pos r 1 (("[" : Str) ++ (if (0 : Nat) > 0 then ", " else "" : String) ++ t) (Nat.succ_pos 0)
    have e : ((("[" : Str) ++ (if (0 : Nat) > 0 then ", " else "" : String) ++ t)).length = 1 + t.length := by
      rw [strLen_append, strLen_append]; rfl
    show (textFrom 1 (("[" : Str) ++ (if (0 : Nat) > 0 then ", " else "" : String) ++ t) r ++ "]").length ≤ _
    rw [strLen_append, h, e, piled_cons]
    show 1 + t.length + piled r + 1 ≤ _
    omega
theorem tupleText_len (ts : List Str) : (tupleText ts).length ≤ piled ts + 3 := by
  unfold tupleText
  rw [strLen_append, strLen_append]
  have e1 : (("(" : Str)).length = 1 := rfl
  have e2 : ((if ts.length == 1 then ",)" else ")" : String) : Str).length ≤ 2 := by
    split <;> decide
  by_cases h : ts = []
  · subst h
    show 1 + 0 + _ ≤ _
    omega
  · have := join_length_add ts h
    omega
theorem small_list {n : Nat} {ds : List PyData} (h : ∀ d ∈ ds, Small n d) (hl : ds.length ≤ 4) : Small (n + 1) (.list ds) := by
  obtain ⟨a, b, c⟩ := all_small h
  refine ⟨by simp only [PyData.showable]; exact a, by simp only [PyData.depth]; omega, ?_⟩
  simp only [PyData.shown]
  have e := listText_len (PyData.shownAll ds)
  have h1 : 1 ≤ 10 ^ n := Nat.one_le_pow _ _ (by decide)
  have h2 : ds.length * (1000 * 10 ^ n + 2) ≤ 4 * (1000 * 10 ^ n + 2) := Nat.mul_le_mul_right _ hl
  rw [Nat.pow_succ]
  omega
theorem small_tup {n : Nat} {ds : List PyData} (h : ∀ d ∈ ds, Small n d) (hl : ds.length ≤ 4) : Small (n + 1) (.tuple ds) := by
  obtain ⟨a, b, c⟩ := all_small h
  refine ⟨by simp only [PyData.showable]; exact a, by simp only [PyData.depth]; omega, ?_⟩
  simp only [PyData.shown]
  have e := tupleText_len (PyData.shownAll ds)
  have h1 : 1 ≤ 10 ^ n := Nat.one_le_pow _ _ (by decide)
  have h2 : ds.length * (1000 * 10 ^ n + 2) ≤ 4 * (1000 * 10 ^ n + 2) := Nat.mul_le_mul_right _ hl
  rw [Nat.pow_succ]
  omega
/-- repr wants no more than smallness -/
theorem z_repr {K : PySem.W.Frag} {H : Hp} {Q : VK} {v : V} {d : PyData} {n : Nat} (h : Dp K H v d) (s : Small n d) (hn : n ≤ 4) (q : Q (.str d.shown) H) : rRepr K [v] H Q :=
  ⟨v, d, rfl, h, s.show_, by
    have h1 := s.len
    have h2 : 10 ^ n ≤ 10 ^ 4 := Nat.pow_le_pow_right (by decide) hn
    rw [sizeLine_eq]
    omega, by have := s.dep; omega, q⟩
/-! ### more named readings -/
def rIntS : List V → Hp → VK → Prop := fun xs H Q => ∃ a n, xs = [.str a] ∧ PySem.intText? a = some n ∧ a.length ≤ 640 ∧ Q (.int n) H
def rStrI : List V → Hp → VK → Prop := fun xs H Q => ∃ i, xs = [.int i] ∧ i.natAbs.log2 < 1920 ∧ Q (.str (toString i)) H
def rAddS : R2 := fun x y H Q => ∃ i j, x = .str i ∧ y = .str j ∧ i.length + j.length ≤ sizeLine ∧ Q (.str (i ++ j)) H
def rTupOf (K : PySem.W.Frag) : List V → Hp → VK → Prop := fun xs H Q => ∃ p ys, xs = [.ref p] ∧ ((SqL K H p ys ∧ ∀ l, H l = none → Q (.ref l) (upd H l (.tup ys))) ∨ (SqT K H p ys ∧ Q (.ref p) H))
section
variable {X : Cx}
theorem c_intS : CallR X (.type "int") rIntS := call_int_str
theorem c_strI : CallR X (.type "str") rStrI := call_str_int
theorem o_addS : OpR X (binaryOp .Add) rAddS := op_add_str
theorem c_tupOf : CallR X (.type "tuple") (rTupOf X.K) := call_tuple_of
end
end TB
set_option maxHeartbeats 4000000
namespace TB
open PySem PySem.Spec PyProof.Rows L2
open SX (S S_len S_cat)
/-! ### how often True stands in a list of bools -/
def rCntB (K : PySem.W.Frag) : V → List V → Hp → VK → Prop := fun x xs H Q => ∃ (p : Addr) (bs : List Bool) (k : Bool), x = .ref p ∧ xs = [.bl k] ∧ SqL K H p (bs.map V.bl) ∧ Q (.int ((bs.countP (· == k) : Nat) : Int)) H
section
variable {X : Cx}
theorem countP_bools (k : Bool) : ∀ bs : List Bool, (bs.map Value.bool).countP (fun y => match y with | .bool b => b == k | _ => false) = bs.countP (· == k)
  | [] => rfl
  | b :: r => by
    rw [List.map_cons, List.countP_cons, List.countP_cons, countP_bools k r]
theorem mt_countB : MtR X "list.count" (rCntB X.K) := by
  intro pins s σ H x xs v us Q I rx rxs h
  obtain ⟨p, bs, k, rfl, rfl, hs, q⟩ := h
  cases rx
  obtain ⟨u, rfl, ru⟩ := rxs.one
  obtain rfl : u = Value.bool k := ru
  obtain ⟨its, rv, ⟨⟨cls, dd, data, sl⟩, n, ho, hc, hdn, hd⟩, hlen⟩ := I.list hs
  simp only at hc hd
  subst hc hd
  have hb := rv.bls
  refine call_meets PySem.F.slot_list_count ⟨_, ho, rfl⟩ PySem.F.entry_list_count (PySem.F.args_list_count_2 _ _)
    (SeqAt.list_countAt p its.toArray n dd sl (.bool k) (fun y => match y with | .bool b => b == k | _ => false)) ⟨ho, fun y hy => ?_, ?_⟩
  · have hy2 : y ∈ bs.map Value.bool := by
      rw [← hb]
      simpa using hy
    obtain ⟨b, _, rfl⟩ := List.mem_map.mp hy2
    exact SeqAt.EqAt.bool_bool b k
  · refine ⟨.int ((bs.countP (· == k) : Nat) : Int), H, I.tok _, ⟨s.toks, ?_⟩, q⟩
    show Value.int ((its.toArray.toList.countP _ : Nat) : Int) s.toks = _
    rw [show its.toArray.toList = bs.map Value.bool by rw [← hb], countP_bools]
theorem z_all {K : PySem.W.Frag} {H : Hp} {Q : VK} {p : Addr} {bs : List Bool} (h : SqL K H p (bs.map V.bl)) (q : Q (.bl (bs.all id)) H) : L2.rAll K [.ref p] H Q := ⟨p, bs, rfl, h, q⟩
end
/-! ### defs without defaults -/
theorem fun_of {K : PySem.W.Frag} {x qual : Str} {st : Stmt} {f : Addr} {fd : FuncData} (F : FunD K x qual (defArgs st) (defBody st) (defScope st) [] [] f fd) : Fun K x qual st f fd := by
  obtain ⟨⟨oc, od, dV, kV, doc, pm, an, cdv, ct, osl, e, l, c, hd, hk⟩, kp⟩ := F
  refine ⟨⟨oc, od, kV, doc, pm, an, cdv, ct, osl, ?_, l, c⟩, kp⟩
  rcases hd with ⟨_, rfl⟩ | ⟨h, _⟩
  · exact e
  · exact absurd rfl h
/-! ### the program's own error classes -/
structure ExB (K : PySem.W.Frag) (mg : Str → Option Value) (x : Str) where
  C : Addr
  g : mg x = some (.ref C)
  oex : OexC K C
  xf : XfC K C
  exc : ExcC K C
/-- at a an error of the class at C with these fields -/
def IsEx (H : Hp) (a C : Addr) (fs : List (Str × V)) : Prop := ∃ d, H a = some (exo a C (some d)) ∧ H d = some (exd d fs)
theorem IsEx.same {H H' : Hp} {a C : Addr} {fs : List (Str × V)} (h : IsEx H a C fs) (e : Same H H') : IsEx H' a C fs := by
  obtain ⟨d, h1, h2⟩ := h
  exact ⟨d, e _ _ h1, e _ _ h2⟩
def spIni1 (C : Addr) (f : Str) : Sp := fun vs H Q _ => ∃ (a : Addr) (v : V), vs = [.ref a, v] ∧ H a = some (exo a C none) ∧ ∀ d, H d = none → d ≠ a → Q .non (upd (upd H d (exd d [(f, v)])) a (exo a C (some d)))
def spIni2 (C : Addr) (f g : Str) : Sp := fun vs H Q _ => ∃ (a : Addr) (v w : V), vs = [.ref a, v, w] ∧ H a = some (exo a C none) ∧ ∀ d, H d = none → d ≠ a → Q .non (upd (upd (upd H d (exd d [(f, v)])) a (exo a C (some d))) d (exd d [(g, w), (f, v)]))
structure Ex1 (P : Program) (w : World) (K : PySem.W.Frag) (mg : Str → Option Value) (base : Heap) (x f : Str) extends ExB K mg x where
  fI : Addr
  fd : FuncData
  ini : PySem.W.findIn K (.ref C) "__init__" = some (some (.ref fI))
  tI : PySem.W.typeIn K (.ref fI) = some (.type "function")
  no : PySem.W.findIn K (.ref C) f = some none
  b : L2.Binds K fd ["self", f] []
  fn : FnOk P w K mg base CX0 1 fI fd ["self", f] (spIni1 C f)
structure Ex2 (P : Program) (w : World) (K : PySem.W.Frag) (mg : Str → Option Value) (base : Heap) (x f f2 : Str) extends ExB K mg x where
  fI : Addr
  fd : FuncData
  ini : PySem.W.findIn K (.ref C) "__init__" = some (some (.ref fI))
  tI : PySem.W.typeIn K (.ref fI) = some (.type "function")
  nof : PySem.W.findIn K (.ref C) f = some none
  nog : PySem.W.findIn K (.ref C) f2 = some none
  b : L2.Binds K fd ["self", f, f2] []
  fn : FnOk P w K mg base CX0 1 fI fd ["self", f, f2] (spIni2 C f f2)
structure Ex0 (K : PySem.W.Frag) (mg : Str → Option Value) (x : Str) where
  C : Addr
  g : mg x = some (.ref C)
  q : PySem.W.excIn K C [.type "ValueError", .type "Exception", .type "BaseException", .type "object"] "ValueError.__new__" = true
  kC : PySem.W.keepIn K (.ref C) = true
  exc : ExcC K C
section
variable {P : Program} {w : World} {K : PySem.W.Frag} {mg : Str → Option Value} {base : Heap} {C fI : Addr} {fd : FuncData} {qual f g : Str} {st : Stmt} {q1 q2 q3 q4 r1 r2 r3 r4 : Pos}
theorem ok_ini1 (F : Fun K "__init__" qual st fI fd) (S : FnScope ["self", f] ["self", f] (defScope st)) (hb : defBody st = [.Assign [.Attribute (.Name "self" q1) f q2] (.Name f q3) q4]) (l1 : (defScope st).names.lookup ("self" : Str) = some NameKind.local) (l2 : (defScope st).names.lookup f = some NameKind.local)
    (hd : (f == ("__debug__" : Str)) = false) (hcd : (f == ("__classdict__" : Str)) = false) (T : OexC K C) (no : PySem.W.findIn K (.ref C) f = some none) : FnOk P w K mg base CX0 1 fI fd ["self", f] (spIni1 C f) := by
  refine F.ok S (fun vs H Q E h => ?_) (fun cdv A outer s H vs Q E hr h => ?_)
  · obtain ⟨_, _, rfl, _⟩ := h
    rfl
  · obtain ⟨a, v, rfl, ha, q⟩ := h
    rw [hb]
    refine ⟨_, pss_one (ps_ost (pe_var (i := 0) rfl (.inl l1)) (pe_var (i := 1) rfl (.inl l2) hd hcd)), ?_⟩
    exact ⟨v, rfl, .ref a, rfl, a, C, rfl, T, no, .inl ⟨ha, fun d h1 h2 => q d h1 h2⟩⟩
theorem ok_ini2 (F : Fun K "__init__" qual st fI fd) (S : FnScope ["self", f, g] ["self", f, g] (defScope st)) (hb : defBody st = [.Assign [.Attribute (.Name "self" q1) f q2] (.Name f q3) q4, .Assign [.Attribute (.Name "self" r1) g r2] (.Name g r3) r4])
    (l1 : (defScope st).names.lookup ("self" : Str) = some NameKind.local) (l2 : (defScope st).names.lookup f = some NameKind.local) (l3 : (defScope st).names.lookup g = some NameKind.local) (hd : (f == ("__debug__" : Str)) = false) (hcd : (f == ("__classdict__" : Str)) = false)
    (hd2 : (g == ("__debug__" : Str)) = false) (hcd2 : (g == ("__classdict__" : Str)) = false) (T : OexC K C) (nof : PySem.W.findIn K (.ref C) f = some none) (nog : PySem.W.findIn K (.ref C) g = some none) : FnOk P w K mg base CX0 1 fI fd ["self", f, g] (spIni2 C f g) := by
  refine F.ok S (fun vs H Q E h => ?_) (fun cdv A outer s H vs Q E hr h => ?_)
  · obtain ⟨_, _, _, rfl, _⟩ := h
    rfl
  · obtain ⟨a, v, z, rfl, ha, q⟩ := h
    rw [hb]
    refine ⟨_, pss_cons (ps_ost (pe_var (i := 0) rfl (.inl l1)) (pe_var (i := 1) rfl (.inl l2) hd hcd)) (pss_one (ps_ost (pe_var (i := 0) rfl (.inl l1)) (pe_var (i := 2) rfl (.inl l3) hd2 hcd2))), ?_⟩
    refine ⟨v, rfl, .ref a, rfl, a, C, rfl, T, nof, .inl ⟨ha, fun d h1 h2 => ?_⟩⟩
    exact ⟨z, rfl, .ref a, rfl, a, C, rfl, T, nog, .inr ⟨d, [(f, v)], upd_same, by rw [upd_ne h2, upd_same], (by show 1 ≤ 900; omega), q d h1 h2⟩⟩
end
section
variable {K : PySem.W.Frag} {σ : L2.St} {H : Hp} {Q : VK} {C a : Addr} {f g : Str} {v z : V} {tA : TA} {te : TE} {fs : List (Str × V)}
/-- C(e, ..): the arguments, then the new error -/
theorem z_mkV {sp : Sp} (h : tA σ H fun vs H1 => vs.length ≤ 1000 ∧ ∀ a, H1 a = none → sp (.ref a :: vs) (upd H1 a (exo a C none)) (fun v H2 => v = .non ∧ Q (.ref a) H2) (fun _ _ _ => False)) : tMkV C sp tA σ H Q := h
theorem z_new1 (q : ∀ a H', Same H H' → H a = none → IsEx H' a C [(f, v)] → Q (.ref a) H') :
    [v].length ≤ 1000 ∧ ∀ a, H a = none → spIni1 C f (.ref a :: [v]) (upd H a (exo a C none)) (fun v H2 => v = .non ∧ Q (.ref a) H2) (fun _ _ _ => False) := by
  refine ⟨(by show 1 ≤ 1000; omega), fun a ha => ⟨a, v, rfl, upd_same, fun d hd hn => ⟨rfl, q a _ ?_ ha ⟨d, upd_same, by rw [upd_ne hn, upd_same]⟩⟩⟩⟩
  have hd0 : H d = none := by
    rw [upd_ne hn] at hd
    exact hd
  exact fun b o e => by
    rw [upd_ne (ne_of_none e ha), upd_ne (ne_of_none e hd0), upd_ne (ne_of_none e ha)]
    exact e
theorem z_new2 (q : ∀ a H', Same H H' → H a = none → IsEx H' a C [(g, z), (f, v)] → Q (.ref a) H') :
    [v, z].length ≤ 1000 ∧ ∀ a, H a = none → spIni2 C f g (.ref a :: [v, z]) (upd H a (exo a C none)) (fun v H2 => v = .non ∧ Q (.ref a) H2) (fun _ _ _ => False) := by
  refine ⟨(by show 2 ≤ 1000; omega), fun a ha => ⟨a, v, z, rfl, upd_same, fun d hd hn => ⟨rfl, q a _ ?_ ha ⟨d, by rw [upd_ne (Ne.symm hn), upd_same], upd_same⟩⟩⟩⟩
  have hd0 : H d = none := by
    rw [upd_ne hn] at hd
    exact hd
  exact fun b o e => by
    rw [upd_ne (ne_of_none e hd0), upd_ne (ne_of_none e ha), upd_ne (ne_of_none e hd0), upd_ne (ne_of_none e ha)]
    exact e
theorem z_mk0 (q : ∀ a, H a = none → Q (.ref a) (upd H a (exo a C none))) : tMk0 C σ H Q := q
theorem z_ofl (h : te σ H fun x H1 => ∃ (a C : Addr) (fs : List (Str × V)) (v : V), x = .ref a ∧ IsEx H1 a C fs ∧ XfC K C ∧ PySem.W.findIn K (.ref C) f = some none ∧ fs.lookup f = some v ∧ Q v H1)
    (mono : ∀ R R' : VK, (∀ v H1, R v H1 → R' v H1) → te σ H R → te σ H R') : tOfl K f te σ H Q :=
  mono _ _ (fun x H1 ⟨a, C, fs, v, e, ⟨d, h1, h2⟩, r⟩ => ⟨a, C, d, fs, v, e, h1, h2, r⟩) h
theorem z_oflV {i : Nat} (hv : σ[i]? = some (some (.ref a))) (h : IsEx H a C fs) (x : XfC K C) (no : PySem.W.findIn K (.ref C) f = some none) (l : fs.lookup f = some v) (q : Q v H) : tOfl K f (tVar i) σ H Q := by
  obtain ⟨d, h1, h2⟩ := h
  exact ⟨.ref a, hv, a, C, d, fs, v, rfl, h1, h2, x, no, l, q⟩
theorem z_isV {c : V} {cv : Value} {b : Bool} (h : IsEx H a C fs) (x : ExcC K C) (hc : ClsV c cv) (hk : PySem.W.kitOne K (.ref C) cv = some b) (q : Q (.bl b) H) : rIsV K [.ref a, c] H Q := by
  obtain ⟨d, h1, h2⟩ := h
  refine ⟨a, C, some d, c, cv, b, rfl, h1, fun d' e => ?_, x, hc, hk, q⟩
  cases e
  exact ⟨fs, h2⟩
theorem z_cat {l m : Addr} {xs ys : List V} (h1 : H l = some (.lst xs)) (h2 : H m = some (.lst ys)) (hz : xs.length + ys.length ≤ sizeLine) (q : ∀ p, H p = none → Q (.ref p) (upd H p (.lst (xs ++ ys)))) : rCat (.ref l) (.ref m) H Q := ⟨l, m, xs, ys, rfl, rfl, h1, h2, hz, q⟩
end
end TB
set_option maxHeartbeats 4000000
namespace TB
open PySem PySem.Spec PyProof.Rows L2
open SX (S S_len S_cat)
/-! ### for over a list -/
def kFor (K : PySem.W.Frag) (g : TG) (tb : TS) (D : Ends) (σ : L2.St) : V → Hp → Prop := fun x H1 => ∃ a, x = V.ref a ∧ (∃ xs, SqL K H1 a xs) ∧ ∃ W : Nat → Nat → L2.St → Hp → Prop, (∃ m, W 0 m σ H1) ∧ ∀ i m σ H, W i m σ H →
  ((Itl K a).stop i H ∧ D.nx σ H) ∨ ((Itl K a).go i H ∧ ∃ N : L2.St → Hp → Prop, (∀ σ' H', N σ' H' → ∃ m', m' < m ∧ W (i + 1) m' σ' H') ∧ ∀ x H', (Itl K a).yld i H x H' → g x σ H' fun σ2 H2 => tb { D with nx := N, ct := N, bk := D.nx } σ2 H2)
section
variable {K : PySem.W.Frag} {σ : L2.St} {H : Hp} {g : TG} {tb : TS} {D : Ends} {tl : TE}
theorem z_forL (h : tl σ H (kFor K g tb D σ)) : tFor (iList K tl) g tb D σ H := h
theorem z_kFor {a : Addr} {xs : List V} (hx : SqL K H a xs) (Pv : Nat → L2.St → Hp → Prop) (h0 : Pv 0 σ H) (hl : ∀ i σ H, i ≤ xs.length → Pv i σ H → SqL K H a xs)
    (hs : ∀ i x σ H, xs[i]? = some x → Pv i σ H → g x σ H fun σ2 H2 => tb { D with nx := Pv (i + 1), ct := Pv (i + 1), bk := D.nx } σ2 H2) (hd : ∀ σ H, Pv xs.length σ H → D.nx σ H) : kFor K g tb D σ (.ref a) H :=
  ⟨a, rfl, ⟨xs, hx⟩, for_list Pv h0 hl hs hd⟩
end
/-! ### the program's own errors, told apart -/
/-- at a an error of the class at C, whatever it holds -/
def IsE (H : Hp) (a C : Addr) : Prop := ∃ d, H a = some (exo a C d) ∧ ∀ d', d = some d' → ∃ fs, H d' = some (exd d' fs)
theorem IsEx.any {H : Hp} {a C : Addr} {fs : List (Str × V)} (h : IsEx H a C fs) : IsE H a C := by
  obtain ⟨d, h1, h2⟩ := h
  refine ⟨some d, h1, fun d' e => ?_⟩
  cases e
  exact ⟨fs, h2⟩
theorem IsE.same {H H' : Hp} {a C : Addr} (h : IsE H a C) (e : Same H H') : IsE H' a C := by
  obtain ⟨d, h1, h2⟩ := h
  exact ⟨d, e _ _ h1, fun d' q => (h2 d' q).imp fun fs z => e _ _ z⟩
structure KitOk (K : PySem.W.Frag) (cs : List Addr) (tail : Addr) : Prop where
  own : ∀ (i j : Nat) (c d : Addr), cs[i]? = some c → cs[j]? = some d → PySem.W.kitOne K (.ref c) (.ref d) = some (decide (i = j))
  tl : ∀ (i : Nat) (c : Addr), cs[i]? = some c → PySem.W.kitOne K (.ref c) (.ref tail) = some true
  ve : ∀ (i : Nat) (c : Addr), cs[i]? = some c → PySem.W.kitOne K (.ref c) (.type "ValueError") = some true
  exc : ∀ (i : Nat) (c : Addr), cs[i]? = some c → ExcC K c
section
variable {K : PySem.W.Frag} {H : Hp} {Q : VK} {C a : Addr}
theorem z_isE {c : V} {cv : Value} {b : Bool} (h : IsE H a C) (x : ExcC K C) (hc : ClsV c cv) (hk : PySem.W.kitOne K (.ref C) cv = some b) (q : Q (.bl b) H) : rIsV K [.ref a, c] H Q := by
  obtain ⟨d, h1, h2⟩ := h
  exact ⟨a, C, d, c, cv, b, rfl, h1, h2, x, hc, hk, q⟩
theorem z_cntB {p : Addr} {bs : List Bool} {k : Bool} (h : SqL K H p (bs.map V.bl)) (q : Q (.int ((bs.countP (· == k) : Nat) : Int)) H) : rCntB K (.ref p) [.bl k] H Q := ⟨p, bs, k, rfl, rfl, h, q⟩
theorem z_oflE {f : Str} {tv : TE} {σ : L2.St} {fs : List (Str × V)} {v : V} (hv : tv σ H fun x H1 => x = .ref a ∧ H1 = H ∧ IsEx H a C fs ∧ XfC K C ∧ PySem.W.findIn K (.ref C) f = some none ∧ fs.lookup f = some v ∧ Q v H) (mono : ∀ R R' : VK, (∀ v H1, R v H1 → R' v H1) → tv σ H R → tv σ H R') : tOfl K f tv σ H Q :=
  mono _ _ (fun x H1 ⟨e, e2, ⟨d, h1, h2⟩, r⟩ => by
    subst e2
    exact ⟨a, C, d, fs, v, e, h1, h2, r⟩) hv
theorem z_oflI {f : Str} {i : Nat} {σ : L2.St} {fs : List (Str × V)} {v : V} (hv : σ[i]? = some (some (.ref a))) (h : IsEx H a C fs) (x : XfC K C) (no : PySem.W.findIn K (.ref C) f = some none) (l : fs.lookup f = some v) (q : Q v H) : tOfl K f (tVar i) σ H Q := z_oflV hv h x no l q
end
theorem keep_upd {H : Hp} {l b : Addr} {o u : HO} (h : H b = some u) (n : H l = none) : (upd H l o) b = some u := by
  rw [upd_ne (ne_of_none h n)]
  exact h
theorem z_iteNT {A B : Prop} (h : B) : if (!true) = true then A else B := h
theorem z_iteNF {A B : Prop} (h : A) : if (!false) = true then A else B := h
/-- what C(e, ..) asks of its arguments -/
def kMk (C : Addr) (sp : Sp) (Q : VK) : List V → Hp → Prop := fun vs H1 => vs.length ≤ 1000 ∧ ∀ a, H1 a = none → sp (.ref a :: vs) (upd H1 a (exo a C none)) (fun v H2 => v = .non ∧ Q (.ref a) H2) (fun _ _ _ => False)
section
variable {K : PySem.W.Frag} {σ : L2.St} {H : Hp} {Q : VK} {C : Addr} {f g : Str} {v z : V} {tA : TA} {sp : Sp}
theorem z_mkK (h : tA σ H (kMk C sp Q)) : tMkV C sp tA σ H Q := h
theorem z_kNew1 (q : ∀ a H', Same H H' → H a = none → IsEx H' a C [(f, v)] → Q (.ref a) H') : kMk C (spIni1 C f) Q [v] H := z_new1 q
theorem z_kNew2 (q : ∀ a H', Same H H' → H a = none → IsEx H' a C [(g, z), (f, v)] → Q (.ref a) H') : kMk C (spIni2 C f g) Q [v, z] H := z_new2 q
end
/-- how the flags of an error of the i-th class read -/
def flagsB (n i : Nat) : List Bool := (List.range n).map fun j => decide (i = j)
end TB
set_option maxHeartbeats 4000000
namespace K6
open PySem PySem.Spec PyProof.Rows L2 TB
open SX (S S_len S_cat)
local macro_rules | `(tactic| walk_at "side") => `(tactic| first
  | (focus exact Or.inr ⟨by decide, by decide⟩)
  | (focus exact TB.cmul_mod (by decide) (by decide))
  | (focus exact Or.inl ⟨by decide, by decide⟩)
  | (focus exact ⟨by decide, by decide⟩)
  | (focus exact ⟨by decide, by decide +kernel⟩)
  | (focus (show (0 : Int) < _; first | decide | omega | assumption))
  | (focus assumption)
  | (focus exact ⟨by omega, by omega⟩)
  | (focus (show (_ : Nat) ≤ sizeLine; rw [sizeLine_eq]; first | decide | omega))
  | (focus (show (_ : Nat) < sizeLine; rw [sizeLine_eq]; first | decide | omega))
  | rotate_left)
local macro_rules | `(tactic| walk_at "q1") => `(tactic| first
  | with_reducible refine TB.z_seq ?_
  | with_reducible refine TB.z_asg ?_
  | with_reducible refine TB.z_drop ?_
  | with_reducible refine TB.z_ret ?_
  | with_reducible refine TB.z_retN ?_
  | with_reducible refine TB.z_next ?_
  | with_reducible refine TB.z_brk ?_
  | with_reducible refine TB.z_cont ?_
  | with_reducible refine TB.z_if ?_
  | with_reducible refine TB.z_name ?_
  | with_reducible refine TB.z_sub ?_
  | ((with_reducible show L2.tVar _ _ _ _); refine TB.z_var rfl ?_)
  | with_reducible refine TB.z_c ?_
  | with_reducible refine TB.z_op ?_
  | with_reducible refine TB.z_un ?_
  | with_reducible refine TB.z_lt ?_
  | with_reducible refine TB.z_le ?_
  | with_reducible refine TB.z_gt ?_
  | with_reducible refine TB.z_ge ?_
  | with_reducible refine TB.z_eqI ?_
  | with_reducible refine TB.z_neI ?_
  | with_reducible refine TB.z_eqS ?_
  | with_reducible refine TB.z_neS ?_
  | with_reducible refine TB.z_I0 ?_
  | ((with_reducible refine TB.z_I ?_ ?_); walk_at "side")
  | with_reducible refine TB.z_U ?_
  | with_reducible refine TB.z_test ?_
  | with_reducible refine TB.z_tB ?_
  | with_reducible refine TB.z_bl ?_
  | with_reducible refine TB.z_and ?_
  | with_reducible refine TB.z_or ?_
  | with_reducible refine TB.z_not ?_
  | with_reducible refine TB.z_notV ?_
  | with_reducible refine TB.z_andV ?_
  | with_reducible refine TB.z_orV ?_
  | with_reducible refine TB.z_ifE ?_
  | with_reducible refine TB.z_iteT ?_
  | with_reducible refine TB.z_iteF ?_
  | with_reducible refine TB.z_cb ?_
  | with_reducible refine TB.z_call ?_
  | with_reducible refine TB.z_nil ?_
  | with_reducible refine TB.z_cons ?_
  | with_reducible refine TB.z_tup ?_
  | with_reducible refine TB.z_lst ?_
  | with_reducible refine TB.z_rInt ?_
  | with_reducible refine TB.z_rAbs ?_
  | ((with_reducible refine TB.z_rLenS ?_ ?_); walk_at "side")
  | ((with_reducible show TB.rLen _ _ _ _); first
      | refine TB.z_rLen (Or.inl (SqL.of L2.upd_same)) ?_
      | refine TB.z_rLen (Or.inl (SqL.of (by assumption))) ?_
      | refine TB.z_rLen (Or.inr (SqT.of (by assumption))) ?_
      | refine TB.z_rLen (Or.inl (by first | assumption | apply_assumption)) ?_
      | refine TB.z_rLen (Or.inr (by first | assumption | apply_assumption)) ?_)
  | ((with_reducible show L2.rIxL _ _ _ _ _); first
      | refine TB.z_ixL (SqL.of L2.upd_same) rfl ?_
      | refine TB.z_ixL (SqL.of (by assumption)) rfl ?_
      | refine TB.z_ixL (by first | assumption | apply_assumption) (by first | assumption | rfl) ?_)
  | ((with_reducible show L2.rIxT _ _ _ _ _); first
      | refine TB.z_ixT (SqT.of L2.upd_same) rfl ?_
      | refine TB.z_ixT (SqT.of (by assumption)) rfl ?_
      | refine TB.z_ixT (by first | assumption | apply_assumption) (by first | assumption | rfl) ?_)
  | ((with_reducible show L2.rSetL _ _ _ _ _); refine TB.z_setU rfl ?_)
  | with_reducible refine TB.z_lcR ?_
  | with_reducible refine TB.z_m1 ?_
  | with_reducible refine TB.z_lcL ?_
  | with_reducible refine TB.z_bm ?_
  | with_reducible refine TB.z_bm0 ?_)
local macro_rules | `(tactic| walk_at "q") => `(tactic| repeat walk_at "q1")
local macro_rules | `(tactic| walk_at "qq") => `(tactic| repeat' (first
  | walk_at "q1"
  | with_reducible refine TB.z_ite (fun hq => ?_) (fun hq => ?_)
  | with_reducible refine TB.z_iteN (fun hq => ?_) (fun hq => ?_)
  | with_reducible refine TB.z_iteB (fun hq => ?_) (fun hq => ?_)))

theorem sc__law_mix : FnScope ["cell", "turn", "one", "two"] ["cell", "turn"] (defScope s__law_mix) := ⟨rfl, rfl, rfl, by decide +kernel, rfl, by decide +kernel, by decide +kernel⟩

theorem sc__law_pick : FnScope ["draw", "many", "cell", "digit", "found"] ["draw", "many"] (defScope s__law_pick) := ⟨rfl, rfl, rfl, by decide +kernel, rfl, by decide +kernel, by decide +kernel⟩

theorem sc__law_draw : FnScope ["script", "cells", "cell"] ["script"] (defScope s__law_draw) := ⟨rfl, rfl, rfl, by decide +kernel, rfl, by decide +kernel, by decide +kernel⟩

section
variable {P : Program} {w : World} {K : PySem.W.Frag} {mg : Str → Option Value} {base : Heap}
def spMix : Sp := fun vs H Q _ => ∃ c t : Int, vs = [.int c, .int t] ∧ ∀ r, Q (.int r) H
theorem ok_mix (D : Df K mg "_law_mix" s__law_mix ["cell", "turn"]) (B : Bi mg) : FnOk P w K mg base CX0 1 D.f D.fd ["cell", "turn"] spMix := by
  refine D.F.ok sc__law_mix (fun vs H Q E h => ?_) (fun cdv A outer s H vs Q E hr h => ?_)
  · obtain ⟨_, _, rfl, _⟩ := h
    rfl
  · obtain ⟨c, t, rfl, q⟩ := h
    refine ⟨_, (pss_cons (ps_set (i := 2) sc__law_mix.nd rfl (Or.inl rfl) (pe_op op_mod (pe_callTy c_int (by rfl) B.int (by decide +kernel) (pa_cons (pe_op op_add (pe_op op_add (pe_op op_mul (pv 0) pe_int) (pe_op op_mul (pv 1) pe_int)) pe_int) pa_nil)) pe_int))
 (pss_cons (ps_set (i := 3) sc__law_mix.nd rfl (Or.inl rfl) (pe_op op_mod (pe_callTy c_int (by rfl) B.int (by decide +kernel) (pa_cons (pe_op op_add (pe_op op_add (pe_op op_mul (pv 2) (pv 2)) (pe_op op_mul (pv 1) pe_int)) (pv 0)) pa_nil)) pe_int))
 (pss_cons (ps_set (i := 3) sc__law_mix.nd rfl (Or.inl rfl) (pe_op op_mod (pe_callTy c_int (by rfl) B.int (by decide +kernel) (pa_cons (pe_op op_add (pe_op op_mul (pv 3) (pv 3)) (pv 2)) pa_nil)) pe_int))
 (pss_one (ps_ret (pe_op op_fdiv (pv 3) pe_int)))))), ?_⟩
    walk_at "q"
    exact q _
def spPick (K : PySem.W.Frag) : Sp := fun vs H Q _ => ∃ (a : Addr) (many : Int) (G : Hp), vs = [.ref a, .int many] ∧ many < 1073741824 ∧ Dr K G H a ∧
  ∀ o r, Dr K G (upd H a o) a → 0 ≤ r → (r < many ∨ r = 0) → Q (.int r) (upd H a o)
theorem ok_pick (D : Df K mg "_law_pick" s__law_pick ["draw", "many"]) (D_law_mix : Df K mg "_law_mix" s__law_mix ["cell", "turn"]) (B : Bi mg) : FnOk P w K mg base CX0 2 D.f D.fd ["draw", "many"] (spPick K) := by
  have G_law_mix : FnOk P w K mg base CX0 1 D_law_mix.f D_law_mix.fd ["cell", "turn"] spMix := ok_mix D_law_mix B
  refine D.F.ok sc__law_pick (fun vs H Q E h => ?_) (fun cdv A outer s H vs Q E hr h => ?_)
  · obtain ⟨_, _, _, rfl, _⟩ := h
    rfl
  · obtain ⟨a, many, G, rfl, hm, ⟨gs, ga, c, ns, x1, x2, x3, x4, x5, ha, hS, hn, h0, h1⟩, q⟩ := h
    refine ⟨_, (pss_cons (ps_if (pt_cmpR o_lt (pv 1) pe_int (nomark _)) (pss_one (ps_ret pe_int)) pss_nil)
 (Evl.pss_cut (ps_if (PW.pt (pw_and (pt_cmpR op_eq (pe_ix ix_list (pv 0) pe_int (fun _ _ => rfl)) pe_int (nomark _)) (pw_and (pt_cmpR o_lt (pe_ix ix_list (pv 0) pe_int (fun _ _ => rfl)) (pe_callB c_len (by rfl) B.len (by decide +kernel) (pa_cons (pe_ix ix_list (pv 0) pe_int (fun _ _ => rfl)) pa_nil)) (nomark _)) (pw_and1 (pt_cmpR op_eq (pe_ix ix_list (pv 0) pe_int (fun _ _ => rfl)) pe_int (nomark _)))))) (pss_cons (ps_set (i := 2) sc__law_pick.nd rfl (Or.inl rfl) (pe_ix ix_list (pe_ix ix_list (pv 0) pe_int (fun _ _ => rfl)) (pe_ix ix_list (pv 0) pe_int (fun _ _ => rfl)) (fun _ _ => rfl)))
 (pss_one (ps_if (PW.pt (pw_or (pt_cmpR o_ge (pv 2) (pe_op op_powB pe_int pe_int) (nomark _)) (pw_or1 (pt_cmpR o_le (pv 2) (pe_un un_neg (pe_op op_powB pe_int pe_int)) (nomark _))))) (pss_cons (ps_asg (pe_op op_mod (pe_callTy c_int (by rfl) B.int (by decide +kernel) (pa_cons (pe_callB c_abs (by rfl) B.abs (by decide +kernel) (pa_cons (pv 2) pa_nil)) pa_nil)) (pe_op op_powB (pe_op op_powB pe_int pe_int) pe_int)) (pg_sub (pv 0) pe_int set_list))
 (pss_one (ps_asg (pe_op op_add (pe_ix ix_list (pv 0) pe_int (fun _ _ => rfl)) pe_int) (pg_sub (pv 0) pe_int set_list)))) pss_nil))) pss_nil)
 (pss_cons (ps_if (pt_cmpR o_gt (pe_ix ix_list (pv 0) pe_int (fun _ _ => rfl)) pe_int (nomark _)) (pss_cons (ps_set (i := 3) sc__law_pick.nd rfl (Or.inl rfl) (pe_op op_mod (pe_callTy c_int (by rfl) B.int (by decide +kernel) (pa_cons (pe_ix ix_list (pv 0) pe_int (fun _ _ => rfl)) pa_nil)) (pv 1)))
 (pss_cons (ps_asg (pe_op op_fdiv (pe_ix ix_list (pv 0) pe_int (fun _ _ => rfl)) (pv 1)) (pg_sub (pv 0) pe_int set_list))
 (pss_one (ps_ret (pv 3))))) pss_nil)
 (pss_cons (ps_if (pt_cmpR o_lt (pe_ix ix_list (pv 0) pe_int (fun _ _ => rfl)) (pe_callB c_len (by rfl) B.len (by decide +kernel) (pa_cons (pe_ix ix_list (pv 0) pe_int (fun _ _ => rfl)) pa_nil)) (nomark _)) (pss_cons (ps_set (i := 2) sc__law_pick.nd rfl (Or.inl rfl) (pe_ix ix_list (pe_ix ix_list (pv 0) pe_int (fun _ _ => rfl)) (pe_ix ix_list (pv 0) pe_int (fun _ _ => rfl)) (fun _ _ => rfl)))
 (pss_cons (ps_asg (pe_op op_add (pe_ix ix_list (pv 0) pe_int (fun _ _ => rfl)) pe_int) (pg_sub (pv 0) pe_int set_list))
 (pss_cons (ps_set (i := 4) sc__law_pick.nd rfl (Or.inl rfl) (pe_op op_mod (pe_callTy c_int (by rfl) B.int (by decide +kernel) (pa_cons (pe_call G_law_mix hr (by rfl) D_law_mix.g D_law_mix.F.kp D_law_mix.b .nil pass0 (pa_cons (pe_op op_add (pv 2) (pe_op op_mul pe_int (pe_ix ix_list (pv 0) pe_int (fun _ _ => rfl)))) (pa_cons (pe_ix ix_list (pv 0) pe_int (fun _ _ => rfl)) pa_nil))) pa_nil)) (pv 1)))
 (pss_cons (ps_if (pt_cmpR op_eq (pe_ix ix_list (pv 0) pe_int (fun _ _ => rfl)) pe_int (nomark _)) (pss_cons (ps_asg pe_int (pg_sub (pv 0) pe_int set_list))
 (pss_one (ps_asg (pe_op op_add (pe_ix ix_list (pv 0) pe_int (fun _ _ => rfl)) pe_int) (pg_sub (pv 0) pe_int set_list)))) pss_nil)
 (pss_one (ps_ret (pv 4))))))) pss_nil)
 (pss_cons (ps_asg (pe_op op_add (pe_ix ix_list (pv 0) pe_int (fun _ _ => rfl)) pe_int) (pg_sub (pv 0) pe_int set_list))
 (pss_one (ps_ret (pe_op op_mod (pe_callTy c_int (by rfl) B.int (by decide +kernel) (pa_cons (pe_call G_law_mix hr (by rfl) D_law_mix.g D_law_mix.F.kp D_law_mix.b .nil pass0 (pa_cons (pe_ix ix_list (pv 0) pe_int (fun _ _ => rfl)) (pa_cons (pe_op op_add (pe_ix ix_list (pv 0) pe_int (fun _ _ => rfl)) pe_int) pa_nil))) pa_nil)) (pv 1))))))))), ?_⟩
    dsimp only [L2.cxOf, L2.Cx.nox, L2.Cx.wish]
    rw [← upd_id ha]
    have hC : ∀ o, SqL K (upd H a o) c (ns.map V.int) := fun o => (same_upd gs ga).seq hS
    have hL : (ns.map V.int).length = ns.length := List.length_map ..
    have fin : ∀ (y1 y2 y3 y4 y5 r : Int), 0 ≤ y1 → y1 ≤ ns.length → 0 ≤ r → (r < many ∨ r = 0) → Q (.int r) (upd H a (dw c y1 y2 y3 y4 y5)) := fun y1 y2 y3 y4 y5 r g0 g1 r0 r1 =>
      q _ r ⟨same_upd gs ga, ga, c, ns, y1, y2, y3, y4, y5, upd_same, hS, hn, g0, g1⟩ r0 r1
    unfold dw
    walk_at "q"
    refine z_ite (fun hlt => ?_) (fun hge => ?_)
    · walk_at "q"
      exact fin _ _ _ _ _ _ h0 h1 (Int.le_refl 0) (.inr rfl)
    · have hp : 0 < many := by omega
      walk_at "q"
      refine ⟨fun σ H' => ∃ y1 y2 y3 y4 y5 v2, σ = [some (.ref a), some (.int many), v2, none, none] ∧ H' = upd H a (.lst [.ref c, .int y1, .int y2, .int y3, .int y4, .int y5]) ∧ 0 ≤ y1 ∧ y1 ≤ ns.length, ?_, ?_⟩
      · walk_at "qq"
        · rename_i g2 g1 g3
          rw [hL] at g1
          obtain ⟨z, hz⟩ := at_ints h0 g1
          walk_at "qq"
          all_goals exact ⟨_, _, _, _, _, _, rfl, rfl, by omega, by omega⟩
        all_goals exact ⟨_, _, _, _, _, _, rfl, rfl, h0, h1⟩
      · rintro σ H' ⟨y1, y2, y3, y4, y5, v2, rfl, rfl, g0, g1⟩
        have hr1 : ∀ z : Int, 0 ≤ z % many ∧ (z % many < many ∨ z % many = 0) := fun z => ⟨Int.emod_nonneg z (by omega), .inl (Int.emod_lt_of_pos z hp)⟩
        walk_at "qq"
        · exact fin _ _ _ _ _ _ g0 g1 (hr1 _).1 (hr1 _).2
        · rename_i g2
          rw [hL] at g2
          obtain ⟨z, hz⟩ := at_ints g0 g2
          walk_at "qq"
          refine ⟨_, _, rfl, fun r => ?_⟩
          walk_at "qq"
          all_goals exact fin _ _ _ _ _ _ (by omega) (by omega) (hr1 _).1 (hr1 _).2
        · refine ⟨_, _, rfl, fun r => ?_⟩
          walk_at "qq"
          all_goals exact fin _ _ _ _ _ _ g0 g1 (hr1 _).1 (hr1 _).2
/-- the drawer is made -/
def spDraw (K : PySem.W.Frag) : Sp := fun vs H Q _ => ∃ (a : Addr) (ns : List Int), vs = [.ref a] ∧ SqL K H a (ns.map V.int) ∧ ns.length ≤ 63 ∧
  ∀ d G H', Same H G → H d = none → Dr K G H' d → Q (.ref d) H'
theorem ok_draw (D : Df K mg "_law_draw" s__law_draw ["script"]) (B : Bi mg) : FnOk P w K mg base CX0 1 D.f D.fd ["script"] (spDraw K) := by
  refine D.F.ok sc__law_draw (fun vs H Q E h => ?_) (fun cdv A outer s H vs Q E hr h => ?_)
  · obtain ⟨_, _, rfl, _⟩ := h
    rfl
  · obtain ⟨a, ns, rfl, hS, hn, q⟩ := h
    refine ⟨_, (pss_cons (ps_setLc (i := 1) (own := [("cell", 2)]) rfl sc__law_draw.nd rfl rfl (sw_true rfl rfl rfl (by decide +kernel)) (pi_list (pv 0)) (blkOk_by (own := [("cell", 2)]) (N := ["script", "cells", "cell"]) (sc := defScope s__law_draw) (by decide +kernel)) (fun _ _ _ _ _ => (pg_name (i := 2) sc__law_draw.nd rfl (Or.inl rfl))) (fun _ _ _ _ _ => pts_nil) (fun _ _ _ _ _ => (pv 2)))
 (pss_one (ps_ret (pe_lst (pa_cons (pv 1) (pa_cons pe_int (pa_cons pe_int (pa_cons pe_int (pa_cons pe_int (pa_cons (pe_op op_add (pe_op op_mod (pe_callTy c_int (by rfl) B.int (by decide +kernel) (pa_cons (pe_callB (cr_sum rfl) (by rfl) B.sum (by decide +kernel) (pa_cons (pv 1) pa_nil)) pa_nil)) pe_int) (pe_op op_mul pe_int (pe_callB c_len (by rfl) B.len (by decide +kernel) (pa_cons (pv 1) pa_nil)))) pa_nil)))))))))), ?_⟩
    dsimp only [L2.cxOf, L2.Cx.nox, L2.Cx.wish]
    walk_at "q"
    refine z_kLst hS (fun x => rfl) (fun C hC => ⟨fun i H' => H' = upd H C (.lst ((ns.map V.int).take i)), rfl, ?_, ?_, ?_⟩)
    · rintro i H' _ rfl
      exact sq_new hC hS
    · rintro i x H' hx rfl
      unfold Turn1
      walk_at "q"
      refine ⟨_, upd_same, ?_, ?_⟩
      · rw [List.length_take, List.length_map, sizeLine_eq]
        omega
      · show upd _ C _ = upd H C (.lst ((ns.map V.int).take (i + 1)))
        rw [upd_upd, List.take_add_one, hx]
        rfl
    · rintro H' rfl
      rw [List.take_of_length_le (Nat.le_refl _)]
      have hS2 : SqL K (upd H C (.lst (ns.map V.int))) C (ns.map V.int) := SqL.of upd_same
      walk_at "q"
      refine ⟨C, ns, rfl, hS2, ?_⟩
      walk_at "q"
      refine ⟨by show 6 ≤ sizeLine; decide, fun d hd => ?_⟩
      have sH : Same H (upd H C (.lst (ns.map V.int))) := told_same hC
      exact q d _ _ sH (sH.free hd) ⟨told_same hd, hd, C, ns, 0, 0, 0, 0, _, upd_same, hS2, hn, Int.le_refl 0, by omega⟩
end

end K6
set_option maxHeartbeats 4000000
namespace K6
open PySem PySem.Spec PyProof.Rows L2 TB
open SX (S S_len S_cat)
local macro_rules | `(tactic| walk_at "side") => `(tactic| first
  | (focus exact Or.inr ⟨by decide, by decide⟩)
  | (focus exact TB.cmul_mod (by decide) (by decide))
  | (focus exact Or.inl ⟨by decide, by decide⟩)
  | (focus exact ⟨by decide, by decide⟩)
  | (focus exact ⟨by decide, by decide +kernel⟩)
  | (focus (show (0 : Int) < _; first | decide | omega | assumption))
  | (focus assumption)
  | (focus exact ⟨by omega, by omega⟩)
  | (focus (show (_ : Nat) ≤ sizeLine; rw [sizeLine_eq]; first | decide | omega))
  | (focus (show (_ : Nat) < sizeLine; rw [sizeLine_eq]; first | decide | omega))
  | rotate_left)
local macro_rules | `(tactic| walk_at "q1") => `(tactic| first
  | with_reducible refine TB.z_seq ?_
  | with_reducible refine TB.z_asg ?_
  | with_reducible refine TB.z_drop ?_
  | with_reducible refine TB.z_ret ?_
  | with_reducible refine TB.z_retN ?_
  | with_reducible refine TB.z_next ?_
  | with_reducible refine TB.z_brk ?_
  | with_reducible refine TB.z_cont ?_
  | with_reducible refine TB.z_if ?_
  | with_reducible refine TB.z_name ?_
  | with_reducible refine TB.z_sub ?_
  | ((with_reducible show L2.tVar _ _ _ _); refine TB.z_var rfl ?_)
  | with_reducible refine TB.z_c ?_
  | with_reducible refine TB.z_op ?_
  | with_reducible refine TB.z_un ?_
  | with_reducible refine TB.z_lt ?_
  | with_reducible refine TB.z_le ?_
  | with_reducible refine TB.z_gt ?_
  | with_reducible refine TB.z_ge ?_
  | with_reducible refine TB.z_eqI ?_
  | with_reducible refine TB.z_neI ?_
  | with_reducible refine TB.z_eqS ?_
  | with_reducible refine TB.z_neS ?_
  | with_reducible refine TB.z_I0 ?_
  | ((with_reducible refine TB.z_I ?_ ?_); walk_at "side")
  | with_reducible refine TB.z_U ?_
  | with_reducible refine TB.z_test ?_
  | with_reducible refine TB.z_tB ?_
  | with_reducible refine TB.z_bl ?_
  | with_reducible refine TB.z_and ?_
  | with_reducible refine TB.z_or ?_
  | with_reducible refine TB.z_not ?_
  | with_reducible refine TB.z_notV ?_
  | with_reducible refine TB.z_andV ?_
  | with_reducible refine TB.z_orV ?_
  | with_reducible refine TB.z_ifE ?_
  | with_reducible refine TB.z_iteT ?_
  | with_reducible refine TB.z_iteF ?_
  | with_reducible refine TB.z_cb ?_
  | with_reducible refine TB.z_call ?_
  | with_reducible refine TB.z_nil ?_
  | with_reducible refine TB.z_cons ?_
  | with_reducible refine TB.z_tup ?_
  | with_reducible refine TB.z_lst ?_
  | with_reducible refine TB.z_rInt ?_
  | with_reducible refine TB.z_rAbs ?_
  | ((with_reducible refine TB.z_rLenS ?_ ?_); walk_at "side")
  | ((with_reducible show TB.rLen _ _ _ _); first
      | refine TB.z_rLen (Or.inl (SqL.of L2.upd_same)) ?_
      | refine TB.z_rLen (Or.inl (SqL.of (by assumption))) ?_
      | refine TB.z_rLen (Or.inr (SqT.of (by assumption))) ?_
      | refine TB.z_rLen (Or.inl (by first | assumption | apply_assumption)) ?_
      | refine TB.z_rLen (Or.inr (by first | assumption | apply_assumption)) ?_)
  | ((with_reducible show L2.rIxL _ _ _ _ _); first
      | refine TB.z_ixL (SqL.of L2.upd_same) rfl ?_
      | refine TB.z_ixL (SqL.of (by assumption)) rfl ?_
      | refine TB.z_ixL (by first | assumption | apply_assumption) (by first | assumption | rfl) ?_)
  | ((with_reducible show L2.rIxT _ _ _ _ _); first
      | refine TB.z_ixT (SqT.of L2.upd_same) rfl ?_
      | refine TB.z_ixT (SqT.of (by assumption)) rfl ?_
      | refine TB.z_ixT (by first | assumption | apply_assumption) (by first | assumption | rfl) ?_)
  | ((with_reducible show L2.rSetL _ _ _ _ _); refine TB.z_setU rfl ?_)
  | with_reducible refine TB.z_lcR ?_
  | with_reducible refine TB.z_m1 ?_
  | with_reducible refine TB.z_lcL ?_
  | with_reducible refine TB.z_bm ?_
  | with_reducible refine TB.z_bm0 ?_)
local macro_rules | `(tactic| walk_at "q") => `(tactic| repeat walk_at "q1")
local macro_rules | `(tactic| walk_at "qq") => `(tactic| repeat' (first
  | walk_at "q1"
  | with_reducible refine TB.z_ite (fun hq => ?_) (fun hq => ?_)
  | with_reducible refine TB.z_iteN (fun hq => ?_) (fun hq => ?_)
  | with_reducible refine TB.z_iteB (fun hq => ?_) (fun hq => ?_)))

theorem sc__law_string : FnScope ["draw", "most", "letters", "turn"] ["draw", "most"] (defScope s__law_string) := ⟨rfl, rfl, rfl, by decide +kernel, rfl, by decide +kernel, by decide +kernel⟩

theorem sc__law_thing : FnScope ["draw", "depth", "kind", "found", "turn"] ["draw", "depth"] (defScope s__law_thing) := ⟨rfl, rfl, rfl, by decide +kernel, rfl, by decide +kernel, by decide +kernel⟩

section
variable {P : Program} {w : World} {K : PySem.W.Frag} {mg : Str → Option Value} {base : Heap}
def spString (K : PySem.W.Frag) : Sp := fun vs H Q _ => ∃ (a : Addr) (most : Int) (G : Hp), vs = [.ref a, .int most] ∧ 0 ≤ most ∧ most ≤ 1000 ∧ Dr K G H a ∧
  ∀ (l : List Nat) H', (l.length : Int) ≤ most → (∀ c ∈ l, c < 128) → Dr K G H' a → SB a H H' → Q (.str (S l)) H'
theorem ok_string (D : Df K mg "_law_string" s__law_string ["draw", "most"]) (D_law_pick : Df K mg "_law_pick" s__law_pick ["draw", "many"]) (D_law_mix : Df K mg "_law_mix" s__law_mix ["cell", "turn"]) (B : Bi mg) :
    FnOk P w K mg base CX0 3 D.f D.fd ["draw", "most"] (spString K) := by
  have G_law_pick : FnOk P w K mg base CX0 2 D_law_pick.f D_law_pick.fd ["draw", "many"] (spPick K) := ok_pick D_law_pick D_law_mix B
  refine D.F.ok sc__law_string (fun vs H Q E h => ?_) (fun cdv A outer s H vs Q E hr h => ?_)
  · obtain ⟨_, _, _, rfl, _⟩ := h
    rfl
  · obtain ⟨a, most, G, rfl, hm0, hm1, hd, q⟩ := h
    refine ⟨_, (pss_cons (ps_set (i := 2) sc__law_string.nd rfl (Or.inr rfl) pe_str)
 (pss_one (ps_ret (pe_joinN pe_str (pe_lc (own := [("turn", 3)]) rfl sc__law_string.nd (pi_range1 (by rfl) B.range (pa_cons (pe_call G_law_pick hr (by rfl) D_law_pick.g D_law_pick.F.kp D_law_pick.b .nil pass0 (pa_cons (pv 0) (pa_cons (pe_op op_add (pv 1) pe_int) pa_nil))) pa_nil)) (blkOk_by (own := [("turn", 3)]) (N := ["draw", "most", "letters", "turn"]) (sc := defScope s__law_string) (by decide +kernel)) (fun _ _ _ _ _ => (pg_name (i := 3) sc__law_string.nd rfl (Or.inl rfl))) (fun _ _ _ _ _ => pts_nil) (fun _ _ _ _ _ => (pe_ix ix_str (pv 2) (pe_call G_law_pick hr (by rfl) D_law_pick.g D_law_pick.F.kp D_law_pick.b .nil pass0 (pa_cons (pv 0) (pa_cons (pe_callB c_lenS (by rfl) B.len (by decide +kernel) (pa_cons (pv 2) pa_nil)) pa_nil))) (fun _ _ => rfl)))))))), ?_⟩
    dsimp only [L2.cxOf, L2.Cx.nox, L2.Cx.wish]
    walk_at "q"
    refine ⟨a, most + 1, G, rfl, by omega, hd, fun o r d1 r0 r1 => ?_⟩
    walk_at "q"
    refine z_kRng (by omega) (by omega) (fun x => rfl) (fun C hC => ?_)
    have gC : G C = none := d1.same.free hC
    have nC : C ≠ a := d1.new_ne hC
    refine ⟨fun i H' => ∃ l : List Nat, l.length = i ∧ (∀ c ∈ l, c < 128) ∧ Dr K G H' a ∧ SB a (upd H a o) H' ∧ H' C = some (.lst (l.map fun c => V.str (S [c]))), ?_, ?_, ?_⟩
    · exact ⟨[], rfl, fun c hc => absurd hc (by simp), d1.other gC nC, (SB.refl _ _).newO hC, upd_same⟩
    · rintro i H' hi ⟨l, hl, hc, d2, sb, hD⟩
      unfold Turn1
      walk_at "q"
      refine ⟨a, 26, G, rfl, by decide, d2, fun o2 r2 d3 r20 r21 => ?_⟩
      obtain ⟨n2, rfl⟩ := Int.eq_ofNat_of_zero_le r20
      have hn2 : n2 < 26 := by omega
      obtain ⟨c, hat, hcc⟩ : ∃ c, atI (S [97, 98, 99, 120, 121, 122, 65, 66, 67, 88, 89, 90, 46, 48, 49, 56, 57, 32, 45, 126, 35, 63, 124, 40, 41, 44]).cps.toList (n2 : Int) = some c ∧ c < 128 := by
        have all : ∀ k, k < 26 → ∃ c, ([97, 98, 99, 120, 121, 122, 65, 66, 67, 88, 89, 90, 46, 48, 49, 56, 57, 32, 45, 126, 35, 63, 124, 40, 41, 44] : List Nat)[k]? = some c ∧ c < 128 := by
          intro k hk
          have h1 : k < ([97, 98, 99, 120, 121, 122, 65, 66, 67, 88, 89, 90, 46, 48, 49, 56, 57, 32, 45, 126, 35, 63, 124, 40, 41, 44] : List Nat).length := hk
          exact ⟨_, List.getElem?_eq_getElem h1, (by decide : ∀ c ∈ ([97, 98, 99, 120, 121, 122, 65, 66, 67, 88, 89, 90, 46, 48, 49, 56, 57, 32, 45, 126, 35, 63, 124, 40, 41, 44] : List Nat), c < 128) _ (List.getElem_mem h1)⟩
        obtain ⟨c, h1, h2⟩ := all n2 hn2
        exact ⟨c, atI_nat h1, h2⟩
      refine z_ixS (by show 26 ≤ sizeLine; decide) hat ?_
      have hD3 : (upd H' a o2) C = some (.lst (l.map fun c => V.str (S [c]))) := by
        rw [upd_ne nC]
        exact hD
      refine ⟨_, hD3, by rw [List.length_map, sizeLine_eq]; omega, l ++ [c], by simp [hl], ?_, d3.other gC nC, sb.own.newO hC, ?_⟩
      · intro c' hcm
        rcases List.mem_append.mp hcm with h1 | h1
        · exact hc c' h1
        · rw [List.mem_singleton.mp h1]
          exact hcc
      · rw [upd_same, List.map_append]
        rfl
    · rintro H' ⟨l, hl, hc, d2, sb, hD⟩
      refine z_joinS (SqL.of hD) (by omega) ?_
      exact q l H' (by omega) hc d2 (SB.put.trans sb)
/-- a drawn thing of a depth -/
def spThing (K : PySem.W.Frag) (n : Nat) : Sp := fun vs H Q _ => ∃ (a : Addr) (G : Hp), vs = [.ref a, .int n] ∧ Dr K G H a ∧
  ∀ v d G' H', Dr K G' H' a → Gr a G H G' H' → Dp K G' v d → Small n d → Q v H'
def spPrev (K : PySem.W.Frag) : Nat → Sp
  | 0 => fun _ _ _ _ => False
  | n + 1 => spThing K n
theorem ok_thing1 (D_law_thing : Df K mg "_law_thing" s__law_thing ["draw", "depth"]) (D_law_string : Df K mg "_law_string" s__law_string ["draw", "most"]) (D_law_pick : Df K mg "_law_pick" s__law_pick ["draw", "many"]) (D_law_mix : Df K mg "_law_mix" s__law_mix ["cell", "turn"]) (B : Bi mg)
    (n : Nat) (hn : n ≤ 3) (G_law_thing : FnOk P w K mg base CX0 (n + 3) D_law_thing.f D_law_thing.fd ["draw", "depth"] (spPrev K n)) : FnOk P w K mg base CX0 (n + 4) D_law_thing.f D_law_thing.fd ["draw", "depth"] (spThing K n) := by
  have G_law_pick : FnOk P w K mg base CX0 (n + 3) D_law_pick.f D_law_pick.fd ["draw", "many"] (spPick K) := (ok_pick D_law_pick D_law_mix B).mono (by omega)
  have G_law_string : FnOk P w K mg base CX0 (n + 3) D_law_string.f D_law_string.fd ["draw", "most"] (spString K) := (ok_string D_law_string D_law_pick D_law_mix B).mono (by omega)
  refine D_law_thing.F.ok sc__law_thing (fun vs H Q E h => ?_) (fun cdv A outer s H vs Q E hr h => ?_)
  · obtain ⟨_, _, rfl, _⟩ := h
    rfl
  · obtain ⟨a, G, rfl, hd, q⟩ := h
    refine ⟨_, (pss_cons (ps_set (i := 2) sc__law_thing.nd rfl (Or.inl rfl) (pe_call G_law_pick hr (by rfl) D_law_pick.g D_law_pick.F.kp D_law_pick.b .nil pass0 (pa_cons (pv 0) (pa_cons pe_int pa_nil))))
 (pss_cons (ps_if (PW.pt (pw_or (pt_cmpR o_lt (pv 2) pe_int (nomark _)) (pw_or1 (PW.pt (pw_and (pt_cmpR o_gt (pv 2) pe_int (nomark _)) (pw_and1 (pt_cmpR op_eq (pv 1) pe_int (nomark _)))))))) (pss_one (ps_ret (pe_op op_sub (pe_call G_law_pick hr (by rfl) D_law_pick.g D_law_pick.F.kp D_law_pick.b .nil pass0 (pa_cons (pv 0) (pa_cons pe_int pa_nil))) pe_int))) pss_nil)
 (pss_cons (ps_if (pt_cmpR op_eq (pv 2) pe_int (nomark _)) (pss_one (ps_ret (pe_op op_mul (pe_ix ix_list (pe_lst (pa_cons pe_int (pa_cons (pe_un un_neg pe_int) pa_nil))) (pe_call G_law_pick hr (by rfl) D_law_pick.g D_law_pick.F.kp D_law_pick.b .nil pass0 (pa_cons (pv 0) (pa_cons pe_int pa_nil))) (fun _ _ => rfl)) (pe_callTy c_intS (by rfl) B.int (by decide +kernel) (pa_cons (pe_op o_addS (pe_op op_repS pe_str (pe_op op_add pe_int (pe_call G_law_pick hr (by rfl) D_law_pick.g D_law_pick.F.kp D_law_pick.b .nil pass0 (pa_cons (pv 0) (pa_cons pe_int pa_nil))))) (pe_callTy c_strI (by rfl) B.str (by decide +kernel) (pa_cons (pe_call G_law_pick hr (by rfl) D_law_pick.g D_law_pick.F.kp D_law_pick.b .nil pass0 (pa_cons (pv 0) (pa_cons pe_int pa_nil))) pa_nil))) pa_nil))))) pss_nil)
 (pss_cons (ps_if (pt_cmpR op_eq (pv 2) pe_int (nomark _)) (pss_one (ps_ret (pe_call G_law_string hr (by rfl) D_law_string.g D_law_string.F.kp D_law_string.b .nil pass0 (pa_cons (pv 0) (pa_cons pe_int pa_nil))))) pss_nil)
 (pss_cons (ps_if (pt_cmpR op_eq (pv 2) pe_int (nomark _)) (pss_one (ps_ret (pe_cmpR op_eq (pe_call G_law_pick hr (by rfl) D_law_pick.g D_law_pick.F.kp D_law_pick.b .nil pass0 (pa_cons (pv 0) (pa_cons pe_int pa_nil))) pe_int (nomark _)))) pss_nil)
 (pss_cons (ps_if (pt_cmpR op_eq (pv 2) pe_int (nomark _)) (pss_one (ps_ret pe_non)) pss_nil)
 (pss_cons (ps_setLc (i := 3) (own := [("turn", 4)]) rfl sc__law_thing.nd rfl rfl (sw_true rfl rfl rfl (by decide +kernel)) (pi_range1 (by rfl) B.range (pa_cons (pe_call G_law_pick hr (by rfl) D_law_pick.g D_law_pick.F.kp D_law_pick.b .nil pass0 (pa_cons (pv 0) (pa_cons pe_int pa_nil))) pa_nil)) (blkOk_by (own := [("turn", 4)]) (N := ["draw", "depth", "kind", "found", "turn"]) (sc := defScope s__law_thing) (by decide +kernel)) (fun _ _ _ _ _ => (pg_name (i := 4) sc__law_thing.nd rfl (Or.inl rfl))) (fun _ _ _ _ _ => pts_nil) (fun _ _ _ _ _ => (pe_call G_law_thing hr (by rfl) D_law_thing.g D_law_thing.F.kp D_law_thing.b .nil pass0 (pa_cons (pv 0) (pa_cons (pe_op op_sub (pv 1) pe_int) pa_nil)))))
 (pss_cons (ps_if (pt_cmpR op_eq (pv 2) pe_int (nomark _)) (pss_one (ps_ret (pe_callTy c_tupOf (by rfl) B.tuple (by decide +kernel) (pa_cons (pv 3) pa_nil)))) pss_nil)
 (pss_one (ps_ret (pv 3))))))))))), ?_⟩
    dsimp only [L2.cxOf, L2.Cx.nox, L2.Cx.wish]
    walk_at "q"
    refine ⟨a, 8, G, rfl, by decide, hd, fun o r d1 r0 r1 => ?_⟩
    -- a value without an object of its own
    have flat : ∀ (v : V) (d : PyData) (H' : Hp), Dr K G H' a → SB a H H' → Dp K G v d → Small 0 d → Q v H' := fun v d H' dd sb hp hs => q v d G H' dd ⟨.refl _, sb, fun _ h => .inl h⟩ hp (small_mono hs (Nat.zero_le _))
    walk_at "qq"
    all_goals try (exfalso; omega)
    all_goals first
      | (refine ⟨a, 201, G, rfl, by decide, d1, fun o2 r2 d2 s0 s1 => ?_⟩
         walk_at "q"
         exact flat _ _ _ d2 (SB.put.trans SB.put) (.int _) (small_int 0 (by omega)))
      | (refine ⟨a, 11, G, rfl, by decide, by decide, d1, fun l H' hl hc d2 sb => ?_⟩
         exact flat _ _ _ d2 (SB.put.trans sb) (.str _) (small_str 0 (by omega) hc))
      | (refine ⟨a, 2, G, rfl, by decide, d1, fun o2 r2 d2 s0 s1 => ?_⟩
         walk_at "q"
         exact flat _ _ _ d2 (SB.put.trans SB.put) (.bl _) (small_bool 0 _))
      | exact flat _ _ _ d1 SB.put .non (small_none 0)
      | skip
    all_goals first
      | (refine ⟨by show 2 ≤ sizeLine; decide, fun p hp => ?_⟩
         have np : p ≠ a := d1.new_ne hp
         have gp : G p = none := d1.same.free hp
         walk_at "q"
         refine ⟨a, 2, G, rfl, by decide, d1.other gp np, fun o2 r2 d2 s0 s1 => ?_⟩
         have hP : ∀ o3, (upd (upd (upd H a o) p (.lst [.int 1, .int (-1)])) a o3) p = some (.lst [.int 1, .int (-1)]) := fun o3 => by
           rw [upd_ne np]
           exact upd_same
         have sb2 : SB a H (upd (upd (upd H a o) p (.lst [.int 1, .int (-1)])) a o2) := fun b u nb hb => by
           rw [upd_ne nb, upd_ne (ne_of_none (by rw [upd_ne nb]; exact hb) hp), upd_ne nb]
           exact hb
         obtain ⟨e, he, hat⟩ : ∃ e : Int, (e = 1 ∨ e = -1) ∧ atI [V.int 1, V.int (-1)] r2 = some (.int e) := by
           have : r2 = 0 ∨ r2 = 1 := by omega
           rcases this with rfl | rfl
           · exact ⟨1, .inl rfl, rfl⟩
           · exact ⟨-1, .inr rfl, rfl⟩
         refine z_ixL (SqL.of (hP _)) hat ?_
         walk_at "q"
         refine ⟨a, 39, G, rfl, by decide, d2, fun o3 r3 d3 t0 t1 => ?_⟩
         walk_at "q"
         refine ⟨57, _, rfl, rfl, by omega, by omega, ?_⟩
         walk_at "q"
         refine ⟨a, 10, G, rfl, by decide, d3, fun o4 r4 d4 u0 u1 => ?_⟩
         walk_at "q"
         obtain ⟨c4, hc0, hc1, hc⟩ : ∃ c : Nat, 48 ≤ c ∧ c ≤ 57 ∧ Str.ofString (toString r4) = S [c] := by
           have : r4 = 0 ∨ r4 = 1 ∨ r4 = 2 ∨ r4 = 3 ∨ r4 = 4 ∨ r4 = 5 ∨ r4 = 6 ∨ r4 = 7 ∨ r4 = 8 ∨ r4 = 9 := by omega
           rcases this with rfl | rfl | rfl | rfl | rfl | rfl | rfl | rfl | rfl | rfl
           · exact ⟨48, by decide, by decide, by decide +kernel⟩
           · exact ⟨49, by decide, by decide, by decide +kernel⟩
           · exact ⟨50, by decide, by decide, by decide +kernel⟩
           · exact ⟨51, by decide, by decide, by decide +kernel⟩
           · exact ⟨52, by decide, by decide, by decide +kernel⟩
           · exact ⟨53, by decide, by decide, by decide +kernel⟩
           · exact ⟨54, by decide, by decide, by decide +kernel⟩
           · exact ⟨55, by decide, by decide, by decide +kernel⟩
           · exact ⟨56, by decide, by decide, by decide +kernel⟩
           · exact ⟨57, by decide, by decide, by decide +kernel⟩
         refine ⟨_, rfl, log2_of_lt (k := 1920) (Nat.lt_of_lt_of_le (show r4.natAbs < 2 ^ 10 by omega) (Nat.pow_le_pow_right (by decide) (by decide))) (by decide), ?_⟩
         rw [hc]
         have hlen : (List.replicate (1 + r3).toNat 57).length ≤ 40 := by
           rw [List.length_replicate]
           omega
         have hall : ∀ c ∈ List.replicate (1 + r3).toNat 57 ++ [c4], 48 ≤ c ∧ c ≤ 57 := fun c hcm => by
           rcases List.mem_append.mp hcm with h1 | h1
           · rw [List.eq_of_mem_replicate h1]
             decide
           · rw [List.mem_singleton.mp h1]
             exact ⟨hc0, hc1⟩
         refine ⟨_, _, rfl, rfl, by rw [S_len, S_len, sizeLine_eq]; show _ + 1 ≤ _; omega, ?_⟩
         rw [S_cat]
         walk_at "q"
         refine ⟨_, _, rfl, SX.int_S (by
           rw [List.all_eq_true]
           intro c hcm
           obtain ⟨z1, z2⟩ := hall c hcm
           rw [decide_eq_true z1, decide_eq_true z2]
           rfl) (by simp) (by rw [List.length_append]; show _ + 1 ≤ _; omega), by rw [S_len, List.length_append]; show _ + 1 ≤ _; omega, ?_⟩
         refine z_I (.inl (by rcases he with rfl | rfl <;> decide)) ?_
         refine flat _ _ _ d4 ((sb2.trans SB.put).trans SB.put) (.int _) (small_int 0 ?_)
         have hv := digits_lt (List.replicate (1 + r3).toNat 57 ++ [c4]) 0 hall
         rw [List.length_append, List.length_singleton] at hv
         have h41 : (0 + 1) * 10 ^ ((List.replicate (1 + r3).toNat 57).length + 1) ≤ 1 * 10 ^ 41 := Nat.mul_le_mul_left _ (Nat.pow_le_pow_right (by decide) (by omega))
         have hb : (10 : Nat) ^ 41 < 2 ^ 150 := by decide
         have hv2 : NumText.digitsVal (List.replicate (1 + r3).toNat 57 ++ [c4]) < 10 ^ 41 := Nat.lt_of_lt_of_le hv (by omega)
         generalize NumText.digitsVal (List.replicate (1 + r3).toNat 57 ++ [c4]) = dv at hv2
         rw [Int.natAbs_mul]
         have e1 : e.natAbs = 1 := by rcases he with rfl | rfl <;> rfl
         rw [e1, Nat.one_mul, Int.natAbs_natCast]
         omega)
      | skip
    -- a list of three at most
    refine ⟨a, 4, G, rfl, by decide, d1, fun o2 r2 d2 s0 s1 => ?_⟩
    walk_at "q"
    obtain ⟨m, rfl⟩ : ∃ m, n = m + 1 := ⟨n - 1, by omega⟩
    refine z_kRng (by omega) (by omega) (fun x => rfl) (fun C hC => ?_)
    have sb0 : SB a H (upd (upd H a o) a o2) := SB.put.trans SB.put
    refine ⟨fun i H' => ∃ (zs : List V) (ds : List PyData) (G1 : Hp), zs.length = i ∧ Dr K G1 H' a ∧ Gr a G (upd (upd H a o) a o2) G1 H' ∧ G1 C = none ∧ H' C = some (.lst zs) ∧ DpAll K G1 zs ds ∧ ∀ d ∈ ds, Small m d, ?_, ?_, ?_⟩
    · exact ⟨[], [], G, rfl, d2.other (d2.same.free hC) (d2.new_ne hC), ⟨.refl _, (SB.refl _ _).newO hC, fun _ h => .inl h⟩, d2.same.free hC, upd_same, .nil, fun d hd => absurd hd (by simp)⟩
    · rintro i H' hi ⟨zs, ds, G1, hl, d3, gr, gC, hD, hp, hs⟩
      unfold Turn1
      walk_at "q"
      refine ⟨a, G1, by show [V.ref a, V.int (((m + 1 : Nat) : Int) - 1)] ++ [] = _; rw [show (((m + 1 : Nat) : Int) - 1) = (m : Int) by omega]; rfl, d3, fun v d G2 H2 d4 gr2 hp2 hs2 => ?_⟩
      have hCa : C ≠ a := d2.new_ne hC
      have hD2 : H2 C = some (.lst zs) := gr2.sb C _ hCa hD
      have gC2 : G2 C = none := by
        cases q2 : G2 C with
        | none => rfl
        | some u =>
          rcases gr2.new C (by rw [q2]; intro z; cases z) with z | z
          · exact absurd gC z
          · rw [hD] at z
            cases z
      have gr3 := gr.trans gr2 d3.ne
      exact ⟨zs, hD2, by rw [sizeLine_eq]; omega, zs ++ [v], ds ++ [d], G2, by simp [hl], d4.other gC2 hCa, ⟨gr3.gs, gr3.sb.newO hC, gr3.new⟩, gC2, upd_same, dpAll_snoc hp2 (dpAll_same gr2.gs hp), fun x hx => by
        rcases List.mem_append.mp hx with h1 | h1
        · exact hs x h1
        · rw [List.mem_singleton.mp h1]
          exact hs2⟩
    · rintro H' ⟨zs, ds, G1, hl, d3, gr, gC, hD, hp, hs⟩
      have hCa : C ≠ a := d2.new_ne hC
      have hCH : H C = none := sb0.free' hCa hC
      have hl2 : ds.length ≤ 4 := by
        have := dpAll_len hp
        omega
      walk_at "qq"
      · refine ⟨C, zs, rfl, .inl ⟨SqL.of hD, fun p hpn => ?_⟩⟩
        have gp : G1 p = none := d3.same.free hpn
        have npa : p ≠ a := d3.new_ne hpn
        refine q _ (.tuple ds) (upd G1 p (.tup zs)) _ ((d3.other gp npa).told (told_same gp) (same_told (same_upd d3.same gp) upd_same) (by rw [upd_ne (Ne.symm npa)]; exact d3.out)) ⟨gr.gs.trans (told_same gp), sb0.trans (gr.sb.newO (gr.sb.free' npa hpn)), fun b hb => ?_⟩ (.tup (SqT.of upd_same) (dpAll_same (told_same gp) hp)) (small_tup hs hl2)
        by_cases e : b = p
        · exact .inr (sb0.free' (e ▸ npa) (gr.sb.free' (e ▸ npa) (e ▸ hpn)))
        · rw [upd_ne e] at hb
          exact (gr.new b hb).imp id fun z => by
            by_cases eb : b = a
            · subst eb
              exact absurd z d2.ne
            · exact sb0.free' eb z
      · refine q _ (.list ds) (upd G1 C (.lst zs)) _ (d3.told (told_same gC) (same_told d3.same hD) (by rw [upd_ne (Ne.symm hCa)]; exact d3.out)) ⟨gr.gs.trans (told_same gC), sb0.trans gr.sb, fun b hb => ?_⟩ (.lst (SqL.of upd_same) (dpAll_same (told_same gC) hp)) (small_list hs hl2)
        by_cases e : b = C
        · exact .inr (e ▸ hCH)
        · rw [upd_ne e] at hb
          exact (gr.new b hb).imp id fun z => by
            by_cases eb : b = a
            · subst eb
              exact absurd z d2.ne
            · exact sb0.free' eb z
theorem ok_thing (D : Df K mg "_law_thing" s__law_thing ["draw", "depth"]) (D_law_string : Df K mg "_law_string" s__law_string ["draw", "most"]) (D_law_pick : Df K mg "_law_pick" s__law_pick ["draw", "many"]) (D_law_mix : Df K mg "_law_mix" s__law_mix ["cell", "turn"]) (B : Bi mg) :
    ∀ n : Nat, n ≤ 3 → FnOk P w K mg base CX0 (n + 4) D.f D.fd ["draw", "depth"] (spThing K n) := by
  intro n
  induction n with
  | zero => exact fun _ => ok_thing1 D D_law_string D_law_pick D_law_mix B 0 (by omega) ⟨fun _ _ _ _ h => h.elim, fun _ _ _ _ _ _ _ _ _ _ _ _ _ h => h.elim⟩
  | succ n ih => exact fun hn => ok_thing1 D D_law_string D_law_pick D_law_mix B (n + 1) hn (ih (by omega))
end
end K6
set_option maxHeartbeats 8000000
namespace K6
open PySem PySem.Spec PyProof.Rows L2 TB
open SX (S S_len S_cat)
local macro_rules | `(tactic| walk_at "side") => `(tactic| first
  | (focus exact Or.inr ⟨by decide, by decide⟩)
  | (focus exact TB.cmul_mod (by decide) (by decide))
  | (focus exact Or.inl ⟨by decide, by decide⟩)
  | (focus exact ⟨by decide, by decide⟩)
  | (focus exact ⟨by decide, by decide +kernel⟩)
  | (focus (show (0 : Int) < _; first | decide | omega | assumption))
  | (focus assumption)
  | (focus exact ⟨by omega, by omega⟩)
  | (focus (show (_ : Nat) ≤ sizeLine; rw [sizeLine_eq]; first | decide | omega))
  | (focus (show (_ : Nat) < sizeLine; rw [sizeLine_eq]; first | decide | omega))
  | rotate_left)
local macro_rules | `(tactic| walk_at "q1") => `(tactic| first
  | with_reducible refine TB.z_seq ?_
  | with_reducible refine TB.z_asg ?_
  | with_reducible refine TB.z_drop ?_
  | with_reducible refine TB.z_ret ?_
  | with_reducible refine TB.z_retN ?_
  | with_reducible refine TB.z_next ?_
  | with_reducible refine TB.z_brk ?_
  | with_reducible refine TB.z_cont ?_
  | with_reducible refine TB.z_if ?_
  | with_reducible refine TB.z_name ?_
  | with_reducible refine TB.z_sub ?_
  | ((with_reducible show L2.tVar _ _ _ _); refine TB.z_var rfl ?_)
  | with_reducible refine TB.z_c ?_
  | with_reducible refine TB.z_op ?_
  | with_reducible refine TB.z_un ?_
  | with_reducible refine TB.z_lt ?_
  | with_reducible refine TB.z_le ?_
  | with_reducible refine TB.z_gt ?_
  | with_reducible refine TB.z_ge ?_
  | with_reducible refine TB.z_eqI ?_
  | with_reducible refine TB.z_neI ?_
  | with_reducible refine TB.z_eqS ?_
  | with_reducible refine TB.z_neS ?_
  | with_reducible refine TB.z_I0 ?_
  | ((with_reducible refine TB.z_I ?_ ?_); walk_at "side")
  | with_reducible refine TB.z_U ?_
  | with_reducible refine TB.z_test ?_
  | with_reducible refine TB.z_tB ?_
  | with_reducible refine TB.z_bl ?_
  | with_reducible refine TB.z_and ?_
  | with_reducible refine TB.z_or ?_
  | with_reducible refine TB.z_not ?_
  | with_reducible refine TB.z_notV ?_
  | with_reducible refine TB.z_andV ?_
  | with_reducible refine TB.z_orV ?_
  | with_reducible refine TB.z_ifE ?_
  | with_reducible refine TB.z_iteT ?_
  | with_reducible refine TB.z_iteF ?_
  | with_reducible refine TB.z_cb ?_
  | with_reducible refine TB.z_call ?_
  | with_reducible refine TB.z_nil ?_
  | with_reducible refine TB.z_cons ?_
  | with_reducible refine TB.z_tup ?_
  | with_reducible refine TB.z_lst ?_
  | with_reducible refine TB.z_rInt ?_
  | with_reducible refine TB.z_rAbs ?_
  | ((with_reducible refine TB.z_rLenS ?_ ?_); walk_at "side")
  | ((with_reducible show TB.rLen _ _ _ _); first
      | refine TB.z_rLen (Or.inl (SqL.of L2.upd_same)) ?_
      | refine TB.z_rLen (Or.inl (SqL.of (by assumption))) ?_
      | refine TB.z_rLen (Or.inr (SqT.of (by assumption))) ?_
      | refine TB.z_rLen (Or.inl (by first | assumption | apply_assumption)) ?_
      | refine TB.z_rLen (Or.inr (by first | assumption | apply_assumption)) ?_)
  | ((with_reducible show L2.rIxL _ _ _ _ _); first
      | refine TB.z_ixL (SqL.of L2.upd_same) rfl ?_
      | refine TB.z_ixL (SqL.of (by assumption)) rfl ?_
      | refine TB.z_ixL (by first | assumption | apply_assumption) (by first | assumption | rfl) ?_)
  | ((with_reducible show L2.rIxT _ _ _ _ _); first
      | refine TB.z_ixT (SqT.of L2.upd_same) rfl ?_
      | refine TB.z_ixT (SqT.of (by assumption)) rfl ?_
      | refine TB.z_ixT (by first | assumption | apply_assumption) (by first | assumption | rfl) ?_)
  | ((with_reducible show L2.rSetL _ _ _ _ _); refine TB.z_setU rfl ?_)
  | with_reducible refine TB.z_lcR ?_
  | with_reducible refine TB.z_m1 ?_
  | with_reducible refine TB.z_lcL ?_
  | with_reducible refine TB.z_bm ?_
  | with_reducible refine TB.z_bm0 ?_)
local macro_rules | `(tactic| walk_at "q") => `(tactic| repeat walk_at "q1")
local macro_rules | `(tactic| walk_at "qq") => `(tactic| repeat' (first
  | walk_at "q1"
  | with_reducible refine TB.z_ite (fun hq => ?_) (fun hq => ?_)
  | with_reducible refine TB.z_iteN (fun hq => ?_) (fun hq => ?_)
  | with_reducible refine TB.z_iteB (fun hq => ?_) (fun hq => ?_)))

theorem sc__law_flags : FnScope ["made", "found"] ["made"] (defScope s__law_flags) := ⟨rfl, rfl, rfl, by decide +kernel, rfl, by decide +kernel, by decide +kernel⟩

/-- the error classes of the text, in the order of the flags -/
structure AllEx (P : Program) (w : World) (K : PySem.W.Frag) (mg : Str → Option Value) (base : Heap) where
  x0 : Ex1 P w K mg base "BadWords" "words"
  x1 : Ex1 P w K mg base "BadStanding" "number"
  x2 : Ex1 P w K mg base "BadKind" "number"
  x3 : Ex1 P w K mg base "BadSpace" "space"
  x4 : Ex1 P w K mg base "BadSeat" "number"
  x5 : Ex1 P w K mg base "BadColumn" "number"
  x6 : Ex1 P w K mg base "BadCalling" "number"
  x7 : Ex1 P w K mg base "BadBeats" "beats"
  x8 : Ex1 P w K mg base "BadWish" "wish"
  x9 : Ex1 P w K mg base "BadPlan" "number"
  x10 : Ex1 P w K mg base "BadSign" "sign"
  x11 : Ex1 P w K mg base "BadText" "at"
  x12 : Ex2 P w K mg base "BadLine" "line" "word"
  x13 : Ex1 P w K mg base "BadLeast" "least"
  x14 : Ex1 P w K mg base "BadWait" "wait"
  x15 : Ex1 P w K mg base "BadGoal" "number"
  x16 : Ex1 P w K mg base "BadFile" "word"
  x17 : Ex1 P w K mg base "BadNumber" "number"
  x18 : Ex1 P w K mg base "BadStatement" "number"
  x19 : Ex1 P w K mg base "BadValue" "name"
  x20 : Ex1 P w K mg base "BadDelay" "delay"
  x21 : Ex1 P w K mg base "BadPlaces" "places"
  x22 : Ex1 P w K mg base "BadWay" "number"
  x23 : Ex1 P w K mg base "BadRule" "number"
  x24 : Ex1 P w K mg base "BadNames" "names"
  x25 : Ex1 P w K mg base "BadTable" "number"
  x26 : Ex1 P w K mg base "BadDelays" "delays"
  x27 : Ex1 P w K mg base "BadFirst" "first"
  x28 : Ex1 P w K mg base "BadStream" "number"
  x29 : Ex1 P w K mg base "BadChain" "number"
  x30 : Ex1 P w K mg base "BadMost" "most"
  x31 : Ex1 P w K mg base "BadBands" "bands"
  x32 : Ex1 P w K mg base "BadSlow" "slow"
  x33 : Ex1 P w K mg base "BadCycle" "cycle"
  x34 : Ex1 P w K mg base "BadEar" "ear"
  x35 : Ex1 P w K mg base "BadRelay" "relay"
  x36 : Ex1 P w K mg base "BadWithin" "within"
  x37 : Ex1 P w K mg base "BadLooks" "number"
  x38 : Ex1 P w K mg base "BadSeen" "word"
  x39 : Ex1 P w K mg base "BadSight" "number"
  x40 : Ex1 P w K mg base "BadSample" "number"
  x41 : Ex1 P w K mg base "BadName" "name"
  x42 : Ex1 P w K mg base "TooMany" "word"
  x43 : Ex1 P w K mg base "TooLong" "number"
  x44 : Ex1 P w K mg base "Twice" "name"
  x45 : Ex1 P w K mg base "Unknown" "name"
  x46 : Ex1 P w K mg base "Unlike" "word"
  x47 : Ex0 K mg "Empty"
  x48 : Ex1 P w K mg base "NoStanding" "standing"
  x49 : Ex1 P w K mg base "NoBetween" "between"
  x50 : Ex1 P w K mg base "NoLength" "length"
  x51 : Ex1 P w K mg base "NoNode" "node"
  x52 : Ex2 P w K mg base "NoSeat" "ahead" "behind"
  x53 : Ex1 P w K mg base "NotSteady" "name"
  x54 : Ex1 P w K mg base "HasAnswer" "number"
  x55 : Ex1 P w K mg base "HasVariable" "name"
  x56 : Ex1 P w K mg base "Nested" "name"
  x57 : Ex1 P w K mg base "Torn" "line"
  tail : Addr
  gT : mg "TailError" = some (.ref tail)
section
variable {P : Program} {w : World} {K : PySem.W.Frag} {mg : Str → Option Value} {base : Heap}
def AllEx.cs (E : AllEx P w K mg base) : List Addr := [E.x0.C, E.x1.C, E.x2.C, E.x3.C, E.x4.C, E.x5.C, E.x6.C, E.x7.C, E.x8.C, E.x9.C, E.x10.C, E.x11.C, E.x12.C, E.x13.C, E.x14.C, E.x15.C, E.x16.C, E.x17.C, E.x18.C, E.x19.C, E.x20.C, E.x21.C, E.x22.C, E.x23.C, E.x24.C, E.x25.C, E.x26.C, E.x27.C, E.x28.C, E.x29.C, E.x30.C, E.x31.C, E.x32.C, E.x33.C, E.x34.C, E.x35.C, E.x36.C, E.x37.C, E.x38.C, E.x39.C, E.x40.C, E.x41.C, E.x42.C, E.x43.C, E.x44.C, E.x45.C, E.x46.C, E.x47.C, E.x48.C, E.x49.C, E.x50.C, E.x51.C, E.x52.C, E.x53.C, E.x54.C, E.x55.C, E.x56.C, E.x57.C]
def flagsL (i : Nat) : List V := (flagsB 58 i).map V.bl
def spFlags (K : PySem.W.Frag) (cs : List Addr) : Sp := fun vs H Q _ => ∃ (a c : Addr) (i : Nat), vs = [.ref a] ∧ cs[i]? = some c ∧ IsE H a c ∧ ∀ p H', Same H H' → H' p = some (.lst (flagsL i)) → Q (.ref p) H'
theorem ok_flags (D : Df K mg "_law_flags" s__law_flags ["made"]) (B : Bi mg) (E : AllEx P w K mg base) (k : KitOk K E.cs E.tail) : FnOk P w K mg base CX0 2 D.f D.fd ["made"] (spFlags K E.cs) := by
  refine D.F.ok sc__law_flags (fun vs H Q E h => ?_) (fun cdv A outer s H vs Q E' hr h => ?_)
  · obtain ⟨_, _, _, rfl, _⟩ := h
    rfl
  · obtain ⟨a, c, i, rfl, hi, he, q⟩ := h
    have xc := k.exc i c hi
    refine ⟨_, (Evl.pss_cut (ps_set (i := 1) sc__law_flags.nd rfl (Or.inl rfl) (pe_lst (pa_cons (pe_callB c_isV (by rfl) B.isinstance (by decide +kernel) (pa_cons (pv 0) (pa_cons (pe_glob (v := .ref E.x0.C) (by rfl) E.x0.g rfl) pa_nil))) (pa_cons (pe_callB c_isV (by rfl) B.isinstance (by decide +kernel) (pa_cons (pv 0) (pa_cons (pe_glob (v := .ref E.x1.C) (by rfl) E.x1.g rfl) pa_nil))) (pa_cons (pe_callB c_isV (by rfl) B.isinstance (by decide +kernel) (pa_cons (pv 0) (pa_cons (pe_glob (v := .ref E.x2.C) (by rfl) E.x2.g rfl) pa_nil))) pa_nil)))))
 (Evl.pss_cut (ps_set (i := 1) sc__law_flags.nd rfl (Or.inl rfl) (pe_op op_cat (pv 1) (pe_lst (pa_cons (pe_callB c_isV (by rfl) B.isinstance (by decide +kernel) (pa_cons (pv 0) (pa_cons (pe_glob (v := .ref E.x3.C) (by rfl) E.x3.g rfl) pa_nil))) (pa_cons (pe_callB c_isV (by rfl) B.isinstance (by decide +kernel) (pa_cons (pv 0) (pa_cons (pe_glob (v := .ref E.x4.C) (by rfl) E.x4.g rfl) pa_nil))) (pa_cons (pe_callB c_isV (by rfl) B.isinstance (by decide +kernel) (pa_cons (pv 0) (pa_cons (pe_glob (v := .ref E.x5.C) (by rfl) E.x5.g rfl) pa_nil))) pa_nil))))))
 (Evl.pss_cut (ps_set (i := 1) sc__law_flags.nd rfl (Or.inl rfl) (pe_op op_cat (pv 1) (pe_lst (pa_cons (pe_callB c_isV (by rfl) B.isinstance (by decide +kernel) (pa_cons (pv 0) (pa_cons (pe_glob (v := .ref E.x6.C) (by rfl) E.x6.g rfl) pa_nil))) (pa_cons (pe_callB c_isV (by rfl) B.isinstance (by decide +kernel) (pa_cons (pv 0) (pa_cons (pe_glob (v := .ref E.x7.C) (by rfl) E.x7.g rfl) pa_nil))) (pa_cons (pe_callB c_isV (by rfl) B.isinstance (by decide +kernel) (pa_cons (pv 0) (pa_cons (pe_glob (v := .ref E.x8.C) (by rfl) E.x8.g rfl) pa_nil))) pa_nil))))))
 (Evl.pss_cut (ps_set (i := 1) sc__law_flags.nd rfl (Or.inl rfl) (pe_op op_cat (pv 1) (pe_lst (pa_cons (pe_callB c_isV (by rfl) B.isinstance (by decide +kernel) (pa_cons (pv 0) (pa_cons (pe_glob (v := .ref E.x9.C) (by rfl) E.x9.g rfl) pa_nil))) (pa_cons (pe_callB c_isV (by rfl) B.isinstance (by decide +kernel) (pa_cons (pv 0) (pa_cons (pe_glob (v := .ref E.x10.C) (by rfl) E.x10.g rfl) pa_nil))) (pa_cons (pe_callB c_isV (by rfl) B.isinstance (by decide +kernel) (pa_cons (pv 0) (pa_cons (pe_glob (v := .ref E.x11.C) (by rfl) E.x11.g rfl) pa_nil))) pa_nil))))))
 (Evl.pss_cut (ps_set (i := 1) sc__law_flags.nd rfl (Or.inl rfl) (pe_op op_cat (pv 1) (pe_lst (pa_cons (pe_callB c_isV (by rfl) B.isinstance (by decide +kernel) (pa_cons (pv 0) (pa_cons (pe_glob (v := .ref E.x12.C) (by rfl) E.x12.g rfl) pa_nil))) (pa_cons (pe_callB c_isV (by rfl) B.isinstance (by decide +kernel) (pa_cons (pv 0) (pa_cons (pe_glob (v := .ref E.x13.C) (by rfl) E.x13.g rfl) pa_nil))) (pa_cons (pe_callB c_isV (by rfl) B.isinstance (by decide +kernel) (pa_cons (pv 0) (pa_cons (pe_glob (v := .ref E.x14.C) (by rfl) E.x14.g rfl) pa_nil))) pa_nil))))))
 (Evl.pss_cut (ps_set (i := 1) sc__law_flags.nd rfl (Or.inl rfl) (pe_op op_cat (pv 1) (pe_lst (pa_cons (pe_callB c_isV (by rfl) B.isinstance (by decide +kernel) (pa_cons (pv 0) (pa_cons (pe_glob (v := .ref E.x15.C) (by rfl) E.x15.g rfl) pa_nil))) (pa_cons (pe_callB c_isV (by rfl) B.isinstance (by decide +kernel) (pa_cons (pv 0) (pa_cons (pe_glob (v := .ref E.x16.C) (by rfl) E.x16.g rfl) pa_nil))) (pa_cons (pe_callB c_isV (by rfl) B.isinstance (by decide +kernel) (pa_cons (pv 0) (pa_cons (pe_glob (v := .ref E.x17.C) (by rfl) E.x17.g rfl) pa_nil))) pa_nil))))))
 (Evl.pss_cut (ps_set (i := 1) sc__law_flags.nd rfl (Or.inl rfl) (pe_op op_cat (pv 1) (pe_lst (pa_cons (pe_callB c_isV (by rfl) B.isinstance (by decide +kernel) (pa_cons (pv 0) (pa_cons (pe_glob (v := .ref E.x18.C) (by rfl) E.x18.g rfl) pa_nil))) (pa_cons (pe_callB c_isV (by rfl) B.isinstance (by decide +kernel) (pa_cons (pv 0) (pa_cons (pe_glob (v := .ref E.x19.C) (by rfl) E.x19.g rfl) pa_nil))) (pa_cons (pe_callB c_isV (by rfl) B.isinstance (by decide +kernel) (pa_cons (pv 0) (pa_cons (pe_glob (v := .ref E.x20.C) (by rfl) E.x20.g rfl) pa_nil))) pa_nil))))))
 (Evl.pss_cut (ps_set (i := 1) sc__law_flags.nd rfl (Or.inl rfl) (pe_op op_cat (pv 1) (pe_lst (pa_cons (pe_callB c_isV (by rfl) B.isinstance (by decide +kernel) (pa_cons (pv 0) (pa_cons (pe_glob (v := .ref E.x21.C) (by rfl) E.x21.g rfl) pa_nil))) (pa_cons (pe_callB c_isV (by rfl) B.isinstance (by decide +kernel) (pa_cons (pv 0) (pa_cons (pe_glob (v := .ref E.x22.C) (by rfl) E.x22.g rfl) pa_nil))) (pa_cons (pe_callB c_isV (by rfl) B.isinstance (by decide +kernel) (pa_cons (pv 0) (pa_cons (pe_glob (v := .ref E.x23.C) (by rfl) E.x23.g rfl) pa_nil))) pa_nil))))))
 (Evl.pss_cut (ps_set (i := 1) sc__law_flags.nd rfl (Or.inl rfl) (pe_op op_cat (pv 1) (pe_lst (pa_cons (pe_callB c_isV (by rfl) B.isinstance (by decide +kernel) (pa_cons (pv 0) (pa_cons (pe_glob (v := .ref E.x24.C) (by rfl) E.x24.g rfl) pa_nil))) (pa_cons (pe_callB c_isV (by rfl) B.isinstance (by decide +kernel) (pa_cons (pv 0) (pa_cons (pe_glob (v := .ref E.x25.C) (by rfl) E.x25.g rfl) pa_nil))) (pa_cons (pe_callB c_isV (by rfl) B.isinstance (by decide +kernel) (pa_cons (pv 0) (pa_cons (pe_glob (v := .ref E.x26.C) (by rfl) E.x26.g rfl) pa_nil))) pa_nil))))))
 (Evl.pss_cut (ps_set (i := 1) sc__law_flags.nd rfl (Or.inl rfl) (pe_op op_cat (pv 1) (pe_lst (pa_cons (pe_callB c_isV (by rfl) B.isinstance (by decide +kernel) (pa_cons (pv 0) (pa_cons (pe_glob (v := .ref E.x27.C) (by rfl) E.x27.g rfl) pa_nil))) (pa_cons (pe_callB c_isV (by rfl) B.isinstance (by decide +kernel) (pa_cons (pv 0) (pa_cons (pe_glob (v := .ref E.x28.C) (by rfl) E.x28.g rfl) pa_nil))) (pa_cons (pe_callB c_isV (by rfl) B.isinstance (by decide +kernel) (pa_cons (pv 0) (pa_cons (pe_glob (v := .ref E.x29.C) (by rfl) E.x29.g rfl) pa_nil))) pa_nil))))))
 (Evl.pss_cut (ps_set (i := 1) sc__law_flags.nd rfl (Or.inl rfl) (pe_op op_cat (pv 1) (pe_lst (pa_cons (pe_callB c_isV (by rfl) B.isinstance (by decide +kernel) (pa_cons (pv 0) (pa_cons (pe_glob (v := .ref E.x30.C) (by rfl) E.x30.g rfl) pa_nil))) (pa_cons (pe_callB c_isV (by rfl) B.isinstance (by decide +kernel) (pa_cons (pv 0) (pa_cons (pe_glob (v := .ref E.x31.C) (by rfl) E.x31.g rfl) pa_nil))) (pa_cons (pe_callB c_isV (by rfl) B.isinstance (by decide +kernel) (pa_cons (pv 0) (pa_cons (pe_glob (v := .ref E.x32.C) (by rfl) E.x32.g rfl) pa_nil))) pa_nil))))))
 (Evl.pss_cut (ps_set (i := 1) sc__law_flags.nd rfl (Or.inl rfl) (pe_op op_cat (pv 1) (pe_lst (pa_cons (pe_callB c_isV (by rfl) B.isinstance (by decide +kernel) (pa_cons (pv 0) (pa_cons (pe_glob (v := .ref E.x33.C) (by rfl) E.x33.g rfl) pa_nil))) (pa_cons (pe_callB c_isV (by rfl) B.isinstance (by decide +kernel) (pa_cons (pv 0) (pa_cons (pe_glob (v := .ref E.x34.C) (by rfl) E.x34.g rfl) pa_nil))) (pa_cons (pe_callB c_isV (by rfl) B.isinstance (by decide +kernel) (pa_cons (pv 0) (pa_cons (pe_glob (v := .ref E.x35.C) (by rfl) E.x35.g rfl) pa_nil))) pa_nil))))))
 (Evl.pss_cut (ps_set (i := 1) sc__law_flags.nd rfl (Or.inl rfl) (pe_op op_cat (pv 1) (pe_lst (pa_cons (pe_callB c_isV (by rfl) B.isinstance (by decide +kernel) (pa_cons (pv 0) (pa_cons (pe_glob (v := .ref E.x36.C) (by rfl) E.x36.g rfl) pa_nil))) (pa_cons (pe_callB c_isV (by rfl) B.isinstance (by decide +kernel) (pa_cons (pv 0) (pa_cons (pe_glob (v := .ref E.x37.C) (by rfl) E.x37.g rfl) pa_nil))) (pa_cons (pe_callB c_isV (by rfl) B.isinstance (by decide +kernel) (pa_cons (pv 0) (pa_cons (pe_glob (v := .ref E.x38.C) (by rfl) E.x38.g rfl) pa_nil))) pa_nil))))))
 (Evl.pss_cut (ps_set (i := 1) sc__law_flags.nd rfl (Or.inl rfl) (pe_op op_cat (pv 1) (pe_lst (pa_cons (pe_callB c_isV (by rfl) B.isinstance (by decide +kernel) (pa_cons (pv 0) (pa_cons (pe_glob (v := .ref E.x39.C) (by rfl) E.x39.g rfl) pa_nil))) (pa_cons (pe_callB c_isV (by rfl) B.isinstance (by decide +kernel) (pa_cons (pv 0) (pa_cons (pe_glob (v := .ref E.x40.C) (by rfl) E.x40.g rfl) pa_nil))) (pa_cons (pe_callB c_isV (by rfl) B.isinstance (by decide +kernel) (pa_cons (pv 0) (pa_cons (pe_glob (v := .ref E.x41.C) (by rfl) E.x41.g rfl) pa_nil))) pa_nil))))))
 (Evl.pss_cut (ps_set (i := 1) sc__law_flags.nd rfl (Or.inl rfl) (pe_op op_cat (pv 1) (pe_lst (pa_cons (pe_callB c_isV (by rfl) B.isinstance (by decide +kernel) (pa_cons (pv 0) (pa_cons (pe_glob (v := .ref E.x42.C) (by rfl) E.x42.g rfl) pa_nil))) (pa_cons (pe_callB c_isV (by rfl) B.isinstance (by decide +kernel) (pa_cons (pv 0) (pa_cons (pe_glob (v := .ref E.x43.C) (by rfl) E.x43.g rfl) pa_nil))) (pa_cons (pe_callB c_isV (by rfl) B.isinstance (by decide +kernel) (pa_cons (pv 0) (pa_cons (pe_glob (v := .ref E.x44.C) (by rfl) E.x44.g rfl) pa_nil))) pa_nil))))))
 (Evl.pss_cut (ps_set (i := 1) sc__law_flags.nd rfl (Or.inl rfl) (pe_op op_cat (pv 1) (pe_lst (pa_cons (pe_callB c_isV (by rfl) B.isinstance (by decide +kernel) (pa_cons (pv 0) (pa_cons (pe_glob (v := .ref E.x45.C) (by rfl) E.x45.g rfl) pa_nil))) (pa_cons (pe_callB c_isV (by rfl) B.isinstance (by decide +kernel) (pa_cons (pv 0) (pa_cons (pe_glob (v := .ref E.x46.C) (by rfl) E.x46.g rfl) pa_nil))) (pa_cons (pe_callB c_isV (by rfl) B.isinstance (by decide +kernel) (pa_cons (pv 0) (pa_cons (pe_glob (v := .ref E.x47.C) (by rfl) E.x47.g rfl) pa_nil))) pa_nil))))))
 (Evl.pss_cut (ps_set (i := 1) sc__law_flags.nd rfl (Or.inl rfl) (pe_op op_cat (pv 1) (pe_lst (pa_cons (pe_callB c_isV (by rfl) B.isinstance (by decide +kernel) (pa_cons (pv 0) (pa_cons (pe_glob (v := .ref E.x48.C) (by rfl) E.x48.g rfl) pa_nil))) (pa_cons (pe_callB c_isV (by rfl) B.isinstance (by decide +kernel) (pa_cons (pv 0) (pa_cons (pe_glob (v := .ref E.x49.C) (by rfl) E.x49.g rfl) pa_nil))) (pa_cons (pe_callB c_isV (by rfl) B.isinstance (by decide +kernel) (pa_cons (pv 0) (pa_cons (pe_glob (v := .ref E.x50.C) (by rfl) E.x50.g rfl) pa_nil))) pa_nil))))))
 (Evl.pss_cut (ps_set (i := 1) sc__law_flags.nd rfl (Or.inl rfl) (pe_op op_cat (pv 1) (pe_lst (pa_cons (pe_callB c_isV (by rfl) B.isinstance (by decide +kernel) (pa_cons (pv 0) (pa_cons (pe_glob (v := .ref E.x51.C) (by rfl) E.x51.g rfl) pa_nil))) (pa_cons (pe_callB c_isV (by rfl) B.isinstance (by decide +kernel) (pa_cons (pv 0) (pa_cons (pe_glob (v := .ref E.x52.C) (by rfl) E.x52.g rfl) pa_nil))) (pa_cons (pe_callB c_isV (by rfl) B.isinstance (by decide +kernel) (pa_cons (pv 0) (pa_cons (pe_glob (v := .ref E.x53.C) (by rfl) E.x53.g rfl) pa_nil))) pa_nil))))))
 (Evl.pss_cut (ps_set (i := 1) sc__law_flags.nd rfl (Or.inl rfl) (pe_op op_cat (pv 1) (pe_lst (pa_cons (pe_callB c_isV (by rfl) B.isinstance (by decide +kernel) (pa_cons (pv 0) (pa_cons (pe_glob (v := .ref E.x54.C) (by rfl) E.x54.g rfl) pa_nil))) (pa_cons (pe_callB c_isV (by rfl) B.isinstance (by decide +kernel) (pa_cons (pv 0) (pa_cons (pe_glob (v := .ref E.x55.C) (by rfl) E.x55.g rfl) pa_nil))) (pa_cons (pe_callB c_isV (by rfl) B.isinstance (by decide +kernel) (pa_cons (pv 0) (pa_cons (pe_glob (v := .ref E.x56.C) (by rfl) E.x56.g rfl) pa_nil))) pa_nil))))))
 (Evl.pss_cut (ps_set (i := 1) sc__law_flags.nd rfl (Or.inl rfl) (pe_op op_cat (pv 1) (pe_lst (pa_cons (pe_callB c_isV (by rfl) B.isinstance (by decide +kernel) (pa_cons (pv 0) (pa_cons (pe_glob (v := .ref E.x57.C) (by rfl) E.x57.g rfl) pa_nil))) pa_nil))))
 (pss_one (ps_ret (pv 1))))))))))))))))))))))), ?_⟩
    dsimp only [L2.cxOf, L2.Cx.nox, L2.Cx.wish]
    have s : Same H H := .refl H
    refine Evl.q_cut (M := fun σ1 H1 => ∃ p, σ1 = [some (.ref a), some (.ref p)] ∧ Same H H1 ∧ H1 p = some (.lst [.bl (decide (i = 0)), .bl (decide (i = 1)), .bl (decide (i = 2))])) ?_ ?_
    · walk_at "q"
      refine z_isE (he.same s) xc (.own E.x0.C) (k.own i 0 c E.x0.C hi rfl) ?_
      walk_at "q"
      refine z_isE (he.same s) xc (.own E.x1.C) (k.own i 1 c E.x1.C hi rfl) ?_
      walk_at "q"
      refine z_isE (he.same s) xc (.own E.x2.C) (k.own i 2 c E.x2.C hi rfl) ?_
      walk_at "q"
      refine ⟨by show 3 ≤ sizeLine; decide, fun p2 hp2 => ?_⟩
      walk_at "q"
      exact ⟨p2, rfl, same_upd s (s.free hp2), upd_same⟩
    clear s
    rintro σ1 H1 ⟨p, rfl, s, l⟩
    refine Evl.q_cut (M := fun σ1 H1 => ∃ p, σ1 = [some (.ref a), some (.ref p)] ∧ Same H H1 ∧ H1 p = some (.lst [.bl (decide (i = 0)), .bl (decide (i = 1)), .bl (decide (i = 2)), .bl (decide (i = 3)), .bl (decide (i = 4)), .bl (decide (i = 5))])) ?_ ?_
    · walk_at "q"
      refine z_isE (he.same s) xc (.own E.x3.C) (k.own i 3 c E.x3.C hi rfl) ?_
      walk_at "q"
      refine z_isE (he.same s) xc (.own E.x4.C) (k.own i 4 c E.x4.C hi rfl) ?_
      walk_at "q"
      refine z_isE (he.same s) xc (.own E.x5.C) (k.own i 5 c E.x5.C hi rfl) ?_
      walk_at "q"
      refine ⟨by show 3 ≤ sizeLine; decide, fun p2 hp2 => ?_⟩
      walk_at "q"
      refine z_cat (keep_upd l hp2) upd_same (by show 6 ≤ sizeLine; decide) (fun p3 hp3 => ?_)
      walk_at "q"
      have s2 := same_upd (o := .lst [.bl (decide (i = 3)), .bl (decide (i = 4)), .bl (decide (i = 5))]) s (s.free hp2)
      exact ⟨p3, rfl, same_upd s2 (s2.free hp3), upd_same⟩
    clear s
    clear l
    rintro σ1 H1 ⟨p, rfl, s, l⟩
    refine Evl.q_cut (M := fun σ1 H1 => ∃ p, σ1 = [some (.ref a), some (.ref p)] ∧ Same H H1 ∧ H1 p = some (.lst [.bl (decide (i = 0)), .bl (decide (i = 1)), .bl (decide (i = 2)), .bl (decide (i = 3)), .bl (decide (i = 4)), .bl (decide (i = 5)), .bl (decide (i = 6)), .bl (decide (i = 7)), .bl (decide (i = 8))])) ?_ ?_
    · walk_at "q"
      refine z_isE (he.same s) xc (.own E.x6.C) (k.own i 6 c E.x6.C hi rfl) ?_
      walk_at "q"
      refine z_isE (he.same s) xc (.own E.x7.C) (k.own i 7 c E.x7.C hi rfl) ?_
      walk_at "q"
      refine z_isE (he.same s) xc (.own E.x8.C) (k.own i 8 c E.x8.C hi rfl) ?_
      walk_at "q"
      refine ⟨by show 3 ≤ sizeLine; decide, fun p2 hp2 => ?_⟩
      walk_at "q"
      refine z_cat (keep_upd l hp2) upd_same (by show 9 ≤ sizeLine; decide) (fun p3 hp3 => ?_)
      walk_at "q"
      have s2 := same_upd (o := .lst [.bl (decide (i = 6)), .bl (decide (i = 7)), .bl (decide (i = 8))]) s (s.free hp2)
      exact ⟨p3, rfl, same_upd s2 (s2.free hp3), upd_same⟩
    clear s
    clear l
    rintro σ1 H1 ⟨p, rfl, s, l⟩
    refine Evl.q_cut (M := fun σ1 H1 => ∃ p, σ1 = [some (.ref a), some (.ref p)] ∧ Same H H1 ∧ H1 p = some (.lst [.bl (decide (i = 0)), .bl (decide (i = 1)), .bl (decide (i = 2)), .bl (decide (i = 3)), .bl (decide (i = 4)), .bl (decide (i = 5)), .bl (decide (i = 6)), .bl (decide (i = 7)), .bl (decide (i = 8)), .bl (decide (i = 9)), .bl (decide (i = 10)), .bl (decide (i = 11))])) ?_ ?_
    · walk_at "q"
      refine z_isE (he.same s) xc (.own E.x9.C) (k.own i 9 c E.x9.C hi rfl) ?_
      walk_at "q"
      refine z_isE (he.same s) xc (.own E.x10.C) (k.own i 10 c E.x10.C hi rfl) ?_
      walk_at "q"
      refine z_isE (he.same s) xc (.own E.x11.C) (k.own i 11 c E.x11.C hi rfl) ?_
      walk_at "q"
      refine ⟨by show 3 ≤ sizeLine; decide, fun p2 hp2 => ?_⟩
      walk_at "q"
      refine z_cat (keep_upd l hp2) upd_same (by show 12 ≤ sizeLine; decide) (fun p3 hp3 => ?_)
      walk_at "q"
      have s2 := same_upd (o := .lst [.bl (decide (i = 9)), .bl (decide (i = 10)), .bl (decide (i = 11))]) s (s.free hp2)
      exact ⟨p3, rfl, same_upd s2 (s2.free hp3), upd_same⟩
    clear s
    clear l
    rintro σ1 H1 ⟨p, rfl, s, l⟩
    refine Evl.q_cut (M := fun σ1 H1 => ∃ p, σ1 = [some (.ref a), some (.ref p)] ∧ Same H H1 ∧ H1 p = some (.lst [.bl (decide (i = 0)), .bl (decide (i = 1)), .bl (decide (i = 2)), .bl (decide (i = 3)), .bl (decide (i = 4)), .bl (decide (i = 5)), .bl (decide (i = 6)), .bl (decide (i = 7)), .bl (decide (i = 8)), .bl (decide (i = 9)), .bl (decide (i = 10)), .bl (decide (i = 11)), .bl (decide (i = 12)), .bl (decide (i = 13)), .bl (decide (i = 14))])) ?_ ?_
    · walk_at "q"
      refine z_isE (he.same s) xc (.own E.x12.C) (k.own i 12 c E.x12.C hi rfl) ?_
      walk_at "q"
      refine z_isE (he.same s) xc (.own E.x13.C) (k.own i 13 c E.x13.C hi rfl) ?_
      walk_at "q"
      refine z_isE (he.same s) xc (.own E.x14.C) (k.own i 14 c E.x14.C hi rfl) ?_
      walk_at "q"
      refine ⟨by show 3 ≤ sizeLine; decide, fun p2 hp2 => ?_⟩
      walk_at "q"
      refine z_cat (keep_upd l hp2) upd_same (by show 15 ≤ sizeLine; decide) (fun p3 hp3 => ?_)
      walk_at "q"
      have s2 := same_upd (o := .lst [.bl (decide (i = 12)), .bl (decide (i = 13)), .bl (decide (i = 14))]) s (s.free hp2)
      exact ⟨p3, rfl, same_upd s2 (s2.free hp3), upd_same⟩
    clear s
    clear l
    rintro σ1 H1 ⟨p, rfl, s, l⟩
    refine Evl.q_cut (M := fun σ1 H1 => ∃ p, σ1 = [some (.ref a), some (.ref p)] ∧ Same H H1 ∧ H1 p = some (.lst [.bl (decide (i = 0)), .bl (decide (i = 1)), .bl (decide (i = 2)), .bl (decide (i = 3)), .bl (decide (i = 4)), .bl (decide (i = 5)), .bl (decide (i = 6)), .bl (decide (i = 7)), .bl (decide (i = 8)), .bl (decide (i = 9)), .bl (decide (i = 10)), .bl (decide (i = 11)), .bl (decide (i = 12)), .bl (decide (i = 13)), .bl (decide (i = 14)), .bl (decide (i = 15)), .bl (decide (i = 16)), .bl (decide (i = 17))])) ?_ ?_
    · walk_at "q"
      refine z_isE (he.same s) xc (.own E.x15.C) (k.own i 15 c E.x15.C hi rfl) ?_
      walk_at "q"
      refine z_isE (he.same s) xc (.own E.x16.C) (k.own i 16 c E.x16.C hi rfl) ?_
      walk_at "q"
      refine z_isE (he.same s) xc (.own E.x17.C) (k.own i 17 c E.x17.C hi rfl) ?_
      walk_at "q"
      refine ⟨by show 3 ≤ sizeLine; decide, fun p2 hp2 => ?_⟩
      walk_at "q"
      refine z_cat (keep_upd l hp2) upd_same (by show 18 ≤ sizeLine; decide) (fun p3 hp3 => ?_)
      walk_at "q"
      have s2 := same_upd (o := .lst [.bl (decide (i = 15)), .bl (decide (i = 16)), .bl (decide (i = 17))]) s (s.free hp2)
      exact ⟨p3, rfl, same_upd s2 (s2.free hp3), upd_same⟩
    clear s
    clear l
    rintro σ1 H1 ⟨p, rfl, s, l⟩
    refine Evl.q_cut (M := fun σ1 H1 => ∃ p, σ1 = [some (.ref a), some (.ref p)] ∧ Same H H1 ∧ H1 p = some (.lst [.bl (decide (i = 0)), .bl (decide (i = 1)), .bl (decide (i = 2)), .bl (decide (i = 3)), .bl (decide (i = 4)), .bl (decide (i = 5)), .bl (decide (i = 6)), .bl (decide (i = 7)), .bl (decide (i = 8)), .bl (decide (i = 9)), .bl (decide (i = 10)), .bl (decide (i = 11)), .bl (decide (i = 12)), .bl (decide (i = 13)), .bl (decide (i = 14)), .bl (decide (i = 15)), .bl (decide (i = 16)), .bl (decide (i = 17)), .bl (decide (i = 18)), .bl (decide (i = 19)), .bl (decide (i = 20))])) ?_ ?_
    · walk_at "q"
      refine z_isE (he.same s) xc (.own E.x18.C) (k.own i 18 c E.x18.C hi rfl) ?_
      walk_at "q"
      refine z_isE (he.same s) xc (.own E.x19.C) (k.own i 19 c E.x19.C hi rfl) ?_
      walk_at "q"
      refine z_isE (he.same s) xc (.own E.x20.C) (k.own i 20 c E.x20.C hi rfl) ?_
      walk_at "q"
      refine ⟨by show 3 ≤ sizeLine; decide, fun p2 hp2 => ?_⟩
      walk_at "q"
      refine z_cat (keep_upd l hp2) upd_same (by show 21 ≤ sizeLine; decide) (fun p3 hp3 => ?_)
      walk_at "q"
      have s2 := same_upd (o := .lst [.bl (decide (i = 18)), .bl (decide (i = 19)), .bl (decide (i = 20))]) s (s.free hp2)
      exact ⟨p3, rfl, same_upd s2 (s2.free hp3), upd_same⟩
    clear s
    clear l
    rintro σ1 H1 ⟨p, rfl, s, l⟩
    refine Evl.q_cut (M := fun σ1 H1 => ∃ p, σ1 = [some (.ref a), some (.ref p)] ∧ Same H H1 ∧ H1 p = some (.lst [.bl (decide (i = 0)), .bl (decide (i = 1)), .bl (decide (i = 2)), .bl (decide (i = 3)), .bl (decide (i = 4)), .bl (decide (i = 5)), .bl (decide (i = 6)), .bl (decide (i = 7)), .bl (decide (i = 8)), .bl (decide (i = 9)), .bl (decide (i = 10)), .bl (decide (i = 11)), .bl (decide (i = 12)), .bl (decide (i = 13)), .bl (decide (i = 14)), .bl (decide (i = 15)), .bl (decide (i = 16)), .bl (decide (i = 17)), .bl (decide (i = 18)), .bl (decide (i = 19)), .bl (decide (i = 20)), .bl (decide (i = 21)), .bl (decide (i = 22)), .bl (decide (i = 23))])) ?_ ?_
    · walk_at "q"
      refine z_isE (he.same s) xc (.own E.x21.C) (k.own i 21 c E.x21.C hi rfl) ?_
      walk_at "q"
      refine z_isE (he.same s) xc (.own E.x22.C) (k.own i 22 c E.x22.C hi rfl) ?_
      walk_at "q"
      refine z_isE (he.same s) xc (.own E.x23.C) (k.own i 23 c E.x23.C hi rfl) ?_
      walk_at "q"
      refine ⟨by show 3 ≤ sizeLine; decide, fun p2 hp2 => ?_⟩
      walk_at "q"
      refine z_cat (keep_upd l hp2) upd_same (by show 24 ≤ sizeLine; decide) (fun p3 hp3 => ?_)
      walk_at "q"
      have s2 := same_upd (o := .lst [.bl (decide (i = 21)), .bl (decide (i = 22)), .bl (decide (i = 23))]) s (s.free hp2)
      exact ⟨p3, rfl, same_upd s2 (s2.free hp3), upd_same⟩
    clear s
    clear l
    rintro σ1 H1 ⟨p, rfl, s, l⟩
    refine Evl.q_cut (M := fun σ1 H1 => ∃ p, σ1 = [some (.ref a), some (.ref p)] ∧ Same H H1 ∧ H1 p = some (.lst [.bl (decide (i = 0)), .bl (decide (i = 1)), .bl (decide (i = 2)), .bl (decide (i = 3)), .bl (decide (i = 4)), .bl (decide (i = 5)), .bl (decide (i = 6)), .bl (decide (i = 7)), .bl (decide (i = 8)), .bl (decide (i = 9)), .bl (decide (i = 10)), .bl (decide (i = 11)), .bl (decide (i = 12)), .bl (decide (i = 13)), .bl (decide (i = 14)), .bl (decide (i = 15)), .bl (decide (i = 16)), .bl (decide (i = 17)), .bl (decide (i = 18)), .bl (decide (i = 19)), .bl (decide (i = 20)), .bl (decide (i = 21)), .bl (decide (i = 22)), .bl (decide (i = 23)), .bl (decide (i = 24)), .bl (decide (i = 25)), .bl (decide (i = 26))])) ?_ ?_
    · walk_at "q"
      refine z_isE (he.same s) xc (.own E.x24.C) (k.own i 24 c E.x24.C hi rfl) ?_
      walk_at "q"
      refine z_isE (he.same s) xc (.own E.x25.C) (k.own i 25 c E.x25.C hi rfl) ?_
      walk_at "q"
      refine z_isE (he.same s) xc (.own E.x26.C) (k.own i 26 c E.x26.C hi rfl) ?_
      walk_at "q"
      refine ⟨by show 3 ≤ sizeLine; decide, fun p2 hp2 => ?_⟩
      walk_at "q"
      refine z_cat (keep_upd l hp2) upd_same (by show 27 ≤ sizeLine; decide) (fun p3 hp3 => ?_)
      walk_at "q"
      have s2 := same_upd (o := .lst [.bl (decide (i = 24)), .bl (decide (i = 25)), .bl (decide (i = 26))]) s (s.free hp2)
      exact ⟨p3, rfl, same_upd s2 (s2.free hp3), upd_same⟩
    clear s
    clear l
    rintro σ1 H1 ⟨p, rfl, s, l⟩
    refine Evl.q_cut (M := fun σ1 H1 => ∃ p, σ1 = [some (.ref a), some (.ref p)] ∧ Same H H1 ∧ H1 p = some (.lst [.bl (decide (i = 0)), .bl (decide (i = 1)), .bl (decide (i = 2)), .bl (decide (i = 3)), .bl (decide (i = 4)), .bl (decide (i = 5)), .bl (decide (i = 6)), .bl (decide (i = 7)), .bl (decide (i = 8)), .bl (decide (i = 9)), .bl (decide (i = 10)), .bl (decide (i = 11)), .bl (decide (i = 12)), .bl (decide (i = 13)), .bl (decide (i = 14)), .bl (decide (i = 15)), .bl (decide (i = 16)), .bl (decide (i = 17)), .bl (decide (i = 18)), .bl (decide (i = 19)), .bl (decide (i = 20)), .bl (decide (i = 21)), .bl (decide (i = 22)), .bl (decide (i = 23)), .bl (decide (i = 24)), .bl (decide (i = 25)), .bl (decide (i = 26)), .bl (decide (i = 27)), .bl (decide (i = 28)), .bl (decide (i = 29))])) ?_ ?_
    · walk_at "q"
      refine z_isE (he.same s) xc (.own E.x27.C) (k.own i 27 c E.x27.C hi rfl) ?_
      walk_at "q"
      refine z_isE (he.same s) xc (.own E.x28.C) (k.own i 28 c E.x28.C hi rfl) ?_
      walk_at "q"
      refine z_isE (he.same s) xc (.own E.x29.C) (k.own i 29 c E.x29.C hi rfl) ?_
      walk_at "q"
      refine ⟨by show 3 ≤ sizeLine; decide, fun p2 hp2 => ?_⟩
      walk_at "q"
      refine z_cat (keep_upd l hp2) upd_same (by show 30 ≤ sizeLine; decide) (fun p3 hp3 => ?_)
      walk_at "q"
      have s2 := same_upd (o := .lst [.bl (decide (i = 27)), .bl (decide (i = 28)), .bl (decide (i = 29))]) s (s.free hp2)
      exact ⟨p3, rfl, same_upd s2 (s2.free hp3), upd_same⟩
    clear s
    clear l
    rintro σ1 H1 ⟨p, rfl, s, l⟩
    refine Evl.q_cut (M := fun σ1 H1 => ∃ p, σ1 = [some (.ref a), some (.ref p)] ∧ Same H H1 ∧ H1 p = some (.lst [.bl (decide (i = 0)), .bl (decide (i = 1)), .bl (decide (i = 2)), .bl (decide (i = 3)), .bl (decide (i = 4)), .bl (decide (i = 5)), .bl (decide (i = 6)), .bl (decide (i = 7)), .bl (decide (i = 8)), .bl (decide (i = 9)), .bl (decide (i = 10)), .bl (decide (i = 11)), .bl (decide (i = 12)), .bl (decide (i = 13)), .bl (decide (i = 14)), .bl (decide (i = 15)), .bl (decide (i = 16)), .bl (decide (i = 17)), .bl (decide (i = 18)), .bl (decide (i = 19)), .bl (decide (i = 20)), .bl (decide (i = 21)), .bl (decide (i = 22)), .bl (decide (i = 23)), .bl (decide (i = 24)), .bl (decide (i = 25)), .bl (decide (i = 26)), .bl (decide (i = 27)), .bl (decide (i = 28)), .bl (decide (i = 29)), .bl (decide (i = 30)), .bl (decide (i = 31)), .bl (decide (i = 32))])) ?_ ?_
    · walk_at "q"
      refine z_isE (he.same s) xc (.own E.x30.C) (k.own i 30 c E.x30.C hi rfl) ?_
      walk_at "q"
      refine z_isE (he.same s) xc (.own E.x31.C) (k.own i 31 c E.x31.C hi rfl) ?_
      walk_at "q"
      refine z_isE (he.same s) xc (.own E.x32.C) (k.own i 32 c E.x32.C hi rfl) ?_
      walk_at "q"
      refine ⟨by show 3 ≤ sizeLine; decide, fun p2 hp2 => ?_⟩
      walk_at "q"
      refine z_cat (keep_upd l hp2) upd_same (by show 33 ≤ sizeLine; decide) (fun p3 hp3 => ?_)
      walk_at "q"
      have s2 := same_upd (o := .lst [.bl (decide (i = 30)), .bl (decide (i = 31)), .bl (decide (i = 32))]) s (s.free hp2)
      exact ⟨p3, rfl, same_upd s2 (s2.free hp3), upd_same⟩
    clear s
    clear l
    rintro σ1 H1 ⟨p, rfl, s, l⟩
    refine Evl.q_cut (M := fun σ1 H1 => ∃ p, σ1 = [some (.ref a), some (.ref p)] ∧ Same H H1 ∧ H1 p = some (.lst [.bl (decide (i = 0)), .bl (decide (i = 1)), .bl (decide (i = 2)), .bl (decide (i = 3)), .bl (decide (i = 4)), .bl (decide (i = 5)), .bl (decide (i = 6)), .bl (decide (i = 7)), .bl (decide (i = 8)), .bl (decide (i = 9)), .bl (decide (i = 10)), .bl (decide (i = 11)), .bl (decide (i = 12)), .bl (decide (i = 13)), .bl (decide (i = 14)), .bl (decide (i = 15)), .bl (decide (i = 16)), .bl (decide (i = 17)), .bl (decide (i = 18)), .bl (decide (i = 19)), .bl (decide (i = 20)), .bl (decide (i = 21)), .bl (decide (i = 22)), .bl (decide (i = 23)), .bl (decide (i = 24)), .bl (decide (i = 25)), .bl (decide (i = 26)), .bl (decide (i = 27)), .bl (decide (i = 28)), .bl (decide (i = 29)), .bl (decide (i = 30)), .bl (decide (i = 31)), .bl (decide (i = 32)), .bl (decide (i = 33)), .bl (decide (i = 34)), .bl (decide (i = 35))])) ?_ ?_
    · walk_at "q"
      refine z_isE (he.same s) xc (.own E.x33.C) (k.own i 33 c E.x33.C hi rfl) ?_
      walk_at "q"
      refine z_isE (he.same s) xc (.own E.x34.C) (k.own i 34 c E.x34.C hi rfl) ?_
      walk_at "q"
      refine z_isE (he.same s) xc (.own E.x35.C) (k.own i 35 c E.x35.C hi rfl) ?_
      walk_at "q"
      refine ⟨by show 3 ≤ sizeLine; decide, fun p2 hp2 => ?_⟩
      walk_at "q"
      refine z_cat (keep_upd l hp2) upd_same (by show 36 ≤ sizeLine; decide) (fun p3 hp3 => ?_)
      walk_at "q"
      have s2 := same_upd (o := .lst [.bl (decide (i = 33)), .bl (decide (i = 34)), .bl (decide (i = 35))]) s (s.free hp2)
      exact ⟨p3, rfl, same_upd s2 (s2.free hp3), upd_same⟩
    clear s
    clear l
    rintro σ1 H1 ⟨p, rfl, s, l⟩
    refine Evl.q_cut (M := fun σ1 H1 => ∃ p, σ1 = [some (.ref a), some (.ref p)] ∧ Same H H1 ∧ H1 p = some (.lst [.bl (decide (i = 0)), .bl (decide (i = 1)), .bl (decide (i = 2)), .bl (decide (i = 3)), .bl (decide (i = 4)), .bl (decide (i = 5)), .bl (decide (i = 6)), .bl (decide (i = 7)), .bl (decide (i = 8)), .bl (decide (i = 9)), .bl (decide (i = 10)), .bl (decide (i = 11)), .bl (decide (i = 12)), .bl (decide (i = 13)), .bl (decide (i = 14)), .bl (decide (i = 15)), .bl (decide (i = 16)), .bl (decide (i = 17)), .bl (decide (i = 18)), .bl (decide (i = 19)), .bl (decide (i = 20)), .bl (decide (i = 21)), .bl (decide (i = 22)), .bl (decide (i = 23)), .bl (decide (i = 24)), .bl (decide (i = 25)), .bl (decide (i = 26)), .bl (decide (i = 27)), .bl (decide (i = 28)), .bl (decide (i = 29)), .bl (decide (i = 30)), .bl (decide (i = 31)), .bl (decide (i = 32)), .bl (decide (i = 33)), .bl (decide (i = 34)), .bl (decide (i = 35)), .bl (decide (i = 36)), .bl (decide (i = 37)), .bl (decide (i = 38))])) ?_ ?_
    · walk_at "q"
      refine z_isE (he.same s) xc (.own E.x36.C) (k.own i 36 c E.x36.C hi rfl) ?_
      walk_at "q"
      refine z_isE (he.same s) xc (.own E.x37.C) (k.own i 37 c E.x37.C hi rfl) ?_
      walk_at "q"
      refine z_isE (he.same s) xc (.own E.x38.C) (k.own i 38 c E.x38.C hi rfl) ?_
      walk_at "q"
      refine ⟨by show 3 ≤ sizeLine; decide, fun p2 hp2 => ?_⟩
      walk_at "q"
      refine z_cat (keep_upd l hp2) upd_same (by show 39 ≤ sizeLine; decide) (fun p3 hp3 => ?_)
      walk_at "q"
      have s2 := same_upd (o := .lst [.bl (decide (i = 36)), .bl (decide (i = 37)), .bl (decide (i = 38))]) s (s.free hp2)
      exact ⟨p3, rfl, same_upd s2 (s2.free hp3), upd_same⟩
    clear s
    clear l
    rintro σ1 H1 ⟨p, rfl, s, l⟩
    refine Evl.q_cut (M := fun σ1 H1 => ∃ p, σ1 = [some (.ref a), some (.ref p)] ∧ Same H H1 ∧ H1 p = some (.lst [.bl (decide (i = 0)), .bl (decide (i = 1)), .bl (decide (i = 2)), .bl (decide (i = 3)), .bl (decide (i = 4)), .bl (decide (i = 5)), .bl (decide (i = 6)), .bl (decide (i = 7)), .bl (decide (i = 8)), .bl (decide (i = 9)), .bl (decide (i = 10)), .bl (decide (i = 11)), .bl (decide (i = 12)), .bl (decide (i = 13)), .bl (decide (i = 14)), .bl (decide (i = 15)), .bl (decide (i = 16)), .bl (decide (i = 17)), .bl (decide (i = 18)), .bl (decide (i = 19)), .bl (decide (i = 20)), .bl (decide (i = 21)), .bl (decide (i = 22)), .bl (decide (i = 23)), .bl (decide (i = 24)), .bl (decide (i = 25)), .bl (decide (i = 26)), .bl (decide (i = 27)), .bl (decide (i = 28)), .bl (decide (i = 29)), .bl (decide (i = 30)), .bl (decide (i = 31)), .bl (decide (i = 32)), .bl (decide (i = 33)), .bl (decide (i = 34)), .bl (decide (i = 35)), .bl (decide (i = 36)), .bl (decide (i = 37)), .bl (decide (i = 38)), .bl (decide (i = 39)), .bl (decide (i = 40)), .bl (decide (i = 41))])) ?_ ?_
    · walk_at "q"
      refine z_isE (he.same s) xc (.own E.x39.C) (k.own i 39 c E.x39.C hi rfl) ?_
      walk_at "q"
      refine z_isE (he.same s) xc (.own E.x40.C) (k.own i 40 c E.x40.C hi rfl) ?_
      walk_at "q"
      refine z_isE (he.same s) xc (.own E.x41.C) (k.own i 41 c E.x41.C hi rfl) ?_
      walk_at "q"
      refine ⟨by show 3 ≤ sizeLine; decide, fun p2 hp2 => ?_⟩
      walk_at "q"
      refine z_cat (keep_upd l hp2) upd_same (by show 42 ≤ sizeLine; decide) (fun p3 hp3 => ?_)
      walk_at "q"
      have s2 := same_upd (o := .lst [.bl (decide (i = 39)), .bl (decide (i = 40)), .bl (decide (i = 41))]) s (s.free hp2)
      exact ⟨p3, rfl, same_upd s2 (s2.free hp3), upd_same⟩
    clear s
    clear l
    rintro σ1 H1 ⟨p, rfl, s, l⟩
    refine Evl.q_cut (M := fun σ1 H1 => ∃ p, σ1 = [some (.ref a), some (.ref p)] ∧ Same H H1 ∧ H1 p = some (.lst [.bl (decide (i = 0)), .bl (decide (i = 1)), .bl (decide (i = 2)), .bl (decide (i = 3)), .bl (decide (i = 4)), .bl (decide (i = 5)), .bl (decide (i = 6)), .bl (decide (i = 7)), .bl (decide (i = 8)), .bl (decide (i = 9)), .bl (decide (i = 10)), .bl (decide (i = 11)), .bl (decide (i = 12)), .bl (decide (i = 13)), .bl (decide (i = 14)), .bl (decide (i = 15)), .bl (decide (i = 16)), .bl (decide (i = 17)), .bl (decide (i = 18)), .bl (decide (i = 19)), .bl (decide (i = 20)), .bl (decide (i = 21)), .bl (decide (i = 22)), .bl (decide (i = 23)), .bl (decide (i = 24)), .bl (decide (i = 25)), .bl (decide (i = 26)), .bl (decide (i = 27)), .bl (decide (i = 28)), .bl (decide (i = 29)), .bl (decide (i = 30)), .bl (decide (i = 31)), .bl (decide (i = 32)), .bl (decide (i = 33)), .bl (decide (i = 34)), .bl (decide (i = 35)), .bl (decide (i = 36)), .bl (decide (i = 37)), .bl (decide (i = 38)), .bl (decide (i = 39)), .bl (decide (i = 40)), .bl (decide (i = 41)), .bl (decide (i = 42)), .bl (decide (i = 43)), .bl (decide (i = 44))])) ?_ ?_
    · walk_at "q"
      refine z_isE (he.same s) xc (.own E.x42.C) (k.own i 42 c E.x42.C hi rfl) ?_
      walk_at "q"
      refine z_isE (he.same s) xc (.own E.x43.C) (k.own i 43 c E.x43.C hi rfl) ?_
      walk_at "q"
      refine z_isE (he.same s) xc (.own E.x44.C) (k.own i 44 c E.x44.C hi rfl) ?_
      walk_at "q"
      refine ⟨by show 3 ≤ sizeLine; decide, fun p2 hp2 => ?_⟩
      walk_at "q"
      refine z_cat (keep_upd l hp2) upd_same (by show 45 ≤ sizeLine; decide) (fun p3 hp3 => ?_)
      walk_at "q"
      have s2 := same_upd (o := .lst [.bl (decide (i = 42)), .bl (decide (i = 43)), .bl (decide (i = 44))]) s (s.free hp2)
      exact ⟨p3, rfl, same_upd s2 (s2.free hp3), upd_same⟩
    clear s
    clear l
    rintro σ1 H1 ⟨p, rfl, s, l⟩
    refine Evl.q_cut (M := fun σ1 H1 => ∃ p, σ1 = [some (.ref a), some (.ref p)] ∧ Same H H1 ∧ H1 p = some (.lst [.bl (decide (i = 0)), .bl (decide (i = 1)), .bl (decide (i = 2)), .bl (decide (i = 3)), .bl (decide (i = 4)), .bl (decide (i = 5)), .bl (decide (i = 6)), .bl (decide (i = 7)), .bl (decide (i = 8)), .bl (decide (i = 9)), .bl (decide (i = 10)), .bl (decide (i = 11)), .bl (decide (i = 12)), .bl (decide (i = 13)), .bl (decide (i = 14)), .bl (decide (i = 15)), .bl (decide (i = 16)), .bl (decide (i = 17)), .bl (decide (i = 18)), .bl (decide (i = 19)), .bl (decide (i = 20)), .bl (decide (i = 21)), .bl (decide (i = 22)), .bl (decide (i = 23)), .bl (decide (i = 24)), .bl (decide (i = 25)), .bl (decide (i = 26)), .bl (decide (i = 27)), .bl (decide (i = 28)), .bl (decide (i = 29)), .bl (decide (i = 30)), .bl (decide (i = 31)), .bl (decide (i = 32)), .bl (decide (i = 33)), .bl (decide (i = 34)), .bl (decide (i = 35)), .bl (decide (i = 36)), .bl (decide (i = 37)), .bl (decide (i = 38)), .bl (decide (i = 39)), .bl (decide (i = 40)), .bl (decide (i = 41)), .bl (decide (i = 42)), .bl (decide (i = 43)), .bl (decide (i = 44)), .bl (decide (i = 45)), .bl (decide (i = 46)), .bl (decide (i = 47))])) ?_ ?_
    · walk_at "q"
      refine z_isE (he.same s) xc (.own E.x45.C) (k.own i 45 c E.x45.C hi rfl) ?_
      walk_at "q"
      refine z_isE (he.same s) xc (.own E.x46.C) (k.own i 46 c E.x46.C hi rfl) ?_
      walk_at "q"
      refine z_isE (he.same s) xc (.own E.x47.C) (k.own i 47 c E.x47.C hi rfl) ?_
      walk_at "q"
      refine ⟨by show 3 ≤ sizeLine; decide, fun p2 hp2 => ?_⟩
      walk_at "q"
      refine z_cat (keep_upd l hp2) upd_same (by show 48 ≤ sizeLine; decide) (fun p3 hp3 => ?_)
      walk_at "q"
      have s2 := same_upd (o := .lst [.bl (decide (i = 45)), .bl (decide (i = 46)), .bl (decide (i = 47))]) s (s.free hp2)
      exact ⟨p3, rfl, same_upd s2 (s2.free hp3), upd_same⟩
    clear s
    clear l
    rintro σ1 H1 ⟨p, rfl, s, l⟩
    refine Evl.q_cut (M := fun σ1 H1 => ∃ p, σ1 = [some (.ref a), some (.ref p)] ∧ Same H H1 ∧ H1 p = some (.lst [.bl (decide (i = 0)), .bl (decide (i = 1)), .bl (decide (i = 2)), .bl (decide (i = 3)), .bl (decide (i = 4)), .bl (decide (i = 5)), .bl (decide (i = 6)), .bl (decide (i = 7)), .bl (decide (i = 8)), .bl (decide (i = 9)), .bl (decide (i = 10)), .bl (decide (i = 11)), .bl (decide (i = 12)), .bl (decide (i = 13)), .bl (decide (i = 14)), .bl (decide (i = 15)), .bl (decide (i = 16)), .bl (decide (i = 17)), .bl (decide (i = 18)), .bl (decide (i = 19)), .bl (decide (i = 20)), .bl (decide (i = 21)), .bl (decide (i = 22)), .bl (decide (i = 23)), .bl (decide (i = 24)), .bl (decide (i = 25)), .bl (decide (i = 26)), .bl (decide (i = 27)), .bl (decide (i = 28)), .bl (decide (i = 29)), .bl (decide (i = 30)), .bl (decide (i = 31)), .bl (decide (i = 32)), .bl (decide (i = 33)), .bl (decide (i = 34)), .bl (decide (i = 35)), .bl (decide (i = 36)), .bl (decide (i = 37)), .bl (decide (i = 38)), .bl (decide (i = 39)), .bl (decide (i = 40)), .bl (decide (i = 41)), .bl (decide (i = 42)), .bl (decide (i = 43)), .bl (decide (i = 44)), .bl (decide (i = 45)), .bl (decide (i = 46)), .bl (decide (i = 47)), .bl (decide (i = 48)), .bl (decide (i = 49)), .bl (decide (i = 50))])) ?_ ?_
    · walk_at "q"
      refine z_isE (he.same s) xc (.own E.x48.C) (k.own i 48 c E.x48.C hi rfl) ?_
      walk_at "q"
      refine z_isE (he.same s) xc (.own E.x49.C) (k.own i 49 c E.x49.C hi rfl) ?_
      walk_at "q"
      refine z_isE (he.same s) xc (.own E.x50.C) (k.own i 50 c E.x50.C hi rfl) ?_
      walk_at "q"
      refine ⟨by show 3 ≤ sizeLine; decide, fun p2 hp2 => ?_⟩
      walk_at "q"
      refine z_cat (keep_upd l hp2) upd_same (by show 51 ≤ sizeLine; decide) (fun p3 hp3 => ?_)
      walk_at "q"
      have s2 := same_upd (o := .lst [.bl (decide (i = 48)), .bl (decide (i = 49)), .bl (decide (i = 50))]) s (s.free hp2)
      exact ⟨p3, rfl, same_upd s2 (s2.free hp3), upd_same⟩
    clear s
    clear l
    rintro σ1 H1 ⟨p, rfl, s, l⟩
    refine Evl.q_cut (M := fun σ1 H1 => ∃ p, σ1 = [some (.ref a), some (.ref p)] ∧ Same H H1 ∧ H1 p = some (.lst [.bl (decide (i = 0)), .bl (decide (i = 1)), .bl (decide (i = 2)), .bl (decide (i = 3)), .bl (decide (i = 4)), .bl (decide (i = 5)), .bl (decide (i = 6)), .bl (decide (i = 7)), .bl (decide (i = 8)), .bl (decide (i = 9)), .bl (decide (i = 10)), .bl (decide (i = 11)), .bl (decide (i = 12)), .bl (decide (i = 13)), .bl (decide (i = 14)), .bl (decide (i = 15)), .bl (decide (i = 16)), .bl (decide (i = 17)), .bl (decide (i = 18)), .bl (decide (i = 19)), .bl (decide (i = 20)), .bl (decide (i = 21)), .bl (decide (i = 22)), .bl (decide (i = 23)), .bl (decide (i = 24)), .bl (decide (i = 25)), .bl (decide (i = 26)), .bl (decide (i = 27)), .bl (decide (i = 28)), .bl (decide (i = 29)), .bl (decide (i = 30)), .bl (decide (i = 31)), .bl (decide (i = 32)), .bl (decide (i = 33)), .bl (decide (i = 34)), .bl (decide (i = 35)), .bl (decide (i = 36)), .bl (decide (i = 37)), .bl (decide (i = 38)), .bl (decide (i = 39)), .bl (decide (i = 40)), .bl (decide (i = 41)), .bl (decide (i = 42)), .bl (decide (i = 43)), .bl (decide (i = 44)), .bl (decide (i = 45)), .bl (decide (i = 46)), .bl (decide (i = 47)), .bl (decide (i = 48)), .bl (decide (i = 49)), .bl (decide (i = 50)), .bl (decide (i = 51)), .bl (decide (i = 52)), .bl (decide (i = 53))])) ?_ ?_
    · walk_at "q"
      refine z_isE (he.same s) xc (.own E.x51.C) (k.own i 51 c E.x51.C hi rfl) ?_
      walk_at "q"
      refine z_isE (he.same s) xc (.own E.x52.C) (k.own i 52 c E.x52.C hi rfl) ?_
      walk_at "q"
      refine z_isE (he.same s) xc (.own E.x53.C) (k.own i 53 c E.x53.C hi rfl) ?_
      walk_at "q"
      refine ⟨by show 3 ≤ sizeLine; decide, fun p2 hp2 => ?_⟩
      walk_at "q"
      refine z_cat (keep_upd l hp2) upd_same (by show 54 ≤ sizeLine; decide) (fun p3 hp3 => ?_)
      walk_at "q"
      have s2 := same_upd (o := .lst [.bl (decide (i = 51)), .bl (decide (i = 52)), .bl (decide (i = 53))]) s (s.free hp2)
      exact ⟨p3, rfl, same_upd s2 (s2.free hp3), upd_same⟩
    clear s
    clear l
    rintro σ1 H1 ⟨p, rfl, s, l⟩
    refine Evl.q_cut (M := fun σ1 H1 => ∃ p, σ1 = [some (.ref a), some (.ref p)] ∧ Same H H1 ∧ H1 p = some (.lst [.bl (decide (i = 0)), .bl (decide (i = 1)), .bl (decide (i = 2)), .bl (decide (i = 3)), .bl (decide (i = 4)), .bl (decide (i = 5)), .bl (decide (i = 6)), .bl (decide (i = 7)), .bl (decide (i = 8)), .bl (decide (i = 9)), .bl (decide (i = 10)), .bl (decide (i = 11)), .bl (decide (i = 12)), .bl (decide (i = 13)), .bl (decide (i = 14)), .bl (decide (i = 15)), .bl (decide (i = 16)), .bl (decide (i = 17)), .bl (decide (i = 18)), .bl (decide (i = 19)), .bl (decide (i = 20)), .bl (decide (i = 21)), .bl (decide (i = 22)), .bl (decide (i = 23)), .bl (decide (i = 24)), .bl (decide (i = 25)), .bl (decide (i = 26)), .bl (decide (i = 27)), .bl (decide (i = 28)), .bl (decide (i = 29)), .bl (decide (i = 30)), .bl (decide (i = 31)), .bl (decide (i = 32)), .bl (decide (i = 33)), .bl (decide (i = 34)), .bl (decide (i = 35)), .bl (decide (i = 36)), .bl (decide (i = 37)), .bl (decide (i = 38)), .bl (decide (i = 39)), .bl (decide (i = 40)), .bl (decide (i = 41)), .bl (decide (i = 42)), .bl (decide (i = 43)), .bl (decide (i = 44)), .bl (decide (i = 45)), .bl (decide (i = 46)), .bl (decide (i = 47)), .bl (decide (i = 48)), .bl (decide (i = 49)), .bl (decide (i = 50)), .bl (decide (i = 51)), .bl (decide (i = 52)), .bl (decide (i = 53)), .bl (decide (i = 54)), .bl (decide (i = 55)), .bl (decide (i = 56))])) ?_ ?_
    · walk_at "q"
      refine z_isE (he.same s) xc (.own E.x54.C) (k.own i 54 c E.x54.C hi rfl) ?_
      walk_at "q"
      refine z_isE (he.same s) xc (.own E.x55.C) (k.own i 55 c E.x55.C hi rfl) ?_
      walk_at "q"
      refine z_isE (he.same s) xc (.own E.x56.C) (k.own i 56 c E.x56.C hi rfl) ?_
      walk_at "q"
      refine ⟨by show 3 ≤ sizeLine; decide, fun p2 hp2 => ?_⟩
      walk_at "q"
      refine z_cat (keep_upd l hp2) upd_same (by show 57 ≤ sizeLine; decide) (fun p3 hp3 => ?_)
      walk_at "q"
      have s2 := same_upd (o := .lst [.bl (decide (i = 54)), .bl (decide (i = 55)), .bl (decide (i = 56))]) s (s.free hp2)
      exact ⟨p3, rfl, same_upd s2 (s2.free hp3), upd_same⟩
    clear s
    clear l
    rintro σ1 H1 ⟨p, rfl, s, l⟩
    refine Evl.q_cut (M := fun σ1 H1 => ∃ p, σ1 = [some (.ref a), some (.ref p)] ∧ Same H H1 ∧ H1 p = some (.lst [.bl (decide (i = 0)), .bl (decide (i = 1)), .bl (decide (i = 2)), .bl (decide (i = 3)), .bl (decide (i = 4)), .bl (decide (i = 5)), .bl (decide (i = 6)), .bl (decide (i = 7)), .bl (decide (i = 8)), .bl (decide (i = 9)), .bl (decide (i = 10)), .bl (decide (i = 11)), .bl (decide (i = 12)), .bl (decide (i = 13)), .bl (decide (i = 14)), .bl (decide (i = 15)), .bl (decide (i = 16)), .bl (decide (i = 17)), .bl (decide (i = 18)), .bl (decide (i = 19)), .bl (decide (i = 20)), .bl (decide (i = 21)), .bl (decide (i = 22)), .bl (decide (i = 23)), .bl (decide (i = 24)), .bl (decide (i = 25)), .bl (decide (i = 26)), .bl (decide (i = 27)), .bl (decide (i = 28)), .bl (decide (i = 29)), .bl (decide (i = 30)), .bl (decide (i = 31)), .bl (decide (i = 32)), .bl (decide (i = 33)), .bl (decide (i = 34)), .bl (decide (i = 35)), .bl (decide (i = 36)), .bl (decide (i = 37)), .bl (decide (i = 38)), .bl (decide (i = 39)), .bl (decide (i = 40)), .bl (decide (i = 41)), .bl (decide (i = 42)), .bl (decide (i = 43)), .bl (decide (i = 44)), .bl (decide (i = 45)), .bl (decide (i = 46)), .bl (decide (i = 47)), .bl (decide (i = 48)), .bl (decide (i = 49)), .bl (decide (i = 50)), .bl (decide (i = 51)), .bl (decide (i = 52)), .bl (decide (i = 53)), .bl (decide (i = 54)), .bl (decide (i = 55)), .bl (decide (i = 56)), .bl (decide (i = 57))])) ?_ ?_
    · walk_at "q"
      refine z_isE (he.same s) xc (.own E.x57.C) (k.own i 57 c E.x57.C hi rfl) ?_
      walk_at "q"
      refine ⟨by show 1 ≤ sizeLine; decide, fun p2 hp2 => ?_⟩
      walk_at "q"
      refine z_cat (keep_upd l hp2) upd_same (by show 58 ≤ sizeLine; decide) (fun p3 hp3 => ?_)
      walk_at "q"
      have s2 := same_upd (o := .lst [.bl (decide (i = 57))]) s (s.free hp2)
      exact ⟨p3, rfl, same_upd s2 (s2.free hp3), upd_same⟩
    clear s
    clear l
    rintro σ1 H1 ⟨p, rfl, s, l⟩
    walk_at "q"
    exact q p H1 s l
end
end K6
set_option maxHeartbeats 8000000
namespace K6
open PySem PySem.Spec PyProof.Rows L2 TB
open SX (S S_len S_cat)
local macro_rules | `(tactic| walk_at "side") => `(tactic| first
  | (focus exact Or.inr ⟨by decide, by decide⟩)
  | (focus exact TB.cmul_mod (by decide) (by decide))
  | (focus exact Or.inl ⟨by decide, by decide⟩)
  | (focus exact ⟨by decide, by decide⟩)
  | (focus exact ⟨by decide, by decide +kernel⟩)
  | (focus (show (0 : Int) < _; first | decide | omega | assumption))
  | (focus assumption)
  | (focus exact ⟨by omega, by omega⟩)
  | (focus (show (_ : Nat) ≤ sizeLine; rw [sizeLine_eq]; first | decide | omega))
  | (focus (show (_ : Nat) < sizeLine; rw [sizeLine_eq]; first | decide | omega))
  | rotate_left)
local macro_rules | `(tactic| walk_at "q1") => `(tactic| first
  | with_reducible refine TB.z_seq ?_
  | with_reducible refine TB.z_asg ?_
  | with_reducible refine TB.z_drop ?_
  | with_reducible refine TB.z_ret ?_
  | with_reducible refine TB.z_retN ?_
  | with_reducible refine TB.z_next ?_
  | with_reducible refine TB.z_brk ?_
  | with_reducible refine TB.z_cont ?_
  | with_reducible refine TB.z_if ?_
  | with_reducible refine TB.z_name ?_
  | with_reducible refine TB.z_sub ?_
  | ((with_reducible show L2.tVar _ _ _ _); refine TB.z_var rfl ?_)
  | with_reducible refine TB.z_c ?_
  | with_reducible refine TB.z_op ?_
  | with_reducible refine TB.z_un ?_
  | with_reducible refine TB.z_lt ?_
  | with_reducible refine TB.z_le ?_
  | with_reducible refine TB.z_gt ?_
  | with_reducible refine TB.z_ge ?_
  | with_reducible refine TB.z_eqI ?_
  | with_reducible refine TB.z_neI ?_
  | with_reducible refine TB.z_eqS ?_
  | with_reducible refine TB.z_neS ?_
  | with_reducible refine TB.z_I0 ?_
  | ((with_reducible refine TB.z_I ?_ ?_); walk_at "side")
  | with_reducible refine TB.z_U ?_
  | with_reducible refine TB.z_test ?_
  | with_reducible refine TB.z_tB ?_
  | with_reducible refine TB.z_bl ?_
  | with_reducible refine TB.z_and ?_
  | with_reducible refine TB.z_or ?_
  | with_reducible refine TB.z_not ?_
  | with_reducible refine TB.z_notV ?_
  | with_reducible refine TB.z_andV ?_
  | with_reducible refine TB.z_orV ?_
  | with_reducible refine TB.z_ifE ?_
  | with_reducible refine TB.z_iteT ?_
  | with_reducible refine TB.z_iteF ?_
  | with_reducible refine TB.z_iteNT ?_
  | with_reducible refine TB.z_iteNF ?_
  | with_reducible refine TB.z_cb ?_
  | with_reducible refine TB.z_call ?_
  | with_reducible refine TB.z_nil ?_
  | with_reducible refine TB.z_cons ?_
  | with_reducible refine TB.z_tup ?_
  | with_reducible refine TB.z_lst ?_
  | with_reducible refine TB.z_rInt ?_
  | with_reducible refine TB.z_rAbs ?_
  | ((with_reducible refine TB.z_rLenS ?_ ?_); walk_at "side")
  | ((with_reducible show TB.rLen _ _ _ _); first
      | refine TB.z_rLen (Or.inl (SqL.of L2.upd_same)) ?_
      | refine TB.z_rLen (Or.inl (SqL.of (by assumption))) ?_
      | refine TB.z_rLen (Or.inr (SqT.of (by assumption))) ?_
      | refine TB.z_rLen (Or.inl (by first | assumption | apply_assumption)) ?_
      | refine TB.z_rLen (Or.inr (by first | assumption | apply_assumption)) ?_)
  | ((with_reducible show L2.rIxL _ _ _ _ _); first
      | refine TB.z_ixL (SqL.of L2.upd_same) rfl ?_
      | refine TB.z_ixL (SqL.of (by assumption)) rfl ?_
      | refine TB.z_ixL (by first | assumption | apply_assumption) (by first | assumption | rfl) ?_)
  | ((with_reducible show L2.rIxT _ _ _ _ _); first
      | refine TB.z_ixT (SqT.of L2.upd_same) rfl ?_
      | refine TB.z_ixT (SqT.of (by assumption)) rfl ?_
      | refine TB.z_ixT (by first | assumption | apply_assumption) (by first | assumption | rfl) ?_)
  | ((with_reducible show L2.rSetL _ _ _ _ _); refine TB.z_setU rfl ?_)
  | with_reducible refine TB.z_lcR ?_
  | with_reducible refine TB.z_m1 ?_
  | with_reducible refine TB.z_lcL ?_
  | with_reducible refine TB.z_bm ?_
  | with_reducible refine TB.z_bm0 ?_)
local macro_rules | `(tactic| walk_at "q") => `(tactic| repeat walk_at "q1")
local macro_rules | `(tactic| walk_at "qq") => `(tactic| repeat' (first
  | walk_at "q1"
  | with_reducible refine TB.z_ite (fun hq => ?_) (fun hq => ?_)
  | with_reducible refine TB.z_iteN (fun hq => ?_) (fun hq => ?_)
  | with_reducible refine TB.z_iteB (fun hq => ?_) (fun hq => ?_)))

theorem sc__law_right : FnScope ["at", "one", "two", "told", "due", "made", "flags"] ["at", "one", "two", "told", "due"] (defScope s__law_right) := ⟨rfl, rfl, rfl, by decide +kernel, rfl, by decide +kernel, by decide +kernel⟩

section
variable {P : Program} {w : World} {K : PySem.W.Frag} {mg : Str → Option Value} {base : Heap}
theorem flags_one : ∀ i, i < 58 → (flagsB 58 i).countP (· == true) = 1 := by decide +kernel
theorem flags_at {i : Nat} (h : i < 58) : atI (flagsL i) (i : Int) = some (.bl true) := by
  refine atI_nat ?_
  have h1 : (flagsB 58 i)[i]? = some true := by
    unfold flagsB
    rw [List.getElem?_map, List.getElem?_range h]
    show some (decide (i = i)) = _
    rw [decide_eq_true rfl]
  unfold flagsL
  rw [List.getElem?_map, h1] <;> rfl
def spRight (K : PySem.W.Frag) (cs : List Addr) : Sp := fun vs H Q _ => ∃ (i : Nat) (c a b t u : Addr) (xs : List V) (ds : List PyData), vs = [.int (i : Int), .ref a, .ref b, .ref t, .ref u] ∧ cs[i]? = some c ∧ IsE H a c ∧ IsE H b c ∧
  H t = some (.lst xs) ∧ H u = some (.lst xs) ∧ DpAll K H xs ds ∧ (∀ d ∈ ds, Small 3 d) ∧ ds.length ≤ 4 ∧ ∀ H', Same H H' → Q (.bl true) H'
theorem ok_right (D : Df K mg "_law_right" s__law_right ["at", "one", "two", "told", "due"]) (D_law_flags : Df K mg "_law_flags" s__law_flags ["made"]) (B : Bi mg) (E : AllEx P w K mg base) (k : KitOk K E.cs E.tail) :
    FnG P w K mg base CX0 3 D.f D.fd ["at", "one", "two", "told", "due"] (spRight K E.cs) := by
  have G_law_flags : FnOk P w K mg base CX0 2 D_law_flags.f D_law_flags.fd ["made"] (spFlags K E.cs) := ok_flags D_law_flags B E k
  refine okG D.F sc__law_right (fun vs H Q E h => ?_) (fun cdv A outer s H vs Q E' hgd hr h => ?_)
  · obtain ⟨_, _, _, _, _, _, _, _, rfl, _⟩ := h
    rfl
  · obtain ⟨i, c, a, b, tt, uu, xs, ds, rfl, hi, ha, hb, ht, hu, hd, hs, hl, q⟩ := h
    have i58 : i < 58 := (List.getElem?_eq_some_iff.mp hi).1
    refine ⟨_, (pss_cons (ps_for PassesOwn.never rfl (pi_list (pe_lst (pa_cons (pv 1) (pa_cons (pv 2) pa_nil)))) (pg_name (i := 5) sc__law_right.nd rfl (Or.inl rfl))
 (pss_cons (ps_set (i := 6) sc__law_right.nd rfl (Or.inl rfl) (pe_call G_law_flags hr (by rfl) D_law_flags.g D_law_flags.F.kp D_law_flags.b .nil pass0 (pa_cons (pv 5) pa_nil)))
 (pss_cons (ps_if (PW.pt (pw_or (pt_cmpR op_ne (pe_bm PySem.F.plainAttrs_list PySem.F.slot_list_count PySem.F.type_list_count mt_countB (pv 6) (pa_cons pe_bl pa_nil)) pe_int (nomark _)) (pw_or1 (pt_not (pt_val (pe_ix ix_list (pv 6) (pv 0) (fun _ _ => rfl))))))) (pss_one (ps_ret pe_bl)) pss_nil)
 (pss_one (ps_if (PW.pt (pw_or (pt_not (pt_val (pe_callB c_isV (by rfl) B.isinstance (by decide +kernel) (pa_cons (pv 5) (pa_cons (pe_glob (v := .ref E.tail) (by rfl) E.gT rfl) pa_nil))))) (pw_or1 (pt_not (pt_val (pe_callB c_isV (by rfl) B.isinstance (by decide +kernel) (pa_cons (pv 5) (pa_cons (pe_bltn (v := .ty "ValueError") (by rfl) B.ValueError (by decide +kernel) rfl) pa_nil)))))))) (pss_one (ps_ret pe_bl)) pss_nil)))))
 (pss_one (ps_ret (pe_cmpR op_eq (pe_callB (c_repr hgd hr.units) (by rfl) B.repr (by decide +kernel) (pa_cons (pv 3) pa_nil)) (pe_callB (c_repr hgd hr.units) (by rfl) B.repr (by decide +kernel) (pa_cons (pv 4) pa_nil)) (nomark _))))), ?_⟩
    dsimp only [L2.cxOf, L2.Cx.nox, L2.Cx.wish]
    walk_at "q"
    refine z_forL ?_
    walk_at "q"
    refine ⟨by show 2 ≤ sizeLine; decide, fun p hp => ?_⟩
    refine z_kFor (xs := [.ref a, .ref b]) (.of upd_same) (fun n σ1 H1 => ∃ v5 v6, σ1 = [some (.int (i : Int)), some (.ref a), some (.ref b), some (.ref tt), some (.ref uu), v5, v6] ∧ Same H H1 ∧ H1 p = some (.lst [.ref a, .ref b])) ⟨none, none, rfl, same_upd (.refl _) hp, upd_same⟩ (fun n σ1 H1 hn ⟨_, _, _, _, l⟩ => .of l) (fun n x σ1 H1 hx ⟨v5, v6, e, s, l⟩ => ?_) (fun σ1 H1 ⟨v5, v6, e, s, l⟩ => ?_)
    · subst e
      obtain ⟨o, rfl, ho⟩ : ∃ o, x = .ref o ∧ IsE H o c := by
        have hx2 := List.mem_of_getElem? hx
        rcases List.mem_cons.mp hx2 with h1 | h1
        · exact ⟨a, h1, ha⟩
        · exact ⟨b, List.mem_singleton.mp h1, hb⟩
      walk_at "q"
      refine ⟨o, c, i, rfl, hi, ho.same s, fun f H2 s2 l2 => ?_⟩
      have h2 : SqL K H2 f ((flagsB 58 i).map V.bl) := .of l2
      walk_at "q"
      refine ⟨.inl ⟨rfl, _, h2⟩, ?_⟩
      walk_at "q"
      refine z_cntB h2 ?_
      rw [flags_one i i58]
      walk_at "q"
      refine z_iteN (fun h => absurd rfl h) (fun _ => ?_)
      walk_at "q"
      refine z_ixL h2 (flags_at i58) ?_
      walk_at "q"
      refine z_isE ((ho.same s).same s2) (k.exc i c hi) (.own E.tail) (k.tl i c hi) ?_
      walk_at "q"
      refine z_isE ((ho.same s).same s2) (k.exc i c hi) (.ty "ValueError") (k.ve i c hi) ?_
      walk_at "q"
      exact ⟨_, _, rfl, s.trans s2, s2 _ _ l⟩
    · subst e
      walk_at "q"
      have sm : Small 4 (.list ds) := small_list hs hl
      refine z_repr (.lst (.of (s _ _ ht)) (dpAll_same s hd)) sm (by decide) ?_
      walk_at "q"
      refine z_repr (.lst (.of (s _ _ hu)) (dpAll_same s hd)) sm (by decide) ?_
      walk_at "q"
      rw [decide_eq_true rfl]
      exact q _ s
theorem right_now {cs : List Addr} {H1 : Hp} {i : Nat} {c a b z y : Addr} {xs : List V} {ds : List PyData} {Q : VK} {E : XK} (hi : cs[i]? = some c) (ha : IsE H1 a c) (hb : IsE H1 b c) (hz : H1 z = none) (hy : (upd H1 z (.lst xs)) y = none)
    (hd : DpAll K H1 xs ds) (hs : ∀ d ∈ ds, Small 3 d) (hl : ds.length ≤ 4) (q : ∀ H', Same H1 H' → Q (.bl true) H') : spRight K cs ([.int (i : Int), .ref a, .ref b, .ref z, .ref y] ++ []) (upd (upd H1 z (.lst xs)) y (.lst xs)) Q E := by
  have s1 : Same H1 (upd (upd H1 z (.lst xs)) y (.lst xs)) := (same_upd (.refl _) hz).trans (same_upd (.refl _) hy)
  exact ⟨i, c, a, b, z, y, xs, ds, rfl, hi, ha.same s1, hb.same s1, keep_upd upd_same hy, upd_same, dpAll_same s1 hd, hs, hl, fun H' s2 => q H' (s1.trans s2)⟩
theorem right_told {cs : List Addr} {H1 : Hp} {i : Nat} {c a b z y : Addr} {xs : List V} {ds : List PyData} {Q : VK} {E : XK} (hi : cs[i]? = some c) (ha : IsE H1 a c) (hb : IsE H1 b c) (hz : H1 z = some (.lst xs)) (hy : H1 y = none)
    (hd : DpAll K H1 xs ds) (hs : ∀ d ∈ ds, Small 3 d) (hl : ds.length ≤ 4) (q : ∀ H', Same H1 H' → Q (.bl true) H') : spRight K cs ([.int (i : Int), .ref a, .ref b, .ref z, .ref y] ++ []) (upd H1 y (.lst xs)) Q E := by
  have s1 : Same H1 (upd H1 y (.lst xs)) := same_upd (.refl _) hy
  exact ⟨i, c, a, b, z, y, xs, ds, rfl, hi, ha.same s1, hb.same s1, keep_upd hz hy, upd_same, dpAll_same s1 hd, hs, hl, fun H' s2 => q H' (s1.trans s2)⟩
/-- two values, whatever they are: all is well -/
def spPair (K : PySem.W.Frag) : Sp := fun vs H Q _ => ∃ (v w : V) (dv dw : PyData), vs = [v, w] ∧ Dp K H v dv ∧ Dp K H w dw ∧ Small 3 dv ∧ Small 3 dw ∧ ∀ H', Same H H' → Q (.bl true) H'
end
end K6
set_option maxHeartbeats 8000000
namespace K6
open PySem PySem.Spec PyProof.Rows L2 TB
open SX (S S_len S_cat)
local macro_rules | `(tactic| walk_at "side") => `(tactic| first
  | (focus exact Or.inr ⟨by decide, by decide⟩)
  | (focus exact TB.cmul_mod (by decide) (by decide))
  | (focus exact Or.inl ⟨by decide, by decide⟩)
  | (focus exact ⟨by decide, by decide⟩)
  | (focus exact ⟨by decide, by decide +kernel⟩)
  | (focus (show (0 : Int) < _; first | decide | omega | assumption))
  | (focus assumption)
  | (focus exact ⟨by omega, by omega⟩)
  | (focus (show (_ : Nat) ≤ sizeLine; rw [sizeLine_eq]; first | decide | omega))
  | (focus (show (_ : Nat) < sizeLine; rw [sizeLine_eq]; first | decide | omega))
  | rotate_left)
local macro_rules | `(tactic| walk_at "q1") => `(tactic| first
  | with_reducible refine TB.z_seq ?_
  | with_reducible refine TB.z_asg ?_
  | with_reducible refine TB.z_drop ?_
  | with_reducible refine TB.z_ret ?_
  | with_reducible refine TB.z_retN ?_
  | with_reducible refine TB.z_next ?_
  | with_reducible refine TB.z_brk ?_
  | with_reducible refine TB.z_cont ?_
  | with_reducible refine TB.z_if ?_
  | with_reducible refine TB.z_name ?_
  | with_reducible refine TB.z_sub ?_
  | ((with_reducible show L2.tVar _ _ _ _); refine TB.z_var rfl ?_)
  | with_reducible refine TB.z_c ?_
  | with_reducible refine TB.z_op ?_
  | with_reducible refine TB.z_un ?_
  | with_reducible refine TB.z_lt ?_
  | with_reducible refine TB.z_le ?_
  | with_reducible refine TB.z_gt ?_
  | with_reducible refine TB.z_ge ?_
  | with_reducible refine TB.z_eqI ?_
  | with_reducible refine TB.z_neI ?_
  | with_reducible refine TB.z_eqS ?_
  | with_reducible refine TB.z_neS ?_
  | with_reducible refine TB.z_I0 ?_
  | ((with_reducible refine TB.z_I ?_ ?_); walk_at "side")
  | with_reducible refine TB.z_U ?_
  | with_reducible refine TB.z_test ?_
  | with_reducible refine TB.z_tB ?_
  | with_reducible refine TB.z_bl ?_
  | with_reducible refine TB.z_and ?_
  | with_reducible refine TB.z_or ?_
  | with_reducible refine TB.z_not ?_
  | with_reducible refine TB.z_notV ?_
  | with_reducible refine TB.z_andV ?_
  | with_reducible refine TB.z_orV ?_
  | with_reducible refine TB.z_ifE ?_
  | with_reducible refine TB.z_iteT ?_
  | with_reducible refine TB.z_iteF ?_
  | with_reducible refine TB.z_iteNT ?_
  | with_reducible refine TB.z_iteNF ?_
  | with_reducible refine TB.z_cb ?_
  | with_reducible refine TB.z_call ?_
  | with_reducible refine TB.z_nil ?_
  | with_reducible refine TB.z_cons ?_
  | with_reducible refine TB.z_tup ?_
  | with_reducible refine TB.z_lst ?_
  | with_reducible refine TB.z_rInt ?_
  | with_reducible refine TB.z_rAbs ?_
  | ((with_reducible refine TB.z_rLenS ?_ ?_); walk_at "side")
  | ((with_reducible show TB.rLen _ _ _ _); first
      | refine TB.z_rLen (Or.inl (SqL.of L2.upd_same)) ?_
      | refine TB.z_rLen (Or.inl (SqL.of (by assumption))) ?_
      | refine TB.z_rLen (Or.inr (SqT.of (by assumption))) ?_
      | refine TB.z_rLen (Or.inl (by first | assumption | apply_assumption)) ?_
      | refine TB.z_rLen (Or.inr (by first | assumption | apply_assumption)) ?_)
  | ((with_reducible show L2.rIxL _ _ _ _ _); first
      | refine TB.z_ixL (SqL.of L2.upd_same) rfl ?_
      | refine TB.z_ixL (SqL.of (by assumption)) rfl ?_
      | refine TB.z_ixL (by first | assumption | apply_assumption) (by first | assumption | rfl) ?_)
  | ((with_reducible show L2.rIxT _ _ _ _ _); first
      | refine TB.z_ixT (SqT.of L2.upd_same) rfl ?_
      | refine TB.z_ixT (SqT.of (by assumption)) rfl ?_
      | refine TB.z_ixT (by first | assumption | apply_assumption) (by first | assumption | rfl) ?_)
  | ((with_reducible show L2.rSetL _ _ _ _ _); refine TB.z_setU rfl ?_)
  | with_reducible refine TB.z_lcR ?_
  | with_reducible refine TB.z_m1 ?_
  | with_reducible refine TB.z_lcL ?_
  | with_reducible refine TB.z_bm ?_
  | with_reducible refine TB.z_bm0 ?_)
local macro_rules | `(tactic| walk_at "q") => `(tactic| repeat walk_at "q1")
local macro_rules | `(tactic| walk_at "qq") => `(tactic| repeat' (first
  | walk_at "q1"
  | with_reducible refine TB.z_ite (fun hq => ?_) (fun hq => ?_)
  | with_reducible refine TB.z_iteN (fun hq => ?_) (fun hq => ?_)
  | with_reducible refine TB.z_iteB (fun hq => ?_) (fun hq => ?_)))

theorem sc__law_strings : FnScope ["thing", "other", "found", "one", "two", "told"] ["thing", "other"] (defScope s__law_strings) := ⟨rfl, rfl, rfl, by decide +kernel, rfl, by decide +kernel, by decide +kernel⟩

section
variable {P : Program} {w : World} {K : PySem.W.Frag} {mg : Str → Option Value} {base : Heap}
theorem ok_law_strings (D : Df K mg "_law_strings" s__law_strings ["thing", "other"]) (D_law_right : Df K mg "_law_right" s__law_right ["at", "one", "two", "told", "due"]) (D_law_flags : Df K mg "_law_flags" s__law_flags ["made"]) (B : Bi mg) (E : AllEx P w K mg base) (k : KitOk K E.cs E.tail) :
    FnG P w K mg base CX0 4 D.f D.fd ["thing", "other"] (spPair K) := by
  have G_law_right : FnG P w K mg base CX0 3 D_law_right.f D_law_right.fd ["at", "one", "two", "told", "due"] (spRight K E.cs) := ok_right D_law_right D_law_flags B E k
  refine okG D.F sc__law_strings (fun vs H Q E h => ?_) (fun cdv A outer s H vs Q E' hgd hr h => ?_)
  · obtain ⟨_, _, _, _, rfl, _⟩ := h
    rfl
  · obtain ⟨v, w, dv, dw, rfl, hv, hw, sv, sw, q⟩ := h
    have two : ∀ d ∈ [dv, dw], Small 3 d := fun d hd => by
      rcases List.mem_cons.mp hd with h1 | h1
      · exact h1 ▸ sv
      · exact List.mem_singleton.mp h1 ▸ sw
    have four : ∀ d ∈ [dv, dw, dw, dv], Small 3 d := fun d hd => by
      simp only [List.mem_cons, List.not_mem_nil, or_false] at hd
      rcases hd with h1 | h1 | h1 | h1
      · exact h1 ▸ sv
      · exact h1 ▸ sw
      · exact h1 ▸ sw
      · exact h1 ▸ sv
    refine ⟨_, (Evl.pss_cut (ps_set (i := 2) sc__law_strings.nd rfl (Or.inl rfl) (pe_lst pa_nil))
 (Evl.pss_cut (ps_set (i := 3) sc__law_strings.nd rfl (Or.inl rfl) (pe_oexV E.x10.oex E.x10.ini E.x10.tI E.x10.fn (hr.mono (by decide)) E.x10.b pass0 (by rfl) E.x10.g (pa_cons (pv 0) pa_nil)))
 (Evl.pss_cut (ps_set (i := 4) sc__law_strings.nd rfl (Or.inl rfl) (pe_oexV E.x10.oex E.x10.ini E.x10.tI E.x10.fn (hr.mono (by decide)) E.x10.b pass0 (by rfl) E.x10.g (pa_cons (pv 1) pa_nil)))
 (Evl.pss_cut (ps_expr (pe_bm PySem.F.plainAttrs_list PySem.F.slot_list_append PySem.F.type_list_append mt_append (pv 2) (pa_cons (pe_callG G_law_right hgd hr (by rfl) D_law_right.g D_law_right.F.kp D_law_right.b .nil pass0 (pa_cons pe_int (pa_cons (pv 3) (pa_cons (pv 4) (pa_cons (pe_lst (pa_cons (pe_ofl (pv 3) (by rfl)) (pa_cons (pe_ofl (pv 4) (by rfl)) pa_nil))) (pa_cons (pe_lst (pa_cons (pv 0) (pa_cons (pv 1) pa_nil))) pa_nil)))))) pa_nil)))
 (Evl.pss_cut (ps_set (i := 3) sc__law_strings.nd rfl (Or.inl rfl) (pe_oexV E.x16.oex E.x16.ini E.x16.tI E.x16.fn (hr.mono (by decide)) E.x16.b pass0 (by rfl) E.x16.g (pa_cons (pv 0) pa_nil)))
 (Evl.pss_cut (ps_set (i := 4) sc__law_strings.nd rfl (Or.inl rfl) (pe_oexV E.x16.oex E.x16.ini E.x16.tI E.x16.fn (hr.mono (by decide)) E.x16.b pass0 (by rfl) E.x16.g (pa_cons (pv 1) pa_nil)))
 (Evl.pss_cut (ps_expr (pe_bm PySem.F.plainAttrs_list PySem.F.slot_list_append PySem.F.type_list_append mt_append (pv 2) (pa_cons (pe_callG G_law_right hgd hr (by rfl) D_law_right.g D_law_right.F.kp D_law_right.b .nil pass0 (pa_cons pe_int (pa_cons (pv 3) (pa_cons (pv 4) (pa_cons (pe_lst (pa_cons (pe_ofl (pv 3) (by rfl)) (pa_cons (pe_ofl (pv 4) (by rfl)) pa_nil))) (pa_cons (pe_lst (pa_cons (pv 0) (pa_cons (pv 1) pa_nil))) pa_nil)))))) pa_nil)))
 (Evl.pss_cut (ps_set (i := 3) sc__law_strings.nd rfl (Or.inl rfl) (pe_oexV E.x19.oex E.x19.ini E.x19.tI E.x19.fn (hr.mono (by decide)) E.x19.b pass0 (by rfl) E.x19.g (pa_cons (pv 0) pa_nil)))
 (Evl.pss_cut (ps_set (i := 4) sc__law_strings.nd rfl (Or.inl rfl) (pe_oexV E.x19.oex E.x19.ini E.x19.tI E.x19.fn (hr.mono (by decide)) E.x19.b pass0 (by rfl) E.x19.g (pa_cons (pv 1) pa_nil)))
 (Evl.pss_cut (ps_expr (pe_bm PySem.F.plainAttrs_list PySem.F.slot_list_append PySem.F.type_list_append mt_append (pv 2) (pa_cons (pe_callG G_law_right hgd hr (by rfl) D_law_right.g D_law_right.F.kp D_law_right.b .nil pass0 (pa_cons pe_int (pa_cons (pv 3) (pa_cons (pv 4) (pa_cons (pe_lst (pa_cons (pe_ofl (pv 3) (by rfl)) (pa_cons (pe_ofl (pv 4) (by rfl)) pa_nil))) (pa_cons (pe_lst (pa_cons (pv 0) (pa_cons (pv 1) pa_nil))) pa_nil)))))) pa_nil)))
 (Evl.pss_cut (ps_set (i := 3) sc__law_strings.nd rfl (Or.inl rfl) (pe_oexV E.x42.oex E.x42.ini E.x42.tI E.x42.fn (hr.mono (by decide)) E.x42.b pass0 (by rfl) E.x42.g (pa_cons (pv 0) pa_nil)))
 (Evl.pss_cut (ps_set (i := 4) sc__law_strings.nd rfl (Or.inl rfl) (pe_oexV E.x42.oex E.x42.ini E.x42.tI E.x42.fn (hr.mono (by decide)) E.x42.b pass0 (by rfl) E.x42.g (pa_cons (pv 1) pa_nil)))
 (Evl.pss_cut (ps_expr (pe_bm PySem.F.plainAttrs_list PySem.F.slot_list_append PySem.F.type_list_append mt_append (pv 2) (pa_cons (pe_callG G_law_right hgd hr (by rfl) D_law_right.g D_law_right.F.kp D_law_right.b .nil pass0 (pa_cons pe_int (pa_cons (pv 3) (pa_cons (pv 4) (pa_cons (pe_lst (pa_cons (pe_ofl (pv 3) (by rfl)) (pa_cons (pe_ofl (pv 4) (by rfl)) pa_nil))) (pa_cons (pe_lst (pa_cons (pv 0) (pa_cons (pv 1) pa_nil))) pa_nil)))))) pa_nil)))
 (Evl.pss_cut (ps_set (i := 3) sc__law_strings.nd rfl (Or.inl rfl) (pe_oexV E.x44.oex E.x44.ini E.x44.tI E.x44.fn (hr.mono (by decide)) E.x44.b pass0 (by rfl) E.x44.g (pa_cons (pv 0) pa_nil)))
 (Evl.pss_cut (ps_set (i := 4) sc__law_strings.nd rfl (Or.inl rfl) (pe_oexV E.x44.oex E.x44.ini E.x44.tI E.x44.fn (hr.mono (by decide)) E.x44.b pass0 (by rfl) E.x44.g (pa_cons (pv 1) pa_nil)))
 (Evl.pss_cut (ps_expr (pe_bm PySem.F.plainAttrs_list PySem.F.slot_list_append PySem.F.type_list_append mt_append (pv 2) (pa_cons (pe_callG G_law_right hgd hr (by rfl) D_law_right.g D_law_right.F.kp D_law_right.b .nil pass0 (pa_cons pe_int (pa_cons (pv 3) (pa_cons (pv 4) (pa_cons (pe_lst (pa_cons (pe_ofl (pv 3) (by rfl)) (pa_cons (pe_ofl (pv 4) (by rfl)) pa_nil))) (pa_cons (pe_lst (pa_cons (pv 0) (pa_cons (pv 1) pa_nil))) pa_nil)))))) pa_nil)))
 (Evl.pss_cut (ps_set (i := 3) sc__law_strings.nd rfl (Or.inl rfl) (pe_oexV E.x46.oex E.x46.ini E.x46.tI E.x46.fn (hr.mono (by decide)) E.x46.b pass0 (by rfl) E.x46.g (pa_cons (pv 0) pa_nil)))
 (Evl.pss_cut (ps_set (i := 4) sc__law_strings.nd rfl (Or.inl rfl) (pe_oexV E.x46.oex E.x46.ini E.x46.tI E.x46.fn (hr.mono (by decide)) E.x46.b pass0 (by rfl) E.x46.g (pa_cons (pv 1) pa_nil)))
 (Evl.pss_cut (ps_expr (pe_bm PySem.F.plainAttrs_list PySem.F.slot_list_append PySem.F.type_list_append mt_append (pv 2) (pa_cons (pe_callG G_law_right hgd hr (by rfl) D_law_right.g D_law_right.F.kp D_law_right.b .nil pass0 (pa_cons pe_int (pa_cons (pv 3) (pa_cons (pv 4) (pa_cons (pe_lst (pa_cons (pe_ofl (pv 3) (by rfl)) (pa_cons (pe_ofl (pv 4) (by rfl)) pa_nil))) (pa_cons (pe_lst (pa_cons (pv 0) (pa_cons (pv 1) pa_nil))) pa_nil)))))) pa_nil)))
 (Evl.pss_cut (ps_set (i := 3) sc__law_strings.nd rfl (Or.inl rfl) (pe_oexV E.x52.oex E.x52.ini E.x52.tI E.x52.fn (hr.mono (by decide)) E.x52.b pass0 (by rfl) E.x52.g (pa_cons (pv 0) (pa_cons (pv 1) pa_nil))))
 (Evl.pss_cut (ps_set (i := 4) sc__law_strings.nd rfl (Or.inl rfl) (pe_oexV E.x52.oex E.x52.ini E.x52.tI E.x52.fn (hr.mono (by decide)) E.x52.b pass0 (by rfl) E.x52.g (pa_cons (pv 1) (pa_cons (pv 0) pa_nil))))
 (Evl.pss_cut (ps_set (i := 5) sc__law_strings.nd rfl (Or.inl rfl) (pe_lst (pa_cons (pe_ofl (pv 3) (by rfl)) (pa_cons (pe_ofl (pv 3) (by rfl)) (pa_cons (pe_ofl (pv 4) (by rfl)) (pa_cons (pe_ofl (pv 4) (by rfl)) pa_nil))))))
 (Evl.pss_cut (ps_expr (pe_bm PySem.F.plainAttrs_list PySem.F.slot_list_append PySem.F.type_list_append mt_append (pv 2) (pa_cons (pe_callG G_law_right hgd hr (by rfl) D_law_right.g D_law_right.F.kp D_law_right.b .nil pass0 (pa_cons pe_int (pa_cons (pv 3) (pa_cons (pv 4) (pa_cons (pv 5) (pa_cons (pe_lst (pa_cons (pv 0) (pa_cons (pv 1) (pa_cons (pv 1) (pa_cons (pv 0) pa_nil))))) pa_nil)))))) pa_nil)))
 (Evl.pss_cut (ps_set (i := 3) sc__law_strings.nd rfl (Or.inl rfl) (pe_oexV E.x53.oex E.x53.ini E.x53.tI E.x53.fn (hr.mono (by decide)) E.x53.b pass0 (by rfl) E.x53.g (pa_cons (pv 0) pa_nil)))
 (Evl.pss_cut (ps_set (i := 4) sc__law_strings.nd rfl (Or.inl rfl) (pe_oexV E.x53.oex E.x53.ini E.x53.tI E.x53.fn (hr.mono (by decide)) E.x53.b pass0 (by rfl) E.x53.g (pa_cons (pv 1) pa_nil)))
 (Evl.pss_cut (ps_expr (pe_bm PySem.F.plainAttrs_list PySem.F.slot_list_append PySem.F.type_list_append mt_append (pv 2) (pa_cons (pe_callG G_law_right hgd hr (by rfl) D_law_right.g D_law_right.F.kp D_law_right.b .nil pass0 (pa_cons pe_int (pa_cons (pv 3) (pa_cons (pv 4) (pa_cons (pe_lst (pa_cons (pe_ofl (pv 3) (by rfl)) (pa_cons (pe_ofl (pv 4) (by rfl)) pa_nil))) (pa_cons (pe_lst (pa_cons (pv 0) (pa_cons (pv 1) pa_nil))) pa_nil)))))) pa_nil)))
 (Evl.pss_cut (ps_set (i := 3) sc__law_strings.nd rfl (Or.inl rfl) (pe_oexV E.x55.oex E.x55.ini E.x55.tI E.x55.fn (hr.mono (by decide)) E.x55.b pass0 (by rfl) E.x55.g (pa_cons (pv 0) pa_nil)))
 (Evl.pss_cut (ps_set (i := 4) sc__law_strings.nd rfl (Or.inl rfl) (pe_oexV E.x55.oex E.x55.ini E.x55.tI E.x55.fn (hr.mono (by decide)) E.x55.b pass0 (by rfl) E.x55.g (pa_cons (pv 1) pa_nil)))
 (Evl.pss_cut (ps_expr (pe_bm PySem.F.plainAttrs_list PySem.F.slot_list_append PySem.F.type_list_append mt_append (pv 2) (pa_cons (pe_callG G_law_right hgd hr (by rfl) D_law_right.g D_law_right.F.kp D_law_right.b .nil pass0 (pa_cons pe_int (pa_cons (pv 3) (pa_cons (pv 4) (pa_cons (pe_lst (pa_cons (pe_ofl (pv 3) (by rfl)) (pa_cons (pe_ofl (pv 4) (by rfl)) pa_nil))) (pa_cons (pe_lst (pa_cons (pv 0) (pa_cons (pv 1) pa_nil))) pa_nil)))))) pa_nil)))
 (Evl.pss_cut (ps_set (i := 3) sc__law_strings.nd rfl (Or.inl rfl) (pe_oexV E.x56.oex E.x56.ini E.x56.tI E.x56.fn (hr.mono (by decide)) E.x56.b pass0 (by rfl) E.x56.g (pa_cons (pv 0) pa_nil)))
 (Evl.pss_cut (ps_set (i := 4) sc__law_strings.nd rfl (Or.inl rfl) (pe_oexV E.x56.oex E.x56.ini E.x56.tI E.x56.fn (hr.mono (by decide)) E.x56.b pass0 (by rfl) E.x56.g (pa_cons (pv 1) pa_nil)))
 (Evl.pss_cut (ps_expr (pe_bm PySem.F.plainAttrs_list PySem.F.slot_list_append PySem.F.type_list_append mt_append (pv 2) (pa_cons (pe_callG G_law_right hgd hr (by rfl) D_law_right.g D_law_right.F.kp D_law_right.b .nil pass0 (pa_cons pe_int (pa_cons (pv 3) (pa_cons (pv 4) (pa_cons (pe_lst (pa_cons (pe_ofl (pv 3) (by rfl)) (pa_cons (pe_ofl (pv 4) (by rfl)) pa_nil))) (pa_cons (pe_lst (pa_cons (pv 0) (pa_cons (pv 1) pa_nil))) pa_nil)))))) pa_nil)))
 (Evl.pss_cut (ps_expr (pe_bm PySem.F.plainAttrs_list PySem.F.slot_list_append PySem.F.type_list_append mt_append (pv 2) (pa_cons (pe_callG G_law_right hgd hr (by rfl) D_law_right.g D_law_right.F.kp D_law_right.b .nil pass0 (pa_cons pe_int (pa_cons (pe_oex0 PySem.F.excBase_ValueError E.x47.q E.x47.kC (by rfl) E.x47.g) (pa_cons (pe_oex0 PySem.F.excBase_ValueError E.x47.q E.x47.kC (by rfl) E.x47.g) (pa_cons (pe_lst pa_nil) (pa_cons (pe_lst pa_nil) pa_nil)))))) pa_nil)))
 (pss_one (ps_ret (pe_callB (cr_all rfl) (by rfl) B.all (by decide +kernel) (pa_cons (pv 2) pa_nil))))))))))))))))))))))))))))))))))))), ?_⟩
    dsimp only [L2.cxOf, L2.Cx.nox, L2.Cx.wish]
    have s : Same H H := .refl H
    refine Evl.q_cut (M := fun σ1 H1 => ∃ p, σ1 = [some v, some w, some (.ref p), none, none, none] ∧ Same H H1 ∧ H p = none ∧ H1 p = some (.lst (List.replicate 0 (.bl true)))) ?_ ?_
    · walk_at "q"
      refine ⟨by show 0 ≤ sizeLine; decide, fun p hp => ?_⟩
      walk_at "q"
      exact ⟨p, rfl, same_upd s hp, hp, upd_same⟩
    clear s
    rintro σ1 H1 ⟨p, rfl, s, hp, l⟩
    refine Evl.q_cut (M := fun σ1 H2 => ∃ a, σ1 = [some v, some w, some (.ref p), some (.ref a), none, none] ∧ Same H H2 ∧ H2 p = some (.lst (List.replicate 0 (.bl true))) ∧ IsEx H2 a E.x10.C [("sign", v)]) ?_ ?_
    · walk_at "q"
      refine z_mkK ?_
      walk_at "q"
      refine z_kNew1 (fun c H2 s2 hn e2 => ?_)
      walk_at "q"
      exact ⟨c, rfl, s.trans s2, s2 _ _ l, e2⟩
    clear s l
    rintro σ1 H1 ⟨a, rfl, s, l, e1⟩
    refine Evl.q_cut (M := fun σ1 H2 => ∃ b, σ1 = [some v, some w, some (.ref p), some (.ref a), some (.ref b), none] ∧ Same H H2 ∧ H2 p = some (.lst (List.replicate 0 (.bl true))) ∧ IsEx H2 a E.x10.C [("sign", v)] ∧ IsEx H2 b E.x10.C [("sign", w)]) ?_ ?_
    · walk_at "q"
      refine z_mkK ?_
      walk_at "q"
      refine z_kNew1 (fun c H2 s2 hn e2 => ?_)
      walk_at "q"
      exact ⟨c, rfl, s.trans s2, s2 _ _ l, e1.same s2, e2⟩
    clear s l e1
    rintro σ1 H1 ⟨b, rfl, s, l, e1, e2⟩
    refine Evl.q_cut (M := fun σ1 H2 => σ1 = [some v, some w, some (.ref p), some (.ref a), some (.ref b), none] ∧ Same H H2 ∧ H2 p = some (.lst (List.replicate 1 (.bl true)))) ?_ ?_
    · walk_at "q"
      refine ⟨.inl ⟨rfl, _, .of l⟩, ?_⟩
      walk_at "q"
      refine z_oflI rfl e1 E.x10.xf E.x10.no rfl ?_
      walk_at "q"
      refine z_oflI rfl e2 E.x10.xf E.x10.no rfl ?_
      walk_at "q"
      refine ⟨by show 2 ≤ sizeLine; decide, fun z hz => ?_⟩
      walk_at "q"
      refine ⟨by show 2 ≤ sizeLine; decide, fun y hy => ?_⟩
      walk_at "q"
      refine right_now (i := 10) rfl e1.any e2.any hz hy (.cons (dp_same s hv) (.cons (dp_same s hw) .nil)) two (by show 2 ≤ 4; decide) (fun H3 s3 => ?_)
      have l3 := s3 _ _ l
      have s4 := s.trans s3
      walk_at "q"
      refine z_app l3 (by show 0 < sizeLine; decide) ?_
      walk_at "q"
      exact ⟨rfl, same_upd s4 hp, upd_same⟩
    clear s l e1 e2
    rintro σ1 H1 ⟨rfl, s, l⟩
    refine Evl.q_cut (M := fun σ1 H2 => ∃ a, σ1 = [some v, some w, some (.ref p), some (.ref a), some (.ref b), none] ∧ Same H H2 ∧ H2 p = some (.lst (List.replicate 1 (.bl true))) ∧ IsEx H2 a E.x16.C [("word", v)]) ?_ ?_
    · walk_at "q"
      refine z_mkK ?_
      walk_at "q"
      refine z_kNew1 (fun c H2 s2 hn e2 => ?_)
      walk_at "q"
      exact ⟨c, rfl, s.trans s2, s2 _ _ l, e2⟩
    clear s l
    rintro σ1 H1 ⟨a, rfl, s, l, e1⟩
    refine Evl.q_cut (M := fun σ1 H2 => ∃ b, σ1 = [some v, some w, some (.ref p), some (.ref a), some (.ref b), none] ∧ Same H H2 ∧ H2 p = some (.lst (List.replicate 1 (.bl true))) ∧ IsEx H2 a E.x16.C [("word", v)] ∧ IsEx H2 b E.x16.C [("word", w)]) ?_ ?_
    · walk_at "q"
      refine z_mkK ?_
      walk_at "q"
      refine z_kNew1 (fun c H2 s2 hn e2 => ?_)
      walk_at "q"
      exact ⟨c, rfl, s.trans s2, s2 _ _ l, e1.same s2, e2⟩
    clear s l e1
    rintro σ1 H1 ⟨b, rfl, s, l, e1, e2⟩
    refine Evl.q_cut (M := fun σ1 H2 => σ1 = [some v, some w, some (.ref p), some (.ref a), some (.ref b), none] ∧ Same H H2 ∧ H2 p = some (.lst (List.replicate 2 (.bl true)))) ?_ ?_
    · walk_at "q"
      refine ⟨.inl ⟨rfl, _, .of l⟩, ?_⟩
      walk_at "q"
      refine z_oflI rfl e1 E.x16.xf E.x16.no rfl ?_
      walk_at "q"
      refine z_oflI rfl e2 E.x16.xf E.x16.no rfl ?_
      walk_at "q"
      refine ⟨by show 2 ≤ sizeLine; decide, fun z hz => ?_⟩
      walk_at "q"
      refine ⟨by show 2 ≤ sizeLine; decide, fun y hy => ?_⟩
      walk_at "q"
      refine right_now (i := 16) rfl e1.any e2.any hz hy (.cons (dp_same s hv) (.cons (dp_same s hw) .nil)) two (by show 2 ≤ 4; decide) (fun H3 s3 => ?_)
      have l3 := s3 _ _ l
      have s4 := s.trans s3
      walk_at "q"
      refine z_app l3 (by show 1 < sizeLine; decide) ?_
      walk_at "q"
      exact ⟨rfl, same_upd s4 hp, upd_same⟩
    clear s l e1 e2
    rintro σ1 H1 ⟨rfl, s, l⟩
    refine Evl.q_cut (M := fun σ1 H2 => ∃ a, σ1 = [some v, some w, some (.ref p), some (.ref a), some (.ref b), none] ∧ Same H H2 ∧ H2 p = some (.lst (List.replicate 2 (.bl true))) ∧ IsEx H2 a E.x19.C [("name", v)]) ?_ ?_
    · walk_at "q"
      refine z_mkK ?_
      walk_at "q"
      refine z_kNew1 (fun c H2 s2 hn e2 => ?_)
      walk_at "q"
      exact ⟨c, rfl, s.trans s2, s2 _ _ l, e2⟩
    clear s l
    rintro σ1 H1 ⟨a, rfl, s, l, e1⟩
    refine Evl.q_cut (M := fun σ1 H2 => ∃ b, σ1 = [some v, some w, some (.ref p), some (.ref a), some (.ref b), none] ∧ Same H H2 ∧ H2 p = some (.lst (List.replicate 2 (.bl true))) ∧ IsEx H2 a E.x19.C [("name", v)] ∧ IsEx H2 b E.x19.C [("name", w)]) ?_ ?_
    · walk_at "q"
      refine z_mkK ?_
      walk_at "q"
      refine z_kNew1 (fun c H2 s2 hn e2 => ?_)
      walk_at "q"
      exact ⟨c, rfl, s.trans s2, s2 _ _ l, e1.same s2, e2⟩
    clear s l e1
    rintro σ1 H1 ⟨b, rfl, s, l, e1, e2⟩
    refine Evl.q_cut (M := fun σ1 H2 => σ1 = [some v, some w, some (.ref p), some (.ref a), some (.ref b), none] ∧ Same H H2 ∧ H2 p = some (.lst (List.replicate 3 (.bl true)))) ?_ ?_
    · walk_at "q"
      refine ⟨.inl ⟨rfl, _, .of l⟩, ?_⟩
      walk_at "q"
      refine z_oflI rfl e1 E.x19.xf E.x19.no rfl ?_
      walk_at "q"
      refine z_oflI rfl e2 E.x19.xf E.x19.no rfl ?_
      walk_at "q"
      refine ⟨by show 2 ≤ sizeLine; decide, fun z hz => ?_⟩
      walk_at "q"
      refine ⟨by show 2 ≤ sizeLine; decide, fun y hy => ?_⟩
      walk_at "q"
      refine right_now (i := 19) rfl e1.any e2.any hz hy (.cons (dp_same s hv) (.cons (dp_same s hw) .nil)) two (by show 2 ≤ 4; decide) (fun H3 s3 => ?_)
      have l3 := s3 _ _ l
      have s4 := s.trans s3
      walk_at "q"
      refine z_app l3 (by show 2 < sizeLine; decide) ?_
      walk_at "q"
      exact ⟨rfl, same_upd s4 hp, upd_same⟩
    clear s l e1 e2
    rintro σ1 H1 ⟨rfl, s, l⟩
    refine Evl.q_cut (M := fun σ1 H2 => ∃ a, σ1 = [some v, some w, some (.ref p), some (.ref a), some (.ref b), none] ∧ Same H H2 ∧ H2 p = some (.lst (List.replicate 3 (.bl true))) ∧ IsEx H2 a E.x42.C [("word", v)]) ?_ ?_
    · walk_at "q"
      refine z_mkK ?_
      walk_at "q"
      refine z_kNew1 (fun c H2 s2 hn e2 => ?_)
      walk_at "q"
      exact ⟨c, rfl, s.trans s2, s2 _ _ l, e2⟩
    clear s l
    rintro σ1 H1 ⟨a, rfl, s, l, e1⟩
    refine Evl.q_cut (M := fun σ1 H2 => ∃ b, σ1 = [some v, some w, some (.ref p), some (.ref a), some (.ref b), none] ∧ Same H H2 ∧ H2 p = some (.lst (List.replicate 3 (.bl true))) ∧ IsEx H2 a E.x42.C [("word", v)] ∧ IsEx H2 b E.x42.C [("word", w)]) ?_ ?_
    · walk_at "q"
      refine z_mkK ?_
      walk_at "q"
      refine z_kNew1 (fun c H2 s2 hn e2 => ?_)
      walk_at "q"
      exact ⟨c, rfl, s.trans s2, s2 _ _ l, e1.same s2, e2⟩
    clear s l e1
    rintro σ1 H1 ⟨b, rfl, s, l, e1, e2⟩
    refine Evl.q_cut (M := fun σ1 H2 => σ1 = [some v, some w, some (.ref p), some (.ref a), some (.ref b), none] ∧ Same H H2 ∧ H2 p = some (.lst (List.replicate 4 (.bl true)))) ?_ ?_
    · walk_at "q"
      refine ⟨.inl ⟨rfl, _, .of l⟩, ?_⟩
      walk_at "q"
      refine z_oflI rfl e1 E.x42.xf E.x42.no rfl ?_
      walk_at "q"
      refine z_oflI rfl e2 E.x42.xf E.x42.no rfl ?_
      walk_at "q"
      refine ⟨by show 2 ≤ sizeLine; decide, fun z hz => ?_⟩
      walk_at "q"
      refine ⟨by show 2 ≤ sizeLine; decide, fun y hy => ?_⟩
      walk_at "q"
      refine right_now (i := 42) rfl e1.any e2.any hz hy (.cons (dp_same s hv) (.cons (dp_same s hw) .nil)) two (by show 2 ≤ 4; decide) (fun H3 s3 => ?_)
      have l3 := s3 _ _ l
      have s4 := s.trans s3
      walk_at "q"
      refine z_app l3 (by show 3 < sizeLine; decide) ?_
      walk_at "q"
      exact ⟨rfl, same_upd s4 hp, upd_same⟩
    clear s l e1 e2
    rintro σ1 H1 ⟨rfl, s, l⟩
    refine Evl.q_cut (M := fun σ1 H2 => ∃ a, σ1 = [some v, some w, some (.ref p), some (.ref a), some (.ref b), none] ∧ Same H H2 ∧ H2 p = some (.lst (List.replicate 4 (.bl true))) ∧ IsEx H2 a E.x44.C [("name", v)]) ?_ ?_
    · walk_at "q"
      refine z_mkK ?_
      walk_at "q"
      refine z_kNew1 (fun c H2 s2 hn e2 => ?_)
      walk_at "q"
      exact ⟨c, rfl, s.trans s2, s2 _ _ l, e2⟩
    clear s l
    rintro σ1 H1 ⟨a, rfl, s, l, e1⟩
    refine Evl.q_cut (M := fun σ1 H2 => ∃ b, σ1 = [some v, some w, some (.ref p), some (.ref a), some (.ref b), none] ∧ Same H H2 ∧ H2 p = some (.lst (List.replicate 4 (.bl true))) ∧ IsEx H2 a E.x44.C [("name", v)] ∧ IsEx H2 b E.x44.C [("name", w)]) ?_ ?_
    · walk_at "q"
      refine z_mkK ?_
      walk_at "q"
      refine z_kNew1 (fun c H2 s2 hn e2 => ?_)
      walk_at "q"
      exact ⟨c, rfl, s.trans s2, s2 _ _ l, e1.same s2, e2⟩
    clear s l e1
    rintro σ1 H1 ⟨b, rfl, s, l, e1, e2⟩
    refine Evl.q_cut (M := fun σ1 H2 => σ1 = [some v, some w, some (.ref p), some (.ref a), some (.ref b), none] ∧ Same H H2 ∧ H2 p = some (.lst (List.replicate 5 (.bl true)))) ?_ ?_
    · walk_at "q"
      refine ⟨.inl ⟨rfl, _, .of l⟩, ?_⟩
      walk_at "q"
      refine z_oflI rfl e1 E.x44.xf E.x44.no rfl ?_
      walk_at "q"
      refine z_oflI rfl e2 E.x44.xf E.x44.no rfl ?_
      walk_at "q"
      refine ⟨by show 2 ≤ sizeLine; decide, fun z hz => ?_⟩
      walk_at "q"
      refine ⟨by show 2 ≤ sizeLine; decide, fun y hy => ?_⟩
      walk_at "q"
      refine right_now (i := 44) rfl e1.any e2.any hz hy (.cons (dp_same s hv) (.cons (dp_same s hw) .nil)) two (by show 2 ≤ 4; decide) (fun H3 s3 => ?_)
      have l3 := s3 _ _ l
      have s4 := s.trans s3
      walk_at "q"
      refine z_app l3 (by show 4 < sizeLine; decide) ?_
      walk_at "q"
      exact ⟨rfl, same_upd s4 hp, upd_same⟩
    clear s l e1 e2
    rintro σ1 H1 ⟨rfl, s, l⟩
    refine Evl.q_cut (M := fun σ1 H2 => ∃ a, σ1 = [some v, some w, some (.ref p), some (.ref a), some (.ref b), none] ∧ Same H H2 ∧ H2 p = some (.lst (List.replicate 5 (.bl true))) ∧ IsEx H2 a E.x46.C [("word", v)]) ?_ ?_
    · walk_at "q"
      refine z_mkK ?_
      walk_at "q"
      refine z_kNew1 (fun c H2 s2 hn e2 => ?_)
      walk_at "q"
      exact ⟨c, rfl, s.trans s2, s2 _ _ l, e2⟩
    clear s l
    rintro σ1 H1 ⟨a, rfl, s, l, e1⟩
    refine Evl.q_cut (M := fun σ1 H2 => ∃ b, σ1 = [some v, some w, some (.ref p), some (.ref a), some (.ref b), none] ∧ Same H H2 ∧ H2 p = some (.lst (List.replicate 5 (.bl true))) ∧ IsEx H2 a E.x46.C [("word", v)] ∧ IsEx H2 b E.x46.C [("word", w)]) ?_ ?_
    · walk_at "q"
      refine z_mkK ?_
      walk_at "q"
      refine z_kNew1 (fun c H2 s2 hn e2 => ?_)
      walk_at "q"
      exact ⟨c, rfl, s.trans s2, s2 _ _ l, e1.same s2, e2⟩
    clear s l e1
    rintro σ1 H1 ⟨b, rfl, s, l, e1, e2⟩
    refine Evl.q_cut (M := fun σ1 H2 => σ1 = [some v, some w, some (.ref p), some (.ref a), some (.ref b), none] ∧ Same H H2 ∧ H2 p = some (.lst (List.replicate 6 (.bl true)))) ?_ ?_
    · walk_at "q"
      refine ⟨.inl ⟨rfl, _, .of l⟩, ?_⟩
      walk_at "q"
      refine z_oflI rfl e1 E.x46.xf E.x46.no rfl ?_
      walk_at "q"
      refine z_oflI rfl e2 E.x46.xf E.x46.no rfl ?_
      walk_at "q"
      refine ⟨by show 2 ≤ sizeLine; decide, fun z hz => ?_⟩
      walk_at "q"
      refine ⟨by show 2 ≤ sizeLine; decide, fun y hy => ?_⟩
      walk_at "q"
      refine right_now (i := 46) rfl e1.any e2.any hz hy (.cons (dp_same s hv) (.cons (dp_same s hw) .nil)) two (by show 2 ≤ 4; decide) (fun H3 s3 => ?_)
      have l3 := s3 _ _ l
      have s4 := s.trans s3
      walk_at "q"
      refine z_app l3 (by show 5 < sizeLine; decide) ?_
      walk_at "q"
      exact ⟨rfl, same_upd s4 hp, upd_same⟩
    clear s l e1 e2
    rintro σ1 H1 ⟨rfl, s, l⟩
    refine Evl.q_cut (M := fun σ1 H2 => ∃ a, σ1 = [some v, some w, some (.ref p), some (.ref a), some (.ref b), none] ∧ Same H H2 ∧ H2 p = some (.lst (List.replicate 6 (.bl true))) ∧ IsEx H2 a E.x52.C [("behind", w), ("ahead", v)]) ?_ ?_
    · walk_at "q"
      refine z_mkK ?_
      walk_at "q"
      refine z_kNew2 (fun c H2 s2 hn e2 => ?_)
      walk_at "q"
      exact ⟨c, rfl, s.trans s2, s2 _ _ l, e2⟩
    clear s l
    rintro σ1 H1 ⟨a, rfl, s, l, e1⟩
    refine Evl.q_cut (M := fun σ1 H2 => ∃ b, σ1 = [some v, some w, some (.ref p), some (.ref a), some (.ref b), none] ∧ Same H H2 ∧ H2 p = some (.lst (List.replicate 6 (.bl true))) ∧ IsEx H2 a E.x52.C [("behind", w), ("ahead", v)] ∧ IsEx H2 b E.x52.C [("behind", v), ("ahead", w)]) ?_ ?_
    · walk_at "q"
      refine z_mkK ?_
      walk_at "q"
      refine z_kNew2 (fun c H2 s2 hn e2 => ?_)
      walk_at "q"
      exact ⟨c, rfl, s.trans s2, s2 _ _ l, e1.same s2, e2⟩
    clear s l e1
    rintro σ1 H1 ⟨b, rfl, s, l, e1, e2⟩
    refine Evl.q_cut (M := fun σ1 H2 => ∃ z, σ1 = [some v, some w, some (.ref p), some (.ref a), some (.ref b), some (.ref z)] ∧ Same H H2 ∧ H2 p = some (.lst (List.replicate 6 (.bl true))) ∧ IsEx H2 a E.x52.C [("behind", w), ("ahead", v)] ∧ IsEx H2 b E.x52.C [("behind", v), ("ahead", w)] ∧ H2 z = some (.lst [v, w, w, v])) ?_ ?_
    · walk_at "q"
      refine z_oflI rfl e1 E.x52.xf E.x52.nof rfl ?_
      walk_at "q"
      refine z_oflI rfl e1 E.x52.xf E.x52.nog rfl ?_
      walk_at "q"
      refine z_oflI rfl e2 E.x52.xf E.x52.nof rfl ?_
      walk_at "q"
      refine z_oflI rfl e2 E.x52.xf E.x52.nog rfl ?_
      walk_at "q"
      refine ⟨by show 4 ≤ sizeLine; decide, fun z hz => ?_⟩
      walk_at "q"
      have s2 := same_upd (o := .lst [v, w, w, v]) (.refl _) hz
      exact ⟨z, rfl, s.trans s2, s2 _ _ l, e1.same s2, e2.same s2, upd_same⟩
    clear s l e1 e2
    rintro σ1 H1 ⟨z, rfl, s, l, e1, e2, lz⟩
    refine Evl.q_cut (M := fun σ1 H2 => σ1 = [some v, some w, some (.ref p), some (.ref a), some (.ref b), some (.ref z)] ∧ Same H H2 ∧ H2 p = some (.lst (List.replicate 7 (.bl true)))) ?_ ?_
    · walk_at "q"
      refine ⟨.inl ⟨rfl, _, .of l⟩, ?_⟩
      walk_at "q"
      refine ⟨by show 4 ≤ sizeLine; decide, fun y hy => ?_⟩
      walk_at "q"
      refine right_told (i := 52) rfl e1.any e2.any lz hy (.cons (dp_same s hv) (.cons (dp_same s hw) (.cons (dp_same s hw) (.cons (dp_same s hv) .nil)))) four (by show 4 ≤ 4; decide) (fun H3 s3 => ?_)
      have l3 := s3 _ _ l
      have s4 := s.trans s3
      walk_at "q"
      refine z_app l3 (by show 6 < sizeLine; decide) ?_
      walk_at "q"
      exact ⟨rfl, same_upd s4 hp, upd_same⟩
    clear s l e1 e2 lz
    rintro σ1 H1 ⟨rfl, s, l⟩
    refine Evl.q_cut (M := fun σ1 H2 => ∃ a, σ1 = [some v, some w, some (.ref p), some (.ref a), some (.ref b), some (.ref z)] ∧ Same H H2 ∧ H2 p = some (.lst (List.replicate 7 (.bl true))) ∧ IsEx H2 a E.x53.C [("name", v)]) ?_ ?_
    · walk_at "q"
      refine z_mkK ?_
      walk_at "q"
      refine z_kNew1 (fun c H2 s2 hn e2 => ?_)
      walk_at "q"
      exact ⟨c, rfl, s.trans s2, s2 _ _ l, e2⟩
    clear s l
    rintro σ1 H1 ⟨a, rfl, s, l, e1⟩
    refine Evl.q_cut (M := fun σ1 H2 => ∃ b, σ1 = [some v, some w, some (.ref p), some (.ref a), some (.ref b), some (.ref z)] ∧ Same H H2 ∧ H2 p = some (.lst (List.replicate 7 (.bl true))) ∧ IsEx H2 a E.x53.C [("name", v)] ∧ IsEx H2 b E.x53.C [("name", w)]) ?_ ?_
    · walk_at "q"
      refine z_mkK ?_
      walk_at "q"
      refine z_kNew1 (fun c H2 s2 hn e2 => ?_)
      walk_at "q"
      exact ⟨c, rfl, s.trans s2, s2 _ _ l, e1.same s2, e2⟩
    clear s l e1
    rintro σ1 H1 ⟨b, rfl, s, l, e1, e2⟩
    refine Evl.q_cut (M := fun σ1 H2 => σ1 = [some v, some w, some (.ref p), some (.ref a), some (.ref b), some (.ref z)] ∧ Same H H2 ∧ H2 p = some (.lst (List.replicate 8 (.bl true)))) ?_ ?_
    · walk_at "q"
      refine ⟨.inl ⟨rfl, _, .of l⟩, ?_⟩
      walk_at "q"
      refine z_oflI rfl e1 E.x53.xf E.x53.no rfl ?_
      walk_at "q"
      refine z_oflI rfl e2 E.x53.xf E.x53.no rfl ?_
      walk_at "q"
      refine ⟨by show 2 ≤ sizeLine; decide, fun z hz => ?_⟩
      walk_at "q"
      refine ⟨by show 2 ≤ sizeLine; decide, fun y hy => ?_⟩
      walk_at "q"
      refine right_now (i := 53) rfl e1.any e2.any hz hy (.cons (dp_same s hv) (.cons (dp_same s hw) .nil)) two (by show 2 ≤ 4; decide) (fun H3 s3 => ?_)
      have l3 := s3 _ _ l
      have s4 := s.trans s3
      walk_at "q"
      refine z_app l3 (by show 7 < sizeLine; decide) ?_
      walk_at "q"
      exact ⟨rfl, same_upd s4 hp, upd_same⟩
    clear s l e1 e2
    rintro σ1 H1 ⟨rfl, s, l⟩
    refine Evl.q_cut (M := fun σ1 H2 => ∃ a, σ1 = [some v, some w, some (.ref p), some (.ref a), some (.ref b), some (.ref z)] ∧ Same H H2 ∧ H2 p = some (.lst (List.replicate 8 (.bl true))) ∧ IsEx H2 a E.x55.C [("name", v)]) ?_ ?_
    · walk_at "q"
      refine z_mkK ?_
      walk_at "q"
      refine z_kNew1 (fun c H2 s2 hn e2 => ?_)
      walk_at "q"
      exact ⟨c, rfl, s.trans s2, s2 _ _ l, e2⟩
    clear s l
    rintro σ1 H1 ⟨a, rfl, s, l, e1⟩
    refine Evl.q_cut (M := fun σ1 H2 => ∃ b, σ1 = [some v, some w, some (.ref p), some (.ref a), some (.ref b), some (.ref z)] ∧ Same H H2 ∧ H2 p = some (.lst (List.replicate 8 (.bl true))) ∧ IsEx H2 a E.x55.C [("name", v)] ∧ IsEx H2 b E.x55.C [("name", w)]) ?_ ?_
    · walk_at "q"
      refine z_mkK ?_
      walk_at "q"
      refine z_kNew1 (fun c H2 s2 hn e2 => ?_)
      walk_at "q"
      exact ⟨c, rfl, s.trans s2, s2 _ _ l, e1.same s2, e2⟩
    clear s l e1
    rintro σ1 H1 ⟨b, rfl, s, l, e1, e2⟩
    refine Evl.q_cut (M := fun σ1 H2 => σ1 = [some v, some w, some (.ref p), some (.ref a), some (.ref b), some (.ref z)] ∧ Same H H2 ∧ H2 p = some (.lst (List.replicate 9 (.bl true)))) ?_ ?_
    · walk_at "q"
      refine ⟨.inl ⟨rfl, _, .of l⟩, ?_⟩
      walk_at "q"
      refine z_oflI rfl e1 E.x55.xf E.x55.no rfl ?_
      walk_at "q"
      refine z_oflI rfl e2 E.x55.xf E.x55.no rfl ?_
      walk_at "q"
      refine ⟨by show 2 ≤ sizeLine; decide, fun z hz => ?_⟩
      walk_at "q"
      refine ⟨by show 2 ≤ sizeLine; decide, fun y hy => ?_⟩
      walk_at "q"
      refine right_now (i := 55) rfl e1.any e2.any hz hy (.cons (dp_same s hv) (.cons (dp_same s hw) .nil)) two (by show 2 ≤ 4; decide) (fun H3 s3 => ?_)
      have l3 := s3 _ _ l
      have s4 := s.trans s3
      walk_at "q"
      refine z_app l3 (by show 8 < sizeLine; decide) ?_
      walk_at "q"
      exact ⟨rfl, same_upd s4 hp, upd_same⟩
    clear s l e1 e2
    rintro σ1 H1 ⟨rfl, s, l⟩
    refine Evl.q_cut (M := fun σ1 H2 => ∃ a, σ1 = [some v, some w, some (.ref p), some (.ref a), some (.ref b), some (.ref z)] ∧ Same H H2 ∧ H2 p = some (.lst (List.replicate 9 (.bl true))) ∧ IsEx H2 a E.x56.C [("name", v)]) ?_ ?_
    · walk_at "q"
      refine z_mkK ?_
      walk_at "q"
      refine z_kNew1 (fun c H2 s2 hn e2 => ?_)
      walk_at "q"
      exact ⟨c, rfl, s.trans s2, s2 _ _ l, e2⟩
    clear s l
    rintro σ1 H1 ⟨a, rfl, s, l, e1⟩
    refine Evl.q_cut (M := fun σ1 H2 => ∃ b, σ1 = [some v, some w, some (.ref p), some (.ref a), some (.ref b), some (.ref z)] ∧ Same H H2 ∧ H2 p = some (.lst (List.replicate 9 (.bl true))) ∧ IsEx H2 a E.x56.C [("name", v)] ∧ IsEx H2 b E.x56.C [("name", w)]) ?_ ?_
    · walk_at "q"
      refine z_mkK ?_
      walk_at "q"
      refine z_kNew1 (fun c H2 s2 hn e2 => ?_)
      walk_at "q"
      exact ⟨c, rfl, s.trans s2, s2 _ _ l, e1.same s2, e2⟩
    clear s l e1
    rintro σ1 H1 ⟨b, rfl, s, l, e1, e2⟩
    refine Evl.q_cut (M := fun σ1 H2 => σ1 = [some v, some w, some (.ref p), some (.ref a), some (.ref b), some (.ref z)] ∧ Same H H2 ∧ H2 p = some (.lst (List.replicate 10 (.bl true)))) ?_ ?_
    · walk_at "q"
      refine ⟨.inl ⟨rfl, _, .of l⟩, ?_⟩
      walk_at "q"
      refine z_oflI rfl e1 E.x56.xf E.x56.no rfl ?_
      walk_at "q"
      refine z_oflI rfl e2 E.x56.xf E.x56.no rfl ?_
      walk_at "q"
      refine ⟨by show 2 ≤ sizeLine; decide, fun z hz => ?_⟩
      walk_at "q"
      refine ⟨by show 2 ≤ sizeLine; decide, fun y hy => ?_⟩
      walk_at "q"
      refine right_now (i := 56) rfl e1.any e2.any hz hy (.cons (dp_same s hv) (.cons (dp_same s hw) .nil)) two (by show 2 ≤ 4; decide) (fun H3 s3 => ?_)
      have l3 := s3 _ _ l
      have s4 := s.trans s3
      walk_at "q"
      refine z_app l3 (by show 9 < sizeLine; decide) ?_
      walk_at "q"
      exact ⟨rfl, same_upd s4 hp, upd_same⟩
    clear s l e1 e2
    rintro σ1 H1 ⟨rfl, s, l⟩
    refine Evl.q_cut (M := fun σ1 H2 => σ1 = [some v, some w, some (.ref p), some (.ref a), some (.ref b), some (.ref z)] ∧ Same H H2 ∧ H2 p = some (.lst (List.replicate 11 (.bl true)))) ?_ ?_
    · walk_at "q"
      refine ⟨.inl ⟨rfl, _, .of l⟩, ?_⟩
      walk_at "q"
      refine z_mk0 (fun a hn => ?_)
      walk_at "q"
      refine z_mk0 (fun b hn2 => ?_)
      have t1 := same_upd (o := exo a E.x47.C none) (.refl _) hn
      have t2 := same_upd (o := exo b E.x47.C none) (.refl _) hn2
      have e1 : IsE (upd H1 a (exo a E.x47.C none)) a E.x47.C := ⟨none, upd_same, fun _ h => nomatch h⟩
      have e2 : IsE (upd (upd H1 a (exo a E.x47.C none)) b (exo b E.x47.C none)) b E.x47.C := ⟨none, upd_same, fun _ h => nomatch h⟩
      walk_at "q"
      refine ⟨by show 0 ≤ sizeLine; decide, fun z hz => ?_⟩
      walk_at "q"
      refine ⟨by show 0 ≤ sizeLine; decide, fun y hy => ?_⟩
      walk_at "q"
      refine right_now (i := 47) (ds := []) rfl (e1.same t2) e2 hz hy .nil (fun _ h => absurd h (by simp)) (by decide) (fun H3 s3 => ?_)
      have l3 := s3 _ _ (t2 _ _ (t1 _ _ l))
      have s4 := ((s.trans t1).trans t2).trans s3
      walk_at "q"
      refine z_app l3 (by show 10 < sizeLine; decide) ?_
      walk_at "q"
      exact ⟨rfl, same_upd s4 hp, upd_same⟩
    clear s l
    rintro σ1 H1 ⟨rfl, s, l⟩
    walk_at "q"
    have l2 : SqL K H1 p ((List.replicate 11 true).map V.bl) := .of l
    refine z_all l2 ?_
    walk_at "q"
    exact q _ s
end
end K6
set_option maxHeartbeats 8000000
namespace K6
open PySem PySem.Spec PyProof.Rows L2 TB
open SX (S S_len S_cat)
local macro_rules | `(tactic| walk_at "side") => `(tactic| first
  | (focus exact Or.inr ⟨by decide, by decide⟩)
  | (focus exact TB.cmul_mod (by decide) (by decide))
  | (focus exact Or.inl ⟨by decide, by decide⟩)
  | (focus exact ⟨by decide, by decide⟩)
  | (focus exact ⟨by decide, by decide +kernel⟩)
  | (focus (show (0 : Int) < _; first | decide | omega | assumption))
  | (focus assumption)
  | (focus exact ⟨by omega, by omega⟩)
  | (focus (show (_ : Nat) ≤ sizeLine; rw [sizeLine_eq]; first | decide | omega))
  | (focus (show (_ : Nat) < sizeLine; rw [sizeLine_eq]; first | decide | omega))
  | rotate_left)
local macro_rules | `(tactic| walk_at "q1") => `(tactic| first
  | with_reducible refine TB.z_seq ?_
  | with_reducible refine TB.z_asg ?_
  | with_reducible refine TB.z_drop ?_
  | with_reducible refine TB.z_ret ?_
  | with_reducible refine TB.z_retN ?_
  | with_reducible refine TB.z_next ?_
  | with_reducible refine TB.z_brk ?_
  | with_reducible refine TB.z_cont ?_
  | with_reducible refine TB.z_if ?_
  | with_reducible refine TB.z_name ?_
  | with_reducible refine TB.z_sub ?_
  | ((with_reducible show L2.tVar _ _ _ _); refine TB.z_var rfl ?_)
  | with_reducible refine TB.z_c ?_
  | with_reducible refine TB.z_op ?_
  | with_reducible refine TB.z_un ?_
  | with_reducible refine TB.z_lt ?_
  | with_reducible refine TB.z_le ?_
  | with_reducible refine TB.z_gt ?_
  | with_reducible refine TB.z_ge ?_
  | with_reducible refine TB.z_eqI ?_
  | with_reducible refine TB.z_neI ?_
  | with_reducible refine TB.z_eqS ?_
  | with_reducible refine TB.z_neS ?_
  | with_reducible refine TB.z_I0 ?_
  | ((with_reducible refine TB.z_I ?_ ?_); walk_at "side")
  | with_reducible refine TB.z_U ?_
  | with_reducible refine TB.z_test ?_
  | with_reducible refine TB.z_tB ?_
  | with_reducible refine TB.z_bl ?_
  | with_reducible refine TB.z_and ?_
  | with_reducible refine TB.z_or ?_
  | with_reducible refine TB.z_not ?_
  | with_reducible refine TB.z_notV ?_
  | with_reducible refine TB.z_andV ?_
  | with_reducible refine TB.z_orV ?_
  | with_reducible refine TB.z_ifE ?_
  | with_reducible refine TB.z_iteT ?_
  | with_reducible refine TB.z_iteF ?_
  | with_reducible refine TB.z_iteNT ?_
  | with_reducible refine TB.z_iteNF ?_
  | with_reducible refine TB.z_cb ?_
  | with_reducible refine TB.z_call ?_
  | with_reducible refine TB.z_nil ?_
  | with_reducible refine TB.z_cons ?_
  | with_reducible refine TB.z_tup ?_
  | with_reducible refine TB.z_lst ?_
  | with_reducible refine TB.z_rInt ?_
  | with_reducible refine TB.z_rAbs ?_
  | ((with_reducible refine TB.z_rLenS ?_ ?_); walk_at "side")
  | ((with_reducible show TB.rLen _ _ _ _); first
      | refine TB.z_rLen (Or.inl (SqL.of L2.upd_same)) ?_
      | refine TB.z_rLen (Or.inl (SqL.of (by assumption))) ?_
      | refine TB.z_rLen (Or.inr (SqT.of (by assumption))) ?_
      | refine TB.z_rLen (Or.inl (by first | assumption | apply_assumption)) ?_
      | refine TB.z_rLen (Or.inr (by first | assumption | apply_assumption)) ?_)
  | ((with_reducible show L2.rIxL _ _ _ _ _); first
      | refine TB.z_ixL (SqL.of L2.upd_same) rfl ?_
      | refine TB.z_ixL (SqL.of (by assumption)) rfl ?_
      | refine TB.z_ixL (by first | assumption | apply_assumption) (by first | assumption | rfl) ?_)
  | ((with_reducible show L2.rIxT _ _ _ _ _); first
      | refine TB.z_ixT (SqT.of L2.upd_same) rfl ?_
      | refine TB.z_ixT (SqT.of (by assumption)) rfl ?_
      | refine TB.z_ixT (by first | assumption | apply_assumption) (by first | assumption | rfl) ?_)
  | ((with_reducible show L2.rSetL _ _ _ _ _); refine TB.z_setU rfl ?_)
  | with_reducible refine TB.z_lcR ?_
  | with_reducible refine TB.z_m1 ?_
  | with_reducible refine TB.z_lcL ?_
  | with_reducible refine TB.z_bm ?_
  | with_reducible refine TB.z_bm0 ?_)
local macro_rules | `(tactic| walk_at "q") => `(tactic| repeat walk_at "q1")
local macro_rules | `(tactic| walk_at "qq") => `(tactic| repeat' (first
  | walk_at "q1"
  | with_reducible refine TB.z_ite (fun hq => ?_) (fun hq => ?_)
  | with_reducible refine TB.z_iteN (fun hq => ?_) (fun hq => ?_)
  | with_reducible refine TB.z_iteB (fun hq => ?_) (fun hq => ?_)))

theorem sc__law_first_things : FnScope ["thing", "other", "found", "one", "two"] ["thing", "other"] (defScope s__law_first_things) := ⟨rfl, rfl, rfl, by decide +kernel, rfl, by decide +kernel, by decide +kernel⟩

section
variable {P : Program} {w : World} {K : PySem.W.Frag} {mg : Str → Option Value} {base : Heap}
theorem ok_law_first_things (D : Df K mg "_law_first_things" s__law_first_things ["thing", "other"]) (D_law_right : Df K mg "_law_right" s__law_right ["at", "one", "two", "told", "due"]) (D_law_flags : Df K mg "_law_flags" s__law_flags ["made"]) (B : Bi mg) (E : AllEx P w K mg base) (k : KitOk K E.cs E.tail) :
    FnG P w K mg base CX0 4 D.f D.fd ["thing", "other"] (spPair K) := by
  have G_law_right : FnG P w K mg base CX0 3 D_law_right.f D_law_right.fd ["at", "one", "two", "told", "due"] (spRight K E.cs) := ok_right D_law_right D_law_flags B E k
  refine okG D.F sc__law_first_things (fun vs H Q E h => ?_) (fun cdv A outer s H vs Q E' hgd hr h => ?_)
  · obtain ⟨_, _, _, _, rfl, _⟩ := h
    rfl
  · obtain ⟨v, w, dv, dw, rfl, hv, hw, sv, sw, q⟩ := h
    have two : ∀ d ∈ [dv, dw], Small 3 d := fun d hd => by
      rcases List.mem_cons.mp hd with h1 | h1
      · exact h1 ▸ sv
      · exact List.mem_singleton.mp h1 ▸ sw
    have four : ∀ d ∈ [dv, dw, dw, dv], Small 3 d := fun d hd => by
      simp only [List.mem_cons, List.not_mem_nil, or_false] at hd
      rcases hd with h1 | h1 | h1 | h1
      · exact h1 ▸ sv
      · exact h1 ▸ sw
      · exact h1 ▸ sw
      · exact h1 ▸ sv
    refine ⟨_, (Evl.pss_cut (ps_set (i := 2) sc__law_first_things.nd rfl (Or.inl rfl) (pe_lst pa_nil))
 (Evl.pss_cut (ps_set (i := 3) sc__law_first_things.nd rfl (Or.inl rfl) (pe_oexV E.x0.oex E.x0.ini E.x0.tI E.x0.fn (hr.mono (by decide)) E.x0.b pass0 (by rfl) E.x0.g (pa_cons (pv 0) pa_nil)))
 (Evl.pss_cut (ps_set (i := 4) sc__law_first_things.nd rfl (Or.inl rfl) (pe_oexV E.x0.oex E.x0.ini E.x0.tI E.x0.fn (hr.mono (by decide)) E.x0.b pass0 (by rfl) E.x0.g (pa_cons (pv 1) pa_nil)))
 (Evl.pss_cut (ps_expr (pe_bm PySem.F.plainAttrs_list PySem.F.slot_list_append PySem.F.type_list_append mt_append (pv 2) (pa_cons (pe_callG G_law_right hgd hr (by rfl) D_law_right.g D_law_right.F.kp D_law_right.b .nil pass0 (pa_cons pe_int (pa_cons (pv 3) (pa_cons (pv 4) (pa_cons (pe_lst (pa_cons (pe_ofl (pv 3) (by rfl)) (pa_cons (pe_ofl (pv 4) (by rfl)) pa_nil))) (pa_cons (pe_lst (pa_cons (pv 0) (pa_cons (pv 1) pa_nil))) pa_nil)))))) pa_nil)))
 (Evl.pss_cut (ps_set (i := 3) sc__law_first_things.nd rfl (Or.inl rfl) (pe_oexV E.x3.oex E.x3.ini E.x3.tI E.x3.fn (hr.mono (by decide)) E.x3.b pass0 (by rfl) E.x3.g (pa_cons (pv 0) pa_nil)))
 (Evl.pss_cut (ps_set (i := 4) sc__law_first_things.nd rfl (Or.inl rfl) (pe_oexV E.x3.oex E.x3.ini E.x3.tI E.x3.fn (hr.mono (by decide)) E.x3.b pass0 (by rfl) E.x3.g (pa_cons (pv 1) pa_nil)))
 (Evl.pss_cut (ps_expr (pe_bm PySem.F.plainAttrs_list PySem.F.slot_list_append PySem.F.type_list_append mt_append (pv 2) (pa_cons (pe_callG G_law_right hgd hr (by rfl) D_law_right.g D_law_right.F.kp D_law_right.b .nil pass0 (pa_cons pe_int (pa_cons (pv 3) (pa_cons (pv 4) (pa_cons (pe_lst (pa_cons (pe_ofl (pv 3) (by rfl)) (pa_cons (pe_ofl (pv 4) (by rfl)) pa_nil))) (pa_cons (pe_lst (pa_cons (pv 0) (pa_cons (pv 1) pa_nil))) pa_nil)))))) pa_nil)))
 (Evl.pss_cut (ps_set (i := 3) sc__law_first_things.nd rfl (Or.inl rfl) (pe_oexV E.x7.oex E.x7.ini E.x7.tI E.x7.fn (hr.mono (by decide)) E.x7.b pass0 (by rfl) E.x7.g (pa_cons (pv 0) pa_nil)))
 (Evl.pss_cut (ps_set (i := 4) sc__law_first_things.nd rfl (Or.inl rfl) (pe_oexV E.x7.oex E.x7.ini E.x7.tI E.x7.fn (hr.mono (by decide)) E.x7.b pass0 (by rfl) E.x7.g (pa_cons (pv 1) pa_nil)))
 (Evl.pss_cut (ps_expr (pe_bm PySem.F.plainAttrs_list PySem.F.slot_list_append PySem.F.type_list_append mt_append (pv 2) (pa_cons (pe_callG G_law_right hgd hr (by rfl) D_law_right.g D_law_right.F.kp D_law_right.b .nil pass0 (pa_cons pe_int (pa_cons (pv 3) (pa_cons (pv 4) (pa_cons (pe_lst (pa_cons (pe_ofl (pv 3) (by rfl)) (pa_cons (pe_ofl (pv 4) (by rfl)) pa_nil))) (pa_cons (pe_lst (pa_cons (pv 0) (pa_cons (pv 1) pa_nil))) pa_nil)))))) pa_nil)))
 (Evl.pss_cut (ps_set (i := 3) sc__law_first_things.nd rfl (Or.inl rfl) (pe_oexV E.x8.oex E.x8.ini E.x8.tI E.x8.fn (hr.mono (by decide)) E.x8.b pass0 (by rfl) E.x8.g (pa_cons (pv 0) pa_nil)))
 (Evl.pss_cut (ps_set (i := 4) sc__law_first_things.nd rfl (Or.inl rfl) (pe_oexV E.x8.oex E.x8.ini E.x8.tI E.x8.fn (hr.mono (by decide)) E.x8.b pass0 (by rfl) E.x8.g (pa_cons (pv 1) pa_nil)))
 (Evl.pss_cut (ps_expr (pe_bm PySem.F.plainAttrs_list PySem.F.slot_list_append PySem.F.type_list_append mt_append (pv 2) (pa_cons (pe_callG G_law_right hgd hr (by rfl) D_law_right.g D_law_right.F.kp D_law_right.b .nil pass0 (pa_cons pe_int (pa_cons (pv 3) (pa_cons (pv 4) (pa_cons (pe_lst (pa_cons (pe_ofl (pv 3) (by rfl)) (pa_cons (pe_ofl (pv 4) (by rfl)) pa_nil))) (pa_cons (pe_lst (pa_cons (pv 0) (pa_cons (pv 1) pa_nil))) pa_nil)))))) pa_nil)))
 (Evl.pss_cut (ps_set (i := 3) sc__law_first_things.nd rfl (Or.inl rfl) (pe_oexV E.x13.oex E.x13.ini E.x13.tI E.x13.fn (hr.mono (by decide)) E.x13.b pass0 (by rfl) E.x13.g (pa_cons (pv 0) pa_nil)))
 (Evl.pss_cut (ps_set (i := 4) sc__law_first_things.nd rfl (Or.inl rfl) (pe_oexV E.x13.oex E.x13.ini E.x13.tI E.x13.fn (hr.mono (by decide)) E.x13.b pass0 (by rfl) E.x13.g (pa_cons (pv 1) pa_nil)))
 (Evl.pss_cut (ps_expr (pe_bm PySem.F.plainAttrs_list PySem.F.slot_list_append PySem.F.type_list_append mt_append (pv 2) (pa_cons (pe_callG G_law_right hgd hr (by rfl) D_law_right.g D_law_right.F.kp D_law_right.b .nil pass0 (pa_cons pe_int (pa_cons (pv 3) (pa_cons (pv 4) (pa_cons (pe_lst (pa_cons (pe_ofl (pv 3) (by rfl)) (pa_cons (pe_ofl (pv 4) (by rfl)) pa_nil))) (pa_cons (pe_lst (pa_cons (pv 0) (pa_cons (pv 1) pa_nil))) pa_nil)))))) pa_nil)))
 (Evl.pss_cut (ps_set (i := 3) sc__law_first_things.nd rfl (Or.inl rfl) (pe_oexV E.x14.oex E.x14.ini E.x14.tI E.x14.fn (hr.mono (by decide)) E.x14.b pass0 (by rfl) E.x14.g (pa_cons (pv 0) pa_nil)))
 (Evl.pss_cut (ps_set (i := 4) sc__law_first_things.nd rfl (Or.inl rfl) (pe_oexV E.x14.oex E.x14.ini E.x14.tI E.x14.fn (hr.mono (by decide)) E.x14.b pass0 (by rfl) E.x14.g (pa_cons (pv 1) pa_nil)))
 (Evl.pss_cut (ps_expr (pe_bm PySem.F.plainAttrs_list PySem.F.slot_list_append PySem.F.type_list_append mt_append (pv 2) (pa_cons (pe_callG G_law_right hgd hr (by rfl) D_law_right.g D_law_right.F.kp D_law_right.b .nil pass0 (pa_cons pe_int (pa_cons (pv 3) (pa_cons (pv 4) (pa_cons (pe_lst (pa_cons (pe_ofl (pv 3) (by rfl)) (pa_cons (pe_ofl (pv 4) (by rfl)) pa_nil))) (pa_cons (pe_lst (pa_cons (pv 0) (pa_cons (pv 1) pa_nil))) pa_nil)))))) pa_nil)))
 (Evl.pss_cut (ps_set (i := 3) sc__law_first_things.nd rfl (Or.inl rfl) (pe_oexV E.x17.oex E.x17.ini E.x17.tI E.x17.fn (hr.mono (by decide)) E.x17.b pass0 (by rfl) E.x17.g (pa_cons (pv 0) pa_nil)))
 (Evl.pss_cut (ps_set (i := 4) sc__law_first_things.nd rfl (Or.inl rfl) (pe_oexV E.x17.oex E.x17.ini E.x17.tI E.x17.fn (hr.mono (by decide)) E.x17.b pass0 (by rfl) E.x17.g (pa_cons (pv 1) pa_nil)))
 (Evl.pss_cut (ps_expr (pe_bm PySem.F.plainAttrs_list PySem.F.slot_list_append PySem.F.type_list_append mt_append (pv 2) (pa_cons (pe_callG G_law_right hgd hr (by rfl) D_law_right.g D_law_right.F.kp D_law_right.b .nil pass0 (pa_cons pe_int (pa_cons (pv 3) (pa_cons (pv 4) (pa_cons (pe_lst (pa_cons (pe_ofl (pv 3) (by rfl)) (pa_cons (pe_ofl (pv 4) (by rfl)) pa_nil))) (pa_cons (pe_lst (pa_cons (pv 0) (pa_cons (pv 1) pa_nil))) pa_nil)))))) pa_nil)))
 (Evl.pss_cut (ps_set (i := 3) sc__law_first_things.nd rfl (Or.inl rfl) (pe_oexV E.x20.oex E.x20.ini E.x20.tI E.x20.fn (hr.mono (by decide)) E.x20.b pass0 (by rfl) E.x20.g (pa_cons (pv 0) pa_nil)))
 (Evl.pss_cut (ps_set (i := 4) sc__law_first_things.nd rfl (Or.inl rfl) (pe_oexV E.x20.oex E.x20.ini E.x20.tI E.x20.fn (hr.mono (by decide)) E.x20.b pass0 (by rfl) E.x20.g (pa_cons (pv 1) pa_nil)))
 (Evl.pss_cut (ps_expr (pe_bm PySem.F.plainAttrs_list PySem.F.slot_list_append PySem.F.type_list_append mt_append (pv 2) (pa_cons (pe_callG G_law_right hgd hr (by rfl) D_law_right.g D_law_right.F.kp D_law_right.b .nil pass0 (pa_cons pe_int (pa_cons (pv 3) (pa_cons (pv 4) (pa_cons (pe_lst (pa_cons (pe_ofl (pv 3) (by rfl)) (pa_cons (pe_ofl (pv 4) (by rfl)) pa_nil))) (pa_cons (pe_lst (pa_cons (pv 0) (pa_cons (pv 1) pa_nil))) pa_nil)))))) pa_nil)))
 (Evl.pss_cut (ps_set (i := 3) sc__law_first_things.nd rfl (Or.inl rfl) (pe_oexV E.x21.oex E.x21.ini E.x21.tI E.x21.fn (hr.mono (by decide)) E.x21.b pass0 (by rfl) E.x21.g (pa_cons (pv 0) pa_nil)))
 (Evl.pss_cut (ps_set (i := 4) sc__law_first_things.nd rfl (Or.inl rfl) (pe_oexV E.x21.oex E.x21.ini E.x21.tI E.x21.fn (hr.mono (by decide)) E.x21.b pass0 (by rfl) E.x21.g (pa_cons (pv 1) pa_nil)))
 (Evl.pss_cut (ps_expr (pe_bm PySem.F.plainAttrs_list PySem.F.slot_list_append PySem.F.type_list_append mt_append (pv 2) (pa_cons (pe_callG G_law_right hgd hr (by rfl) D_law_right.g D_law_right.F.kp D_law_right.b .nil pass0 (pa_cons pe_int (pa_cons (pv 3) (pa_cons (pv 4) (pa_cons (pe_lst (pa_cons (pe_ofl (pv 3) (by rfl)) (pa_cons (pe_ofl (pv 4) (by rfl)) pa_nil))) (pa_cons (pe_lst (pa_cons (pv 0) (pa_cons (pv 1) pa_nil))) pa_nil)))))) pa_nil)))
 (Evl.pss_cut (ps_set (i := 3) sc__law_first_things.nd rfl (Or.inl rfl) (pe_oexV E.x24.oex E.x24.ini E.x24.tI E.x24.fn (hr.mono (by decide)) E.x24.b pass0 (by rfl) E.x24.g (pa_cons (pv 0) pa_nil)))
 (Evl.pss_cut (ps_set (i := 4) sc__law_first_things.nd rfl (Or.inl rfl) (pe_oexV E.x24.oex E.x24.ini E.x24.tI E.x24.fn (hr.mono (by decide)) E.x24.b pass0 (by rfl) E.x24.g (pa_cons (pv 1) pa_nil)))
 (Evl.pss_cut (ps_expr (pe_bm PySem.F.plainAttrs_list PySem.F.slot_list_append PySem.F.type_list_append mt_append (pv 2) (pa_cons (pe_callG G_law_right hgd hr (by rfl) D_law_right.g D_law_right.F.kp D_law_right.b .nil pass0 (pa_cons pe_int (pa_cons (pv 3) (pa_cons (pv 4) (pa_cons (pe_lst (pa_cons (pe_ofl (pv 3) (by rfl)) (pa_cons (pe_ofl (pv 4) (by rfl)) pa_nil))) (pa_cons (pe_lst (pa_cons (pv 0) (pa_cons (pv 1) pa_nil))) pa_nil)))))) pa_nil)))
 (Evl.pss_cut (ps_set (i := 3) sc__law_first_things.nd rfl (Or.inl rfl) (pe_oexV E.x26.oex E.x26.ini E.x26.tI E.x26.fn (hr.mono (by decide)) E.x26.b pass0 (by rfl) E.x26.g (pa_cons (pv 0) pa_nil)))
 (Evl.pss_cut (ps_set (i := 4) sc__law_first_things.nd rfl (Or.inl rfl) (pe_oexV E.x26.oex E.x26.ini E.x26.tI E.x26.fn (hr.mono (by decide)) E.x26.b pass0 (by rfl) E.x26.g (pa_cons (pv 1) pa_nil)))
 (Evl.pss_cut (ps_expr (pe_bm PySem.F.plainAttrs_list PySem.F.slot_list_append PySem.F.type_list_append mt_append (pv 2) (pa_cons (pe_callG G_law_right hgd hr (by rfl) D_law_right.g D_law_right.F.kp D_law_right.b .nil pass0 (pa_cons pe_int (pa_cons (pv 3) (pa_cons (pv 4) (pa_cons (pe_lst (pa_cons (pe_ofl (pv 3) (by rfl)) (pa_cons (pe_ofl (pv 4) (by rfl)) pa_nil))) (pa_cons (pe_lst (pa_cons (pv 0) (pa_cons (pv 1) pa_nil))) pa_nil)))))) pa_nil)))
 (Evl.pss_cut (ps_set (i := 3) sc__law_first_things.nd rfl (Or.inl rfl) (pe_oexV E.x27.oex E.x27.ini E.x27.tI E.x27.fn (hr.mono (by decide)) E.x27.b pass0 (by rfl) E.x27.g (pa_cons (pv 0) pa_nil)))
 (Evl.pss_cut (ps_set (i := 4) sc__law_first_things.nd rfl (Or.inl rfl) (pe_oexV E.x27.oex E.x27.ini E.x27.tI E.x27.fn (hr.mono (by decide)) E.x27.b pass0 (by rfl) E.x27.g (pa_cons (pv 1) pa_nil)))
 (Evl.pss_cut (ps_expr (pe_bm PySem.F.plainAttrs_list PySem.F.slot_list_append PySem.F.type_list_append mt_append (pv 2) (pa_cons (pe_callG G_law_right hgd hr (by rfl) D_law_right.g D_law_right.F.kp D_law_right.b .nil pass0 (pa_cons pe_int (pa_cons (pv 3) (pa_cons (pv 4) (pa_cons (pe_lst (pa_cons (pe_ofl (pv 3) (by rfl)) (pa_cons (pe_ofl (pv 4) (by rfl)) pa_nil))) (pa_cons (pe_lst (pa_cons (pv 0) (pa_cons (pv 1) pa_nil))) pa_nil)))))) pa_nil)))
 (Evl.pss_cut (ps_set (i := 3) sc__law_first_things.nd rfl (Or.inl rfl) (pe_oexV E.x30.oex E.x30.ini E.x30.tI E.x30.fn (hr.mono (by decide)) E.x30.b pass0 (by rfl) E.x30.g (pa_cons (pv 0) pa_nil)))
 (Evl.pss_cut (ps_set (i := 4) sc__law_first_things.nd rfl (Or.inl rfl) (pe_oexV E.x30.oex E.x30.ini E.x30.tI E.x30.fn (hr.mono (by decide)) E.x30.b pass0 (by rfl) E.x30.g (pa_cons (pv 1) pa_nil)))
 (Evl.pss_cut (ps_expr (pe_bm PySem.F.plainAttrs_list PySem.F.slot_list_append PySem.F.type_list_append mt_append (pv 2) (pa_cons (pe_callG G_law_right hgd hr (by rfl) D_law_right.g D_law_right.F.kp D_law_right.b .nil pass0 (pa_cons pe_int (pa_cons (pv 3) (pa_cons (pv 4) (pa_cons (pe_lst (pa_cons (pe_ofl (pv 3) (by rfl)) (pa_cons (pe_ofl (pv 4) (by rfl)) pa_nil))) (pa_cons (pe_lst (pa_cons (pv 0) (pa_cons (pv 1) pa_nil))) pa_nil)))))) pa_nil)))
 (pss_one (ps_ret (pe_callB (cr_all rfl) (by rfl) B.all (by decide +kernel) (pa_cons (pv 2) pa_nil)))))))))))))))))))))))))))))))))))))))))))), ?_⟩
    dsimp only [L2.cxOf, L2.Cx.nox, L2.Cx.wish]
    have s : Same H H := .refl H
    refine Evl.q_cut (M := fun σ1 H1 => ∃ p, σ1 = [some v, some w, some (.ref p), none, none] ∧ Same H H1 ∧ H p = none ∧ H1 p = some (.lst (List.replicate 0 (.bl true)))) ?_ ?_
    · walk_at "q"
      refine ⟨by show 0 ≤ sizeLine; decide, fun p hp => ?_⟩
      walk_at "q"
      exact ⟨p, rfl, same_upd s hp, hp, upd_same⟩
    clear s
    rintro σ1 H1 ⟨p, rfl, s, hp, l⟩
    refine Evl.q_cut (M := fun σ1 H2 => ∃ a, σ1 = [some v, some w, some (.ref p), some (.ref a), none] ∧ Same H H2 ∧ H2 p = some (.lst (List.replicate 0 (.bl true))) ∧ IsEx H2 a E.x0.C [("words", v)]) ?_ ?_
    · walk_at "q"
      refine z_mkK ?_
      walk_at "q"
      refine z_kNew1 (fun c H2 s2 hn e2 => ?_)
      walk_at "q"
      exact ⟨c, rfl, s.trans s2, s2 _ _ l, e2⟩
    clear s l
    rintro σ1 H1 ⟨a, rfl, s, l, e1⟩
    refine Evl.q_cut (M := fun σ1 H2 => ∃ b, σ1 = [some v, some w, some (.ref p), some (.ref a), some (.ref b)] ∧ Same H H2 ∧ H2 p = some (.lst (List.replicate 0 (.bl true))) ∧ IsEx H2 a E.x0.C [("words", v)] ∧ IsEx H2 b E.x0.C [("words", w)]) ?_ ?_
    · walk_at "q"
      refine z_mkK ?_
      walk_at "q"
      refine z_kNew1 (fun c H2 s2 hn e2 => ?_)
      walk_at "q"
      exact ⟨c, rfl, s.trans s2, s2 _ _ l, e1.same s2, e2⟩
    clear s l e1
    rintro σ1 H1 ⟨b, rfl, s, l, e1, e2⟩
    refine Evl.q_cut (M := fun σ1 H2 => σ1 = [some v, some w, some (.ref p), some (.ref a), some (.ref b)] ∧ Same H H2 ∧ H2 p = some (.lst (List.replicate 1 (.bl true)))) ?_ ?_
    · walk_at "q"
      refine ⟨.inl ⟨rfl, _, .of l⟩, ?_⟩
      walk_at "q"
      refine z_oflI rfl e1 E.x0.xf E.x0.no rfl ?_
      walk_at "q"
      refine z_oflI rfl e2 E.x0.xf E.x0.no rfl ?_
      walk_at "q"
      refine ⟨by show 2 ≤ sizeLine; decide, fun z hz => ?_⟩
      walk_at "q"
      refine ⟨by show 2 ≤ sizeLine; decide, fun y hy => ?_⟩
      walk_at "q"
      refine right_now (i := 0) rfl e1.any e2.any hz hy (.cons (dp_same s hv) (.cons (dp_same s hw) .nil)) two (by show 2 ≤ 4; decide) (fun H3 s3 => ?_)
      have l3 := s3 _ _ l
      have s4 := s.trans s3
      walk_at "q"
      refine z_app l3 (by show 0 < sizeLine; decide) ?_
      walk_at "q"
      exact ⟨rfl, same_upd s4 hp, upd_same⟩
    clear s l e1 e2
    rintro σ1 H1 ⟨rfl, s, l⟩
    refine Evl.q_cut (M := fun σ1 H2 => ∃ a, σ1 = [some v, some w, some (.ref p), some (.ref a), some (.ref b)] ∧ Same H H2 ∧ H2 p = some (.lst (List.replicate 1 (.bl true))) ∧ IsEx H2 a E.x3.C [("space", v)]) ?_ ?_
    · walk_at "q"
      refine z_mkK ?_
      walk_at "q"
      refine z_kNew1 (fun c H2 s2 hn e2 => ?_)
      walk_at "q"
      exact ⟨c, rfl, s.trans s2, s2 _ _ l, e2⟩
    clear s l
    rintro σ1 H1 ⟨a, rfl, s, l, e1⟩
    refine Evl.q_cut (M := fun σ1 H2 => ∃ b, σ1 = [some v, some w, some (.ref p), some (.ref a), some (.ref b)] ∧ Same H H2 ∧ H2 p = some (.lst (List.replicate 1 (.bl true))) ∧ IsEx H2 a E.x3.C [("space", v)] ∧ IsEx H2 b E.x3.C [("space", w)]) ?_ ?_
    · walk_at "q"
      refine z_mkK ?_
      walk_at "q"
      refine z_kNew1 (fun c H2 s2 hn e2 => ?_)
      walk_at "q"
      exact ⟨c, rfl, s.trans s2, s2 _ _ l, e1.same s2, e2⟩
    clear s l e1
    rintro σ1 H1 ⟨b, rfl, s, l, e1, e2⟩
    refine Evl.q_cut (M := fun σ1 H2 => σ1 = [some v, some w, some (.ref p), some (.ref a), some (.ref b)] ∧ Same H H2 ∧ H2 p = some (.lst (List.replicate 2 (.bl true)))) ?_ ?_
    · walk_at "q"
      refine ⟨.inl ⟨rfl, _, .of l⟩, ?_⟩
      walk_at "q"
      refine z_oflI rfl e1 E.x3.xf E.x3.no rfl ?_
      walk_at "q"
      refine z_oflI rfl e2 E.x3.xf E.x3.no rfl ?_
      walk_at "q"
      refine ⟨by show 2 ≤ sizeLine; decide, fun z hz => ?_⟩
      walk_at "q"
      refine ⟨by show 2 ≤ sizeLine; decide, fun y hy => ?_⟩
      walk_at "q"
      refine right_now (i := 3) rfl e1.any e2.any hz hy (.cons (dp_same s hv) (.cons (dp_same s hw) .nil)) two (by show 2 ≤ 4; decide) (fun H3 s3 => ?_)
      have l3 := s3 _ _ l
      have s4 := s.trans s3
      walk_at "q"
      refine z_app l3 (by show 1 < sizeLine; decide) ?_
      walk_at "q"
      exact ⟨rfl, same_upd s4 hp, upd_same⟩
    clear s l e1 e2
    rintro σ1 H1 ⟨rfl, s, l⟩
    refine Evl.q_cut (M := fun σ1 H2 => ∃ a, σ1 = [some v, some w, some (.ref p), some (.ref a), some (.ref b)] ∧ Same H H2 ∧ H2 p = some (.lst (List.replicate 2 (.bl true))) ∧ IsEx H2 a E.x7.C [("beats", v)]) ?_ ?_
    · walk_at "q"
      refine z_mkK ?_
      walk_at "q"
      refine z_kNew1 (fun c H2 s2 hn e2 => ?_)
      walk_at "q"
      exact ⟨c, rfl, s.trans s2, s2 _ _ l, e2⟩
    clear s l
    rintro σ1 H1 ⟨a, rfl, s, l, e1⟩
    refine Evl.q_cut (M := fun σ1 H2 => ∃ b, σ1 = [some v, some w, some (.ref p), some (.ref a), some (.ref b)] ∧ Same H H2 ∧ H2 p = some (.lst (List.replicate 2 (.bl true))) ∧ IsEx H2 a E.x7.C [("beats", v)] ∧ IsEx H2 b E.x7.C [("beats", w)]) ?_ ?_
    · walk_at "q"
      refine z_mkK ?_
      walk_at "q"
      refine z_kNew1 (fun c H2 s2 hn e2 => ?_)
      walk_at "q"
      exact ⟨c, rfl, s.trans s2, s2 _ _ l, e1.same s2, e2⟩
    clear s l e1
    rintro σ1 H1 ⟨b, rfl, s, l, e1, e2⟩
    refine Evl.q_cut (M := fun σ1 H2 => σ1 = [some v, some w, some (.ref p), some (.ref a), some (.ref b)] ∧ Same H H2 ∧ H2 p = some (.lst (List.replicate 3 (.bl true)))) ?_ ?_
    · walk_at "q"
      refine ⟨.inl ⟨rfl, _, .of l⟩, ?_⟩
      walk_at "q"
      refine z_oflI rfl e1 E.x7.xf E.x7.no rfl ?_
      walk_at "q"
      refine z_oflI rfl e2 E.x7.xf E.x7.no rfl ?_
      walk_at "q"
      refine ⟨by show 2 ≤ sizeLine; decide, fun z hz => ?_⟩
      walk_at "q"
      refine ⟨by show 2 ≤ sizeLine; decide, fun y hy => ?_⟩
      walk_at "q"
      refine right_now (i := 7) rfl e1.any e2.any hz hy (.cons (dp_same s hv) (.cons (dp_same s hw) .nil)) two (by show 2 ≤ 4; decide) (fun H3 s3 => ?_)
      have l3 := s3 _ _ l
      have s4 := s.trans s3
      walk_at "q"
      refine z_app l3 (by show 2 < sizeLine; decide) ?_
      walk_at "q"
      exact ⟨rfl, same_upd s4 hp, upd_same⟩
    clear s l e1 e2
    rintro σ1 H1 ⟨rfl, s, l⟩
    refine Evl.q_cut (M := fun σ1 H2 => ∃ a, σ1 = [some v, some w, some (.ref p), some (.ref a), some (.ref b)] ∧ Same H H2 ∧ H2 p = some (.lst (List.replicate 3 (.bl true))) ∧ IsEx H2 a E.x8.C [("wish", v)]) ?_ ?_
    · walk_at "q"
      refine z_mkK ?_
      walk_at "q"
      refine z_kNew1 (fun c H2 s2 hn e2 => ?_)
      walk_at "q"
      exact ⟨c, rfl, s.trans s2, s2 _ _ l, e2⟩
    clear s l
    rintro σ1 H1 ⟨a, rfl, s, l, e1⟩
    refine Evl.q_cut (M := fun σ1 H2 => ∃ b, σ1 = [some v, some w, some (.ref p), some (.ref a), some (.ref b)] ∧ Same H H2 ∧ H2 p = some (.lst (List.replicate 3 (.bl true))) ∧ IsEx H2 a E.x8.C [("wish", v)] ∧ IsEx H2 b E.x8.C [("wish", w)]) ?_ ?_
    · walk_at "q"
      refine z_mkK ?_
      walk_at "q"
      refine z_kNew1 (fun c H2 s2 hn e2 => ?_)
      walk_at "q"
      exact ⟨c, rfl, s.trans s2, s2 _ _ l, e1.same s2, e2⟩
    clear s l e1
    rintro σ1 H1 ⟨b, rfl, s, l, e1, e2⟩
    refine Evl.q_cut (M := fun σ1 H2 => σ1 = [some v, some w, some (.ref p), some (.ref a), some (.ref b)] ∧ Same H H2 ∧ H2 p = some (.lst (List.replicate 4 (.bl true)))) ?_ ?_
    · walk_at "q"
      refine ⟨.inl ⟨rfl, _, .of l⟩, ?_⟩
      walk_at "q"
      refine z_oflI rfl e1 E.x8.xf E.x8.no rfl ?_
      walk_at "q"
      refine z_oflI rfl e2 E.x8.xf E.x8.no rfl ?_
      walk_at "q"
      refine ⟨by show 2 ≤ sizeLine; decide, fun z hz => ?_⟩
      walk_at "q"
      refine ⟨by show 2 ≤ sizeLine; decide, fun y hy => ?_⟩
      walk_at "q"
      refine right_now (i := 8) rfl e1.any e2.any hz hy (.cons (dp_same s hv) (.cons (dp_same s hw) .nil)) two (by show 2 ≤ 4; decide) (fun H3 s3 => ?_)
      have l3 := s3 _ _ l
      have s4 := s.trans s3
      walk_at "q"
      refine z_app l3 (by show 3 < sizeLine; decide) ?_
      walk_at "q"
      exact ⟨rfl, same_upd s4 hp, upd_same⟩
    clear s l e1 e2
    rintro σ1 H1 ⟨rfl, s, l⟩
    refine Evl.q_cut (M := fun σ1 H2 => ∃ a, σ1 = [some v, some w, some (.ref p), some (.ref a), some (.ref b)] ∧ Same H H2 ∧ H2 p = some (.lst (List.replicate 4 (.bl true))) ∧ IsEx H2 a E.x13.C [("least", v)]) ?_ ?_
    · walk_at "q"
      refine z_mkK ?_
      walk_at "q"
      refine z_kNew1 (fun c H2 s2 hn e2 => ?_)
      walk_at "q"
      exact ⟨c, rfl, s.trans s2, s2 _ _ l, e2⟩
    clear s l
    rintro σ1 H1 ⟨a, rfl, s, l, e1⟩
    refine Evl.q_cut (M := fun σ1 H2 => ∃ b, σ1 = [some v, some w, some (.ref p), some (.ref a), some (.ref b)] ∧ Same H H2 ∧ H2 p = some (.lst (List.replicate 4 (.bl true))) ∧ IsEx H2 a E.x13.C [("least", v)] ∧ IsEx H2 b E.x13.C [("least", w)]) ?_ ?_
    · walk_at "q"
      refine z_mkK ?_
      walk_at "q"
      refine z_kNew1 (fun c H2 s2 hn e2 => ?_)
      walk_at "q"
      exact ⟨c, rfl, s.trans s2, s2 _ _ l, e1.same s2, e2⟩
    clear s l e1
    rintro σ1 H1 ⟨b, rfl, s, l, e1, e2⟩
    refine Evl.q_cut (M := fun σ1 H2 => σ1 = [some v, some w, some (.ref p), some (.ref a), some (.ref b)] ∧ Same H H2 ∧ H2 p = some (.lst (List.replicate 5 (.bl true)))) ?_ ?_
    · walk_at "q"
      refine ⟨.inl ⟨rfl, _, .of l⟩, ?_⟩
      walk_at "q"
      refine z_oflI rfl e1 E.x13.xf E.x13.no rfl ?_
      walk_at "q"
      refine z_oflI rfl e2 E.x13.xf E.x13.no rfl ?_
      walk_at "q"
      refine ⟨by show 2 ≤ sizeLine; decide, fun z hz => ?_⟩
      walk_at "q"
      refine ⟨by show 2 ≤ sizeLine; decide, fun y hy => ?_⟩
      walk_at "q"
      refine right_now (i := 13) rfl e1.any e2.any hz hy (.cons (dp_same s hv) (.cons (dp_same s hw) .nil)) two (by show 2 ≤ 4; decide) (fun H3 s3 => ?_)
      have l3 := s3 _ _ l
      have s4 := s.trans s3
      walk_at "q"
      refine z_app l3 (by show 4 < sizeLine; decide) ?_
      walk_at "q"
      exact ⟨rfl, same_upd s4 hp, upd_same⟩
    clear s l e1 e2
    rintro σ1 H1 ⟨rfl, s, l⟩
    refine Evl.q_cut (M := fun σ1 H2 => ∃ a, σ1 = [some v, some w, some (.ref p), some (.ref a), some (.ref b)] ∧ Same H H2 ∧ H2 p = some (.lst (List.replicate 5 (.bl true))) ∧ IsEx H2 a E.x14.C [("wait", v)]) ?_ ?_
    · walk_at "q"
      refine z_mkK ?_
      walk_at "q"
      refine z_kNew1 (fun c H2 s2 hn e2 => ?_)
      walk_at "q"
      exact ⟨c, rfl, s.trans s2, s2 _ _ l, e2⟩
    clear s l
    rintro σ1 H1 ⟨a, rfl, s, l, e1⟩
    refine Evl.q_cut (M := fun σ1 H2 => ∃ b, σ1 = [some v, some w, some (.ref p), some (.ref a), some (.ref b)] ∧ Same H H2 ∧ H2 p = some (.lst (List.replicate 5 (.bl true))) ∧ IsEx H2 a E.x14.C [("wait", v)] ∧ IsEx H2 b E.x14.C [("wait", w)]) ?_ ?_
    · walk_at "q"
      refine z_mkK ?_
      walk_at "q"
      refine z_kNew1 (fun c H2 s2 hn e2 => ?_)
      walk_at "q"
      exact ⟨c, rfl, s.trans s2, s2 _ _ l, e1.same s2, e2⟩
    clear s l e1
    rintro σ1 H1 ⟨b, rfl, s, l, e1, e2⟩
    refine Evl.q_cut (M := fun σ1 H2 => σ1 = [some v, some w, some (.ref p), some (.ref a), some (.ref b)] ∧ Same H H2 ∧ H2 p = some (.lst (List.replicate 6 (.bl true)))) ?_ ?_
    · walk_at "q"
      refine ⟨.inl ⟨rfl, _, .of l⟩, ?_⟩
      walk_at "q"
      refine z_oflI rfl e1 E.x14.xf E.x14.no rfl ?_
      walk_at "q"
      refine z_oflI rfl e2 E.x14.xf E.x14.no rfl ?_
      walk_at "q"
      refine ⟨by show 2 ≤ sizeLine; decide, fun z hz => ?_⟩
      walk_at "q"
      refine ⟨by show 2 ≤ sizeLine; decide, fun y hy => ?_⟩
      walk_at "q"
      refine right_now (i := 14) rfl e1.any e2.any hz hy (.cons (dp_same s hv) (.cons (dp_same s hw) .nil)) two (by show 2 ≤ 4; decide) (fun H3 s3 => ?_)
      have l3 := s3 _ _ l
      have s4 := s.trans s3
      walk_at "q"
      refine z_app l3 (by show 5 < sizeLine; decide) ?_
      walk_at "q"
      exact ⟨rfl, same_upd s4 hp, upd_same⟩
    clear s l e1 e2
    rintro σ1 H1 ⟨rfl, s, l⟩
    refine Evl.q_cut (M := fun σ1 H2 => ∃ a, σ1 = [some v, some w, some (.ref p), some (.ref a), some (.ref b)] ∧ Same H H2 ∧ H2 p = some (.lst (List.replicate 6 (.bl true))) ∧ IsEx H2 a E.x17.C [("number", v)]) ?_ ?_
    · walk_at "q"
      refine z_mkK ?_
      walk_at "q"
      refine z_kNew1 (fun c H2 s2 hn e2 => ?_)
      walk_at "q"
      exact ⟨c, rfl, s.trans s2, s2 _ _ l, e2⟩
    clear s l
    rintro σ1 H1 ⟨a, rfl, s, l, e1⟩
    refine Evl.q_cut (M := fun σ1 H2 => ∃ b, σ1 = [some v, some w, some (.ref p), some (.ref a), some (.ref b)] ∧ Same H H2 ∧ H2 p = some (.lst (List.replicate 6 (.bl true))) ∧ IsEx H2 a E.x17.C [("number", v)] ∧ IsEx H2 b E.x17.C [("number", w)]) ?_ ?_
    · walk_at "q"
      refine z_mkK ?_
      walk_at "q"
      refine z_kNew1 (fun c H2 s2 hn e2 => ?_)
      walk_at "q"
      exact ⟨c, rfl, s.trans s2, s2 _ _ l, e1.same s2, e2⟩
    clear s l e1
    rintro σ1 H1 ⟨b, rfl, s, l, e1, e2⟩
    refine Evl.q_cut (M := fun σ1 H2 => σ1 = [some v, some w, some (.ref p), some (.ref a), some (.ref b)] ∧ Same H H2 ∧ H2 p = some (.lst (List.replicate 7 (.bl true)))) ?_ ?_
    · walk_at "q"
      refine ⟨.inl ⟨rfl, _, .of l⟩, ?_⟩
      walk_at "q"
      refine z_oflI rfl e1 E.x17.xf E.x17.no rfl ?_
      walk_at "q"
      refine z_oflI rfl e2 E.x17.xf E.x17.no rfl ?_
      walk_at "q"
      refine ⟨by show 2 ≤ sizeLine; decide, fun z hz => ?_⟩
      walk_at "q"
      refine ⟨by show 2 ≤ sizeLine; decide, fun y hy => ?_⟩
      walk_at "q"
      refine right_now (i := 17) rfl e1.any e2.any hz hy (.cons (dp_same s hv) (.cons (dp_same s hw) .nil)) two (by show 2 ≤ 4; decide) (fun H3 s3 => ?_)
      have l3 := s3 _ _ l
      have s4 := s.trans s3
      walk_at "q"
      refine z_app l3 (by show 6 < sizeLine; decide) ?_
      walk_at "q"
      exact ⟨rfl, same_upd s4 hp, upd_same⟩
    clear s l e1 e2
    rintro σ1 H1 ⟨rfl, s, l⟩
    refine Evl.q_cut (M := fun σ1 H2 => ∃ a, σ1 = [some v, some w, some (.ref p), some (.ref a), some (.ref b)] ∧ Same H H2 ∧ H2 p = some (.lst (List.replicate 7 (.bl true))) ∧ IsEx H2 a E.x20.C [("delay", v)]) ?_ ?_
    · walk_at "q"
      refine z_mkK ?_
      walk_at "q"
      refine z_kNew1 (fun c H2 s2 hn e2 => ?_)
      walk_at "q"
      exact ⟨c, rfl, s.trans s2, s2 _ _ l, e2⟩
    clear s l
    rintro σ1 H1 ⟨a, rfl, s, l, e1⟩
    refine Evl.q_cut (M := fun σ1 H2 => ∃ b, σ1 = [some v, some w, some (.ref p), some (.ref a), some (.ref b)] ∧ Same H H2 ∧ H2 p = some (.lst (List.replicate 7 (.bl true))) ∧ IsEx H2 a E.x20.C [("delay", v)] ∧ IsEx H2 b E.x20.C [("delay", w)]) ?_ ?_
    · walk_at "q"
      refine z_mkK ?_
      walk_at "q"
      refine z_kNew1 (fun c H2 s2 hn e2 => ?_)
      walk_at "q"
      exact ⟨c, rfl, s.trans s2, s2 _ _ l, e1.same s2, e2⟩
    clear s l e1
    rintro σ1 H1 ⟨b, rfl, s, l, e1, e2⟩
    refine Evl.q_cut (M := fun σ1 H2 => σ1 = [some v, some w, some (.ref p), some (.ref a), some (.ref b)] ∧ Same H H2 ∧ H2 p = some (.lst (List.replicate 8 (.bl true)))) ?_ ?_
    · walk_at "q"
      refine ⟨.inl ⟨rfl, _, .of l⟩, ?_⟩
      walk_at "q"
      refine z_oflI rfl e1 E.x20.xf E.x20.no rfl ?_
      walk_at "q"
      refine z_oflI rfl e2 E.x20.xf E.x20.no rfl ?_
      walk_at "q"
      refine ⟨by show 2 ≤ sizeLine; decide, fun z hz => ?_⟩
      walk_at "q"
      refine ⟨by show 2 ≤ sizeLine; decide, fun y hy => ?_⟩
      walk_at "q"
      refine right_now (i := 20) rfl e1.any e2.any hz hy (.cons (dp_same s hv) (.cons (dp_same s hw) .nil)) two (by show 2 ≤ 4; decide) (fun H3 s3 => ?_)
      have l3 := s3 _ _ l
      have s4 := s.trans s3
      walk_at "q"
      refine z_app l3 (by show 7 < sizeLine; decide) ?_
      walk_at "q"
      exact ⟨rfl, same_upd s4 hp, upd_same⟩
    clear s l e1 e2
    rintro σ1 H1 ⟨rfl, s, l⟩
    refine Evl.q_cut (M := fun σ1 H2 => ∃ a, σ1 = [some v, some w, some (.ref p), some (.ref a), some (.ref b)] ∧ Same H H2 ∧ H2 p = some (.lst (List.replicate 8 (.bl true))) ∧ IsEx H2 a E.x21.C [("places", v)]) ?_ ?_
    · walk_at "q"
      refine z_mkK ?_
      walk_at "q"
      refine z_kNew1 (fun c H2 s2 hn e2 => ?_)
      walk_at "q"
      exact ⟨c, rfl, s.trans s2, s2 _ _ l, e2⟩
    clear s l
    rintro σ1 H1 ⟨a, rfl, s, l, e1⟩
    refine Evl.q_cut (M := fun σ1 H2 => ∃ b, σ1 = [some v, some w, some (.ref p), some (.ref a), some (.ref b)] ∧ Same H H2 ∧ H2 p = some (.lst (List.replicate 8 (.bl true))) ∧ IsEx H2 a E.x21.C [("places", v)] ∧ IsEx H2 b E.x21.C [("places", w)]) ?_ ?_
    · walk_at "q"
      refine z_mkK ?_
      walk_at "q"
      refine z_kNew1 (fun c H2 s2 hn e2 => ?_)
      walk_at "q"
      exact ⟨c, rfl, s.trans s2, s2 _ _ l, e1.same s2, e2⟩
    clear s l e1
    rintro σ1 H1 ⟨b, rfl, s, l, e1, e2⟩
    refine Evl.q_cut (M := fun σ1 H2 => σ1 = [some v, some w, some (.ref p), some (.ref a), some (.ref b)] ∧ Same H H2 ∧ H2 p = some (.lst (List.replicate 9 (.bl true)))) ?_ ?_
    · walk_at "q"
      refine ⟨.inl ⟨rfl, _, .of l⟩, ?_⟩
      walk_at "q"
      refine z_oflI rfl e1 E.x21.xf E.x21.no rfl ?_
      walk_at "q"
      refine z_oflI rfl e2 E.x21.xf E.x21.no rfl ?_
      walk_at "q"
      refine ⟨by show 2 ≤ sizeLine; decide, fun z hz => ?_⟩
      walk_at "q"
      refine ⟨by show 2 ≤ sizeLine; decide, fun y hy => ?_⟩
      walk_at "q"
      refine right_now (i := 21) rfl e1.any e2.any hz hy (.cons (dp_same s hv) (.cons (dp_same s hw) .nil)) two (by show 2 ≤ 4; decide) (fun H3 s3 => ?_)
      have l3 := s3 _ _ l
      have s4 := s.trans s3
      walk_at "q"
      refine z_app l3 (by show 8 < sizeLine; decide) ?_
      walk_at "q"
      exact ⟨rfl, same_upd s4 hp, upd_same⟩
    clear s l e1 e2
    rintro σ1 H1 ⟨rfl, s, l⟩
    refine Evl.q_cut (M := fun σ1 H2 => ∃ a, σ1 = [some v, some w, some (.ref p), some (.ref a), some (.ref b)] ∧ Same H H2 ∧ H2 p = some (.lst (List.replicate 9 (.bl true))) ∧ IsEx H2 a E.x24.C [("names", v)]) ?_ ?_
    · walk_at "q"
      refine z_mkK ?_
      walk_at "q"
      refine z_kNew1 (fun c H2 s2 hn e2 => ?_)
      walk_at "q"
      exact ⟨c, rfl, s.trans s2, s2 _ _ l, e2⟩
    clear s l
    rintro σ1 H1 ⟨a, rfl, s, l, e1⟩
    refine Evl.q_cut (M := fun σ1 H2 => ∃ b, σ1 = [some v, some w, some (.ref p), some (.ref a), some (.ref b)] ∧ Same H H2 ∧ H2 p = some (.lst (List.replicate 9 (.bl true))) ∧ IsEx H2 a E.x24.C [("names", v)] ∧ IsEx H2 b E.x24.C [("names", w)]) ?_ ?_
    · walk_at "q"
      refine z_mkK ?_
      walk_at "q"
      refine z_kNew1 (fun c H2 s2 hn e2 => ?_)
      walk_at "q"
      exact ⟨c, rfl, s.trans s2, s2 _ _ l, e1.same s2, e2⟩
    clear s l e1
    rintro σ1 H1 ⟨b, rfl, s, l, e1, e2⟩
    refine Evl.q_cut (M := fun σ1 H2 => σ1 = [some v, some w, some (.ref p), some (.ref a), some (.ref b)] ∧ Same H H2 ∧ H2 p = some (.lst (List.replicate 10 (.bl true)))) ?_ ?_
    · walk_at "q"
      refine ⟨.inl ⟨rfl, _, .of l⟩, ?_⟩
      walk_at "q"
      refine z_oflI rfl e1 E.x24.xf E.x24.no rfl ?_
      walk_at "q"
      refine z_oflI rfl e2 E.x24.xf E.x24.no rfl ?_
      walk_at "q"
      refine ⟨by show 2 ≤ sizeLine; decide, fun z hz => ?_⟩
      walk_at "q"
      refine ⟨by show 2 ≤ sizeLine; decide, fun y hy => ?_⟩
      walk_at "q"
      refine right_now (i := 24) rfl e1.any e2.any hz hy (.cons (dp_same s hv) (.cons (dp_same s hw) .nil)) two (by show 2 ≤ 4; decide) (fun H3 s3 => ?_)
      have l3 := s3 _ _ l
      have s4 := s.trans s3
      walk_at "q"
      refine z_app l3 (by show 9 < sizeLine; decide) ?_
      walk_at "q"
      exact ⟨rfl, same_upd s4 hp, upd_same⟩
    clear s l e1 e2
    rintro σ1 H1 ⟨rfl, s, l⟩
    refine Evl.q_cut (M := fun σ1 H2 => ∃ a, σ1 = [some v, some w, some (.ref p), some (.ref a), some (.ref b)] ∧ Same H H2 ∧ H2 p = some (.lst (List.replicate 10 (.bl true))) ∧ IsEx H2 a E.x26.C [("delays", v)]) ?_ ?_
    · walk_at "q"
      refine z_mkK ?_
      walk_at "q"
      refine z_kNew1 (fun c H2 s2 hn e2 => ?_)
      walk_at "q"
      exact ⟨c, rfl, s.trans s2, s2 _ _ l, e2⟩
    clear s l
    rintro σ1 H1 ⟨a, rfl, s, l, e1⟩
    refine Evl.q_cut (M := fun σ1 H2 => ∃ b, σ1 = [some v, some w, some (.ref p), some (.ref a), some (.ref b)] ∧ Same H H2 ∧ H2 p = some (.lst (List.replicate 10 (.bl true))) ∧ IsEx H2 a E.x26.C [("delays", v)] ∧ IsEx H2 b E.x26.C [("delays", w)]) ?_ ?_
    · walk_at "q"
      refine z_mkK ?_
      walk_at "q"
      refine z_kNew1 (fun c H2 s2 hn e2 => ?_)
      walk_at "q"
      exact ⟨c, rfl, s.trans s2, s2 _ _ l, e1.same s2, e2⟩
    clear s l e1
    rintro σ1 H1 ⟨b, rfl, s, l, e1, e2⟩
    refine Evl.q_cut (M := fun σ1 H2 => σ1 = [some v, some w, some (.ref p), some (.ref a), some (.ref b)] ∧ Same H H2 ∧ H2 p = some (.lst (List.replicate 11 (.bl true)))) ?_ ?_
    · walk_at "q"
      refine ⟨.inl ⟨rfl, _, .of l⟩, ?_⟩
      walk_at "q"
      refine z_oflI rfl e1 E.x26.xf E.x26.no rfl ?_
      walk_at "q"
      refine z_oflI rfl e2 E.x26.xf E.x26.no rfl ?_
      walk_at "q"
      refine ⟨by show 2 ≤ sizeLine; decide, fun z hz => ?_⟩
      walk_at "q"
      refine ⟨by show 2 ≤ sizeLine; decide, fun y hy => ?_⟩
      walk_at "q"
      refine right_now (i := 26) rfl e1.any e2.any hz hy (.cons (dp_same s hv) (.cons (dp_same s hw) .nil)) two (by show 2 ≤ 4; decide) (fun H3 s3 => ?_)
      have l3 := s3 _ _ l
      have s4 := s.trans s3
      walk_at "q"
      refine z_app l3 (by show 10 < sizeLine; decide) ?_
      walk_at "q"
      exact ⟨rfl, same_upd s4 hp, upd_same⟩
    clear s l e1 e2
    rintro σ1 H1 ⟨rfl, s, l⟩
    refine Evl.q_cut (M := fun σ1 H2 => ∃ a, σ1 = [some v, some w, some (.ref p), some (.ref a), some (.ref b)] ∧ Same H H2 ∧ H2 p = some (.lst (List.replicate 11 (.bl true))) ∧ IsEx H2 a E.x27.C [("first", v)]) ?_ ?_
    · walk_at "q"
      refine z_mkK ?_
      walk_at "q"
      refine z_kNew1 (fun c H2 s2 hn e2 => ?_)
      walk_at "q"
      exact ⟨c, rfl, s.trans s2, s2 _ _ l, e2⟩
    clear s l
    rintro σ1 H1 ⟨a, rfl, s, l, e1⟩
    refine Evl.q_cut (M := fun σ1 H2 => ∃ b, σ1 = [some v, some w, some (.ref p), some (.ref a), some (.ref b)] ∧ Same H H2 ∧ H2 p = some (.lst (List.replicate 11 (.bl true))) ∧ IsEx H2 a E.x27.C [("first", v)] ∧ IsEx H2 b E.x27.C [("first", w)]) ?_ ?_
    · walk_at "q"
      refine z_mkK ?_
      walk_at "q"
      refine z_kNew1 (fun c H2 s2 hn e2 => ?_)
      walk_at "q"
      exact ⟨c, rfl, s.trans s2, s2 _ _ l, e1.same s2, e2⟩
    clear s l e1
    rintro σ1 H1 ⟨b, rfl, s, l, e1, e2⟩
    refine Evl.q_cut (M := fun σ1 H2 => σ1 = [some v, some w, some (.ref p), some (.ref a), some (.ref b)] ∧ Same H H2 ∧ H2 p = some (.lst (List.replicate 12 (.bl true)))) ?_ ?_
    · walk_at "q"
      refine ⟨.inl ⟨rfl, _, .of l⟩, ?_⟩
      walk_at "q"
      refine z_oflI rfl e1 E.x27.xf E.x27.no rfl ?_
      walk_at "q"
      refine z_oflI rfl e2 E.x27.xf E.x27.no rfl ?_
      walk_at "q"
      refine ⟨by show 2 ≤ sizeLine; decide, fun z hz => ?_⟩
      walk_at "q"
      refine ⟨by show 2 ≤ sizeLine; decide, fun y hy => ?_⟩
      walk_at "q"
      refine right_now (i := 27) rfl e1.any e2.any hz hy (.cons (dp_same s hv) (.cons (dp_same s hw) .nil)) two (by show 2 ≤ 4; decide) (fun H3 s3 => ?_)
      have l3 := s3 _ _ l
      have s4 := s.trans s3
      walk_at "q"
      refine z_app l3 (by show 11 < sizeLine; decide) ?_
      walk_at "q"
      exact ⟨rfl, same_upd s4 hp, upd_same⟩
    clear s l e1 e2
    rintro σ1 H1 ⟨rfl, s, l⟩
    refine Evl.q_cut (M := fun σ1 H2 => ∃ a, σ1 = [some v, some w, some (.ref p), some (.ref a), some (.ref b)] ∧ Same H H2 ∧ H2 p = some (.lst (List.replicate 12 (.bl true))) ∧ IsEx H2 a E.x30.C [("most", v)]) ?_ ?_
    · walk_at "q"
      refine z_mkK ?_
      walk_at "q"
      refine z_kNew1 (fun c H2 s2 hn e2 => ?_)
      walk_at "q"
      exact ⟨c, rfl, s.trans s2, s2 _ _ l, e2⟩
    clear s l
    rintro σ1 H1 ⟨a, rfl, s, l, e1⟩
    refine Evl.q_cut (M := fun σ1 H2 => ∃ b, σ1 = [some v, some w, some (.ref p), some (.ref a), some (.ref b)] ∧ Same H H2 ∧ H2 p = some (.lst (List.replicate 12 (.bl true))) ∧ IsEx H2 a E.x30.C [("most", v)] ∧ IsEx H2 b E.x30.C [("most", w)]) ?_ ?_
    · walk_at "q"
      refine z_mkK ?_
      walk_at "q"
      refine z_kNew1 (fun c H2 s2 hn e2 => ?_)
      walk_at "q"
      exact ⟨c, rfl, s.trans s2, s2 _ _ l, e1.same s2, e2⟩
    clear s l e1
    rintro σ1 H1 ⟨b, rfl, s, l, e1, e2⟩
    refine Evl.q_cut (M := fun σ1 H2 => σ1 = [some v, some w, some (.ref p), some (.ref a), some (.ref b)] ∧ Same H H2 ∧ H2 p = some (.lst (List.replicate 13 (.bl true)))) ?_ ?_
    · walk_at "q"
      refine ⟨.inl ⟨rfl, _, .of l⟩, ?_⟩
      walk_at "q"
      refine z_oflI rfl e1 E.x30.xf E.x30.no rfl ?_
      walk_at "q"
      refine z_oflI rfl e2 E.x30.xf E.x30.no rfl ?_
      walk_at "q"
      refine ⟨by show 2 ≤ sizeLine; decide, fun z hz => ?_⟩
      walk_at "q"
      refine ⟨by show 2 ≤ sizeLine; decide, fun y hy => ?_⟩
      walk_at "q"
      refine right_now (i := 30) rfl e1.any e2.any hz hy (.cons (dp_same s hv) (.cons (dp_same s hw) .nil)) two (by show 2 ≤ 4; decide) (fun H3 s3 => ?_)
      have l3 := s3 _ _ l
      have s4 := s.trans s3
      walk_at "q"
      refine z_app l3 (by show 12 < sizeLine; decide) ?_
      walk_at "q"
      exact ⟨rfl, same_upd s4 hp, upd_same⟩
    clear s l e1 e2
    rintro σ1 H1 ⟨rfl, s, l⟩
    walk_at "q"
    have l2 : SqL K H1 p ((List.replicate 13 true).map V.bl) := .of l
    refine z_all l2 ?_
    walk_at "q"
    exact q _ s
end
end K6
set_option maxHeartbeats 8000000
namespace K6
open PySem PySem.Spec PyProof.Rows L2 TB
open SX (S S_len S_cat)
local macro_rules | `(tactic| walk_at "side") => `(tactic| first
  | (focus exact Or.inr ⟨by decide, by decide⟩)
  | (focus exact TB.cmul_mod (by decide) (by decide))
  | (focus exact Or.inl ⟨by decide, by decide⟩)
  | (focus exact ⟨by decide, by decide⟩)
  | (focus exact ⟨by decide, by decide +kernel⟩)
  | (focus (show (0 : Int) < _; first | decide | omega | assumption))
  | (focus assumption)
  | (focus exact ⟨by omega, by omega⟩)
  | (focus (show (_ : Nat) ≤ sizeLine; rw [sizeLine_eq]; first | decide | omega))
  | (focus (show (_ : Nat) < sizeLine; rw [sizeLine_eq]; first | decide | omega))
  | rotate_left)
local macro_rules | `(tactic| walk_at "q1") => `(tactic| first
  | with_reducible refine TB.z_seq ?_
  | with_reducible refine TB.z_asg ?_
  | with_reducible refine TB.z_drop ?_
  | with_reducible refine TB.z_ret ?_
  | with_reducible refine TB.z_retN ?_
  | with_reducible refine TB.z_next ?_
  | with_reducible refine TB.z_brk ?_
  | with_reducible refine TB.z_cont ?_
  | with_reducible refine TB.z_if ?_
  | with_reducible refine TB.z_name ?_
  | with_reducible refine TB.z_sub ?_
  | ((with_reducible show L2.tVar _ _ _ _); refine TB.z_var rfl ?_)
  | with_reducible refine TB.z_c ?_
  | with_reducible refine TB.z_op ?_
  | with_reducible refine TB.z_un ?_
  | with_reducible refine TB.z_lt ?_
  | with_reducible refine TB.z_le ?_
  | with_reducible refine TB.z_gt ?_
  | with_reducible refine TB.z_ge ?_
  | with_reducible refine TB.z_eqI ?_
  | with_reducible refine TB.z_neI ?_
  | with_reducible refine TB.z_eqS ?_
  | with_reducible refine TB.z_neS ?_
  | with_reducible refine TB.z_I0 ?_
  | ((with_reducible refine TB.z_I ?_ ?_); walk_at "side")
  | with_reducible refine TB.z_U ?_
  | with_reducible refine TB.z_test ?_
  | with_reducible refine TB.z_tB ?_
  | with_reducible refine TB.z_bl ?_
  | with_reducible refine TB.z_and ?_
  | with_reducible refine TB.z_or ?_
  | with_reducible refine TB.z_not ?_
  | with_reducible refine TB.z_notV ?_
  | with_reducible refine TB.z_andV ?_
  | with_reducible refine TB.z_orV ?_
  | with_reducible refine TB.z_ifE ?_
  | with_reducible refine TB.z_iteT ?_
  | with_reducible refine TB.z_iteF ?_
  | with_reducible refine TB.z_iteNT ?_
  | with_reducible refine TB.z_iteNF ?_
  | with_reducible refine TB.z_cb ?_
  | with_reducible refine TB.z_call ?_
  | with_reducible refine TB.z_nil ?_
  | with_reducible refine TB.z_cons ?_
  | with_reducible refine TB.z_tup ?_
  | with_reducible refine TB.z_lst ?_
  | with_reducible refine TB.z_rInt ?_
  | with_reducible refine TB.z_rAbs ?_
  | ((with_reducible refine TB.z_rLenS ?_ ?_); walk_at "side")
  | ((with_reducible show TB.rLen _ _ _ _); first
      | refine TB.z_rLen (Or.inl (SqL.of L2.upd_same)) ?_
      | refine TB.z_rLen (Or.inl (SqL.of (by assumption))) ?_
      | refine TB.z_rLen (Or.inr (SqT.of (by assumption))) ?_
      | refine TB.z_rLen (Or.inl (by first | assumption | apply_assumption)) ?_
      | refine TB.z_rLen (Or.inr (by first | assumption | apply_assumption)) ?_)
  | ((with_reducible show L2.rIxL _ _ _ _ _); first
      | refine TB.z_ixL (SqL.of L2.upd_same) rfl ?_
      | refine TB.z_ixL (SqL.of (by assumption)) rfl ?_
      | refine TB.z_ixL (by first | assumption | apply_assumption) (by first | assumption | rfl) ?_)
  | ((with_reducible show L2.rIxT _ _ _ _ _); first
      | refine TB.z_ixT (SqT.of L2.upd_same) rfl ?_
      | refine TB.z_ixT (SqT.of (by assumption)) rfl ?_
      | refine TB.z_ixT (by first | assumption | apply_assumption) (by first | assumption | rfl) ?_)
  | ((with_reducible show L2.rSetL _ _ _ _ _); refine TB.z_setU rfl ?_)
  | with_reducible refine TB.z_lcR ?_
  | with_reducible refine TB.z_m1 ?_
  | with_reducible refine TB.z_lcL ?_
  | with_reducible refine TB.z_bm ?_
  | with_reducible refine TB.z_bm0 ?_)
local macro_rules | `(tactic| walk_at "q") => `(tactic| repeat walk_at "q1")
local macro_rules | `(tactic| walk_at "qq") => `(tactic| repeat' (first
  | walk_at "q1"
  | with_reducible refine TB.z_ite (fun hq => ?_) (fun hq => ?_)
  | with_reducible refine TB.z_iteN (fun hq => ?_) (fun hq => ?_)
  | with_reducible refine TB.z_iteB (fun hq => ?_) (fun hq => ?_)))

theorem sc__law_other_things : FnScope ["thing", "other", "found", "one", "two"] ["thing", "other"] (defScope s__law_other_things) := ⟨rfl, rfl, rfl, by decide +kernel, rfl, by decide +kernel, by decide +kernel⟩

section
variable {P : Program} {w : World} {K : PySem.W.Frag} {mg : Str → Option Value} {base : Heap}
theorem ok_law_other_things (D : Df K mg "_law_other_things" s__law_other_things ["thing", "other"]) (D_law_right : Df K mg "_law_right" s__law_right ["at", "one", "two", "told", "due"]) (D_law_flags : Df K mg "_law_flags" s__law_flags ["made"]) (B : Bi mg) (E : AllEx P w K mg base) (k : KitOk K E.cs E.tail) :
    FnG P w K mg base CX0 4 D.f D.fd ["thing", "other"] (spPair K) := by
  have G_law_right : FnG P w K mg base CX0 3 D_law_right.f D_law_right.fd ["at", "one", "two", "told", "due"] (spRight K E.cs) := ok_right D_law_right D_law_flags B E k
  refine okG D.F sc__law_other_things (fun vs H Q E h => ?_) (fun cdv A outer s H vs Q E' hgd hr h => ?_)
  · obtain ⟨_, _, _, _, rfl, _⟩ := h
    rfl
  · obtain ⟨v, w, dv, dw, rfl, hv, hw, sv, sw, q⟩ := h
    have two : ∀ d ∈ [dv, dw], Small 3 d := fun d hd => by
      rcases List.mem_cons.mp hd with h1 | h1
      · exact h1 ▸ sv
      · exact List.mem_singleton.mp h1 ▸ sw
    have four : ∀ d ∈ [dv, dw, dw, dv], Small 3 d := fun d hd => by
      simp only [List.mem_cons, List.not_mem_nil, or_false] at hd
      rcases hd with h1 | h1 | h1 | h1
      · exact h1 ▸ sv
      · exact h1 ▸ sw
      · exact h1 ▸ sw
      · exact h1 ▸ sv
    refine ⟨_, (Evl.pss_cut (ps_set (i := 2) sc__law_other_things.nd rfl (Or.inl rfl) (pe_lst pa_nil))
 (Evl.pss_cut (ps_set (i := 3) sc__law_other_things.nd rfl (Or.inl rfl) (pe_oexV E.x31.oex E.x31.ini E.x31.tI E.x31.fn (hr.mono (by decide)) E.x31.b pass0 (by rfl) E.x31.g (pa_cons (pv 0) pa_nil)))
 (Evl.pss_cut (ps_set (i := 4) sc__law_other_things.nd rfl (Or.inl rfl) (pe_oexV E.x31.oex E.x31.ini E.x31.tI E.x31.fn (hr.mono (by decide)) E.x31.b pass0 (by rfl) E.x31.g (pa_cons (pv 1) pa_nil)))
 (Evl.pss_cut (ps_expr (pe_bm PySem.F.plainAttrs_list PySem.F.slot_list_append PySem.F.type_list_append mt_append (pv 2) (pa_cons (pe_callG G_law_right hgd hr (by rfl) D_law_right.g D_law_right.F.kp D_law_right.b .nil pass0 (pa_cons pe_int (pa_cons (pv 3) (pa_cons (pv 4) (pa_cons (pe_lst (pa_cons (pe_ofl (pv 3) (by rfl)) (pa_cons (pe_ofl (pv 4) (by rfl)) pa_nil))) (pa_cons (pe_lst (pa_cons (pv 0) (pa_cons (pv 1) pa_nil))) pa_nil)))))) pa_nil)))
 (Evl.pss_cut (ps_set (i := 3) sc__law_other_things.nd rfl (Or.inl rfl) (pe_oexV E.x32.oex E.x32.ini E.x32.tI E.x32.fn (hr.mono (by decide)) E.x32.b pass0 (by rfl) E.x32.g (pa_cons (pv 0) pa_nil)))
 (Evl.pss_cut (ps_set (i := 4) sc__law_other_things.nd rfl (Or.inl rfl) (pe_oexV E.x32.oex E.x32.ini E.x32.tI E.x32.fn (hr.mono (by decide)) E.x32.b pass0 (by rfl) E.x32.g (pa_cons (pv 1) pa_nil)))
 (Evl.pss_cut (ps_expr (pe_bm PySem.F.plainAttrs_list PySem.F.slot_list_append PySem.F.type_list_append mt_append (pv 2) (pa_cons (pe_callG G_law_right hgd hr (by rfl) D_law_right.g D_law_right.F.kp D_law_right.b .nil pass0 (pa_cons pe_int (pa_cons (pv 3) (pa_cons (pv 4) (pa_cons (pe_lst (pa_cons (pe_ofl (pv 3) (by rfl)) (pa_cons (pe_ofl (pv 4) (by rfl)) pa_nil))) (pa_cons (pe_lst (pa_cons (pv 0) (pa_cons (pv 1) pa_nil))) pa_nil)))))) pa_nil)))
 (Evl.pss_cut (ps_set (i := 3) sc__law_other_things.nd rfl (Or.inl rfl) (pe_oexV E.x33.oex E.x33.ini E.x33.tI E.x33.fn (hr.mono (by decide)) E.x33.b pass0 (by rfl) E.x33.g (pa_cons (pv 0) pa_nil)))
 (Evl.pss_cut (ps_set (i := 4) sc__law_other_things.nd rfl (Or.inl rfl) (pe_oexV E.x33.oex E.x33.ini E.x33.tI E.x33.fn (hr.mono (by decide)) E.x33.b pass0 (by rfl) E.x33.g (pa_cons (pv 1) pa_nil)))
 (Evl.pss_cut (ps_expr (pe_bm PySem.F.plainAttrs_list PySem.F.slot_list_append PySem.F.type_list_append mt_append (pv 2) (pa_cons (pe_callG G_law_right hgd hr (by rfl) D_law_right.g D_law_right.F.kp D_law_right.b .nil pass0 (pa_cons pe_int (pa_cons (pv 3) (pa_cons (pv 4) (pa_cons (pe_lst (pa_cons (pe_ofl (pv 3) (by rfl)) (pa_cons (pe_ofl (pv 4) (by rfl)) pa_nil))) (pa_cons (pe_lst (pa_cons (pv 0) (pa_cons (pv 1) pa_nil))) pa_nil)))))) pa_nil)))
 (Evl.pss_cut (ps_set (i := 3) sc__law_other_things.nd rfl (Or.inl rfl) (pe_oexV E.x34.oex E.x34.ini E.x34.tI E.x34.fn (hr.mono (by decide)) E.x34.b pass0 (by rfl) E.x34.g (pa_cons (pv 0) pa_nil)))
 (Evl.pss_cut (ps_set (i := 4) sc__law_other_things.nd rfl (Or.inl rfl) (pe_oexV E.x34.oex E.x34.ini E.x34.tI E.x34.fn (hr.mono (by decide)) E.x34.b pass0 (by rfl) E.x34.g (pa_cons (pv 1) pa_nil)))
 (Evl.pss_cut (ps_expr (pe_bm PySem.F.plainAttrs_list PySem.F.slot_list_append PySem.F.type_list_append mt_append (pv 2) (pa_cons (pe_callG G_law_right hgd hr (by rfl) D_law_right.g D_law_right.F.kp D_law_right.b .nil pass0 (pa_cons pe_int (pa_cons (pv 3) (pa_cons (pv 4) (pa_cons (pe_lst (pa_cons (pe_ofl (pv 3) (by rfl)) (pa_cons (pe_ofl (pv 4) (by rfl)) pa_nil))) (pa_cons (pe_lst (pa_cons (pv 0) (pa_cons (pv 1) pa_nil))) pa_nil)))))) pa_nil)))
 (Evl.pss_cut (ps_set (i := 3) sc__law_other_things.nd rfl (Or.inl rfl) (pe_oexV E.x35.oex E.x35.ini E.x35.tI E.x35.fn (hr.mono (by decide)) E.x35.b pass0 (by rfl) E.x35.g (pa_cons (pv 0) pa_nil)))
 (Evl.pss_cut (ps_set (i := 4) sc__law_other_things.nd rfl (Or.inl rfl) (pe_oexV E.x35.oex E.x35.ini E.x35.tI E.x35.fn (hr.mono (by decide)) E.x35.b pass0 (by rfl) E.x35.g (pa_cons (pv 1) pa_nil)))
 (Evl.pss_cut (ps_expr (pe_bm PySem.F.plainAttrs_list PySem.F.slot_list_append PySem.F.type_list_append mt_append (pv 2) (pa_cons (pe_callG G_law_right hgd hr (by rfl) D_law_right.g D_law_right.F.kp D_law_right.b .nil pass0 (pa_cons pe_int (pa_cons (pv 3) (pa_cons (pv 4) (pa_cons (pe_lst (pa_cons (pe_ofl (pv 3) (by rfl)) (pa_cons (pe_ofl (pv 4) (by rfl)) pa_nil))) (pa_cons (pe_lst (pa_cons (pv 0) (pa_cons (pv 1) pa_nil))) pa_nil)))))) pa_nil)))
 (Evl.pss_cut (ps_set (i := 3) sc__law_other_things.nd rfl (Or.inl rfl) (pe_oexV E.x36.oex E.x36.ini E.x36.tI E.x36.fn (hr.mono (by decide)) E.x36.b pass0 (by rfl) E.x36.g (pa_cons (pv 0) pa_nil)))
 (Evl.pss_cut (ps_set (i := 4) sc__law_other_things.nd rfl (Or.inl rfl) (pe_oexV E.x36.oex E.x36.ini E.x36.tI E.x36.fn (hr.mono (by decide)) E.x36.b pass0 (by rfl) E.x36.g (pa_cons (pv 1) pa_nil)))
 (Evl.pss_cut (ps_expr (pe_bm PySem.F.plainAttrs_list PySem.F.slot_list_append PySem.F.type_list_append mt_append (pv 2) (pa_cons (pe_callG G_law_right hgd hr (by rfl) D_law_right.g D_law_right.F.kp D_law_right.b .nil pass0 (pa_cons pe_int (pa_cons (pv 3) (pa_cons (pv 4) (pa_cons (pe_lst (pa_cons (pe_ofl (pv 3) (by rfl)) (pa_cons (pe_ofl (pv 4) (by rfl)) pa_nil))) (pa_cons (pe_lst (pa_cons (pv 0) (pa_cons (pv 1) pa_nil))) pa_nil)))))) pa_nil)))
 (Evl.pss_cut (ps_set (i := 3) sc__law_other_things.nd rfl (Or.inl rfl) (pe_oexV E.x38.oex E.x38.ini E.x38.tI E.x38.fn (hr.mono (by decide)) E.x38.b pass0 (by rfl) E.x38.g (pa_cons (pv 0) pa_nil)))
 (Evl.pss_cut (ps_set (i := 4) sc__law_other_things.nd rfl (Or.inl rfl) (pe_oexV E.x38.oex E.x38.ini E.x38.tI E.x38.fn (hr.mono (by decide)) E.x38.b pass0 (by rfl) E.x38.g (pa_cons (pv 1) pa_nil)))
 (Evl.pss_cut (ps_expr (pe_bm PySem.F.plainAttrs_list PySem.F.slot_list_append PySem.F.type_list_append mt_append (pv 2) (pa_cons (pe_callG G_law_right hgd hr (by rfl) D_law_right.g D_law_right.F.kp D_law_right.b .nil pass0 (pa_cons pe_int (pa_cons (pv 3) (pa_cons (pv 4) (pa_cons (pe_lst (pa_cons (pe_ofl (pv 3) (by rfl)) (pa_cons (pe_ofl (pv 4) (by rfl)) pa_nil))) (pa_cons (pe_lst (pa_cons (pv 0) (pa_cons (pv 1) pa_nil))) pa_nil)))))) pa_nil)))
 (Evl.pss_cut (ps_set (i := 3) sc__law_other_things.nd rfl (Or.inl rfl) (pe_oexV E.x41.oex E.x41.ini E.x41.tI E.x41.fn (hr.mono (by decide)) E.x41.b pass0 (by rfl) E.x41.g (pa_cons (pv 0) pa_nil)))
 (Evl.pss_cut (ps_set (i := 4) sc__law_other_things.nd rfl (Or.inl rfl) (pe_oexV E.x41.oex E.x41.ini E.x41.tI E.x41.fn (hr.mono (by decide)) E.x41.b pass0 (by rfl) E.x41.g (pa_cons (pv 1) pa_nil)))
 (Evl.pss_cut (ps_expr (pe_bm PySem.F.plainAttrs_list PySem.F.slot_list_append PySem.F.type_list_append mt_append (pv 2) (pa_cons (pe_callG G_law_right hgd hr (by rfl) D_law_right.g D_law_right.F.kp D_law_right.b .nil pass0 (pa_cons pe_int (pa_cons (pv 3) (pa_cons (pv 4) (pa_cons (pe_lst (pa_cons (pe_ofl (pv 3) (by rfl)) (pa_cons (pe_ofl (pv 4) (by rfl)) pa_nil))) (pa_cons (pe_lst (pa_cons (pv 0) (pa_cons (pv 1) pa_nil))) pa_nil)))))) pa_nil)))
 (Evl.pss_cut (ps_set (i := 3) sc__law_other_things.nd rfl (Or.inl rfl) (pe_oexV E.x45.oex E.x45.ini E.x45.tI E.x45.fn (hr.mono (by decide)) E.x45.b pass0 (by rfl) E.x45.g (pa_cons (pv 0) pa_nil)))
 (Evl.pss_cut (ps_set (i := 4) sc__law_other_things.nd rfl (Or.inl rfl) (pe_oexV E.x45.oex E.x45.ini E.x45.tI E.x45.fn (hr.mono (by decide)) E.x45.b pass0 (by rfl) E.x45.g (pa_cons (pv 1) pa_nil)))
 (Evl.pss_cut (ps_expr (pe_bm PySem.F.plainAttrs_list PySem.F.slot_list_append PySem.F.type_list_append mt_append (pv 2) (pa_cons (pe_callG G_law_right hgd hr (by rfl) D_law_right.g D_law_right.F.kp D_law_right.b .nil pass0 (pa_cons pe_int (pa_cons (pv 3) (pa_cons (pv 4) (pa_cons (pe_lst (pa_cons (pe_ofl (pv 3) (by rfl)) (pa_cons (pe_ofl (pv 4) (by rfl)) pa_nil))) (pa_cons (pe_lst (pa_cons (pv 0) (pa_cons (pv 1) pa_nil))) pa_nil)))))) pa_nil)))
 (Evl.pss_cut (ps_set (i := 3) sc__law_other_things.nd rfl (Or.inl rfl) (pe_oexV E.x48.oex E.x48.ini E.x48.tI E.x48.fn (hr.mono (by decide)) E.x48.b pass0 (by rfl) E.x48.g (pa_cons (pv 0) pa_nil)))
 (Evl.pss_cut (ps_set (i := 4) sc__law_other_things.nd rfl (Or.inl rfl) (pe_oexV E.x48.oex E.x48.ini E.x48.tI E.x48.fn (hr.mono (by decide)) E.x48.b pass0 (by rfl) E.x48.g (pa_cons (pv 1) pa_nil)))
 (Evl.pss_cut (ps_expr (pe_bm PySem.F.plainAttrs_list PySem.F.slot_list_append PySem.F.type_list_append mt_append (pv 2) (pa_cons (pe_callG G_law_right hgd hr (by rfl) D_law_right.g D_law_right.F.kp D_law_right.b .nil pass0 (pa_cons pe_int (pa_cons (pv 3) (pa_cons (pv 4) (pa_cons (pe_lst (pa_cons (pe_ofl (pv 3) (by rfl)) (pa_cons (pe_ofl (pv 4) (by rfl)) pa_nil))) (pa_cons (pe_lst (pa_cons (pv 0) (pa_cons (pv 1) pa_nil))) pa_nil)))))) pa_nil)))
 (Evl.pss_cut (ps_set (i := 3) sc__law_other_things.nd rfl (Or.inl rfl) (pe_oexV E.x49.oex E.x49.ini E.x49.tI E.x49.fn (hr.mono (by decide)) E.x49.b pass0 (by rfl) E.x49.g (pa_cons (pv 0) pa_nil)))
 (Evl.pss_cut (ps_set (i := 4) sc__law_other_things.nd rfl (Or.inl rfl) (pe_oexV E.x49.oex E.x49.ini E.x49.tI E.x49.fn (hr.mono (by decide)) E.x49.b pass0 (by rfl) E.x49.g (pa_cons (pv 1) pa_nil)))
 (Evl.pss_cut (ps_expr (pe_bm PySem.F.plainAttrs_list PySem.F.slot_list_append PySem.F.type_list_append mt_append (pv 2) (pa_cons (pe_callG G_law_right hgd hr (by rfl) D_law_right.g D_law_right.F.kp D_law_right.b .nil pass0 (pa_cons pe_int (pa_cons (pv 3) (pa_cons (pv 4) (pa_cons (pe_lst (pa_cons (pe_ofl (pv 3) (by rfl)) (pa_cons (pe_ofl (pv 4) (by rfl)) pa_nil))) (pa_cons (pe_lst (pa_cons (pv 0) (pa_cons (pv 1) pa_nil))) pa_nil)))))) pa_nil)))
 (Evl.pss_cut (ps_set (i := 3) sc__law_other_things.nd rfl (Or.inl rfl) (pe_oexV E.x50.oex E.x50.ini E.x50.tI E.x50.fn (hr.mono (by decide)) E.x50.b pass0 (by rfl) E.x50.g (pa_cons (pv 0) pa_nil)))
 (Evl.pss_cut (ps_set (i := 4) sc__law_other_things.nd rfl (Or.inl rfl) (pe_oexV E.x50.oex E.x50.ini E.x50.tI E.x50.fn (hr.mono (by decide)) E.x50.b pass0 (by rfl) E.x50.g (pa_cons (pv 1) pa_nil)))
 (Evl.pss_cut (ps_expr (pe_bm PySem.F.plainAttrs_list PySem.F.slot_list_append PySem.F.type_list_append mt_append (pv 2) (pa_cons (pe_callG G_law_right hgd hr (by rfl) D_law_right.g D_law_right.F.kp D_law_right.b .nil pass0 (pa_cons pe_int (pa_cons (pv 3) (pa_cons (pv 4) (pa_cons (pe_lst (pa_cons (pe_ofl (pv 3) (by rfl)) (pa_cons (pe_ofl (pv 4) (by rfl)) pa_nil))) (pa_cons (pe_lst (pa_cons (pv 0) (pa_cons (pv 1) pa_nil))) pa_nil)))))) pa_nil)))
 (Evl.pss_cut (ps_set (i := 3) sc__law_other_things.nd rfl (Or.inl rfl) (pe_oexV E.x51.oex E.x51.ini E.x51.tI E.x51.fn (hr.mono (by decide)) E.x51.b pass0 (by rfl) E.x51.g (pa_cons (pv 0) pa_nil)))
 (Evl.pss_cut (ps_set (i := 4) sc__law_other_things.nd rfl (Or.inl rfl) (pe_oexV E.x51.oex E.x51.ini E.x51.tI E.x51.fn (hr.mono (by decide)) E.x51.b pass0 (by rfl) E.x51.g (pa_cons (pv 1) pa_nil)))
 (Evl.pss_cut (ps_expr (pe_bm PySem.F.plainAttrs_list PySem.F.slot_list_append PySem.F.type_list_append mt_append (pv 2) (pa_cons (pe_callG G_law_right hgd hr (by rfl) D_law_right.g D_law_right.F.kp D_law_right.b .nil pass0 (pa_cons pe_int (pa_cons (pv 3) (pa_cons (pv 4) (pa_cons (pe_lst (pa_cons (pe_ofl (pv 3) (by rfl)) (pa_cons (pe_ofl (pv 4) (by rfl)) pa_nil))) (pa_cons (pe_lst (pa_cons (pv 0) (pa_cons (pv 1) pa_nil))) pa_nil)))))) pa_nil)))
 (pss_one (ps_ret (pe_callB (cr_all rfl) (by rfl) B.all (by decide +kernel) (pa_cons (pv 2) pa_nil)))))))))))))))))))))))))))))))))))))))))))), ?_⟩
    dsimp only [L2.cxOf, L2.Cx.nox, L2.Cx.wish]
    have s : Same H H := .refl H
    refine Evl.q_cut (M := fun σ1 H1 => ∃ p, σ1 = [some v, some w, some (.ref p), none, none] ∧ Same H H1 ∧ H p = none ∧ H1 p = some (.lst (List.replicate 0 (.bl true)))) ?_ ?_
    · walk_at "q"
      refine ⟨by show 0 ≤ sizeLine; decide, fun p hp => ?_⟩
      walk_at "q"
      exact ⟨p, rfl, same_upd s hp, hp, upd_same⟩
    clear s
    rintro σ1 H1 ⟨p, rfl, s, hp, l⟩
    refine Evl.q_cut (M := fun σ1 H2 => ∃ a, σ1 = [some v, some w, some (.ref p), some (.ref a), none] ∧ Same H H2 ∧ H2 p = some (.lst (List.replicate 0 (.bl true))) ∧ IsEx H2 a E.x31.C [("bands", v)]) ?_ ?_
    · walk_at "q"
      refine z_mkK ?_
      walk_at "q"
      refine z_kNew1 (fun c H2 s2 hn e2 => ?_)
      walk_at "q"
      exact ⟨c, rfl, s.trans s2, s2 _ _ l, e2⟩
    clear s l
    rintro σ1 H1 ⟨a, rfl, s, l, e1⟩
    refine Evl.q_cut (M := fun σ1 H2 => ∃ b, σ1 = [some v, some w, some (.ref p), some (.ref a), some (.ref b)] ∧ Same H H2 ∧ H2 p = some (.lst (List.replicate 0 (.bl true))) ∧ IsEx H2 a E.x31.C [("bands", v)] ∧ IsEx H2 b E.x31.C [("bands", w)]) ?_ ?_
    · walk_at "q"
      refine z_mkK ?_
      walk_at "q"
      refine z_kNew1 (fun c H2 s2 hn e2 => ?_)
      walk_at "q"
      exact ⟨c, rfl, s.trans s2, s2 _ _ l, e1.same s2, e2⟩
    clear s l e1
    rintro σ1 H1 ⟨b, rfl, s, l, e1, e2⟩
    refine Evl.q_cut (M := fun σ1 H2 => σ1 = [some v, some w, some (.ref p), some (.ref a), some (.ref b)] ∧ Same H H2 ∧ H2 p = some (.lst (List.replicate 1 (.bl true)))) ?_ ?_
    · walk_at "q"
      refine ⟨.inl ⟨rfl, _, .of l⟩, ?_⟩
      walk_at "q"
      refine z_oflI rfl e1 E.x31.xf E.x31.no rfl ?_
      walk_at "q"
      refine z_oflI rfl e2 E.x31.xf E.x31.no rfl ?_
      walk_at "q"
      refine ⟨by show 2 ≤ sizeLine; decide, fun z hz => ?_⟩
      walk_at "q"
      refine ⟨by show 2 ≤ sizeLine; decide, fun y hy => ?_⟩
      walk_at "q"
      refine right_now (i := 31) rfl e1.any e2.any hz hy (.cons (dp_same s hv) (.cons (dp_same s hw) .nil)) two (by show 2 ≤ 4; decide) (fun H3 s3 => ?_)
      have l3 := s3 _ _ l
      have s4 := s.trans s3
      walk_at "q"
      refine z_app l3 (by show 0 < sizeLine; decide) ?_
      walk_at "q"
      exact ⟨rfl, same_upd s4 hp, upd_same⟩
    clear s l e1 e2
    rintro σ1 H1 ⟨rfl, s, l⟩
    refine Evl.q_cut (M := fun σ1 H2 => ∃ a, σ1 = [some v, some w, some (.ref p), some (.ref a), some (.ref b)] ∧ Same H H2 ∧ H2 p = some (.lst (List.replicate 1 (.bl true))) ∧ IsEx H2 a E.x32.C [("slow", v)]) ?_ ?_
    · walk_at "q"
      refine z_mkK ?_
      walk_at "q"
      refine z_kNew1 (fun c H2 s2 hn e2 => ?_)
      walk_at "q"
      exact ⟨c, rfl, s.trans s2, s2 _ _ l, e2⟩
    clear s l
    rintro σ1 H1 ⟨a, rfl, s, l, e1⟩
    refine Evl.q_cut (M := fun σ1 H2 => ∃ b, σ1 = [some v, some w, some (.ref p), some (.ref a), some (.ref b)] ∧ Same H H2 ∧ H2 p = some (.lst (List.replicate 1 (.bl true))) ∧ IsEx H2 a E.x32.C [("slow", v)] ∧ IsEx H2 b E.x32.C [("slow", w)]) ?_ ?_
    · walk_at "q"
      refine z_mkK ?_
      walk_at "q"
      refine z_kNew1 (fun c H2 s2 hn e2 => ?_)
      walk_at "q"
      exact ⟨c, rfl, s.trans s2, s2 _ _ l, e1.same s2, e2⟩
    clear s l e1
    rintro σ1 H1 ⟨b, rfl, s, l, e1, e2⟩
    refine Evl.q_cut (M := fun σ1 H2 => σ1 = [some v, some w, some (.ref p), some (.ref a), some (.ref b)] ∧ Same H H2 ∧ H2 p = some (.lst (List.replicate 2 (.bl true)))) ?_ ?_
    · walk_at "q"
      refine ⟨.inl ⟨rfl, _, .of l⟩, ?_⟩
      walk_at "q"
      refine z_oflI rfl e1 E.x32.xf E.x32.no rfl ?_
      walk_at "q"
      refine z_oflI rfl e2 E.x32.xf E.x32.no rfl ?_
      walk_at "q"
      refine ⟨by show 2 ≤ sizeLine; decide, fun z hz => ?_⟩
      walk_at "q"
      refine ⟨by show 2 ≤ sizeLine; decide, fun y hy => ?_⟩
      walk_at "q"
      refine right_now (i := 32) rfl e1.any e2.any hz hy (.cons (dp_same s hv) (.cons (dp_same s hw) .nil)) two (by show 2 ≤ 4; decide) (fun H3 s3 => ?_)
      have l3 := s3 _ _ l
      have s4 := s.trans s3
      walk_at "q"
      refine z_app l3 (by show 1 < sizeLine; decide) ?_
      walk_at "q"
      exact ⟨rfl, same_upd s4 hp, upd_same⟩
    clear s l e1 e2
    rintro σ1 H1 ⟨rfl, s, l⟩
    refine Evl.q_cut (M := fun σ1 H2 => ∃ a, σ1 = [some v, some w, some (.ref p), some (.ref a), some (.ref b)] ∧ Same H H2 ∧ H2 p = some (.lst (List.replicate 2 (.bl true))) ∧ IsEx H2 a E.x33.C [("cycle", v)]) ?_ ?_
    · walk_at "q"
      refine z_mkK ?_
      walk_at "q"
      refine z_kNew1 (fun c H2 s2 hn e2 => ?_)
      walk_at "q"
      exact ⟨c, rfl, s.trans s2, s2 _ _ l, e2⟩
    clear s l
    rintro σ1 H1 ⟨a, rfl, s, l, e1⟩
    refine Evl.q_cut (M := fun σ1 H2 => ∃ b, σ1 = [some v, some w, some (.ref p), some (.ref a), some (.ref b)] ∧ Same H H2 ∧ H2 p = some (.lst (List.replicate 2 (.bl true))) ∧ IsEx H2 a E.x33.C [("cycle", v)] ∧ IsEx H2 b E.x33.C [("cycle", w)]) ?_ ?_
    · walk_at "q"
      refine z_mkK ?_
      walk_at "q"
      refine z_kNew1 (fun c H2 s2 hn e2 => ?_)
      walk_at "q"
      exact ⟨c, rfl, s.trans s2, s2 _ _ l, e1.same s2, e2⟩
    clear s l e1
    rintro σ1 H1 ⟨b, rfl, s, l, e1, e2⟩
    refine Evl.q_cut (M := fun σ1 H2 => σ1 = [some v, some w, some (.ref p), some (.ref a), some (.ref b)] ∧ Same H H2 ∧ H2 p = some (.lst (List.replicate 3 (.bl true)))) ?_ ?_
    · walk_at "q"
      refine ⟨.inl ⟨rfl, _, .of l⟩, ?_⟩
      walk_at "q"
      refine z_oflI rfl e1 E.x33.xf E.x33.no rfl ?_
      walk_at "q"
      refine z_oflI rfl e2 E.x33.xf E.x33.no rfl ?_
      walk_at "q"
      refine ⟨by show 2 ≤ sizeLine; decide, fun z hz => ?_⟩
      walk_at "q"
      refine ⟨by show 2 ≤ sizeLine; decide, fun y hy => ?_⟩
      walk_at "q"
      refine right_now (i := 33) rfl e1.any e2.any hz hy (.cons (dp_same s hv) (.cons (dp_same s hw) .nil)) two (by show 2 ≤ 4; decide) (fun H3 s3 => ?_)
      have l3 := s3 _ _ l
      have s4 := s.trans s3
      walk_at "q"
      refine z_app l3 (by show 2 < sizeLine; decide) ?_
      walk_at "q"
      exact ⟨rfl, same_upd s4 hp, upd_same⟩
    clear s l e1 e2
    rintro σ1 H1 ⟨rfl, s, l⟩
    refine Evl.q_cut (M := fun σ1 H2 => ∃ a, σ1 = [some v, some w, some (.ref p), some (.ref a), some (.ref b)] ∧ Same H H2 ∧ H2 p = some (.lst (List.replicate 3 (.bl true))) ∧ IsEx H2 a E.x34.C [("ear", v)]) ?_ ?_
    · walk_at "q"
      refine z_mkK ?_
      walk_at "q"
      refine z_kNew1 (fun c H2 s2 hn e2 => ?_)
      walk_at "q"
      exact ⟨c, rfl, s.trans s2, s2 _ _ l, e2⟩
    clear s l
    rintro σ1 H1 ⟨a, rfl, s, l, e1⟩
    refine Evl.q_cut (M := fun σ1 H2 => ∃ b, σ1 = [some v, some w, some (.ref p), some (.ref a), some (.ref b)] ∧ Same H H2 ∧ H2 p = some (.lst (List.replicate 3 (.bl true))) ∧ IsEx H2 a E.x34.C [("ear", v)] ∧ IsEx H2 b E.x34.C [("ear", w)]) ?_ ?_
    · walk_at "q"
      refine z_mkK ?_
      walk_at "q"
      refine z_kNew1 (fun c H2 s2 hn e2 => ?_)
      walk_at "q"
      exact ⟨c, rfl, s.trans s2, s2 _ _ l, e1.same s2, e2⟩
    clear s l e1
    rintro σ1 H1 ⟨b, rfl, s, l, e1, e2⟩
    refine Evl.q_cut (M := fun σ1 H2 => σ1 = [some v, some w, some (.ref p), some (.ref a), some (.ref b)] ∧ Same H H2 ∧ H2 p = some (.lst (List.replicate 4 (.bl true)))) ?_ ?_
    · walk_at "q"
      refine ⟨.inl ⟨rfl, _, .of l⟩, ?_⟩
      walk_at "q"
      refine z_oflI rfl e1 E.x34.xf E.x34.no rfl ?_
      walk_at "q"
      refine z_oflI rfl e2 E.x34.xf E.x34.no rfl ?_
      walk_at "q"
      refine ⟨by show 2 ≤ sizeLine; decide, fun z hz => ?_⟩
      walk_at "q"
      refine ⟨by show 2 ≤ sizeLine; decide, fun y hy => ?_⟩
      walk_at "q"
      refine right_now (i := 34) rfl e1.any e2.any hz hy (.cons (dp_same s hv) (.cons (dp_same s hw) .nil)) two (by show 2 ≤ 4; decide) (fun H3 s3 => ?_)
      have l3 := s3 _ _ l
      have s4 := s.trans s3
      walk_at "q"
      refine z_app l3 (by show 3 < sizeLine; decide) ?_
      walk_at "q"
      exact ⟨rfl, same_upd s4 hp, upd_same⟩
    clear s l e1 e2
    rintro σ1 H1 ⟨rfl, s, l⟩
    refine Evl.q_cut (M := fun σ1 H2 => ∃ a, σ1 = [some v, some w, some (.ref p), some (.ref a), some (.ref b)] ∧ Same H H2 ∧ H2 p = some (.lst (List.replicate 4 (.bl true))) ∧ IsEx H2 a E.x35.C [("relay", v)]) ?_ ?_
    · walk_at "q"
      refine z_mkK ?_
      walk_at "q"
      refine z_kNew1 (fun c H2 s2 hn e2 => ?_)
      walk_at "q"
      exact ⟨c, rfl, s.trans s2, s2 _ _ l, e2⟩
    clear s l
    rintro σ1 H1 ⟨a, rfl, s, l, e1⟩
    refine Evl.q_cut (M := fun σ1 H2 => ∃ b, σ1 = [some v, some w, some (.ref p), some (.ref a), some (.ref b)] ∧ Same H H2 ∧ H2 p = some (.lst (List.replicate 4 (.bl true))) ∧ IsEx H2 a E.x35.C [("relay", v)] ∧ IsEx H2 b E.x35.C [("relay", w)]) ?_ ?_
    · walk_at "q"
      refine z_mkK ?_
      walk_at "q"
      refine z_kNew1 (fun c H2 s2 hn e2 => ?_)
      walk_at "q"
      exact ⟨c, rfl, s.trans s2, s2 _ _ l, e1.same s2, e2⟩
    clear s l e1
    rintro σ1 H1 ⟨b, rfl, s, l, e1, e2⟩
    refine Evl.q_cut (M := fun σ1 H2 => σ1 = [some v, some w, some (.ref p), some (.ref a), some (.ref b)] ∧ Same H H2 ∧ H2 p = some (.lst (List.replicate 5 (.bl true)))) ?_ ?_
    · walk_at "q"
      refine ⟨.inl ⟨rfl, _, .of l⟩, ?_⟩
      walk_at "q"
      refine z_oflI rfl e1 E.x35.xf E.x35.no rfl ?_
      walk_at "q"
      refine z_oflI rfl e2 E.x35.xf E.x35.no rfl ?_
      walk_at "q"
      refine ⟨by show 2 ≤ sizeLine; decide, fun z hz => ?_⟩
      walk_at "q"
      refine ⟨by show 2 ≤ sizeLine; decide, fun y hy => ?_⟩
      walk_at "q"
      refine right_now (i := 35) rfl e1.any e2.any hz hy (.cons (dp_same s hv) (.cons (dp_same s hw) .nil)) two (by show 2 ≤ 4; decide) (fun H3 s3 => ?_)
      have l3 := s3 _ _ l
      have s4 := s.trans s3
      walk_at "q"
      refine z_app l3 (by show 4 < sizeLine; decide) ?_
      walk_at "q"
      exact ⟨rfl, same_upd s4 hp, upd_same⟩
    clear s l e1 e2
    rintro σ1 H1 ⟨rfl, s, l⟩
    refine Evl.q_cut (M := fun σ1 H2 => ∃ a, σ1 = [some v, some w, some (.ref p), some (.ref a), some (.ref b)] ∧ Same H H2 ∧ H2 p = some (.lst (List.replicate 5 (.bl true))) ∧ IsEx H2 a E.x36.C [("within", v)]) ?_ ?_
    · walk_at "q"
      refine z_mkK ?_
      walk_at "q"
      refine z_kNew1 (fun c H2 s2 hn e2 => ?_)
      walk_at "q"
      exact ⟨c, rfl, s.trans s2, s2 _ _ l, e2⟩
    clear s l
    rintro σ1 H1 ⟨a, rfl, s, l, e1⟩
    refine Evl.q_cut (M := fun σ1 H2 => ∃ b, σ1 = [some v, some w, some (.ref p), some (.ref a), some (.ref b)] ∧ Same H H2 ∧ H2 p = some (.lst (List.replicate 5 (.bl true))) ∧ IsEx H2 a E.x36.C [("within", v)] ∧ IsEx H2 b E.x36.C [("within", w)]) ?_ ?_
    · walk_at "q"
      refine z_mkK ?_
      walk_at "q"
      refine z_kNew1 (fun c H2 s2 hn e2 => ?_)
      walk_at "q"
      exact ⟨c, rfl, s.trans s2, s2 _ _ l, e1.same s2, e2⟩
    clear s l e1
    rintro σ1 H1 ⟨b, rfl, s, l, e1, e2⟩
    refine Evl.q_cut (M := fun σ1 H2 => σ1 = [some v, some w, some (.ref p), some (.ref a), some (.ref b)] ∧ Same H H2 ∧ H2 p = some (.lst (List.replicate 6 (.bl true)))) ?_ ?_
    · walk_at "q"
      refine ⟨.inl ⟨rfl, _, .of l⟩, ?_⟩
      walk_at "q"
      refine z_oflI rfl e1 E.x36.xf E.x36.no rfl ?_
      walk_at "q"
      refine z_oflI rfl e2 E.x36.xf E.x36.no rfl ?_
      walk_at "q"
      refine ⟨by show 2 ≤ sizeLine; decide, fun z hz => ?_⟩
      walk_at "q"
      refine ⟨by show 2 ≤ sizeLine; decide, fun y hy => ?_⟩
      walk_at "q"
      refine right_now (i := 36) rfl e1.any e2.any hz hy (.cons (dp_same s hv) (.cons (dp_same s hw) .nil)) two (by show 2 ≤ 4; decide) (fun H3 s3 => ?_)
      have l3 := s3 _ _ l
      have s4 := s.trans s3
      walk_at "q"
      refine z_app l3 (by show 5 < sizeLine; decide) ?_
      walk_at "q"
      exact ⟨rfl, same_upd s4 hp, upd_same⟩
    clear s l e1 e2
    rintro σ1 H1 ⟨rfl, s, l⟩
    refine Evl.q_cut (M := fun σ1 H2 => ∃ a, σ1 = [some v, some w, some (.ref p), some (.ref a), some (.ref b)] ∧ Same H H2 ∧ H2 p = some (.lst (List.replicate 6 (.bl true))) ∧ IsEx H2 a E.x38.C [("word", v)]) ?_ ?_
    · walk_at "q"
      refine z_mkK ?_
      walk_at "q"
      refine z_kNew1 (fun c H2 s2 hn e2 => ?_)
      walk_at "q"
      exact ⟨c, rfl, s.trans s2, s2 _ _ l, e2⟩
    clear s l
    rintro σ1 H1 ⟨a, rfl, s, l, e1⟩
    refine Evl.q_cut (M := fun σ1 H2 => ∃ b, σ1 = [some v, some w, some (.ref p), some (.ref a), some (.ref b)] ∧ Same H H2 ∧ H2 p = some (.lst (List.replicate 6 (.bl true))) ∧ IsEx H2 a E.x38.C [("word", v)] ∧ IsEx H2 b E.x38.C [("word", w)]) ?_ ?_
    · walk_at "q"
      refine z_mkK ?_
      walk_at "q"
      refine z_kNew1 (fun c H2 s2 hn e2 => ?_)
      walk_at "q"
      exact ⟨c, rfl, s.trans s2, s2 _ _ l, e1.same s2, e2⟩
    clear s l e1
    rintro σ1 H1 ⟨b, rfl, s, l, e1, e2⟩
    refine Evl.q_cut (M := fun σ1 H2 => σ1 = [some v, some w, some (.ref p), some (.ref a), some (.ref b)] ∧ Same H H2 ∧ H2 p = some (.lst (List.replicate 7 (.bl true)))) ?_ ?_
    · walk_at "q"
      refine ⟨.inl ⟨rfl, _, .of l⟩, ?_⟩
      walk_at "q"
      refine z_oflI rfl e1 E.x38.xf E.x38.no rfl ?_
      walk_at "q"
      refine z_oflI rfl e2 E.x38.xf E.x38.no rfl ?_
      walk_at "q"
      refine ⟨by show 2 ≤ sizeLine; decide, fun z hz => ?_⟩
      walk_at "q"
      refine ⟨by show 2 ≤ sizeLine; decide, fun y hy => ?_⟩
      walk_at "q"
      refine right_now (i := 38) rfl e1.any e2.any hz hy (.cons (dp_same s hv) (.cons (dp_same s hw) .nil)) two (by show 2 ≤ 4; decide) (fun H3 s3 => ?_)
      have l3 := s3 _ _ l
      have s4 := s.trans s3
      walk_at "q"
      refine z_app l3 (by show 6 < sizeLine; decide) ?_
      walk_at "q"
      exact ⟨rfl, same_upd s4 hp, upd_same⟩
    clear s l e1 e2
    rintro σ1 H1 ⟨rfl, s, l⟩
    refine Evl.q_cut (M := fun σ1 H2 => ∃ a, σ1 = [some v, some w, some (.ref p), some (.ref a), some (.ref b)] ∧ Same H H2 ∧ H2 p = some (.lst (List.replicate 7 (.bl true))) ∧ IsEx H2 a E.x41.C [("name", v)]) ?_ ?_
    · walk_at "q"
      refine z_mkK ?_
      walk_at "q"
      refine z_kNew1 (fun c H2 s2 hn e2 => ?_)
      walk_at "q"
      exact ⟨c, rfl, s.trans s2, s2 _ _ l, e2⟩
    clear s l
    rintro σ1 H1 ⟨a, rfl, s, l, e1⟩
    refine Evl.q_cut (M := fun σ1 H2 => ∃ b, σ1 = [some v, some w, some (.ref p), some (.ref a), some (.ref b)] ∧ Same H H2 ∧ H2 p = some (.lst (List.replicate 7 (.bl true))) ∧ IsEx H2 a E.x41.C [("name", v)] ∧ IsEx H2 b E.x41.C [("name", w)]) ?_ ?_
    · walk_at "q"
      refine z_mkK ?_
      walk_at "q"
      refine z_kNew1 (fun c H2 s2 hn e2 => ?_)
      walk_at "q"
      exact ⟨c, rfl, s.trans s2, s2 _ _ l, e1.same s2, e2⟩
    clear s l e1
    rintro σ1 H1 ⟨b, rfl, s, l, e1, e2⟩
    refine Evl.q_cut (M := fun σ1 H2 => σ1 = [some v, some w, some (.ref p), some (.ref a), some (.ref b)] ∧ Same H H2 ∧ H2 p = some (.lst (List.replicate 8 (.bl true)))) ?_ ?_
    · walk_at "q"
      refine ⟨.inl ⟨rfl, _, .of l⟩, ?_⟩
      walk_at "q"
      refine z_oflI rfl e1 E.x41.xf E.x41.no rfl ?_
      walk_at "q"
      refine z_oflI rfl e2 E.x41.xf E.x41.no rfl ?_
      walk_at "q"
      refine ⟨by show 2 ≤ sizeLine; decide, fun z hz => ?_⟩
      walk_at "q"
      refine ⟨by show 2 ≤ sizeLine; decide, fun y hy => ?_⟩
      walk_at "q"
      refine right_now (i := 41) rfl e1.any e2.any hz hy (.cons (dp_same s hv) (.cons (dp_same s hw) .nil)) two (by show 2 ≤ 4; decide) (fun H3 s3 => ?_)
      have l3 := s3 _ _ l
      have s4 := s.trans s3
      walk_at "q"
      refine z_app l3 (by show 7 < sizeLine; decide) ?_
      walk_at "q"
      exact ⟨rfl, same_upd s4 hp, upd_same⟩
    clear s l e1 e2
    rintro σ1 H1 ⟨rfl, s, l⟩
    refine Evl.q_cut (M := fun σ1 H2 => ∃ a, σ1 = [some v, some w, some (.ref p), some (.ref a), some (.ref b)] ∧ Same H H2 ∧ H2 p = some (.lst (List.replicate 8 (.bl true))) ∧ IsEx H2 a E.x45.C [("name", v)]) ?_ ?_
    · walk_at "q"
      refine z_mkK ?_
      walk_at "q"
      refine z_kNew1 (fun c H2 s2 hn e2 => ?_)
      walk_at "q"
      exact ⟨c, rfl, s.trans s2, s2 _ _ l, e2⟩
    clear s l
    rintro σ1 H1 ⟨a, rfl, s, l, e1⟩
    refine Evl.q_cut (M := fun σ1 H2 => ∃ b, σ1 = [some v, some w, some (.ref p), some (.ref a), some (.ref b)] ∧ Same H H2 ∧ H2 p = some (.lst (List.replicate 8 (.bl true))) ∧ IsEx H2 a E.x45.C [("name", v)] ∧ IsEx H2 b E.x45.C [("name", w)]) ?_ ?_
    · walk_at "q"
      refine z_mkK ?_
      walk_at "q"
      refine z_kNew1 (fun c H2 s2 hn e2 => ?_)
      walk_at "q"
      exact ⟨c, rfl, s.trans s2, s2 _ _ l, e1.same s2, e2⟩
    clear s l e1
    rintro σ1 H1 ⟨b, rfl, s, l, e1, e2⟩
    refine Evl.q_cut (M := fun σ1 H2 => σ1 = [some v, some w, some (.ref p), some (.ref a), some (.ref b)] ∧ Same H H2 ∧ H2 p = some (.lst (List.replicate 9 (.bl true)))) ?_ ?_
    · walk_at "q"
      refine ⟨.inl ⟨rfl, _, .of l⟩, ?_⟩
      walk_at "q"
      refine z_oflI rfl e1 E.x45.xf E.x45.no rfl ?_
      walk_at "q"
      refine z_oflI rfl e2 E.x45.xf E.x45.no rfl ?_
      walk_at "q"
      refine ⟨by show 2 ≤ sizeLine; decide, fun z hz => ?_⟩
      walk_at "q"
      refine ⟨by show 2 ≤ sizeLine; decide, fun y hy => ?_⟩
      walk_at "q"
      refine right_now (i := 45) rfl e1.any e2.any hz hy (.cons (dp_same s hv) (.cons (dp_same s hw) .nil)) two (by show 2 ≤ 4; decide) (fun H3 s3 => ?_)
      have l3 := s3 _ _ l
      have s4 := s.trans s3
      walk_at "q"
      refine z_app l3 (by show 8 < sizeLine; decide) ?_
      walk_at "q"
      exact ⟨rfl, same_upd s4 hp, upd_same⟩
    clear s l e1 e2
    rintro σ1 H1 ⟨rfl, s, l⟩
    refine Evl.q_cut (M := fun σ1 H2 => ∃ a, σ1 = [some v, some w, some (.ref p), some (.ref a), some (.ref b)] ∧ Same H H2 ∧ H2 p = some (.lst (List.replicate 9 (.bl true))) ∧ IsEx H2 a E.x48.C [("standing", v)]) ?_ ?_
    · walk_at "q"
      refine z_mkK ?_
      walk_at "q"
      refine z_kNew1 (fun c H2 s2 hn e2 => ?_)
      walk_at "q"
      exact ⟨c, rfl, s.trans s2, s2 _ _ l, e2⟩
    clear s l
    rintro σ1 H1 ⟨a, rfl, s, l, e1⟩
    refine Evl.q_cut (M := fun σ1 H2 => ∃ b, σ1 = [some v, some w, some (.ref p), some (.ref a), some (.ref b)] ∧ Same H H2 ∧ H2 p = some (.lst (List.replicate 9 (.bl true))) ∧ IsEx H2 a E.x48.C [("standing", v)] ∧ IsEx H2 b E.x48.C [("standing", w)]) ?_ ?_
    · walk_at "q"
      refine z_mkK ?_
      walk_at "q"
      refine z_kNew1 (fun c H2 s2 hn e2 => ?_)
      walk_at "q"
      exact ⟨c, rfl, s.trans s2, s2 _ _ l, e1.same s2, e2⟩
    clear s l e1
    rintro σ1 H1 ⟨b, rfl, s, l, e1, e2⟩
    refine Evl.q_cut (M := fun σ1 H2 => σ1 = [some v, some w, some (.ref p), some (.ref a), some (.ref b)] ∧ Same H H2 ∧ H2 p = some (.lst (List.replicate 10 (.bl true)))) ?_ ?_
    · walk_at "q"
      refine ⟨.inl ⟨rfl, _, .of l⟩, ?_⟩
      walk_at "q"
      refine z_oflI rfl e1 E.x48.xf E.x48.no rfl ?_
      walk_at "q"
      refine z_oflI rfl e2 E.x48.xf E.x48.no rfl ?_
      walk_at "q"
      refine ⟨by show 2 ≤ sizeLine; decide, fun z hz => ?_⟩
      walk_at "q"
      refine ⟨by show 2 ≤ sizeLine; decide, fun y hy => ?_⟩
      walk_at "q"
      refine right_now (i := 48) rfl e1.any e2.any hz hy (.cons (dp_same s hv) (.cons (dp_same s hw) .nil)) two (by show 2 ≤ 4; decide) (fun H3 s3 => ?_)
      have l3 := s3 _ _ l
      have s4 := s.trans s3
      walk_at "q"
      refine z_app l3 (by show 9 < sizeLine; decide) ?_
      walk_at "q"
      exact ⟨rfl, same_upd s4 hp, upd_same⟩
    clear s l e1 e2
    rintro σ1 H1 ⟨rfl, s, l⟩
    refine Evl.q_cut (M := fun σ1 H2 => ∃ a, σ1 = [some v, some w, some (.ref p), some (.ref a), some (.ref b)] ∧ Same H H2 ∧ H2 p = some (.lst (List.replicate 10 (.bl true))) ∧ IsEx H2 a E.x49.C [("between", v)]) ?_ ?_
    · walk_at "q"
      refine z_mkK ?_
      walk_at "q"
      refine z_kNew1 (fun c H2 s2 hn e2 => ?_)
      walk_at "q"
      exact ⟨c, rfl, s.trans s2, s2 _ _ l, e2⟩
    clear s l
    rintro σ1 H1 ⟨a, rfl, s, l, e1⟩
    refine Evl.q_cut (M := fun σ1 H2 => ∃ b, σ1 = [some v, some w, some (.ref p), some (.ref a), some (.ref b)] ∧ Same H H2 ∧ H2 p = some (.lst (List.replicate 10 (.bl true))) ∧ IsEx H2 a E.x49.C [("between", v)] ∧ IsEx H2 b E.x49.C [("between", w)]) ?_ ?_
    · walk_at "q"
      refine z_mkK ?_
      walk_at "q"
      refine z_kNew1 (fun c H2 s2 hn e2 => ?_)
      walk_at "q"
      exact ⟨c, rfl, s.trans s2, s2 _ _ l, e1.same s2, e2⟩
    clear s l e1
    rintro σ1 H1 ⟨b, rfl, s, l, e1, e2⟩
    refine Evl.q_cut (M := fun σ1 H2 => σ1 = [some v, some w, some (.ref p), some (.ref a), some (.ref b)] ∧ Same H H2 ∧ H2 p = some (.lst (List.replicate 11 (.bl true)))) ?_ ?_
    · walk_at "q"
      refine ⟨.inl ⟨rfl, _, .of l⟩, ?_⟩
      walk_at "q"
      refine z_oflI rfl e1 E.x49.xf E.x49.no rfl ?_
      walk_at "q"
      refine z_oflI rfl e2 E.x49.xf E.x49.no rfl ?_
      walk_at "q"
      refine ⟨by show 2 ≤ sizeLine; decide, fun z hz => ?_⟩
      walk_at "q"
      refine ⟨by show 2 ≤ sizeLine; decide, fun y hy => ?_⟩
      walk_at "q"
      refine right_now (i := 49) rfl e1.any e2.any hz hy (.cons (dp_same s hv) (.cons (dp_same s hw) .nil)) two (by show 2 ≤ 4; decide) (fun H3 s3 => ?_)
      have l3 := s3 _ _ l
      have s4 := s.trans s3
      walk_at "q"
      refine z_app l3 (by show 10 < sizeLine; decide) ?_
      walk_at "q"
      exact ⟨rfl, same_upd s4 hp, upd_same⟩
    clear s l e1 e2
    rintro σ1 H1 ⟨rfl, s, l⟩
    refine Evl.q_cut (M := fun σ1 H2 => ∃ a, σ1 = [some v, some w, some (.ref p), some (.ref a), some (.ref b)] ∧ Same H H2 ∧ H2 p = some (.lst (List.replicate 11 (.bl true))) ∧ IsEx H2 a E.x50.C [("length", v)]) ?_ ?_
    · walk_at "q"
      refine z_mkK ?_
      walk_at "q"
      refine z_kNew1 (fun c H2 s2 hn e2 => ?_)
      walk_at "q"
      exact ⟨c, rfl, s.trans s2, s2 _ _ l, e2⟩
    clear s l
    rintro σ1 H1 ⟨a, rfl, s, l, e1⟩
    refine Evl.q_cut (M := fun σ1 H2 => ∃ b, σ1 = [some v, some w, some (.ref p), some (.ref a), some (.ref b)] ∧ Same H H2 ∧ H2 p = some (.lst (List.replicate 11 (.bl true))) ∧ IsEx H2 a E.x50.C [("length", v)] ∧ IsEx H2 b E.x50.C [("length", w)]) ?_ ?_
    · walk_at "q"
      refine z_mkK ?_
      walk_at "q"
      refine z_kNew1 (fun c H2 s2 hn e2 => ?_)
      walk_at "q"
      exact ⟨c, rfl, s.trans s2, s2 _ _ l, e1.same s2, e2⟩
    clear s l e1
    rintro σ1 H1 ⟨b, rfl, s, l, e1, e2⟩
    refine Evl.q_cut (M := fun σ1 H2 => σ1 = [some v, some w, some (.ref p), some (.ref a), some (.ref b)] ∧ Same H H2 ∧ H2 p = some (.lst (List.replicate 12 (.bl true)))) ?_ ?_
    · walk_at "q"
      refine ⟨.inl ⟨rfl, _, .of l⟩, ?_⟩
      walk_at "q"
      refine z_oflI rfl e1 E.x50.xf E.x50.no rfl ?_
      walk_at "q"
      refine z_oflI rfl e2 E.x50.xf E.x50.no rfl ?_
      walk_at "q"
      refine ⟨by show 2 ≤ sizeLine; decide, fun z hz => ?_⟩
      walk_at "q"
      refine ⟨by show 2 ≤ sizeLine; decide, fun y hy => ?_⟩
      walk_at "q"
      refine right_now (i := 50) rfl e1.any e2.any hz hy (.cons (dp_same s hv) (.cons (dp_same s hw) .nil)) two (by show 2 ≤ 4; decide) (fun H3 s3 => ?_)
      have l3 := s3 _ _ l
      have s4 := s.trans s3
      walk_at "q"
      refine z_app l3 (by show 11 < sizeLine; decide) ?_
      walk_at "q"
      exact ⟨rfl, same_upd s4 hp, upd_same⟩
    clear s l e1 e2
    rintro σ1 H1 ⟨rfl, s, l⟩
    refine Evl.q_cut (M := fun σ1 H2 => ∃ a, σ1 = [some v, some w, some (.ref p), some (.ref a), some (.ref b)] ∧ Same H H2 ∧ H2 p = some (.lst (List.replicate 12 (.bl true))) ∧ IsEx H2 a E.x51.C [("node", v)]) ?_ ?_
    · walk_at "q"
      refine z_mkK ?_
      walk_at "q"
      refine z_kNew1 (fun c H2 s2 hn e2 => ?_)
      walk_at "q"
      exact ⟨c, rfl, s.trans s2, s2 _ _ l, e2⟩
    clear s l
    rintro σ1 H1 ⟨a, rfl, s, l, e1⟩
    refine Evl.q_cut (M := fun σ1 H2 => ∃ b, σ1 = [some v, some w, some (.ref p), some (.ref a), some (.ref b)] ∧ Same H H2 ∧ H2 p = some (.lst (List.replicate 12 (.bl true))) ∧ IsEx H2 a E.x51.C [("node", v)] ∧ IsEx H2 b E.x51.C [("node", w)]) ?_ ?_
    · walk_at "q"
      refine z_mkK ?_
      walk_at "q"
      refine z_kNew1 (fun c H2 s2 hn e2 => ?_)
      walk_at "q"
      exact ⟨c, rfl, s.trans s2, s2 _ _ l, e1.same s2, e2⟩
    clear s l e1
    rintro σ1 H1 ⟨b, rfl, s, l, e1, e2⟩
    refine Evl.q_cut (M := fun σ1 H2 => σ1 = [some v, some w, some (.ref p), some (.ref a), some (.ref b)] ∧ Same H H2 ∧ H2 p = some (.lst (List.replicate 13 (.bl true)))) ?_ ?_
    · walk_at "q"
      refine ⟨.inl ⟨rfl, _, .of l⟩, ?_⟩
      walk_at "q"
      refine z_oflI rfl e1 E.x51.xf E.x51.no rfl ?_
      walk_at "q"
      refine z_oflI rfl e2 E.x51.xf E.x51.no rfl ?_
      walk_at "q"
      refine ⟨by show 2 ≤ sizeLine; decide, fun z hz => ?_⟩
      walk_at "q"
      refine ⟨by show 2 ≤ sizeLine; decide, fun y hy => ?_⟩
      walk_at "q"
      refine right_now (i := 51) rfl e1.any e2.any hz hy (.cons (dp_same s hv) (.cons (dp_same s hw) .nil)) two (by show 2 ≤ 4; decide) (fun H3 s3 => ?_)
      have l3 := s3 _ _ l
      have s4 := s.trans s3
      walk_at "q"
      refine z_app l3 (by show 12 < sizeLine; decide) ?_
      walk_at "q"
      exact ⟨rfl, same_upd s4 hp, upd_same⟩
    clear s l e1 e2
    rintro σ1 H1 ⟨rfl, s, l⟩
    walk_at "q"
    have l2 : SqL K H1 p ((List.replicate 13 true).map V.bl) := .of l
    refine z_all l2 ?_
    walk_at "q"
    exact q _ s
end
end K6
set_option maxHeartbeats 8000000
namespace K6
open PySem PySem.Spec PyProof.Rows L2 TB
open SX (S S_len S_cat)
local macro_rules | `(tactic| walk_at "side") => `(tactic| first
  | (focus exact Or.inr ⟨by decide, by decide⟩)
  | (focus exact TB.cmul_mod (by decide) (by decide))
  | (focus exact Or.inl ⟨by decide, by decide⟩)
  | (focus exact ⟨by decide, by decide⟩)
  | (focus exact ⟨by decide, by decide +kernel⟩)
  | (focus (show (0 : Int) < _; first | decide | omega | assumption))
  | (focus assumption)
  | (focus exact ⟨by omega, by omega⟩)
  | (focus (show (_ : Nat) ≤ sizeLine; rw [sizeLine_eq]; first | decide | omega))
  | (focus (show (_ : Nat) < sizeLine; rw [sizeLine_eq]; first | decide | omega))
  | rotate_left)
local macro_rules | `(tactic| walk_at "q1") => `(tactic| first
  | with_reducible refine TB.z_seq ?_
  | with_reducible refine TB.z_asg ?_
  | with_reducible refine TB.z_drop ?_
  | with_reducible refine TB.z_ret ?_
  | with_reducible refine TB.z_retN ?_
  | with_reducible refine TB.z_next ?_
  | with_reducible refine TB.z_brk ?_
  | with_reducible refine TB.z_cont ?_
  | with_reducible refine TB.z_if ?_
  | with_reducible refine TB.z_name ?_
  | with_reducible refine TB.z_sub ?_
  | ((with_reducible show L2.tVar _ _ _ _); refine TB.z_var rfl ?_)
  | with_reducible refine TB.z_c ?_
  | with_reducible refine TB.z_op ?_
  | with_reducible refine TB.z_un ?_
  | with_reducible refine TB.z_lt ?_
  | with_reducible refine TB.z_le ?_
  | with_reducible refine TB.z_gt ?_
  | with_reducible refine TB.z_ge ?_
  | with_reducible refine TB.z_eqI ?_
  | with_reducible refine TB.z_neI ?_
  | with_reducible refine TB.z_eqS ?_
  | with_reducible refine TB.z_neS ?_
  | with_reducible refine TB.z_I0 ?_
  | ((with_reducible refine TB.z_I ?_ ?_); walk_at "side")
  | with_reducible refine TB.z_U ?_
  | with_reducible refine TB.z_test ?_
  | with_reducible refine TB.z_tB ?_
  | with_reducible refine TB.z_bl ?_
  | with_reducible refine TB.z_and ?_
  | with_reducible refine TB.z_or ?_
  | with_reducible refine TB.z_not ?_
  | with_reducible refine TB.z_notV ?_
  | with_reducible refine TB.z_andV ?_
  | with_reducible refine TB.z_orV ?_
  | with_reducible refine TB.z_ifE ?_
  | with_reducible refine TB.z_iteT ?_
  | with_reducible refine TB.z_iteF ?_
  | with_reducible refine TB.z_iteNT ?_
  | with_reducible refine TB.z_iteNF ?_
  | with_reducible refine TB.z_cb ?_
  | with_reducible refine TB.z_call ?_
  | with_reducible refine TB.z_nil ?_
  | with_reducible refine TB.z_cons ?_
  | with_reducible refine TB.z_tup ?_
  | with_reducible refine TB.z_lst ?_
  | with_reducible refine TB.z_rInt ?_
  | with_reducible refine TB.z_rAbs ?_
  | ((with_reducible refine TB.z_rLenS ?_ ?_); walk_at "side")
  | ((with_reducible show TB.rLen _ _ _ _); first
      | refine TB.z_rLen (Or.inl (SqL.of L2.upd_same)) ?_
      | refine TB.z_rLen (Or.inl (SqL.of (by assumption))) ?_
      | refine TB.z_rLen (Or.inr (SqT.of (by assumption))) ?_
      | refine TB.z_rLen (Or.inl (by first | assumption | apply_assumption)) ?_
      | refine TB.z_rLen (Or.inr (by first | assumption | apply_assumption)) ?_)
  | ((with_reducible show L2.rIxL _ _ _ _ _); first
      | refine TB.z_ixL (SqL.of L2.upd_same) rfl ?_
      | refine TB.z_ixL (SqL.of (by assumption)) rfl ?_
      | refine TB.z_ixL (by first | assumption | apply_assumption) (by first | assumption | rfl) ?_)
  | ((with_reducible show L2.rIxT _ _ _ _ _); first
      | refine TB.z_ixT (SqT.of L2.upd_same) rfl ?_
      | refine TB.z_ixT (SqT.of (by assumption)) rfl ?_
      | refine TB.z_ixT (by first | assumption | apply_assumption) (by first | assumption | rfl) ?_)
  | ((with_reducible show L2.rSetL _ _ _ _ _); refine TB.z_setU rfl ?_)
  | with_reducible refine TB.z_lcR ?_
  | with_reducible refine TB.z_m1 ?_
  | with_reducible refine TB.z_lcL ?_
  | with_reducible refine TB.z_bm ?_
  | with_reducible refine TB.z_bm0 ?_)
local macro_rules | `(tactic| walk_at "q") => `(tactic| repeat walk_at "q1")
local macro_rules | `(tactic| walk_at "qq") => `(tactic| repeat' (first
  | walk_at "q1"
  | with_reducible refine TB.z_ite (fun hq => ?_) (fun hq => ?_)
  | with_reducible refine TB.z_iteN (fun hq => ?_) (fun hq => ?_)
  | with_reducible refine TB.z_iteB (fun hq => ?_) (fun hq => ?_)))

theorem sc__law_first_numbers : FnScope ["thing", "other", "found", "one", "two", "told"] ["thing", "other"] (defScope s__law_first_numbers) := ⟨rfl, rfl, rfl, by decide +kernel, rfl, by decide +kernel, by decide +kernel⟩

theorem sc__law_other_numbers : FnScope ["thing", "other", "found", "one", "two"] ["thing", "other"] (defScope s__law_other_numbers) := ⟨rfl, rfl, rfl, by decide +kernel, rfl, by decide +kernel, by decide +kernel⟩

section
variable {P : Program} {w : World} {K : PySem.W.Frag} {mg : Str → Option Value} {base : Heap}
theorem ok_law_first_numbers (D : Df K mg "_law_first_numbers" s__law_first_numbers ["thing", "other"]) (D_law_right : Df K mg "_law_right" s__law_right ["at", "one", "two", "told", "due"]) (D_law_flags : Df K mg "_law_flags" s__law_flags ["made"]) (B : Bi mg) (E : AllEx P w K mg base) (k : KitOk K E.cs E.tail) :
    FnG P w K mg base CX0 4 D.f D.fd ["thing", "other"] (spPair K) := by
  have G_law_right : FnG P w K mg base CX0 3 D_law_right.f D_law_right.fd ["at", "one", "two", "told", "due"] (spRight K E.cs) := ok_right D_law_right D_law_flags B E k
  refine okG D.F sc__law_first_numbers (fun vs H Q E h => ?_) (fun cdv A outer s H vs Q E' hgd hr h => ?_)
  · obtain ⟨_, _, _, _, rfl, _⟩ := h
    rfl
  · obtain ⟨v, w, dv, dw, rfl, hv, hw, sv, sw, q⟩ := h
    have two : ∀ d ∈ [dv, dw], Small 3 d := fun d hd => by
      rcases List.mem_cons.mp hd with h1 | h1
      · exact h1 ▸ sv
      · exact List.mem_singleton.mp h1 ▸ sw
    have four : ∀ d ∈ [dv, dw, dw, dv], Small 3 d := fun d hd => by
      simp only [List.mem_cons, List.not_mem_nil, or_false] at hd
      rcases hd with h1 | h1 | h1 | h1
      · exact h1 ▸ sv
      · exact h1 ▸ sw
      · exact h1 ▸ sw
      · exact h1 ▸ sv
    refine ⟨_, (Evl.pss_cut (ps_set (i := 2) sc__law_first_numbers.nd rfl (Or.inl rfl) (pe_lst pa_nil))
 (Evl.pss_cut (ps_set (i := 3) sc__law_first_numbers.nd rfl (Or.inl rfl) (pe_oexV E.x1.oex E.x1.ini E.x1.tI E.x1.fn (hr.mono (by decide)) E.x1.b pass0 (by rfl) E.x1.g (pa_cons (pv 0) pa_nil)))
 (Evl.pss_cut (ps_set (i := 4) sc__law_first_numbers.nd rfl (Or.inl rfl) (pe_oexV E.x1.oex E.x1.ini E.x1.tI E.x1.fn (hr.mono (by decide)) E.x1.b pass0 (by rfl) E.x1.g (pa_cons (pv 1) pa_nil)))
 (Evl.pss_cut (ps_expr (pe_bm PySem.F.plainAttrs_list PySem.F.slot_list_append PySem.F.type_list_append mt_append (pv 2) (pa_cons (pe_callG G_law_right hgd hr (by rfl) D_law_right.g D_law_right.F.kp D_law_right.b .nil pass0 (pa_cons pe_int (pa_cons (pv 3) (pa_cons (pv 4) (pa_cons (pe_lst (pa_cons (pe_ofl (pv 3) (by rfl)) (pa_cons (pe_ofl (pv 4) (by rfl)) pa_nil))) (pa_cons (pe_lst (pa_cons (pv 0) (pa_cons (pv 1) pa_nil))) pa_nil)))))) pa_nil)))
 (Evl.pss_cut (ps_set (i := 3) sc__law_first_numbers.nd rfl (Or.inl rfl) (pe_oexV E.x2.oex E.x2.ini E.x2.tI E.x2.fn (hr.mono (by decide)) E.x2.b pass0 (by rfl) E.x2.g (pa_cons (pv 0) pa_nil)))
 (Evl.pss_cut (ps_set (i := 4) sc__law_first_numbers.nd rfl (Or.inl rfl) (pe_oexV E.x2.oex E.x2.ini E.x2.tI E.x2.fn (hr.mono (by decide)) E.x2.b pass0 (by rfl) E.x2.g (pa_cons (pv 1) pa_nil)))
 (Evl.pss_cut (ps_expr (pe_bm PySem.F.plainAttrs_list PySem.F.slot_list_append PySem.F.type_list_append mt_append (pv 2) (pa_cons (pe_callG G_law_right hgd hr (by rfl) D_law_right.g D_law_right.F.kp D_law_right.b .nil pass0 (pa_cons pe_int (pa_cons (pv 3) (pa_cons (pv 4) (pa_cons (pe_lst (pa_cons (pe_ofl (pv 3) (by rfl)) (pa_cons (pe_ofl (pv 4) (by rfl)) pa_nil))) (pa_cons (pe_lst (pa_cons (pv 0) (pa_cons (pv 1) pa_nil))) pa_nil)))))) pa_nil)))
 (Evl.pss_cut (ps_set (i := 3) sc__law_first_numbers.nd rfl (Or.inl rfl) (pe_oexV E.x4.oex E.x4.ini E.x4.tI E.x4.fn (hr.mono (by decide)) E.x4.b pass0 (by rfl) E.x4.g (pa_cons (pv 0) pa_nil)))
 (Evl.pss_cut (ps_set (i := 4) sc__law_first_numbers.nd rfl (Or.inl rfl) (pe_oexV E.x4.oex E.x4.ini E.x4.tI E.x4.fn (hr.mono (by decide)) E.x4.b pass0 (by rfl) E.x4.g (pa_cons (pv 1) pa_nil)))
 (Evl.pss_cut (ps_expr (pe_bm PySem.F.plainAttrs_list PySem.F.slot_list_append PySem.F.type_list_append mt_append (pv 2) (pa_cons (pe_callG G_law_right hgd hr (by rfl) D_law_right.g D_law_right.F.kp D_law_right.b .nil pass0 (pa_cons pe_int (pa_cons (pv 3) (pa_cons (pv 4) (pa_cons (pe_lst (pa_cons (pe_ofl (pv 3) (by rfl)) (pa_cons (pe_ofl (pv 4) (by rfl)) pa_nil))) (pa_cons (pe_lst (pa_cons (pv 0) (pa_cons (pv 1) pa_nil))) pa_nil)))))) pa_nil)))
 (Evl.pss_cut (ps_set (i := 3) sc__law_first_numbers.nd rfl (Or.inl rfl) (pe_oexV E.x5.oex E.x5.ini E.x5.tI E.x5.fn (hr.mono (by decide)) E.x5.b pass0 (by rfl) E.x5.g (pa_cons (pv 0) pa_nil)))
 (Evl.pss_cut (ps_set (i := 4) sc__law_first_numbers.nd rfl (Or.inl rfl) (pe_oexV E.x5.oex E.x5.ini E.x5.tI E.x5.fn (hr.mono (by decide)) E.x5.b pass0 (by rfl) E.x5.g (pa_cons (pv 1) pa_nil)))
 (Evl.pss_cut (ps_expr (pe_bm PySem.F.plainAttrs_list PySem.F.slot_list_append PySem.F.type_list_append mt_append (pv 2) (pa_cons (pe_callG G_law_right hgd hr (by rfl) D_law_right.g D_law_right.F.kp D_law_right.b .nil pass0 (pa_cons pe_int (pa_cons (pv 3) (pa_cons (pv 4) (pa_cons (pe_lst (pa_cons (pe_ofl (pv 3) (by rfl)) (pa_cons (pe_ofl (pv 4) (by rfl)) pa_nil))) (pa_cons (pe_lst (pa_cons (pv 0) (pa_cons (pv 1) pa_nil))) pa_nil)))))) pa_nil)))
 (Evl.pss_cut (ps_set (i := 3) sc__law_first_numbers.nd rfl (Or.inl rfl) (pe_oexV E.x6.oex E.x6.ini E.x6.tI E.x6.fn (hr.mono (by decide)) E.x6.b pass0 (by rfl) E.x6.g (pa_cons (pv 0) pa_nil)))
 (Evl.pss_cut (ps_set (i := 4) sc__law_first_numbers.nd rfl (Or.inl rfl) (pe_oexV E.x6.oex E.x6.ini E.x6.tI E.x6.fn (hr.mono (by decide)) E.x6.b pass0 (by rfl) E.x6.g (pa_cons (pv 1) pa_nil)))
 (Evl.pss_cut (ps_expr (pe_bm PySem.F.plainAttrs_list PySem.F.slot_list_append PySem.F.type_list_append mt_append (pv 2) (pa_cons (pe_callG G_law_right hgd hr (by rfl) D_law_right.g D_law_right.F.kp D_law_right.b .nil pass0 (pa_cons pe_int (pa_cons (pv 3) (pa_cons (pv 4) (pa_cons (pe_lst (pa_cons (pe_ofl (pv 3) (by rfl)) (pa_cons (pe_ofl (pv 4) (by rfl)) pa_nil))) (pa_cons (pe_lst (pa_cons (pv 0) (pa_cons (pv 1) pa_nil))) pa_nil)))))) pa_nil)))
 (Evl.pss_cut (ps_set (i := 3) sc__law_first_numbers.nd rfl (Or.inl rfl) (pe_oexV E.x9.oex E.x9.ini E.x9.tI E.x9.fn (hr.mono (by decide)) E.x9.b pass0 (by rfl) E.x9.g (pa_cons (pv 0) pa_nil)))
 (Evl.pss_cut (ps_set (i := 4) sc__law_first_numbers.nd rfl (Or.inl rfl) (pe_oexV E.x9.oex E.x9.ini E.x9.tI E.x9.fn (hr.mono (by decide)) E.x9.b pass0 (by rfl) E.x9.g (pa_cons (pv 1) pa_nil)))
 (Evl.pss_cut (ps_expr (pe_bm PySem.F.plainAttrs_list PySem.F.slot_list_append PySem.F.type_list_append mt_append (pv 2) (pa_cons (pe_callG G_law_right hgd hr (by rfl) D_law_right.g D_law_right.F.kp D_law_right.b .nil pass0 (pa_cons pe_int (pa_cons (pv 3) (pa_cons (pv 4) (pa_cons (pe_lst (pa_cons (pe_ofl (pv 3) (by rfl)) (pa_cons (pe_ofl (pv 4) (by rfl)) pa_nil))) (pa_cons (pe_lst (pa_cons (pv 0) (pa_cons (pv 1) pa_nil))) pa_nil)))))) pa_nil)))
 (Evl.pss_cut (ps_set (i := 3) sc__law_first_numbers.nd rfl (Or.inl rfl) (pe_oexV E.x11.oex E.x11.ini E.x11.tI E.x11.fn (hr.mono (by decide)) E.x11.b pass0 (by rfl) E.x11.g (pa_cons (pv 0) pa_nil)))
 (Evl.pss_cut (ps_set (i := 4) sc__law_first_numbers.nd rfl (Or.inl rfl) (pe_oexV E.x11.oex E.x11.ini E.x11.tI E.x11.fn (hr.mono (by decide)) E.x11.b pass0 (by rfl) E.x11.g (pa_cons (pv 1) pa_nil)))
 (Evl.pss_cut (ps_expr (pe_bm PySem.F.plainAttrs_list PySem.F.slot_list_append PySem.F.type_list_append mt_append (pv 2) (pa_cons (pe_callG G_law_right hgd hr (by rfl) D_law_right.g D_law_right.F.kp D_law_right.b .nil pass0 (pa_cons pe_int (pa_cons (pv 3) (pa_cons (pv 4) (pa_cons (pe_lst (pa_cons (pe_ofl (pv 3) (by rfl)) (pa_cons (pe_ofl (pv 4) (by rfl)) pa_nil))) (pa_cons (pe_lst (pa_cons (pv 0) (pa_cons (pv 1) pa_nil))) pa_nil)))))) pa_nil)))
 (Evl.pss_cut (ps_set (i := 3) sc__law_first_numbers.nd rfl (Or.inl rfl) (pe_oexV E.x12.oex E.x12.ini E.x12.tI E.x12.fn (hr.mono (by decide)) E.x12.b pass0 (by rfl) E.x12.g (pa_cons (pv 0) (pa_cons (pv 1) pa_nil))))
 (Evl.pss_cut (ps_set (i := 4) sc__law_first_numbers.nd rfl (Or.inl rfl) (pe_oexV E.x12.oex E.x12.ini E.x12.tI E.x12.fn (hr.mono (by decide)) E.x12.b pass0 (by rfl) E.x12.g (pa_cons (pv 1) (pa_cons (pv 0) pa_nil))))
 (Evl.pss_cut (ps_set (i := 5) sc__law_first_numbers.nd rfl (Or.inl rfl) (pe_lst (pa_cons (pe_ofl (pv 3) (by rfl)) (pa_cons (pe_ofl (pv 3) (by rfl)) (pa_cons (pe_ofl (pv 4) (by rfl)) (pa_cons (pe_ofl (pv 4) (by rfl)) pa_nil))))))
 (Evl.pss_cut (ps_expr (pe_bm PySem.F.plainAttrs_list PySem.F.slot_list_append PySem.F.type_list_append mt_append (pv 2) (pa_cons (pe_callG G_law_right hgd hr (by rfl) D_law_right.g D_law_right.F.kp D_law_right.b .nil pass0 (pa_cons pe_int (pa_cons (pv 3) (pa_cons (pv 4) (pa_cons (pv 5) (pa_cons (pe_lst (pa_cons (pv 0) (pa_cons (pv 1) (pa_cons (pv 1) (pa_cons (pv 0) pa_nil))))) pa_nil)))))) pa_nil)))
 (Evl.pss_cut (ps_set (i := 3) sc__law_first_numbers.nd rfl (Or.inl rfl) (pe_oexV E.x15.oex E.x15.ini E.x15.tI E.x15.fn (hr.mono (by decide)) E.x15.b pass0 (by rfl) E.x15.g (pa_cons (pv 0) pa_nil)))
 (Evl.pss_cut (ps_set (i := 4) sc__law_first_numbers.nd rfl (Or.inl rfl) (pe_oexV E.x15.oex E.x15.ini E.x15.tI E.x15.fn (hr.mono (by decide)) E.x15.b pass0 (by rfl) E.x15.g (pa_cons (pv 1) pa_nil)))
 (Evl.pss_cut (ps_expr (pe_bm PySem.F.plainAttrs_list PySem.F.slot_list_append PySem.F.type_list_append mt_append (pv 2) (pa_cons (pe_callG G_law_right hgd hr (by rfl) D_law_right.g D_law_right.F.kp D_law_right.b .nil pass0 (pa_cons pe_int (pa_cons (pv 3) (pa_cons (pv 4) (pa_cons (pe_lst (pa_cons (pe_ofl (pv 3) (by rfl)) (pa_cons (pe_ofl (pv 4) (by rfl)) pa_nil))) (pa_cons (pe_lst (pa_cons (pv 0) (pa_cons (pv 1) pa_nil))) pa_nil)))))) pa_nil)))
 (Evl.pss_cut (ps_set (i := 3) sc__law_first_numbers.nd rfl (Or.inl rfl) (pe_oexV E.x18.oex E.x18.ini E.x18.tI E.x18.fn (hr.mono (by decide)) E.x18.b pass0 (by rfl) E.x18.g (pa_cons (pv 0) pa_nil)))
 (Evl.pss_cut (ps_set (i := 4) sc__law_first_numbers.nd rfl (Or.inl rfl) (pe_oexV E.x18.oex E.x18.ini E.x18.tI E.x18.fn (hr.mono (by decide)) E.x18.b pass0 (by rfl) E.x18.g (pa_cons (pv 1) pa_nil)))
 (Evl.pss_cut (ps_expr (pe_bm PySem.F.plainAttrs_list PySem.F.slot_list_append PySem.F.type_list_append mt_append (pv 2) (pa_cons (pe_callG G_law_right hgd hr (by rfl) D_law_right.g D_law_right.F.kp D_law_right.b .nil pass0 (pa_cons pe_int (pa_cons (pv 3) (pa_cons (pv 4) (pa_cons (pe_lst (pa_cons (pe_ofl (pv 3) (by rfl)) (pa_cons (pe_ofl (pv 4) (by rfl)) pa_nil))) (pa_cons (pe_lst (pa_cons (pv 0) (pa_cons (pv 1) pa_nil))) pa_nil)))))) pa_nil)))
 (Evl.pss_cut (ps_set (i := 3) sc__law_first_numbers.nd rfl (Or.inl rfl) (pe_oexV E.x22.oex E.x22.ini E.x22.tI E.x22.fn (hr.mono (by decide)) E.x22.b pass0 (by rfl) E.x22.g (pa_cons (pv 0) pa_nil)))
 (Evl.pss_cut (ps_set (i := 4) sc__law_first_numbers.nd rfl (Or.inl rfl) (pe_oexV E.x22.oex E.x22.ini E.x22.tI E.x22.fn (hr.mono (by decide)) E.x22.b pass0 (by rfl) E.x22.g (pa_cons (pv 1) pa_nil)))
 (Evl.pss_cut (ps_expr (pe_bm PySem.F.plainAttrs_list PySem.F.slot_list_append PySem.F.type_list_append mt_append (pv 2) (pa_cons (pe_callG G_law_right hgd hr (by rfl) D_law_right.g D_law_right.F.kp D_law_right.b .nil pass0 (pa_cons pe_int (pa_cons (pv 3) (pa_cons (pv 4) (pa_cons (pe_lst (pa_cons (pe_ofl (pv 3) (by rfl)) (pa_cons (pe_ofl (pv 4) (by rfl)) pa_nil))) (pa_cons (pe_lst (pa_cons (pv 0) (pa_cons (pv 1) pa_nil))) pa_nil)))))) pa_nil)))
 (pss_one (ps_ret (pe_callB (cr_all rfl) (by rfl) B.all (by decide +kernel) (pa_cons (pv 2) pa_nil))))))))))))))))))))))))))))))))))))))), ?_⟩
    dsimp only [L2.cxOf, L2.Cx.nox, L2.Cx.wish]
    have s : Same H H := .refl H
    refine Evl.q_cut (M := fun σ1 H1 => ∃ p, σ1 = [some v, some w, some (.ref p), none, none, none] ∧ Same H H1 ∧ H p = none ∧ H1 p = some (.lst (List.replicate 0 (.bl true)))) ?_ ?_
    · walk_at "q"
      refine ⟨by show 0 ≤ sizeLine; decide, fun p hp => ?_⟩
      walk_at "q"
      exact ⟨p, rfl, same_upd s hp, hp, upd_same⟩
    clear s
    rintro σ1 H1 ⟨p, rfl, s, hp, l⟩
    refine Evl.q_cut (M := fun σ1 H2 => ∃ a, σ1 = [some v, some w, some (.ref p), some (.ref a), none, none] ∧ Same H H2 ∧ H2 p = some (.lst (List.replicate 0 (.bl true))) ∧ IsEx H2 a E.x1.C [("number", v)]) ?_ ?_
    · walk_at "q"
      refine z_mkK ?_
      walk_at "q"
      refine z_kNew1 (fun c H2 s2 hn e2 => ?_)
      walk_at "q"
      exact ⟨c, rfl, s.trans s2, s2 _ _ l, e2⟩
    clear s l
    rintro σ1 H1 ⟨a, rfl, s, l, e1⟩
    refine Evl.q_cut (M := fun σ1 H2 => ∃ b, σ1 = [some v, some w, some (.ref p), some (.ref a), some (.ref b), none] ∧ Same H H2 ∧ H2 p = some (.lst (List.replicate 0 (.bl true))) ∧ IsEx H2 a E.x1.C [("number", v)] ∧ IsEx H2 b E.x1.C [("number", w)]) ?_ ?_
    · walk_at "q"
      refine z_mkK ?_
      walk_at "q"
      refine z_kNew1 (fun c H2 s2 hn e2 => ?_)
      walk_at "q"
      exact ⟨c, rfl, s.trans s2, s2 _ _ l, e1.same s2, e2⟩
    clear s l e1
    rintro σ1 H1 ⟨b, rfl, s, l, e1, e2⟩
    refine Evl.q_cut (M := fun σ1 H2 => σ1 = [some v, some w, some (.ref p), some (.ref a), some (.ref b), none] ∧ Same H H2 ∧ H2 p = some (.lst (List.replicate 1 (.bl true)))) ?_ ?_
    · walk_at "q"
      refine ⟨.inl ⟨rfl, _, .of l⟩, ?_⟩
      walk_at "q"
      refine z_oflI rfl e1 E.x1.xf E.x1.no rfl ?_
      walk_at "q"
      refine z_oflI rfl e2 E.x1.xf E.x1.no rfl ?_
      walk_at "q"
      refine ⟨by show 2 ≤ sizeLine; decide, fun z hz => ?_⟩
      walk_at "q"
      refine ⟨by show 2 ≤ sizeLine; decide, fun y hy => ?_⟩
      walk_at "q"
      refine right_now (i := 1) rfl e1.any e2.any hz hy (.cons (dp_same s hv) (.cons (dp_same s hw) .nil)) two (by show 2 ≤ 4; decide) (fun H3 s3 => ?_)
      have l3 := s3 _ _ l
      have s4 := s.trans s3
      walk_at "q"
      refine z_app l3 (by show 0 < sizeLine; decide) ?_
      walk_at "q"
      exact ⟨rfl, same_upd s4 hp, upd_same⟩
    clear s l e1 e2
    rintro σ1 H1 ⟨rfl, s, l⟩
    refine Evl.q_cut (M := fun σ1 H2 => ∃ a, σ1 = [some v, some w, some (.ref p), some (.ref a), some (.ref b), none] ∧ Same H H2 ∧ H2 p = some (.lst (List.replicate 1 (.bl true))) ∧ IsEx H2 a E.x2.C [("number", v)]) ?_ ?_
    · walk_at "q"
      refine z_mkK ?_
      walk_at "q"
      refine z_kNew1 (fun c H2 s2 hn e2 => ?_)
      walk_at "q"
      exact ⟨c, rfl, s.trans s2, s2 _ _ l, e2⟩
    clear s l
    rintro σ1 H1 ⟨a, rfl, s, l, e1⟩
    refine Evl.q_cut (M := fun σ1 H2 => ∃ b, σ1 = [some v, some w, some (.ref p), some (.ref a), some (.ref b), none] ∧ Same H H2 ∧ H2 p = some (.lst (List.replicate 1 (.bl true))) ∧ IsEx H2 a E.x2.C [("number", v)] ∧ IsEx H2 b E.x2.C [("number", w)]) ?_ ?_
    · walk_at "q"
      refine z_mkK ?_
      walk_at "q"
      refine z_kNew1 (fun c H2 s2 hn e2 => ?_)
      walk_at "q"
      exact ⟨c, rfl, s.trans s2, s2 _ _ l, e1.same s2, e2⟩
    clear s l e1
    rintro σ1 H1 ⟨b, rfl, s, l, e1, e2⟩
    refine Evl.q_cut (M := fun σ1 H2 => σ1 = [some v, some w, some (.ref p), some (.ref a), some (.ref b), none] ∧ Same H H2 ∧ H2 p = some (.lst (List.replicate 2 (.bl true)))) ?_ ?_
    · walk_at "q"
      refine ⟨.inl ⟨rfl, _, .of l⟩, ?_⟩
      walk_at "q"
      refine z_oflI rfl e1 E.x2.xf E.x2.no rfl ?_
      walk_at "q"
      refine z_oflI rfl e2 E.x2.xf E.x2.no rfl ?_
      walk_at "q"
      refine ⟨by show 2 ≤ sizeLine; decide, fun z hz => ?_⟩
      walk_at "q"
      refine ⟨by show 2 ≤ sizeLine; decide, fun y hy => ?_⟩
      walk_at "q"
      refine right_now (i := 2) rfl e1.any e2.any hz hy (.cons (dp_same s hv) (.cons (dp_same s hw) .nil)) two (by show 2 ≤ 4; decide) (fun H3 s3 => ?_)
      have l3 := s3 _ _ l
      have s4 := s.trans s3
      walk_at "q"
      refine z_app l3 (by show 1 < sizeLine; decide) ?_
      walk_at "q"
      exact ⟨rfl, same_upd s4 hp, upd_same⟩
    clear s l e1 e2
    rintro σ1 H1 ⟨rfl, s, l⟩
    refine Evl.q_cut (M := fun σ1 H2 => ∃ a, σ1 = [some v, some w, some (.ref p), some (.ref a), some (.ref b), none] ∧ Same H H2 ∧ H2 p = some (.lst (List.replicate 2 (.bl true))) ∧ IsEx H2 a E.x4.C [("number", v)]) ?_ ?_
    · walk_at "q"
      refine z_mkK ?_
      walk_at "q"
      refine z_kNew1 (fun c H2 s2 hn e2 => ?_)
      walk_at "q"
      exact ⟨c, rfl, s.trans s2, s2 _ _ l, e2⟩
    clear s l
    rintro σ1 H1 ⟨a, rfl, s, l, e1⟩
    refine Evl.q_cut (M := fun σ1 H2 => ∃ b, σ1 = [some v, some w, some (.ref p), some (.ref a), some (.ref b), none] ∧ Same H H2 ∧ H2 p = some (.lst (List.replicate 2 (.bl true))) ∧ IsEx H2 a E.x4.C [("number", v)] ∧ IsEx H2 b E.x4.C [("number", w)]) ?_ ?_
    · walk_at "q"
      refine z_mkK ?_
      walk_at "q"
      refine z_kNew1 (fun c H2 s2 hn e2 => ?_)
      walk_at "q"
      exact ⟨c, rfl, s.trans s2, s2 _ _ l, e1.same s2, e2⟩
    clear s l e1
    rintro σ1 H1 ⟨b, rfl, s, l, e1, e2⟩
    refine Evl.q_cut (M := fun σ1 H2 => σ1 = [some v, some w, some (.ref p), some (.ref a), some (.ref b), none] ∧ Same H H2 ∧ H2 p = some (.lst (List.replicate 3 (.bl true)))) ?_ ?_
    · walk_at "q"
      refine ⟨.inl ⟨rfl, _, .of l⟩, ?_⟩
      walk_at "q"
      refine z_oflI rfl e1 E.x4.xf E.x4.no rfl ?_
      walk_at "q"
      refine z_oflI rfl e2 E.x4.xf E.x4.no rfl ?_
      walk_at "q"
      refine ⟨by show 2 ≤ sizeLine; decide, fun z hz => ?_⟩
      walk_at "q"
      refine ⟨by show 2 ≤ sizeLine; decide, fun y hy => ?_⟩
      walk_at "q"
      refine right_now (i := 4) rfl e1.any e2.any hz hy (.cons (dp_same s hv) (.cons (dp_same s hw) .nil)) two (by show 2 ≤ 4; decide) (fun H3 s3 => ?_)
      have l3 := s3 _ _ l
      have s4 := s.trans s3
      walk_at "q"
      refine z_app l3 (by show 2 < sizeLine; decide) ?_
      walk_at "q"
      exact ⟨rfl, same_upd s4 hp, upd_same⟩
    clear s l e1 e2
    rintro σ1 H1 ⟨rfl, s, l⟩
    refine Evl.q_cut (M := fun σ1 H2 => ∃ a, σ1 = [some v, some w, some (.ref p), some (.ref a), some (.ref b), none] ∧ Same H H2 ∧ H2 p = some (.lst (List.replicate 3 (.bl true))) ∧ IsEx H2 a E.x5.C [("number", v)]) ?_ ?_
    · walk_at "q"
      refine z_mkK ?_
      walk_at "q"
      refine z_kNew1 (fun c H2 s2 hn e2 => ?_)
      walk_at "q"
      exact ⟨c, rfl, s.trans s2, s2 _ _ l, e2⟩
    clear s l
    rintro σ1 H1 ⟨a, rfl, s, l, e1⟩
    refine Evl.q_cut (M := fun σ1 H2 => ∃ b, σ1 = [some v, some w, some (.ref p), some (.ref a), some (.ref b), none] ∧ Same H H2 ∧ H2 p = some (.lst (List.replicate 3 (.bl true))) ∧ IsEx H2 a E.x5.C [("number", v)] ∧ IsEx H2 b E.x5.C [("number", w)]) ?_ ?_
    · walk_at "q"
      refine z_mkK ?_
      walk_at "q"
      refine z_kNew1 (fun c H2 s2 hn e2 => ?_)
      walk_at "q"
      exact ⟨c, rfl, s.trans s2, s2 _ _ l, e1.same s2, e2⟩
    clear s l e1
    rintro σ1 H1 ⟨b, rfl, s, l, e1, e2⟩
    refine Evl.q_cut (M := fun σ1 H2 => σ1 = [some v, some w, some (.ref p), some (.ref a), some (.ref b), none] ∧ Same H H2 ∧ H2 p = some (.lst (List.replicate 4 (.bl true)))) ?_ ?_
    · walk_at "q"
      refine ⟨.inl ⟨rfl, _, .of l⟩, ?_⟩
      walk_at "q"
      refine z_oflI rfl e1 E.x5.xf E.x5.no rfl ?_
      walk_at "q"
      refine z_oflI rfl e2 E.x5.xf E.x5.no rfl ?_
      walk_at "q"
      refine ⟨by show 2 ≤ sizeLine; decide, fun z hz => ?_⟩
      walk_at "q"
      refine ⟨by show 2 ≤ sizeLine; decide, fun y hy => ?_⟩
      walk_at "q"
      refine right_now (i := 5) rfl e1.any e2.any hz hy (.cons (dp_same s hv) (.cons (dp_same s hw) .nil)) two (by show 2 ≤ 4; decide) (fun H3 s3 => ?_)
      have l3 := s3 _ _ l
      have s4 := s.trans s3
      walk_at "q"
      refine z_app l3 (by show 3 < sizeLine; decide) ?_
      walk_at "q"
      exact ⟨rfl, same_upd s4 hp, upd_same⟩
    clear s l e1 e2
    rintro σ1 H1 ⟨rfl, s, l⟩
    refine Evl.q_cut (M := fun σ1 H2 => ∃ a, σ1 = [some v, some w, some (.ref p), some (.ref a), some (.ref b), none] ∧ Same H H2 ∧ H2 p = some (.lst (List.replicate 4 (.bl true))) ∧ IsEx H2 a E.x6.C [("number", v)]) ?_ ?_
    · walk_at "q"
      refine z_mkK ?_
      walk_at "q"
      refine z_kNew1 (fun c H2 s2 hn e2 => ?_)
      walk_at "q"
      exact ⟨c, rfl, s.trans s2, s2 _ _ l, e2⟩
    clear s l
    rintro σ1 H1 ⟨a, rfl, s, l, e1⟩
    refine Evl.q_cut (M := fun σ1 H2 => ∃ b, σ1 = [some v, some w, some (.ref p), some (.ref a), some (.ref b), none] ∧ Same H H2 ∧ H2 p = some (.lst (List.replicate 4 (.bl true))) ∧ IsEx H2 a E.x6.C [("number", v)] ∧ IsEx H2 b E.x6.C [("number", w)]) ?_ ?_
    · walk_at "q"
      refine z_mkK ?_
      walk_at "q"
      refine z_kNew1 (fun c H2 s2 hn e2 => ?_)
      walk_at "q"
      exact ⟨c, rfl, s.trans s2, s2 _ _ l, e1.same s2, e2⟩
    clear s l e1
    rintro σ1 H1 ⟨b, rfl, s, l, e1, e2⟩
    refine Evl.q_cut (M := fun σ1 H2 => σ1 = [some v, some w, some (.ref p), some (.ref a), some (.ref b), none] ∧ Same H H2 ∧ H2 p = some (.lst (List.replicate 5 (.bl true)))) ?_ ?_
    · walk_at "q"
      refine ⟨.inl ⟨rfl, _, .of l⟩, ?_⟩
      walk_at "q"
      refine z_oflI rfl e1 E.x6.xf E.x6.no rfl ?_
      walk_at "q"
      refine z_oflI rfl e2 E.x6.xf E.x6.no rfl ?_
      walk_at "q"
      refine ⟨by show 2 ≤ sizeLine; decide, fun z hz => ?_⟩
      walk_at "q"
      refine ⟨by show 2 ≤ sizeLine; decide, fun y hy => ?_⟩
      walk_at "q"
      refine right_now (i := 6) rfl e1.any e2.any hz hy (.cons (dp_same s hv) (.cons (dp_same s hw) .nil)) two (by show 2 ≤ 4; decide) (fun H3 s3 => ?_)
      have l3 := s3 _ _ l
      have s4 := s.trans s3
      walk_at "q"
      refine z_app l3 (by show 4 < sizeLine; decide) ?_
      walk_at "q"
      exact ⟨rfl, same_upd s4 hp, upd_same⟩
    clear s l e1 e2
    rintro σ1 H1 ⟨rfl, s, l⟩
    refine Evl.q_cut (M := fun σ1 H2 => ∃ a, σ1 = [some v, some w, some (.ref p), some (.ref a), some (.ref b), none] ∧ Same H H2 ∧ H2 p = some (.lst (List.replicate 5 (.bl true))) ∧ IsEx H2 a E.x9.C [("number", v)]) ?_ ?_
    · walk_at "q"
      refine z_mkK ?_
      walk_at "q"
      refine z_kNew1 (fun c H2 s2 hn e2 => ?_)
      walk_at "q"
      exact ⟨c, rfl, s.trans s2, s2 _ _ l, e2⟩
    clear s l
    rintro σ1 H1 ⟨a, rfl, s, l, e1⟩
    refine Evl.q_cut (M := fun σ1 H2 => ∃ b, σ1 = [some v, some w, some (.ref p), some (.ref a), some (.ref b), none] ∧ Same H H2 ∧ H2 p = some (.lst (List.replicate 5 (.bl true))) ∧ IsEx H2 a E.x9.C [("number", v)] ∧ IsEx H2 b E.x9.C [("number", w)]) ?_ ?_
    · walk_at "q"
      refine z_mkK ?_
      walk_at "q"
      refine z_kNew1 (fun c H2 s2 hn e2 => ?_)
      walk_at "q"
      exact ⟨c, rfl, s.trans s2, s2 _ _ l, e1.same s2, e2⟩
    clear s l e1
    rintro σ1 H1 ⟨b, rfl, s, l, e1, e2⟩
    refine Evl.q_cut (M := fun σ1 H2 => σ1 = [some v, some w, some (.ref p), some (.ref a), some (.ref b), none] ∧ Same H H2 ∧ H2 p = some (.lst (List.replicate 6 (.bl true)))) ?_ ?_
    · walk_at "q"
      refine ⟨.inl ⟨rfl, _, .of l⟩, ?_⟩
      walk_at "q"
      refine z_oflI rfl e1 E.x9.xf E.x9.no rfl ?_
      walk_at "q"
      refine z_oflI rfl e2 E.x9.xf E.x9.no rfl ?_
      walk_at "q"
      refine ⟨by show 2 ≤ sizeLine; decide, fun z hz => ?_⟩
      walk_at "q"
      refine ⟨by show 2 ≤ sizeLine; decide, fun y hy => ?_⟩
      walk_at "q"
      refine right_now (i := 9) rfl e1.any e2.any hz hy (.cons (dp_same s hv) (.cons (dp_same s hw) .nil)) two (by show 2 ≤ 4; decide) (fun H3 s3 => ?_)
      have l3 := s3 _ _ l
      have s4 := s.trans s3
      walk_at "q"
      refine z_app l3 (by show 5 < sizeLine; decide) ?_
      walk_at "q"
      exact ⟨rfl, same_upd s4 hp, upd_same⟩
    clear s l e1 e2
    rintro σ1 H1 ⟨rfl, s, l⟩
    refine Evl.q_cut (M := fun σ1 H2 => ∃ a, σ1 = [some v, some w, some (.ref p), some (.ref a), some (.ref b), none] ∧ Same H H2 ∧ H2 p = some (.lst (List.replicate 6 (.bl true))) ∧ IsEx H2 a E.x11.C [("at", v)]) ?_ ?_
    · walk_at "q"
      refine z_mkK ?_
      walk_at "q"
      refine z_kNew1 (fun c H2 s2 hn e2 => ?_)
      walk_at "q"
      exact ⟨c, rfl, s.trans s2, s2 _ _ l, e2⟩
    clear s l
    rintro σ1 H1 ⟨a, rfl, s, l, e1⟩
    refine Evl.q_cut (M := fun σ1 H2 => ∃ b, σ1 = [some v, some w, some (.ref p), some (.ref a), some (.ref b), none] ∧ Same H H2 ∧ H2 p = some (.lst (List.replicate 6 (.bl true))) ∧ IsEx H2 a E.x11.C [("at", v)] ∧ IsEx H2 b E.x11.C [("at", w)]) ?_ ?_
    · walk_at "q"
      refine z_mkK ?_
      walk_at "q"
      refine z_kNew1 (fun c H2 s2 hn e2 => ?_)
      walk_at "q"
      exact ⟨c, rfl, s.trans s2, s2 _ _ l, e1.same s2, e2⟩
    clear s l e1
    rintro σ1 H1 ⟨b, rfl, s, l, e1, e2⟩
    refine Evl.q_cut (M := fun σ1 H2 => σ1 = [some v, some w, some (.ref p), some (.ref a), some (.ref b), none] ∧ Same H H2 ∧ H2 p = some (.lst (List.replicate 7 (.bl true)))) ?_ ?_
    · walk_at "q"
      refine ⟨.inl ⟨rfl, _, .of l⟩, ?_⟩
      walk_at "q"
      refine z_oflI rfl e1 E.x11.xf E.x11.no rfl ?_
      walk_at "q"
      refine z_oflI rfl e2 E.x11.xf E.x11.no rfl ?_
      walk_at "q"
      refine ⟨by show 2 ≤ sizeLine; decide, fun z hz => ?_⟩
      walk_at "q"
      refine ⟨by show 2 ≤ sizeLine; decide, fun y hy => ?_⟩
      walk_at "q"
      refine right_now (i := 11) rfl e1.any e2.any hz hy (.cons (dp_same s hv) (.cons (dp_same s hw) .nil)) two (by show 2 ≤ 4; decide) (fun H3 s3 => ?_)
      have l3 := s3 _ _ l
      have s4 := s.trans s3
      walk_at "q"
      refine z_app l3 (by show 6 < sizeLine; decide) ?_
      walk_at "q"
      exact ⟨rfl, same_upd s4 hp, upd_same⟩
    clear s l e1 e2
    rintro σ1 H1 ⟨rfl, s, l⟩
    refine Evl.q_cut (M := fun σ1 H2 => ∃ a, σ1 = [some v, some w, some (.ref p), some (.ref a), some (.ref b), none] ∧ Same H H2 ∧ H2 p = some (.lst (List.replicate 7 (.bl true))) ∧ IsEx H2 a E.x12.C [("word", w), ("line", v)]) ?_ ?_
    · walk_at "q"
      refine z_mkK ?_
      walk_at "q"
      refine z_kNew2 (fun c H2 s2 hn e2 => ?_)
      walk_at "q"
      exact ⟨c, rfl, s.trans s2, s2 _ _ l, e2⟩
    clear s l
    rintro σ1 H1 ⟨a, rfl, s, l, e1⟩
    refine Evl.q_cut (M := fun σ1 H2 => ∃ b, σ1 = [some v, some w, some (.ref p), some (.ref a), some (.ref b), none] ∧ Same H H2 ∧ H2 p = some (.lst (List.replicate 7 (.bl true))) ∧ IsEx H2 a E.x12.C [("word", w), ("line", v)] ∧ IsEx H2 b E.x12.C [("word", v), ("line", w)]) ?_ ?_
    · walk_at "q"
      refine z_mkK ?_
      walk_at "q"
      refine z_kNew2 (fun c H2 s2 hn e2 => ?_)
      walk_at "q"
      exact ⟨c, rfl, s.trans s2, s2 _ _ l, e1.same s2, e2⟩
    clear s l e1
    rintro σ1 H1 ⟨b, rfl, s, l, e1, e2⟩
    refine Evl.q_cut (M := fun σ1 H2 => ∃ z, σ1 = [some v, some w, some (.ref p), some (.ref a), some (.ref b), some (.ref z)] ∧ Same H H2 ∧ H2 p = some (.lst (List.replicate 7 (.bl true))) ∧ IsEx H2 a E.x12.C [("word", w), ("line", v)] ∧ IsEx H2 b E.x12.C [("word", v), ("line", w)] ∧ H2 z = some (.lst [v, w, w, v])) ?_ ?_
    · walk_at "q"
      refine z_oflI rfl e1 E.x12.xf E.x12.nof rfl ?_
      walk_at "q"
      refine z_oflI rfl e1 E.x12.xf E.x12.nog rfl ?_
      walk_at "q"
      refine z_oflI rfl e2 E.x12.xf E.x12.nof rfl ?_
      walk_at "q"
      refine z_oflI rfl e2 E.x12.xf E.x12.nog rfl ?_
      walk_at "q"
      refine ⟨by show 4 ≤ sizeLine; decide, fun z hz => ?_⟩
      walk_at "q"
      have s2 := same_upd (o := .lst [v, w, w, v]) (.refl _) hz
      exact ⟨z, rfl, s.trans s2, s2 _ _ l, e1.same s2, e2.same s2, upd_same⟩
    clear s l e1 e2
    rintro σ1 H1 ⟨z, rfl, s, l, e1, e2, lz⟩
    refine Evl.q_cut (M := fun σ1 H2 => σ1 = [some v, some w, some (.ref p), some (.ref a), some (.ref b), some (.ref z)] ∧ Same H H2 ∧ H2 p = some (.lst (List.replicate 8 (.bl true)))) ?_ ?_
    · walk_at "q"
      refine ⟨.inl ⟨rfl, _, .of l⟩, ?_⟩
      walk_at "q"
      refine ⟨by show 4 ≤ sizeLine; decide, fun y hy => ?_⟩
      walk_at "q"
      refine right_told (i := 12) rfl e1.any e2.any lz hy (.cons (dp_same s hv) (.cons (dp_same s hw) (.cons (dp_same s hw) (.cons (dp_same s hv) .nil)))) four (by show 4 ≤ 4; decide) (fun H3 s3 => ?_)
      have l3 := s3 _ _ l
      have s4 := s.trans s3
      walk_at "q"
      refine z_app l3 (by show 7 < sizeLine; decide) ?_
      walk_at "q"
      exact ⟨rfl, same_upd s4 hp, upd_same⟩
    clear s l e1 e2 lz
    rintro σ1 H1 ⟨rfl, s, l⟩
    refine Evl.q_cut (M := fun σ1 H2 => ∃ a, σ1 = [some v, some w, some (.ref p), some (.ref a), some (.ref b), some (.ref z)] ∧ Same H H2 ∧ H2 p = some (.lst (List.replicate 8 (.bl true))) ∧ IsEx H2 a E.x15.C [("number", v)]) ?_ ?_
    · walk_at "q"
      refine z_mkK ?_
      walk_at "q"
      refine z_kNew1 (fun c H2 s2 hn e2 => ?_)
      walk_at "q"
      exact ⟨c, rfl, s.trans s2, s2 _ _ l, e2⟩
    clear s l
    rintro σ1 H1 ⟨a, rfl, s, l, e1⟩
    refine Evl.q_cut (M := fun σ1 H2 => ∃ b, σ1 = [some v, some w, some (.ref p), some (.ref a), some (.ref b), some (.ref z)] ∧ Same H H2 ∧ H2 p = some (.lst (List.replicate 8 (.bl true))) ∧ IsEx H2 a E.x15.C [("number", v)] ∧ IsEx H2 b E.x15.C [("number", w)]) ?_ ?_
    · walk_at "q"
      refine z_mkK ?_
      walk_at "q"
      refine z_kNew1 (fun c H2 s2 hn e2 => ?_)
      walk_at "q"
      exact ⟨c, rfl, s.trans s2, s2 _ _ l, e1.same s2, e2⟩
    clear s l e1
    rintro σ1 H1 ⟨b, rfl, s, l, e1, e2⟩
    refine Evl.q_cut (M := fun σ1 H2 => σ1 = [some v, some w, some (.ref p), some (.ref a), some (.ref b), some (.ref z)] ∧ Same H H2 ∧ H2 p = some (.lst (List.replicate 9 (.bl true)))) ?_ ?_
    · walk_at "q"
      refine ⟨.inl ⟨rfl, _, .of l⟩, ?_⟩
      walk_at "q"
      refine z_oflI rfl e1 E.x15.xf E.x15.no rfl ?_
      walk_at "q"
      refine z_oflI rfl e2 E.x15.xf E.x15.no rfl ?_
      walk_at "q"
      refine ⟨by show 2 ≤ sizeLine; decide, fun z hz => ?_⟩
      walk_at "q"
      refine ⟨by show 2 ≤ sizeLine; decide, fun y hy => ?_⟩
      walk_at "q"
      refine right_now (i := 15) rfl e1.any e2.any hz hy (.cons (dp_same s hv) (.cons (dp_same s hw) .nil)) two (by show 2 ≤ 4; decide) (fun H3 s3 => ?_)
      have l3 := s3 _ _ l
      have s4 := s.trans s3
      walk_at "q"
      refine z_app l3 (by show 8 < sizeLine; decide) ?_
      walk_at "q"
      exact ⟨rfl, same_upd s4 hp, upd_same⟩
    clear s l e1 e2
    rintro σ1 H1 ⟨rfl, s, l⟩
    refine Evl.q_cut (M := fun σ1 H2 => ∃ a, σ1 = [some v, some w, some (.ref p), some (.ref a), some (.ref b), some (.ref z)] ∧ Same H H2 ∧ H2 p = some (.lst (List.replicate 9 (.bl true))) ∧ IsEx H2 a E.x18.C [("number", v)]) ?_ ?_
    · walk_at "q"
      refine z_mkK ?_
      walk_at "q"
      refine z_kNew1 (fun c H2 s2 hn e2 => ?_)
      walk_at "q"
      exact ⟨c, rfl, s.trans s2, s2 _ _ l, e2⟩
    clear s l
    rintro σ1 H1 ⟨a, rfl, s, l, e1⟩
    refine Evl.q_cut (M := fun σ1 H2 => ∃ b, σ1 = [some v, some w, some (.ref p), some (.ref a), some (.ref b), some (.ref z)] ∧ Same H H2 ∧ H2 p = some (.lst (List.replicate 9 (.bl true))) ∧ IsEx H2 a E.x18.C [("number", v)] ∧ IsEx H2 b E.x18.C [("number", w)]) ?_ ?_
    · walk_at "q"
      refine z_mkK ?_
      walk_at "q"
      refine z_kNew1 (fun c H2 s2 hn e2 => ?_)
      walk_at "q"
      exact ⟨c, rfl, s.trans s2, s2 _ _ l, e1.same s2, e2⟩
    clear s l e1
    rintro σ1 H1 ⟨b, rfl, s, l, e1, e2⟩
    refine Evl.q_cut (M := fun σ1 H2 => σ1 = [some v, some w, some (.ref p), some (.ref a), some (.ref b), some (.ref z)] ∧ Same H H2 ∧ H2 p = some (.lst (List.replicate 10 (.bl true)))) ?_ ?_
    · walk_at "q"
      refine ⟨.inl ⟨rfl, _, .of l⟩, ?_⟩
      walk_at "q"
      refine z_oflI rfl e1 E.x18.xf E.x18.no rfl ?_
      walk_at "q"
      refine z_oflI rfl e2 E.x18.xf E.x18.no rfl ?_
      walk_at "q"
      refine ⟨by show 2 ≤ sizeLine; decide, fun z hz => ?_⟩
      walk_at "q"
      refine ⟨by show 2 ≤ sizeLine; decide, fun y hy => ?_⟩
      walk_at "q"
      refine right_now (i := 18) rfl e1.any e2.any hz hy (.cons (dp_same s hv) (.cons (dp_same s hw) .nil)) two (by show 2 ≤ 4; decide) (fun H3 s3 => ?_)
      have l3 := s3 _ _ l
      have s4 := s.trans s3
      walk_at "q"
      refine z_app l3 (by show 9 < sizeLine; decide) ?_
      walk_at "q"
      exact ⟨rfl, same_upd s4 hp, upd_same⟩
    clear s l e1 e2
    rintro σ1 H1 ⟨rfl, s, l⟩
    refine Evl.q_cut (M := fun σ1 H2 => ∃ a, σ1 = [some v, some w, some (.ref p), some (.ref a), some (.ref b), some (.ref z)] ∧ Same H H2 ∧ H2 p = some (.lst (List.replicate 10 (.bl true))) ∧ IsEx H2 a E.x22.C [("number", v)]) ?_ ?_
    · walk_at "q"
      refine z_mkK ?_
      walk_at "q"
      refine z_kNew1 (fun c H2 s2 hn e2 => ?_)
      walk_at "q"
      exact ⟨c, rfl, s.trans s2, s2 _ _ l, e2⟩
    clear s l
    rintro σ1 H1 ⟨a, rfl, s, l, e1⟩
    refine Evl.q_cut (M := fun σ1 H2 => ∃ b, σ1 = [some v, some w, some (.ref p), some (.ref a), some (.ref b), some (.ref z)] ∧ Same H H2 ∧ H2 p = some (.lst (List.replicate 10 (.bl true))) ∧ IsEx H2 a E.x22.C [("number", v)] ∧ IsEx H2 b E.x22.C [("number", w)]) ?_ ?_
    · walk_at "q"
      refine z_mkK ?_
      walk_at "q"
      refine z_kNew1 (fun c H2 s2 hn e2 => ?_)
      walk_at "q"
      exact ⟨c, rfl, s.trans s2, s2 _ _ l, e1.same s2, e2⟩
    clear s l e1
    rintro σ1 H1 ⟨b, rfl, s, l, e1, e2⟩
    refine Evl.q_cut (M := fun σ1 H2 => σ1 = [some v, some w, some (.ref p), some (.ref a), some (.ref b), some (.ref z)] ∧ Same H H2 ∧ H2 p = some (.lst (List.replicate 11 (.bl true)))) ?_ ?_
    · walk_at "q"
      refine ⟨.inl ⟨rfl, _, .of l⟩, ?_⟩
      walk_at "q"
      refine z_oflI rfl e1 E.x22.xf E.x22.no rfl ?_
      walk_at "q"
      refine z_oflI rfl e2 E.x22.xf E.x22.no rfl ?_
      walk_at "q"
      refine ⟨by show 2 ≤ sizeLine; decide, fun z hz => ?_⟩
      walk_at "q"
      refine ⟨by show 2 ≤ sizeLine; decide, fun y hy => ?_⟩
      walk_at "q"
      refine right_now (i := 22) rfl e1.any e2.any hz hy (.cons (dp_same s hv) (.cons (dp_same s hw) .nil)) two (by show 2 ≤ 4; decide) (fun H3 s3 => ?_)
      have l3 := s3 _ _ l
      have s4 := s.trans s3
      walk_at "q"
      refine z_app l3 (by show 10 < sizeLine; decide) ?_
      walk_at "q"
      exact ⟨rfl, same_upd s4 hp, upd_same⟩
    clear s l e1 e2
    rintro σ1 H1 ⟨rfl, s, l⟩
    walk_at "q"
    have l2 : SqL K H1 p ((List.replicate 11 true).map V.bl) := .of l
    refine z_all l2 ?_
    walk_at "q"
    exact q _ s
theorem ok_law_other_numbers (D : Df K mg "_law_other_numbers" s__law_other_numbers ["thing", "other"]) (D_law_right : Df K mg "_law_right" s__law_right ["at", "one", "two", "told", "due"]) (D_law_flags : Df K mg "_law_flags" s__law_flags ["made"]) (B : Bi mg) (E : AllEx P w K mg base) (k : KitOk K E.cs E.tail) :
    FnG P w K mg base CX0 4 D.f D.fd ["thing", "other"] (spPair K) := by
  have G_law_right : FnG P w K mg base CX0 3 D_law_right.f D_law_right.fd ["at", "one", "two", "told", "due"] (spRight K E.cs) := ok_right D_law_right D_law_flags B E k
  refine okG D.F sc__law_other_numbers (fun vs H Q E h => ?_) (fun cdv A outer s H vs Q E' hgd hr h => ?_)
  · obtain ⟨_, _, _, _, rfl, _⟩ := h
    rfl
  · obtain ⟨v, w, dv, dw, rfl, hv, hw, sv, sw, q⟩ := h
    have two : ∀ d ∈ [dv, dw], Small 3 d := fun d hd => by
      rcases List.mem_cons.mp hd with h1 | h1
      · exact h1 ▸ sv
      · exact List.mem_singleton.mp h1 ▸ sw
    have four : ∀ d ∈ [dv, dw, dw, dv], Small 3 d := fun d hd => by
      simp only [List.mem_cons, List.not_mem_nil, or_false] at hd
      rcases hd with h1 | h1 | h1 | h1
      · exact h1 ▸ sv
      · exact h1 ▸ sw
      · exact h1 ▸ sw
      · exact h1 ▸ sv
    refine ⟨_, (Evl.pss_cut (ps_set (i := 2) sc__law_other_numbers.nd rfl (Or.inl rfl) (pe_lst pa_nil))
 (Evl.pss_cut (ps_set (i := 3) sc__law_other_numbers.nd rfl (Or.inl rfl) (pe_oexV E.x23.oex E.x23.ini E.x23.tI E.x23.fn (hr.mono (by decide)) E.x23.b pass0 (by rfl) E.x23.g (pa_cons (pv 0) pa_nil)))
 (Evl.pss_cut (ps_set (i := 4) sc__law_other_numbers.nd rfl (Or.inl rfl) (pe_oexV E.x23.oex E.x23.ini E.x23.tI E.x23.fn (hr.mono (by decide)) E.x23.b pass0 (by rfl) E.x23.g (pa_cons (pv 1) pa_nil)))
 (Evl.pss_cut (ps_expr (pe_bm PySem.F.plainAttrs_list PySem.F.slot_list_append PySem.F.type_list_append mt_append (pv 2) (pa_cons (pe_callG G_law_right hgd hr (by rfl) D_law_right.g D_law_right.F.kp D_law_right.b .nil pass0 (pa_cons pe_int (pa_cons (pv 3) (pa_cons (pv 4) (pa_cons (pe_lst (pa_cons (pe_ofl (pv 3) (by rfl)) (pa_cons (pe_ofl (pv 4) (by rfl)) pa_nil))) (pa_cons (pe_lst (pa_cons (pv 0) (pa_cons (pv 1) pa_nil))) pa_nil)))))) pa_nil)))
 (Evl.pss_cut (ps_set (i := 3) sc__law_other_numbers.nd rfl (Or.inl rfl) (pe_oexV E.x25.oex E.x25.ini E.x25.tI E.x25.fn (hr.mono (by decide)) E.x25.b pass0 (by rfl) E.x25.g (pa_cons (pv 0) pa_nil)))
 (Evl.pss_cut (ps_set (i := 4) sc__law_other_numbers.nd rfl (Or.inl rfl) (pe_oexV E.x25.oex E.x25.ini E.x25.tI E.x25.fn (hr.mono (by decide)) E.x25.b pass0 (by rfl) E.x25.g (pa_cons (pv 1) pa_nil)))
 (Evl.pss_cut (ps_expr (pe_bm PySem.F.plainAttrs_list PySem.F.slot_list_append PySem.F.type_list_append mt_append (pv 2) (pa_cons (pe_callG G_law_right hgd hr (by rfl) D_law_right.g D_law_right.F.kp D_law_right.b .nil pass0 (pa_cons pe_int (pa_cons (pv 3) (pa_cons (pv 4) (pa_cons (pe_lst (pa_cons (pe_ofl (pv 3) (by rfl)) (pa_cons (pe_ofl (pv 4) (by rfl)) pa_nil))) (pa_cons (pe_lst (pa_cons (pv 0) (pa_cons (pv 1) pa_nil))) pa_nil)))))) pa_nil)))
 (Evl.pss_cut (ps_set (i := 3) sc__law_other_numbers.nd rfl (Or.inl rfl) (pe_oexV E.x28.oex E.x28.ini E.x28.tI E.x28.fn (hr.mono (by decide)) E.x28.b pass0 (by rfl) E.x28.g (pa_cons (pv 0) pa_nil)))
 (Evl.pss_cut (ps_set (i := 4) sc__law_other_numbers.nd rfl (Or.inl rfl) (pe_oexV E.x28.oex E.x28.ini E.x28.tI E.x28.fn (hr.mono (by decide)) E.x28.b pass0 (by rfl) E.x28.g (pa_cons (pv 1) pa_nil)))
 (Evl.pss_cut (ps_expr (pe_bm PySem.F.plainAttrs_list PySem.F.slot_list_append PySem.F.type_list_append mt_append (pv 2) (pa_cons (pe_callG G_law_right hgd hr (by rfl) D_law_right.g D_law_right.F.kp D_law_right.b .nil pass0 (pa_cons pe_int (pa_cons (pv 3) (pa_cons (pv 4) (pa_cons (pe_lst (pa_cons (pe_ofl (pv 3) (by rfl)) (pa_cons (pe_ofl (pv 4) (by rfl)) pa_nil))) (pa_cons (pe_lst (pa_cons (pv 0) (pa_cons (pv 1) pa_nil))) pa_nil)))))) pa_nil)))
 (Evl.pss_cut (ps_set (i := 3) sc__law_other_numbers.nd rfl (Or.inl rfl) (pe_oexV E.x29.oex E.x29.ini E.x29.tI E.x29.fn (hr.mono (by decide)) E.x29.b pass0 (by rfl) E.x29.g (pa_cons (pv 0) pa_nil)))
 (Evl.pss_cut (ps_set (i := 4) sc__law_other_numbers.nd rfl (Or.inl rfl) (pe_oexV E.x29.oex E.x29.ini E.x29.tI E.x29.fn (hr.mono (by decide)) E.x29.b pass0 (by rfl) E.x29.g (pa_cons (pv 1) pa_nil)))
 (Evl.pss_cut (ps_expr (pe_bm PySem.F.plainAttrs_list PySem.F.slot_list_append PySem.F.type_list_append mt_append (pv 2) (pa_cons (pe_callG G_law_right hgd hr (by rfl) D_law_right.g D_law_right.F.kp D_law_right.b .nil pass0 (pa_cons pe_int (pa_cons (pv 3) (pa_cons (pv 4) (pa_cons (pe_lst (pa_cons (pe_ofl (pv 3) (by rfl)) (pa_cons (pe_ofl (pv 4) (by rfl)) pa_nil))) (pa_cons (pe_lst (pa_cons (pv 0) (pa_cons (pv 1) pa_nil))) pa_nil)))))) pa_nil)))
 (Evl.pss_cut (ps_set (i := 3) sc__law_other_numbers.nd rfl (Or.inl rfl) (pe_oexV E.x37.oex E.x37.ini E.x37.tI E.x37.fn (hr.mono (by decide)) E.x37.b pass0 (by rfl) E.x37.g (pa_cons (pv 0) pa_nil)))
 (Evl.pss_cut (ps_set (i := 4) sc__law_other_numbers.nd rfl (Or.inl rfl) (pe_oexV E.x37.oex E.x37.ini E.x37.tI E.x37.fn (hr.mono (by decide)) E.x37.b pass0 (by rfl) E.x37.g (pa_cons (pv 1) pa_nil)))
 (Evl.pss_cut (ps_expr (pe_bm PySem.F.plainAttrs_list PySem.F.slot_list_append PySem.F.type_list_append mt_append (pv 2) (pa_cons (pe_callG G_law_right hgd hr (by rfl) D_law_right.g D_law_right.F.kp D_law_right.b .nil pass0 (pa_cons pe_int (pa_cons (pv 3) (pa_cons (pv 4) (pa_cons (pe_lst (pa_cons (pe_ofl (pv 3) (by rfl)) (pa_cons (pe_ofl (pv 4) (by rfl)) pa_nil))) (pa_cons (pe_lst (pa_cons (pv 0) (pa_cons (pv 1) pa_nil))) pa_nil)))))) pa_nil)))
 (Evl.pss_cut (ps_set (i := 3) sc__law_other_numbers.nd rfl (Or.inl rfl) (pe_oexV E.x39.oex E.x39.ini E.x39.tI E.x39.fn (hr.mono (by decide)) E.x39.b pass0 (by rfl) E.x39.g (pa_cons (pv 0) pa_nil)))
 (Evl.pss_cut (ps_set (i := 4) sc__law_other_numbers.nd rfl (Or.inl rfl) (pe_oexV E.x39.oex E.x39.ini E.x39.tI E.x39.fn (hr.mono (by decide)) E.x39.b pass0 (by rfl) E.x39.g (pa_cons (pv 1) pa_nil)))
 (Evl.pss_cut (ps_expr (pe_bm PySem.F.plainAttrs_list PySem.F.slot_list_append PySem.F.type_list_append mt_append (pv 2) (pa_cons (pe_callG G_law_right hgd hr (by rfl) D_law_right.g D_law_right.F.kp D_law_right.b .nil pass0 (pa_cons pe_int (pa_cons (pv 3) (pa_cons (pv 4) (pa_cons (pe_lst (pa_cons (pe_ofl (pv 3) (by rfl)) (pa_cons (pe_ofl (pv 4) (by rfl)) pa_nil))) (pa_cons (pe_lst (pa_cons (pv 0) (pa_cons (pv 1) pa_nil))) pa_nil)))))) pa_nil)))
 (Evl.pss_cut (ps_set (i := 3) sc__law_other_numbers.nd rfl (Or.inl rfl) (pe_oexV E.x40.oex E.x40.ini E.x40.tI E.x40.fn (hr.mono (by decide)) E.x40.b pass0 (by rfl) E.x40.g (pa_cons (pv 0) pa_nil)))
 (Evl.pss_cut (ps_set (i := 4) sc__law_other_numbers.nd rfl (Or.inl rfl) (pe_oexV E.x40.oex E.x40.ini E.x40.tI E.x40.fn (hr.mono (by decide)) E.x40.b pass0 (by rfl) E.x40.g (pa_cons (pv 1) pa_nil)))
 (Evl.pss_cut (ps_expr (pe_bm PySem.F.plainAttrs_list PySem.F.slot_list_append PySem.F.type_list_append mt_append (pv 2) (pa_cons (pe_callG G_law_right hgd hr (by rfl) D_law_right.g D_law_right.F.kp D_law_right.b .nil pass0 (pa_cons pe_int (pa_cons (pv 3) (pa_cons (pv 4) (pa_cons (pe_lst (pa_cons (pe_ofl (pv 3) (by rfl)) (pa_cons (pe_ofl (pv 4) (by rfl)) pa_nil))) (pa_cons (pe_lst (pa_cons (pv 0) (pa_cons (pv 1) pa_nil))) pa_nil)))))) pa_nil)))
 (Evl.pss_cut (ps_set (i := 3) sc__law_other_numbers.nd rfl (Or.inl rfl) (pe_oexV E.x43.oex E.x43.ini E.x43.tI E.x43.fn (hr.mono (by decide)) E.x43.b pass0 (by rfl) E.x43.g (pa_cons (pv 0) pa_nil)))
 (Evl.pss_cut (ps_set (i := 4) sc__law_other_numbers.nd rfl (Or.inl rfl) (pe_oexV E.x43.oex E.x43.ini E.x43.tI E.x43.fn (hr.mono (by decide)) E.x43.b pass0 (by rfl) E.x43.g (pa_cons (pv 1) pa_nil)))
 (Evl.pss_cut (ps_expr (pe_bm PySem.F.plainAttrs_list PySem.F.slot_list_append PySem.F.type_list_append mt_append (pv 2) (pa_cons (pe_callG G_law_right hgd hr (by rfl) D_law_right.g D_law_right.F.kp D_law_right.b .nil pass0 (pa_cons pe_int (pa_cons (pv 3) (pa_cons (pv 4) (pa_cons (pe_lst (pa_cons (pe_ofl (pv 3) (by rfl)) (pa_cons (pe_ofl (pv 4) (by rfl)) pa_nil))) (pa_cons (pe_lst (pa_cons (pv 0) (pa_cons (pv 1) pa_nil))) pa_nil)))))) pa_nil)))
 (Evl.pss_cut (ps_set (i := 3) sc__law_other_numbers.nd rfl (Or.inl rfl) (pe_oexV E.x54.oex E.x54.ini E.x54.tI E.x54.fn (hr.mono (by decide)) E.x54.b pass0 (by rfl) E.x54.g (pa_cons (pv 0) pa_nil)))
 (Evl.pss_cut (ps_set (i := 4) sc__law_other_numbers.nd rfl (Or.inl rfl) (pe_oexV E.x54.oex E.x54.ini E.x54.tI E.x54.fn (hr.mono (by decide)) E.x54.b pass0 (by rfl) E.x54.g (pa_cons (pv 1) pa_nil)))
 (Evl.pss_cut (ps_expr (pe_bm PySem.F.plainAttrs_list PySem.F.slot_list_append PySem.F.type_list_append mt_append (pv 2) (pa_cons (pe_callG G_law_right hgd hr (by rfl) D_law_right.g D_law_right.F.kp D_law_right.b .nil pass0 (pa_cons pe_int (pa_cons (pv 3) (pa_cons (pv 4) (pa_cons (pe_lst (pa_cons (pe_ofl (pv 3) (by rfl)) (pa_cons (pe_ofl (pv 4) (by rfl)) pa_nil))) (pa_cons (pe_lst (pa_cons (pv 0) (pa_cons (pv 1) pa_nil))) pa_nil)))))) pa_nil)))
 (Evl.pss_cut (ps_set (i := 3) sc__law_other_numbers.nd rfl (Or.inl rfl) (pe_oexV E.x57.oex E.x57.ini E.x57.tI E.x57.fn (hr.mono (by decide)) E.x57.b pass0 (by rfl) E.x57.g (pa_cons (pv 0) pa_nil)))
 (Evl.pss_cut (ps_set (i := 4) sc__law_other_numbers.nd rfl (Or.inl rfl) (pe_oexV E.x57.oex E.x57.ini E.x57.tI E.x57.fn (hr.mono (by decide)) E.x57.b pass0 (by rfl) E.x57.g (pa_cons (pv 1) pa_nil)))
 (Evl.pss_cut (ps_expr (pe_bm PySem.F.plainAttrs_list PySem.F.slot_list_append PySem.F.type_list_append mt_append (pv 2) (pa_cons (pe_callG G_law_right hgd hr (by rfl) D_law_right.g D_law_right.F.kp D_law_right.b .nil pass0 (pa_cons pe_int (pa_cons (pv 3) (pa_cons (pv 4) (pa_cons (pe_lst (pa_cons (pe_ofl (pv 3) (by rfl)) (pa_cons (pe_ofl (pv 4) (by rfl)) pa_nil))) (pa_cons (pe_lst (pa_cons (pv 0) (pa_cons (pv 1) pa_nil))) pa_nil)))))) pa_nil)))
 (pss_one (ps_ret (pe_callB (cr_all rfl) (by rfl) B.all (by decide +kernel) (pa_cons (pv 2) pa_nil))))))))))))))))))))))))))))))))))), ?_⟩
    dsimp only [L2.cxOf, L2.Cx.nox, L2.Cx.wish]
    have s : Same H H := .refl H
    refine Evl.q_cut (M := fun σ1 H1 => ∃ p, σ1 = [some v, some w, some (.ref p), none, none] ∧ Same H H1 ∧ H p = none ∧ H1 p = some (.lst (List.replicate 0 (.bl true)))) ?_ ?_
    · walk_at "q"
      refine ⟨by show 0 ≤ sizeLine; decide, fun p hp => ?_⟩
      walk_at "q"
      exact ⟨p, rfl, same_upd s hp, hp, upd_same⟩
    clear s
    rintro σ1 H1 ⟨p, rfl, s, hp, l⟩
    refine Evl.q_cut (M := fun σ1 H2 => ∃ a, σ1 = [some v, some w, some (.ref p), some (.ref a), none] ∧ Same H H2 ∧ H2 p = some (.lst (List.replicate 0 (.bl true))) ∧ IsEx H2 a E.x23.C [("number", v)]) ?_ ?_
    · walk_at "q"
      refine z_mkK ?_
      walk_at "q"
      refine z_kNew1 (fun c H2 s2 hn e2 => ?_)
      walk_at "q"
      exact ⟨c, rfl, s.trans s2, s2 _ _ l, e2⟩
    clear s l
    rintro σ1 H1 ⟨a, rfl, s, l, e1⟩
    refine Evl.q_cut (M := fun σ1 H2 => ∃ b, σ1 = [some v, some w, some (.ref p), some (.ref a), some (.ref b)] ∧ Same H H2 ∧ H2 p = some (.lst (List.replicate 0 (.bl true))) ∧ IsEx H2 a E.x23.C [("number", v)] ∧ IsEx H2 b E.x23.C [("number", w)]) ?_ ?_
    · walk_at "q"
      refine z_mkK ?_
      walk_at "q"
      refine z_kNew1 (fun c H2 s2 hn e2 => ?_)
      walk_at "q"
      exact ⟨c, rfl, s.trans s2, s2 _ _ l, e1.same s2, e2⟩
    clear s l e1
    rintro σ1 H1 ⟨b, rfl, s, l, e1, e2⟩
    refine Evl.q_cut (M := fun σ1 H2 => σ1 = [some v, some w, some (.ref p), some (.ref a), some (.ref b)] ∧ Same H H2 ∧ H2 p = some (.lst (List.replicate 1 (.bl true)))) ?_ ?_
    · walk_at "q"
      refine ⟨.inl ⟨rfl, _, .of l⟩, ?_⟩
      walk_at "q"
      refine z_oflI rfl e1 E.x23.xf E.x23.no rfl ?_
      walk_at "q"
      refine z_oflI rfl e2 E.x23.xf E.x23.no rfl ?_
      walk_at "q"
      refine ⟨by show 2 ≤ sizeLine; decide, fun z hz => ?_⟩
      walk_at "q"
      refine ⟨by show 2 ≤ sizeLine; decide, fun y hy => ?_⟩
      walk_at "q"
      refine right_now (i := 23) rfl e1.any e2.any hz hy (.cons (dp_same s hv) (.cons (dp_same s hw) .nil)) two (by show 2 ≤ 4; decide) (fun H3 s3 => ?_)
      have l3 := s3 _ _ l
      have s4 := s.trans s3
      walk_at "q"
      refine z_app l3 (by show 0 < sizeLine; decide) ?_
      walk_at "q"
      exact ⟨rfl, same_upd s4 hp, upd_same⟩
    clear s l e1 e2
    rintro σ1 H1 ⟨rfl, s, l⟩
    refine Evl.q_cut (M := fun σ1 H2 => ∃ a, σ1 = [some v, some w, some (.ref p), some (.ref a), some (.ref b)] ∧ Same H H2 ∧ H2 p = some (.lst (List.replicate 1 (.bl true))) ∧ IsEx H2 a E.x25.C [("number", v)]) ?_ ?_
    · walk_at "q"
      refine z_mkK ?_
      walk_at "q"
      refine z_kNew1 (fun c H2 s2 hn e2 => ?_)
      walk_at "q"
      exact ⟨c, rfl, s.trans s2, s2 _ _ l, e2⟩
    clear s l
    rintro σ1 H1 ⟨a, rfl, s, l, e1⟩
    refine Evl.q_cut (M := fun σ1 H2 => ∃ b, σ1 = [some v, some w, some (.ref p), some (.ref a), some (.ref b)] ∧ Same H H2 ∧ H2 p = some (.lst (List.replicate 1 (.bl true))) ∧ IsEx H2 a E.x25.C [("number", v)] ∧ IsEx H2 b E.x25.C [("number", w)]) ?_ ?_
    · walk_at "q"
      refine z_mkK ?_
      walk_at "q"
      refine z_kNew1 (fun c H2 s2 hn e2 => ?_)
      walk_at "q"
      exact ⟨c, rfl, s.trans s2, s2 _ _ l, e1.same s2, e2⟩
    clear s l e1
    rintro σ1 H1 ⟨b, rfl, s, l, e1, e2⟩
    refine Evl.q_cut (M := fun σ1 H2 => σ1 = [some v, some w, some (.ref p), some (.ref a), some (.ref b)] ∧ Same H H2 ∧ H2 p = some (.lst (List.replicate 2 (.bl true)))) ?_ ?_
    · walk_at "q"
      refine ⟨.inl ⟨rfl, _, .of l⟩, ?_⟩
      walk_at "q"
      refine z_oflI rfl e1 E.x25.xf E.x25.no rfl ?_
      walk_at "q"
      refine z_oflI rfl e2 E.x25.xf E.x25.no rfl ?_
      walk_at "q"
      refine ⟨by show 2 ≤ sizeLine; decide, fun z hz => ?_⟩
      walk_at "q"
      refine ⟨by show 2 ≤ sizeLine; decide, fun y hy => ?_⟩
      walk_at "q"
      refine right_now (i := 25) rfl e1.any e2.any hz hy (.cons (dp_same s hv) (.cons (dp_same s hw) .nil)) two (by show 2 ≤ 4; decide) (fun H3 s3 => ?_)
      have l3 := s3 _ _ l
      have s4 := s.trans s3
      walk_at "q"
      refine z_app l3 (by show 1 < sizeLine; decide) ?_
      walk_at "q"
      exact ⟨rfl, same_upd s4 hp, upd_same⟩
    clear s l e1 e2
    rintro σ1 H1 ⟨rfl, s, l⟩
    refine Evl.q_cut (M := fun σ1 H2 => ∃ a, σ1 = [some v, some w, some (.ref p), some (.ref a), some (.ref b)] ∧ Same H H2 ∧ H2 p = some (.lst (List.replicate 2 (.bl true))) ∧ IsEx H2 a E.x28.C [("number", v)]) ?_ ?_
    · walk_at "q"
      refine z_mkK ?_
      walk_at "q"
      refine z_kNew1 (fun c H2 s2 hn e2 => ?_)
      walk_at "q"
      exact ⟨c, rfl, s.trans s2, s2 _ _ l, e2⟩
    clear s l
    rintro σ1 H1 ⟨a, rfl, s, l, e1⟩
    refine Evl.q_cut (M := fun σ1 H2 => ∃ b, σ1 = [some v, some w, some (.ref p), some (.ref a), some (.ref b)] ∧ Same H H2 ∧ H2 p = some (.lst (List.replicate 2 (.bl true))) ∧ IsEx H2 a E.x28.C [("number", v)] ∧ IsEx H2 b E.x28.C [("number", w)]) ?_ ?_
    · walk_at "q"
      refine z_mkK ?_
      walk_at "q"
      refine z_kNew1 (fun c H2 s2 hn e2 => ?_)
      walk_at "q"
      exact ⟨c, rfl, s.trans s2, s2 _ _ l, e1.same s2, e2⟩
    clear s l e1
    rintro σ1 H1 ⟨b, rfl, s, l, e1, e2⟩
    refine Evl.q_cut (M := fun σ1 H2 => σ1 = [some v, some w, some (.ref p), some (.ref a), some (.ref b)] ∧ Same H H2 ∧ H2 p = some (.lst (List.replicate 3 (.bl true)))) ?_ ?_
    · walk_at "q"
      refine ⟨.inl ⟨rfl, _, .of l⟩, ?_⟩
      walk_at "q"
      refine z_oflI rfl e1 E.x28.xf E.x28.no rfl ?_
      walk_at "q"
      refine z_oflI rfl e2 E.x28.xf E.x28.no rfl ?_
      walk_at "q"
      refine ⟨by show 2 ≤ sizeLine; decide, fun z hz => ?_⟩
      walk_at "q"
      refine ⟨by show 2 ≤ sizeLine; decide, fun y hy => ?_⟩
      walk_at "q"
      refine right_now (i := 28) rfl e1.any e2.any hz hy (.cons (dp_same s hv) (.cons (dp_same s hw) .nil)) two (by show 2 ≤ 4; decide) (fun H3 s3 => ?_)
      have l3 := s3 _ _ l
      have s4 := s.trans s3
      walk_at "q"
      refine z_app l3 (by show 2 < sizeLine; decide) ?_
      walk_at "q"
      exact ⟨rfl, same_upd s4 hp, upd_same⟩
    clear s l e1 e2
    rintro σ1 H1 ⟨rfl, s, l⟩
    refine Evl.q_cut (M := fun σ1 H2 => ∃ a, σ1 = [some v, some w, some (.ref p), some (.ref a), some (.ref b)] ∧ Same H H2 ∧ H2 p = some (.lst (List.replicate 3 (.bl true))) ∧ IsEx H2 a E.x29.C [("number", v)]) ?_ ?_
    · walk_at "q"
      refine z_mkK ?_
      walk_at "q"
      refine z_kNew1 (fun c H2 s2 hn e2 => ?_)
      walk_at "q"
      exact ⟨c, rfl, s.trans s2, s2 _ _ l, e2⟩
    clear s l
    rintro σ1 H1 ⟨a, rfl, s, l, e1⟩
    refine Evl.q_cut (M := fun σ1 H2 => ∃ b, σ1 = [some v, some w, some (.ref p), some (.ref a), some (.ref b)] ∧ Same H H2 ∧ H2 p = some (.lst (List.replicate 3 (.bl true))) ∧ IsEx H2 a E.x29.C [("number", v)] ∧ IsEx H2 b E.x29.C [("number", w)]) ?_ ?_
    · walk_at "q"
      refine z_mkK ?_
      walk_at "q"
      refine z_kNew1 (fun c H2 s2 hn e2 => ?_)
      walk_at "q"
      exact ⟨c, rfl, s.trans s2, s2 _ _ l, e1.same s2, e2⟩
    clear s l e1
    rintro σ1 H1 ⟨b, rfl, s, l, e1, e2⟩
    refine Evl.q_cut (M := fun σ1 H2 => σ1 = [some v, some w, some (.ref p), some (.ref a), some (.ref b)] ∧ Same H H2 ∧ H2 p = some (.lst (List.replicate 4 (.bl true)))) ?_ ?_
    · walk_at "q"
      refine ⟨.inl ⟨rfl, _, .of l⟩, ?_⟩
      walk_at "q"
      refine z_oflI rfl e1 E.x29.xf E.x29.no rfl ?_
      walk_at "q"
      refine z_oflI rfl e2 E.x29.xf E.x29.no rfl ?_
      walk_at "q"
      refine ⟨by show 2 ≤ sizeLine; decide, fun z hz => ?_⟩
      walk_at "q"
      refine ⟨by show 2 ≤ sizeLine; decide, fun y hy => ?_⟩
      walk_at "q"
      refine right_now (i := 29) rfl e1.any e2.any hz hy (.cons (dp_same s hv) (.cons (dp_same s hw) .nil)) two (by show 2 ≤ 4; decide) (fun H3 s3 => ?_)
      have l3 := s3 _ _ l
      have s4 := s.trans s3
      walk_at "q"
      refine z_app l3 (by show 3 < sizeLine; decide) ?_
      walk_at "q"
      exact ⟨rfl, same_upd s4 hp, upd_same⟩
    clear s l e1 e2
    rintro σ1 H1 ⟨rfl, s, l⟩
    refine Evl.q_cut (M := fun σ1 H2 => ∃ a, σ1 = [some v, some w, some (.ref p), some (.ref a), some (.ref b)] ∧ Same H H2 ∧ H2 p = some (.lst (List.replicate 4 (.bl true))) ∧ IsEx H2 a E.x37.C [("number", v)]) ?_ ?_
    · walk_at "q"
      refine z_mkK ?_
      walk_at "q"
      refine z_kNew1 (fun c H2 s2 hn e2 => ?_)
      walk_at "q"
      exact ⟨c, rfl, s.trans s2, s2 _ _ l, e2⟩
    clear s l
    rintro σ1 H1 ⟨a, rfl, s, l, e1⟩
    refine Evl.q_cut (M := fun σ1 H2 => ∃ b, σ1 = [some v, some w, some (.ref p), some (.ref a), some (.ref b)] ∧ Same H H2 ∧ H2 p = some (.lst (List.replicate 4 (.bl true))) ∧ IsEx H2 a E.x37.C [("number", v)] ∧ IsEx H2 b E.x37.C [("number", w)]) ?_ ?_
    · walk_at "q"
      refine z_mkK ?_
      walk_at "q"
      refine z_kNew1 (fun c H2 s2 hn e2 => ?_)
      walk_at "q"
      exact ⟨c, rfl, s.trans s2, s2 _ _ l, e1.same s2, e2⟩
    clear s l e1
    rintro σ1 H1 ⟨b, rfl, s, l, e1, e2⟩
    refine Evl.q_cut (M := fun σ1 H2 => σ1 = [some v, some w, some (.ref p), some (.ref a), some (.ref b)] ∧ Same H H2 ∧ H2 p = some (.lst (List.replicate 5 (.bl true)))) ?_ ?_
    · walk_at "q"
      refine ⟨.inl ⟨rfl, _, .of l⟩, ?_⟩
      walk_at "q"
      refine z_oflI rfl e1 E.x37.xf E.x37.no rfl ?_
      walk_at "q"
      refine z_oflI rfl e2 E.x37.xf E.x37.no rfl ?_
      walk_at "q"
      refine ⟨by show 2 ≤ sizeLine; decide, fun z hz => ?_⟩
      walk_at "q"
      refine ⟨by show 2 ≤ sizeLine; decide, fun y hy => ?_⟩
      walk_at "q"
      refine right_now (i := 37) rfl e1.any e2.any hz hy (.cons (dp_same s hv) (.cons (dp_same s hw) .nil)) two (by show 2 ≤ 4; decide) (fun H3 s3 => ?_)
      have l3 := s3 _ _ l
      have s4 := s.trans s3
      walk_at "q"
      refine z_app l3 (by show 4 < sizeLine; decide) ?_
      walk_at "q"
      exact ⟨rfl, same_upd s4 hp, upd_same⟩
    clear s l e1 e2
    rintro σ1 H1 ⟨rfl, s, l⟩
    refine Evl.q_cut (M := fun σ1 H2 => ∃ a, σ1 = [some v, some w, some (.ref p), some (.ref a), some (.ref b)] ∧ Same H H2 ∧ H2 p = some (.lst (List.replicate 5 (.bl true))) ∧ IsEx H2 a E.x39.C [("number", v)]) ?_ ?_
    · walk_at "q"
      refine z_mkK ?_
      walk_at "q"
      refine z_kNew1 (fun c H2 s2 hn e2 => ?_)
      walk_at "q"
      exact ⟨c, rfl, s.trans s2, s2 _ _ l, e2⟩
    clear s l
    rintro σ1 H1 ⟨a, rfl, s, l, e1⟩
    refine Evl.q_cut (M := fun σ1 H2 => ∃ b, σ1 = [some v, some w, some (.ref p), some (.ref a), some (.ref b)] ∧ Same H H2 ∧ H2 p = some (.lst (List.replicate 5 (.bl true))) ∧ IsEx H2 a E.x39.C [("number", v)] ∧ IsEx H2 b E.x39.C [("number", w)]) ?_ ?_
    · walk_at "q"
      refine z_mkK ?_
      walk_at "q"
      refine z_kNew1 (fun c H2 s2 hn e2 => ?_)
      walk_at "q"
      exact ⟨c, rfl, s.trans s2, s2 _ _ l, e1.same s2, e2⟩
    clear s l e1
    rintro σ1 H1 ⟨b, rfl, s, l, e1, e2⟩
    refine Evl.q_cut (M := fun σ1 H2 => σ1 = [some v, some w, some (.ref p), some (.ref a), some (.ref b)] ∧ Same H H2 ∧ H2 p = some (.lst (List.replicate 6 (.bl true)))) ?_ ?_
    · walk_at "q"
      refine ⟨.inl ⟨rfl, _, .of l⟩, ?_⟩
      walk_at "q"
      refine z_oflI rfl e1 E.x39.xf E.x39.no rfl ?_
      walk_at "q"
      refine z_oflI rfl e2 E.x39.xf E.x39.no rfl ?_
      walk_at "q"
      refine ⟨by show 2 ≤ sizeLine; decide, fun z hz => ?_⟩
      walk_at "q"
      refine ⟨by show 2 ≤ sizeLine; decide, fun y hy => ?_⟩
      walk_at "q"
      refine right_now (i := 39) rfl e1.any e2.any hz hy (.cons (dp_same s hv) (.cons (dp_same s hw) .nil)) two (by show 2 ≤ 4; decide) (fun H3 s3 => ?_)
      have l3 := s3 _ _ l
      have s4 := s.trans s3
      walk_at "q"
      refine z_app l3 (by show 5 < sizeLine; decide) ?_
      walk_at "q"
      exact ⟨rfl, same_upd s4 hp, upd_same⟩
    clear s l e1 e2
    rintro σ1 H1 ⟨rfl, s, l⟩
    refine Evl.q_cut (M := fun σ1 H2 => ∃ a, σ1 = [some v, some w, some (.ref p), some (.ref a), some (.ref b)] ∧ Same H H2 ∧ H2 p = some (.lst (List.replicate 6 (.bl true))) ∧ IsEx H2 a E.x40.C [("number", v)]) ?_ ?_
    · walk_at "q"
      refine z_mkK ?_
      walk_at "q"
      refine z_kNew1 (fun c H2 s2 hn e2 => ?_)
      walk_at "q"
      exact ⟨c, rfl, s.trans s2, s2 _ _ l, e2⟩
    clear s l
    rintro σ1 H1 ⟨a, rfl, s, l, e1⟩
    refine Evl.q_cut (M := fun σ1 H2 => ∃ b, σ1 = [some v, some w, some (.ref p), some (.ref a), some (.ref b)] ∧ Same H H2 ∧ H2 p = some (.lst (List.replicate 6 (.bl true))) ∧ IsEx H2 a E.x40.C [("number", v)] ∧ IsEx H2 b E.x40.C [("number", w)]) ?_ ?_
    · walk_at "q"
      refine z_mkK ?_
      walk_at "q"
      refine z_kNew1 (fun c H2 s2 hn e2 => ?_)
      walk_at "q"
      exact ⟨c, rfl, s.trans s2, s2 _ _ l, e1.same s2, e2⟩
    clear s l e1
    rintro σ1 H1 ⟨b, rfl, s, l, e1, e2⟩
    refine Evl.q_cut (M := fun σ1 H2 => σ1 = [some v, some w, some (.ref p), some (.ref a), some (.ref b)] ∧ Same H H2 ∧ H2 p = some (.lst (List.replicate 7 (.bl true)))) ?_ ?_
    · walk_at "q"
      refine ⟨.inl ⟨rfl, _, .of l⟩, ?_⟩
      walk_at "q"
      refine z_oflI rfl e1 E.x40.xf E.x40.no rfl ?_
      walk_at "q"
      refine z_oflI rfl e2 E.x40.xf E.x40.no rfl ?_
      walk_at "q"
      refine ⟨by show 2 ≤ sizeLine; decide, fun z hz => ?_⟩
      walk_at "q"
      refine ⟨by show 2 ≤ sizeLine; decide, fun y hy => ?_⟩
      walk_at "q"
      refine right_now (i := 40) rfl e1.any e2.any hz hy (.cons (dp_same s hv) (.cons (dp_same s hw) .nil)) two (by show 2 ≤ 4; decide) (fun H3 s3 => ?_)
      have l3 := s3 _ _ l
      have s4 := s.trans s3
      walk_at "q"
      refine z_app l3 (by show 6 < sizeLine; decide) ?_
      walk_at "q"
      exact ⟨rfl, same_upd s4 hp, upd_same⟩
    clear s l e1 e2
    rintro σ1 H1 ⟨rfl, s, l⟩
    refine Evl.q_cut (M := fun σ1 H2 => ∃ a, σ1 = [some v, some w, some (.ref p), some (.ref a), some (.ref b)] ∧ Same H H2 ∧ H2 p = some (.lst (List.replicate 7 (.bl true))) ∧ IsEx H2 a E.x43.C [("number", v)]) ?_ ?_
    · walk_at "q"
      refine z_mkK ?_
      walk_at "q"
      refine z_kNew1 (fun c H2 s2 hn e2 => ?_)
      walk_at "q"
      exact ⟨c, rfl, s.trans s2, s2 _ _ l, e2⟩
    clear s l
    rintro σ1 H1 ⟨a, rfl, s, l, e1⟩
    refine Evl.q_cut (M := fun σ1 H2 => ∃ b, σ1 = [some v, some w, some (.ref p), some (.ref a), some (.ref b)] ∧ Same H H2 ∧ H2 p = some (.lst (List.replicate 7 (.bl true))) ∧ IsEx H2 a E.x43.C [("number", v)] ∧ IsEx H2 b E.x43.C [("number", w)]) ?_ ?_
    · walk_at "q"
      refine z_mkK ?_
      walk_at "q"
      refine z_kNew1 (fun c H2 s2 hn e2 => ?_)
      walk_at "q"
      exact ⟨c, rfl, s.trans s2, s2 _ _ l, e1.same s2, e2⟩
    clear s l e1
    rintro σ1 H1 ⟨b, rfl, s, l, e1, e2⟩
    refine Evl.q_cut (M := fun σ1 H2 => σ1 = [some v, some w, some (.ref p), some (.ref a), some (.ref b)] ∧ Same H H2 ∧ H2 p = some (.lst (List.replicate 8 (.bl true)))) ?_ ?_
    · walk_at "q"
      refine ⟨.inl ⟨rfl, _, .of l⟩, ?_⟩
      walk_at "q"
      refine z_oflI rfl e1 E.x43.xf E.x43.no rfl ?_
      walk_at "q"
      refine z_oflI rfl e2 E.x43.xf E.x43.no rfl ?_
      walk_at "q"
      refine ⟨by show 2 ≤ sizeLine; decide, fun z hz => ?_⟩
      walk_at "q"
      refine ⟨by show 2 ≤ sizeLine; decide, fun y hy => ?_⟩
      walk_at "q"
      refine right_now (i := 43) rfl e1.any e2.any hz hy (.cons (dp_same s hv) (.cons (dp_same s hw) .nil)) two (by show 2 ≤ 4; decide) (fun H3 s3 => ?_)
      have l3 := s3 _ _ l
      have s4 := s.trans s3
      walk_at "q"
      refine z_app l3 (by show 7 < sizeLine; decide) ?_
      walk_at "q"
      exact ⟨rfl, same_upd s4 hp, upd_same⟩
    clear s l e1 e2
    rintro σ1 H1 ⟨rfl, s, l⟩
    refine Evl.q_cut (M := fun σ1 H2 => ∃ a, σ1 = [some v, some w, some (.ref p), some (.ref a), some (.ref b)] ∧ Same H H2 ∧ H2 p = some (.lst (List.replicate 8 (.bl true))) ∧ IsEx H2 a E.x54.C [("number", v)]) ?_ ?_
    · walk_at "q"
      refine z_mkK ?_
      walk_at "q"
      refine z_kNew1 (fun c H2 s2 hn e2 => ?_)
      walk_at "q"
      exact ⟨c, rfl, s.trans s2, s2 _ _ l, e2⟩
    clear s l
    rintro σ1 H1 ⟨a, rfl, s, l, e1⟩
    refine Evl.q_cut (M := fun σ1 H2 => ∃ b, σ1 = [some v, some w, some (.ref p), some (.ref a), some (.ref b)] ∧ Same H H2 ∧ H2 p = some (.lst (List.replicate 8 (.bl true))) ∧ IsEx H2 a E.x54.C [("number", v)] ∧ IsEx H2 b E.x54.C [("number", w)]) ?_ ?_
    · walk_at "q"
      refine z_mkK ?_
      walk_at "q"
      refine z_kNew1 (fun c H2 s2 hn e2 => ?_)
      walk_at "q"
      exact ⟨c, rfl, s.trans s2, s2 _ _ l, e1.same s2, e2⟩
    clear s l e1
    rintro σ1 H1 ⟨b, rfl, s, l, e1, e2⟩
    refine Evl.q_cut (M := fun σ1 H2 => σ1 = [some v, some w, some (.ref p), some (.ref a), some (.ref b)] ∧ Same H H2 ∧ H2 p = some (.lst (List.replicate 9 (.bl true)))) ?_ ?_
    · walk_at "q"
      refine ⟨.inl ⟨rfl, _, .of l⟩, ?_⟩
      walk_at "q"
      refine z_oflI rfl e1 E.x54.xf E.x54.no rfl ?_
      walk_at "q"
      refine z_oflI rfl e2 E.x54.xf E.x54.no rfl ?_
      walk_at "q"
      refine ⟨by show 2 ≤ sizeLine; decide, fun z hz => ?_⟩
      walk_at "q"
      refine ⟨by show 2 ≤ sizeLine; decide, fun y hy => ?_⟩
      walk_at "q"
      refine right_now (i := 54) rfl e1.any e2.any hz hy (.cons (dp_same s hv) (.cons (dp_same s hw) .nil)) two (by show 2 ≤ 4; decide) (fun H3 s3 => ?_)
      have l3 := s3 _ _ l
      have s4 := s.trans s3
      walk_at "q"
      refine z_app l3 (by show 8 < sizeLine; decide) ?_
      walk_at "q"
      exact ⟨rfl, same_upd s4 hp, upd_same⟩
    clear s l e1 e2
    rintro σ1 H1 ⟨rfl, s, l⟩
    refine Evl.q_cut (M := fun σ1 H2 => ∃ a, σ1 = [some v, some w, some (.ref p), some (.ref a), some (.ref b)] ∧ Same H H2 ∧ H2 p = some (.lst (List.replicate 9 (.bl true))) ∧ IsEx H2 a E.x57.C [("line", v)]) ?_ ?_
    · walk_at "q"
      refine z_mkK ?_
      walk_at "q"
      refine z_kNew1 (fun c H2 s2 hn e2 => ?_)
      walk_at "q"
      exact ⟨c, rfl, s.trans s2, s2 _ _ l, e2⟩
    clear s l
    rintro σ1 H1 ⟨a, rfl, s, l, e1⟩
    refine Evl.q_cut (M := fun σ1 H2 => ∃ b, σ1 = [some v, some w, some (.ref p), some (.ref a), some (.ref b)] ∧ Same H H2 ∧ H2 p = some (.lst (List.replicate 9 (.bl true))) ∧ IsEx H2 a E.x57.C [("line", v)] ∧ IsEx H2 b E.x57.C [("line", w)]) ?_ ?_
    · walk_at "q"
      refine z_mkK ?_
      walk_at "q"
      refine z_kNew1 (fun c H2 s2 hn e2 => ?_)
      walk_at "q"
      exact ⟨c, rfl, s.trans s2, s2 _ _ l, e1.same s2, e2⟩
    clear s l e1
    rintro σ1 H1 ⟨b, rfl, s, l, e1, e2⟩
    refine Evl.q_cut (M := fun σ1 H2 => σ1 = [some v, some w, some (.ref p), some (.ref a), some (.ref b)] ∧ Same H H2 ∧ H2 p = some (.lst (List.replicate 10 (.bl true)))) ?_ ?_
    · walk_at "q"
      refine ⟨.inl ⟨rfl, _, .of l⟩, ?_⟩
      walk_at "q"
      refine z_oflI rfl e1 E.x57.xf E.x57.no rfl ?_
      walk_at "q"
      refine z_oflI rfl e2 E.x57.xf E.x57.no rfl ?_
      walk_at "q"
      refine ⟨by show 2 ≤ sizeLine; decide, fun z hz => ?_⟩
      walk_at "q"
      refine ⟨by show 2 ≤ sizeLine; decide, fun y hy => ?_⟩
      walk_at "q"
      refine right_now (i := 57) rfl e1.any e2.any hz hy (.cons (dp_same s hv) (.cons (dp_same s hw) .nil)) two (by show 2 ≤ 4; decide) (fun H3 s3 => ?_)
      have l3 := s3 _ _ l
      have s4 := s.trans s3
      walk_at "q"
      refine z_app l3 (by show 9 < sizeLine; decide) ?_
      walk_at "q"
      exact ⟨rfl, same_upd s4 hp, upd_same⟩
    clear s l e1 e2
    rintro σ1 H1 ⟨rfl, s, l⟩
    walk_at "q"
    have l2 : SqL K H1 p ((List.replicate 10 true).map V.bl) := .of l
    refine z_all l2 ?_
    walk_at "q"
    exact q _ s
end
end K6
set_option maxHeartbeats 8000000
open PySem PySem.Spec PyProof.Rows L2 TB in
theorem TB.Dr.keep {K : PySem.W.Frag} {G H H' : Hp} {a : Addr} (d : Dr K G H a) (s : Same H H') : Dr K G H' a := by
  obtain ⟨x, u, c, ns, x1, x2, x3, x4, x5, h, r⟩ := d
  exact ⟨x.trans s, u, c, ns, x1, x2, x3, x4, x5, s _ _ h, r⟩
open PySem PySem.Spec PyProof.Rows L2 TB in
theorem TB.FnG.mono {P : Program} {w : World} {K : PySem.W.Frag} {mg : Str → Option Value} {base : Heap} {CX : CXT} {j k : Nat} {f : Addr} {fd : FuncData} {ps : List Str} {sp : Sp} (F : FnG P w K mg base CX j f fd ps sp) (h : j ≤ k) : FnG P w K mg base CX k f fd ps sp :=
  ⟨F.len, fun A o s H args us vs Q E hgd hr => F.run A o s H args us vs Q E hgd (hr.mono h)⟩
namespace K6
open PySem PySem.Spec PyProof.Rows L2 TB
open SX (S S_len S_cat)
local macro_rules | `(tactic| walk_at "side") => `(tactic| first
  | (focus exact Or.inr ⟨by decide, by decide⟩)
  | (focus exact TB.cmul_mod (by decide) (by decide))
  | (focus exact Or.inl ⟨by decide, by decide⟩)
  | (focus exact ⟨by decide, by decide⟩)
  | (focus exact ⟨by decide, by decide +kernel⟩)
  | (focus (show (0 : Int) < _; first | decide | omega | assumption))
  | (focus assumption)
  | (focus exact ⟨by omega, by omega⟩)
  | (focus (show (_ : Nat) ≤ sizeLine; rw [sizeLine_eq]; first | decide | omega))
  | (focus (show (_ : Nat) < sizeLine; rw [sizeLine_eq]; first | decide | omega))
  | rotate_left)
local macro_rules | `(tactic| walk_at "q1") => `(tactic| first
  | with_reducible refine TB.z_seq ?_
  | with_reducible refine TB.z_asg ?_
  | with_reducible refine TB.z_drop ?_
  | with_reducible refine TB.z_ret ?_
  | with_reducible refine TB.z_retN ?_
  | with_reducible refine TB.z_next ?_
  | with_reducible refine TB.z_brk ?_
  | with_reducible refine TB.z_cont ?_
  | with_reducible refine TB.z_if ?_
  | with_reducible refine TB.z_name ?_
  | with_reducible refine TB.z_sub ?_
  | ((with_reducible show L2.tVar _ _ _ _); refine TB.z_var rfl ?_)
  | with_reducible refine TB.z_c ?_
  | with_reducible refine TB.z_op ?_
  | with_reducible refine TB.z_un ?_
  | with_reducible refine TB.z_lt ?_
  | with_reducible refine TB.z_le ?_
  | with_reducible refine TB.z_gt ?_
  | with_reducible refine TB.z_ge ?_
  | with_reducible refine TB.z_eqI ?_
  | with_reducible refine TB.z_neI ?_
  | with_reducible refine TB.z_eqS ?_
  | with_reducible refine TB.z_neS ?_
  | with_reducible refine TB.z_I0 ?_
  | ((with_reducible refine TB.z_I ?_ ?_); walk_at "side")
  | with_reducible refine TB.z_U ?_
  | with_reducible refine TB.z_test ?_
  | with_reducible refine TB.z_tB ?_
  | with_reducible refine TB.z_bl ?_
  | with_reducible refine TB.z_and ?_
  | with_reducible refine TB.z_or ?_
  | with_reducible refine TB.z_not ?_
  | with_reducible refine TB.z_notV ?_
  | with_reducible refine TB.z_andV ?_
  | with_reducible refine TB.z_orV ?_
  | with_reducible refine TB.z_ifE ?_
  | with_reducible refine TB.z_iteT ?_
  | with_reducible refine TB.z_iteF ?_
  | with_reducible refine TB.z_iteNT ?_
  | with_reducible refine TB.z_iteNF ?_
  | with_reducible refine TB.z_cb ?_
  | with_reducible refine TB.z_call ?_
  | with_reducible refine TB.z_nil ?_
  | with_reducible refine TB.z_cons ?_
  | with_reducible refine TB.z_tup ?_
  | with_reducible refine TB.z_lst ?_
  | with_reducible refine TB.z_rInt ?_
  | with_reducible refine TB.z_rAbs ?_
  | ((with_reducible refine TB.z_rLenS ?_ ?_); walk_at "side")
  | ((with_reducible show TB.rLen _ _ _ _); first
      | refine TB.z_rLen (Or.inl (SqL.of L2.upd_same)) ?_
      | refine TB.z_rLen (Or.inl (SqL.of (by assumption))) ?_
      | refine TB.z_rLen (Or.inr (SqT.of (by assumption))) ?_
      | refine TB.z_rLen (Or.inl (by first | assumption | apply_assumption)) ?_
      | refine TB.z_rLen (Or.inr (by first | assumption | apply_assumption)) ?_)
  | ((with_reducible show L2.rIxL _ _ _ _ _); first
      | refine TB.z_ixL (SqL.of L2.upd_same) rfl ?_
      | refine TB.z_ixL (SqL.of (by assumption)) rfl ?_
      | refine TB.z_ixL (by first | assumption | apply_assumption) (by first | assumption | rfl) ?_)
  | ((with_reducible show L2.rIxT _ _ _ _ _); first
      | refine TB.z_ixT (SqT.of L2.upd_same) rfl ?_
      | refine TB.z_ixT (SqT.of (by assumption)) rfl ?_
      | refine TB.z_ixT (by first | assumption | apply_assumption) (by first | assumption | rfl) ?_)
  | ((with_reducible show L2.rSetL _ _ _ _ _); refine TB.z_setU rfl ?_)
  | with_reducible refine TB.z_lcR ?_
  | with_reducible refine TB.z_m1 ?_
  | with_reducible refine TB.z_lcL ?_
  | with_reducible refine TB.z_bm ?_
  | with_reducible refine TB.z_bm0 ?_)
local macro_rules | `(tactic| walk_at "q") => `(tactic| repeat walk_at "q1")
local macro_rules | `(tactic| walk_at "qq") => `(tactic| repeat' (first
  | walk_at "q1"
  | with_reducible refine TB.z_ite (fun hq => ?_) (fun hq => ?_)
  | with_reducible refine TB.z_iteN (fun hq => ?_) (fun hq => ?_)
  | with_reducible refine TB.z_iteB (fun hq => ?_) (fun hq => ?_)))

theorem sc_law : FnScope ["script", "draw", "thing", "other", "before", "number", "count", "word"] ["script"] (defScope s_law) := ⟨rfl, rfl, rfl, by decide +kernel, rfl, by decide +kernel, by decide +kernel⟩

/-- the defs of the law's text -/
structure Defs (K : PySem.W.Frag) (mg : Str → Option Value) where
  law : Df K mg "law" s_law ["script"]
  draw : Df K mg "_law_draw" s__law_draw ["script"]
  mix : Df K mg "_law_mix" s__law_mix ["cell", "turn"]
  pick : Df K mg "_law_pick" s__law_pick ["draw", "many"]
  string : Df K mg "_law_string" s__law_string ["draw", "most"]
  thing : Df K mg "_law_thing" s__law_thing ["draw", "depth"]
  flags : Df K mg "_law_flags" s__law_flags ["made"]
  right : Df K mg "_law_right" s__law_right ["at", "one", "two", "told", "due"]
  ft : Df K mg "_law_first_things" s__law_first_things ["thing", "other"]
  ot : Df K mg "_law_other_things" s__law_other_things ["thing", "other"]
  fn : Df K mg "_law_first_numbers" s__law_first_numbers ["thing", "other"]
  on : Df K mg "_law_other_numbers" s__law_other_numbers ["thing", "other"]
  st : Df K mg "_law_strings" s__law_strings ["thing", "other"]
def spLaw (K : PySem.W.Frag) : Sp := fun vs H Q _ => ∃ (a : Addr) (ns : List Int), vs = [.ref a] ∧ SqL K H a (ns.map V.int) ∧ ns.length ≤ 63 ∧ ∀ H', Q (.bl true) H'
section
variable {P : Program} {w : World} {K : PySem.W.Frag} {mg : Str → Option Value} {base : Heap}
theorem ok_law (D : Defs K mg) (B : Bi mg) (E : AllEx P w K mg base) (k : KitOk K E.cs E.tail) : FnG P w K mg base CX0 7 D.law.f D.law.fd ["script"] (spLaw K) := by
  have D_law_draw := D.draw
  have D_law_pick := D.pick
  have D_law_thing := D.thing
  have D_law_string := D.string
  have D_law_first_things := D.ft
  have D_law_other_things := D.ot
  have D_law_first_numbers := D.fn
  have D_law_other_numbers := D.on
  have D_law_strings := D.st
  have G_law_draw : FnOk P w K mg base CX0 6 D_law_draw.f D_law_draw.fd ["script"] (spDraw K) := (ok_draw D_law_draw B).mono (by decide)
  have G_law_pick : FnOk P w K mg base CX0 6 D_law_pick.f D_law_pick.fd ["draw", "many"] (spPick K) := (ok_pick D_law_pick D.mix B).mono (by decide)
  have G_law_string : FnOk P w K mg base CX0 6 D_law_string.f D_law_string.fd ["draw", "most"] (spString K) := (ok_string D_law_string D_law_pick D.mix B).mono (by decide)
  have G_law_thing : FnOk P w K mg base CX0 6 D_law_thing.f D_law_thing.fd ["draw", "depth"] (spThing K 2) := ok_thing D_law_thing D_law_string D_law_pick D.mix B 2 (by decide)
  have G_law_first_things : FnG P w K mg base CX0 6 D_law_first_things.f D_law_first_things.fd ["thing", "other"] (spPair K) := (ok_law_first_things D_law_first_things D.right D.flags B E k).mono (by decide)
  have G_law_other_things : FnG P w K mg base CX0 6 D_law_other_things.f D_law_other_things.fd ["thing", "other"] (spPair K) := (ok_law_other_things D_law_other_things D.right D.flags B E k).mono (by decide)
  have G_law_first_numbers : FnG P w K mg base CX0 6 D_law_first_numbers.f D_law_first_numbers.fd ["thing", "other"] (spPair K) := (ok_law_first_numbers D_law_first_numbers D.right D.flags B E k).mono (by decide)
  have G_law_other_numbers : FnG P w K mg base CX0 6 D_law_other_numbers.f D_law_other_numbers.fd ["thing", "other"] (spPair K) := (ok_law_other_numbers D_law_other_numbers D.right D.flags B E k).mono (by decide)
  have G_law_strings : FnG P w K mg base CX0 6 D_law_strings.f D_law_strings.fd ["thing", "other"] (spPair K) := (ok_law_strings D_law_strings D.right D.flags B E k).mono (by decide)
  refine okG D.law.F sc_law (fun vs H Q E h => ?_) (fun cdv A outer s H vs Q E' hgd hr h => ?_)
  · obtain ⟨_, _, rfl, _⟩ := h
    rfl
  · obtain ⟨a, ns, rfl, hS, hn, q⟩ := h
    refine ⟨_, (pss_cons (ps_set (i := 1) sc_law.nd rfl (Or.inl rfl) (pe_call G_law_draw hr (by rfl) D_law_draw.g D_law_draw.F.kp D_law_draw.b .nil pass0 (pa_cons (pv 0) pa_nil)))
 (pss_cons (ps_set (i := 2) sc_law.nd rfl (Or.inl rfl) (pe_call G_law_thing hr (by rfl) D_law_thing.g D_law_thing.F.kp D_law_thing.b .nil pass0 (pa_cons (pv 1) (pa_cons pe_int pa_nil))))
 (pss_cons (ps_set (i := 3) sc_law.nd rfl (Or.inl rfl) (pe_call G_law_thing hr (by rfl) D_law_thing.g D_law_thing.F.kp D_law_thing.b .nil pass0 (pa_cons (pv 1) (pa_cons pe_int pa_nil))))
 (Evl.pss_cut (ps_if (pt_cmpR op_eq (pe_callB (c_repr hgd hr.units) (by rfl) B.repr (by decide +kernel) (pa_cons (pv 3) pa_nil)) (pe_callB (c_repr hgd hr.units) (by rfl) B.repr (by decide +kernel) (pa_cons (pv 2) pa_nil)) (nomark _)) (pss_one (ps_set (i := 3) sc_law.nd rfl (Or.inl rfl) (pe_tup (pa_cons (pv 3) (pa_cons (pv 2) pa_nil))))) pss_nil)
 (pss_cons (ps_set (i := 4) sc_law.nd rfl (Or.inl rfl) (pe_callB (c_repr hgd hr.units) (by rfl) B.repr (by decide +kernel) (pa_cons (pe_tup (pa_cons (pv 2) (pa_cons (pv 3) pa_nil))) pa_nil)))
 (pss_cons (ps_if (PW.pt (pw_or (pt_not (pt_val (pe_callG G_law_first_things hgd hr (by rfl) D_law_first_things.g D_law_first_things.F.kp D_law_first_things.b .nil pass0 (pa_cons (pv 2) (pa_cons (pv 3) pa_nil))))) (pw_or1 (pt_not (pt_val (pe_callG G_law_other_things hgd hr (by rfl) D_law_other_things.g D_law_other_things.F.kp D_law_other_things.b .nil pass0 (pa_cons (pv 2) (pa_cons (pv 3) pa_nil)))))))) (pss_one (ps_ret pe_bl)) pss_nil)
 (pss_cons (ps_set (i := 5) sc_law.nd rfl (Or.inl rfl) (pe_op op_sub (pe_call G_law_pick hr (by rfl) D_law_pick.g D_law_pick.F.kp D_law_pick.b .nil pass0 (pa_cons (pv 1) (pa_cons pe_int pa_nil))) pe_int))
 (pss_cons (ps_set (i := 6) sc_law.nd rfl (Or.inl rfl) (pe_op op_add (pe_op op_add (pv 5) pe_int) (pe_call G_law_pick hr (by rfl) D_law_pick.g D_law_pick.F.kp D_law_pick.b .nil pass0 (pa_cons (pv 1) (pa_cons pe_int pa_nil)))))
 (pss_cons (ps_if (PW.pt (pw_or (pt_not (pt_val (pe_callG G_law_first_numbers hgd hr (by rfl) D_law_first_numbers.g D_law_first_numbers.F.kp D_law_first_numbers.b .nil pass0 (pa_cons (pv 5) (pa_cons (pv 6) pa_nil))))) (pw_or1 (pt_not (pt_val (pe_callG G_law_other_numbers hgd hr (by rfl) D_law_other_numbers.g D_law_other_numbers.F.kp D_law_other_numbers.b .nil pass0 (pa_cons (pv 6) (pa_cons (pv 5) pa_nil)))))))) (pss_one (ps_ret pe_bl)) pss_nil)
 (pss_cons (ps_set (i := 7) sc_law.nd rfl (Or.inl rfl) (pe_call G_law_string hr (by rfl) D_law_string.g D_law_string.F.kp D_law_string.b .nil pass0 (pa_cons (pv 1) (pa_cons pe_int pa_nil))))
 (pss_cons (ps_if (PW.pt (pw_or (pt_not (pt_val (pe_callG G_law_strings hgd hr (by rfl) D_law_strings.g D_law_strings.F.kp D_law_strings.b .nil pass0 (pa_cons (pv 7) (pa_cons (pe_op o_addS (pv 7) pe_str) pa_nil))))) (pw_or1 (pt_not (pt_val (pe_callG G_law_strings hgd hr (by rfl) D_law_strings.g D_law_strings.F.kp D_law_strings.b .nil pass0 (pa_cons pe_str (pa_cons (pv 7) pa_nil)))))))) (pss_one (ps_ret pe_bl)) pss_nil)
 (pss_one (ps_ret (pe_cmpR op_eq (pe_callB (c_repr hgd hr.units) (by rfl) B.repr (by decide +kernel) (pa_cons (pe_tup (pa_cons (pv 2) (pa_cons (pv 3) pa_nil))) pa_nil)) (pv 4) (nomark _))))))))))))))), ?_⟩
    dsimp only [L2.cxOf, L2.Cx.nox, L2.Cx.wish]
    walk_at "q"
    refine ⟨a, ns, rfl, hS, hn, fun d G H1 sG hd d1 => ?_⟩
    walk_at "q"
    refine ⟨d, G, rfl, d1, fun v dv G1 H2 d2 g2 hv sv => ?_⟩
    walk_at "q"
    refine ⟨d, G1, rfl, d2, fun w dw G2 H3 d3 g3 hw sw => ?_⟩
    walk_at "q"
    have hv2 := dp_same g3.gs hv
    refine Evl.q_cut (M := fun σ1 H4 => ∃ w2 dw2 G3, σ1 = [some (.ref a), some (.ref d), some v, some w2, none, none, none, none] ∧ Dr K G3 H4 d ∧ Dp K G3 v dv ∧ Dp K G3 w2 dw2 ∧ Small 3 dw2) ?_ ?_
    · walk_at "q"
      refine z_repr (dp_same d3.same hw) sw (by decide) ?_
      walk_at "q"
      refine z_repr (dp_same d3.same hv2) sv (by decide) ?_
      walk_at "q"
      refine z_ite (fun _ => ?_) (fun _ => ?_)
      · walk_at "q"
        refine ⟨by show 2 ≤ sizeLine; decide, fun p hp => ?_⟩
        walk_at "q"
        have gp := d3.same.free hp
        have np := d3.new_ne hp
        have s4 : Same G2 (upd G2 p (.tup [w, v])) := same_upd (.refl _) gp
        refine ⟨_, .tuple [dw, dv], upd G2 p (.tup [w, v]), rfl, (d3.other gp np).told s4 (fun b u e => ?_) ?_, dp_same s4 hv2, .tup (.of upd_same) (.cons (dp_same s4 hw) (.cons (dp_same s4 hv2) .nil)), small_tup (fun x hx => ?_) (by show 2 ≤ 4; decide)⟩
        · by_cases z : b = p
          · subst z
            rw [upd_same] at e ⊢
            exact e
          · rw [upd_ne z] at e ⊢
            exact d3.same _ _ e
        · rw [upd_ne (Ne.symm np)]
          exact d3.out
        · rcases List.mem_cons.mp hx with h1 | h1
          · exact h1 ▸ sw
          · exact List.mem_singleton.mp h1 ▸ sv
      · walk_at "q"
        exact ⟨_, dw, G2, rfl, d3, hv2, hw, small_mono sw (by decide)⟩
    clear d1 d2 d3 g2 g3 hv hw hv2 sw
    rintro σ1 H4 ⟨w2, dw2, G3, rfl, d4, hv, hw, sw⟩
    have sv3 := small_mono sv (show 2 ≤ 3 by decide)
    have s44 : Small 4 (.tuple [dv, dw2]) := small_tup (fun x hx => by
      rcases List.mem_cons.mp hx with h1 | h1
      · exact h1 ▸ sv3
      · exact List.mem_singleton.mp h1 ▸ sw) (by show 2 ≤ 4; decide)
    have tt : ∀ {H5 : Hp} {p : Addr}, Same G3 H5 → H5 p = none → Dp K (upd H5 p (.tup [v, w2])) (.ref p) (.tuple [dv, dw2]) := fun {H5 p} s5 hp =>
      let s6 := s5.trans (same_upd (o := .tup [v, w2]) (.refl _) hp)
      .tup (.of upd_same) (.cons (dp_same s6 hv) (.cons (dp_same s6 hw) .nil))
    walk_at "q"
    refine ⟨by show 2 ≤ sizeLine; decide, fun p hp => ?_⟩
    walk_at "q"
    refine z_repr (tt d4.same hp) s44 (by decide) ?_
    walk_at "q"
    have d5 := d4.other (o := .tup [v, w2]) (d4.same.free hp) (d4.new_ne hp)
    refine ⟨v, w2, dv, dw2, rfl, dp_same d5.same hv, dp_same d5.same hw, sv3, sw, fun H6 s6 => ?_⟩
    have d6 := Dr.keep d5 s6
    walk_at "q"
    refine ⟨v, w2, dv, dw2, rfl, dp_same d6.same hv, dp_same d6.same hw, sv3, sw, fun H7 s7 => ?_⟩
    have d7 := Dr.keep d6 s7
    clear d5 d6 s6 s7
    walk_at "q"
    refine ⟨d, 400, G3, rfl, by decide, d7, fun o8 r8 d8 r80 r81 => ?_⟩
    walk_at "q"
    refine ⟨d, 1000, G3, rfl, by decide, d8, fun o9 r9 d9 r90 r91 => ?_⟩
    walk_at "q"
    refine ⟨_, _, _, _, rfl, .int _, .int _, small_int 3 (by omega), small_int 3 (by omega), fun H10 s10 => ?_⟩
    have d10 := Dr.keep d9 s10
    walk_at "q"
    refine ⟨_, _, _, _, rfl, .int _, .int _, small_int 3 (by omega), small_int 3 (by omega), fun H11 s11 => ?_⟩
    have d11 := Dr.keep d10 s11
    clear d7 d8 d9 d10 s10 s11
    walk_at "q"
    refine ⟨d, 8, G3, rfl, by decide, by decide, d11, fun l H12 hl hc d12 sb => ?_⟩
    walk_at "q"
    refine ⟨_, _, rfl, rfl, by rw [S_len, sizeLine_eq]; show _ + 1 ≤ _; omega, ?_⟩
    walk_at "q"
    refine ⟨_, _, _, _, rfl, .str _, .str _, small_str 3 (by omega) hc, ?_, fun H13 s13 => ?_⟩
    · exact (small_str (l := l ++ [113]) 3 (by rw [List.length_append]; show _ + 1 ≤ _; omega) (fun c hcm => by
        rcases List.mem_append.mp hcm with h1 | h1
        · exact hc c h1
        · rw [List.mem_singleton.mp h1]
          decide) : Small 3 (.str (S (l ++ [113])))) |> fun z => by
        rw [← S_cat] at z
        exact z
    have d13 := Dr.keep d12 s13
    walk_at "q"
    refine ⟨_, _, _, _, rfl, .str _, .str _, small_str (l := [98, 101, 116, 119, 101, 101, 110]) 3 (by decide) (by decide), small_str 3 (by omega) hc, fun H14 s14 => ?_⟩
    have d14 := Dr.keep d13 s14
    walk_at "q"
    refine ⟨by show 2 ≤ sizeLine; decide, fun p2 hp2 => ?_⟩
    walk_at "q"
    refine z_repr (tt d14.same hp2) s44 (by decide) ?_
    walk_at "q"
    rw [decide_eq_true rfl]
    exact q _
end
end K6
set_option maxHeartbeats 4000000
namespace TB
open PySem PySem.Spec PyProof.Rows L2
/-! ### the program's own error classes, read off the heap -/
theorem noneB_ok {K : PySem.W.Frag} {ns : Addr} {names : List Str} (h : noneB K ns names = true) {n : Str} (hn : n ∈ names) : PySem.W.nsIn K ns n = some none := by
  unfold noneB at h
  cases q : K.lookup ns with
  | none =>
    rw [q] at h
    cases h
  | some o =>
    obtain ⟨oc, od, dt, osl⟩ := o
    rw [q] at h
    cases dt with
    | dict es m =>
      have h1 : (es.toList.all fun e => !e.refKey && names.all fun n => !e.key.isStr n) = true := h
      have h2 := List.all_eq_true.mp h1
      unfold PySem.W.nsIn
      rw [q]
      have f0 : es.toList.find? (·.key.isStr n) = none := by
        rw [List.find?_eq_none]
        intro e he z
        have h3 := List.all_eq_true.mp (Bool.and_eq_true_iff.mp (h2 e he)).2 n hn
        rw [z] at h3
        cases h3
      have f1 : es.toList.any (·.refKey) = false := by
        rw [List.any_eq_false]
        intro e he z
        have h3 := (Bool.and_eq_true_iff.mp (h2 e he)).1
        rw [z] at h3
        cases h3
      show (match es.toList.find? (·.key.isStr n) with
        | some e => some (some e.val)
        | none => if es.toList.any (·.refKey) then none else some none) = some none
      rw [f0]
      show (if es.toList.any (·.refKey) = true then none else some none) = some none
      rw [f1]
      exact if_neg (by simp)
    | _ => cases h
theorem mroB_ok {C T : Addr} {m : List Value} (h : mroB C T m = true) : m = .ref C :: .ref T :: PySem.HandSPX.veTail := by
  unfold mroB at h
  split at h
  · obtain ⟨h1, h⟩ := Bool.and_eq_true_iff.mp h
    obtain ⟨h2, h⟩ := Bool.and_eq_true_iff.mp h
    obtain ⟨h3, h⟩ := Bool.and_eq_true_iff.mp h
    obtain ⟨h4, h⟩ := Bool.and_eq_true_iff.mp h
    obtain ⟨h5, h6⟩ := Bool.and_eq_true_iff.mp h
    rw [of_decide_eq_true h1, of_decide_eq_true h2, of_decide_eq_true h3, of_decide_eq_true h4, of_decide_eq_true h5, of_decide_eq_true h6]
  · cases h
/-- a class that stands on T, which stands on ValueError; of these names it says nothing -/
structure Ecl (K : PySem.W.Frag) (T : Addr) (names : List Str) (C : Addr) : Prop where
  cls : ∃ nm q N bs sn sub ab col dd k0 k1 k2 k3 k5, K.lookup C = some (excClassObj nm q C N bs (.ref T :: PySem.HandSPX.veTail) true sn sub ab col dd k0 k1 k2 k3 k5 "ValueError.__new__") ∧ ∀ n ∈ names, PySem.W.nsIn K N n = some none
theorem eclB_ok {K : PySem.W.Frag} {T C : Addr} {names : List Str} (h : eclB K T names C = true) : Ecl K T names C := by
  unfold eclB at h
  split at h
  · rename_i t dd cd sl q
    obtain ⟨h1, h⟩ := Bool.and_eq_true_iff.mp h
    obtain ⟨h2, h⟩ := Bool.and_eq_true_iff.mp h
    obtain ⟨h3, h⟩ := Bool.and_eq_true_iff.mp h
    obtain ⟨h4, h⟩ := Bool.and_eq_true_iff.mp h
    obtain ⟨h5, h6⟩ := Bool.and_eq_true_iff.mp h
    have e1 := of_decide_eq_true h1
    have e2 := mroB_ok h2
    obtain ⟨nm, bs, mro, ns, qn, hd, sn, sub, ab, col, del⟩ := cd
    dsimp only at e2 h3 h4 h6
    subst e1 e2 h3
    have e4 : del = false := by
      cases del
      · rfl
      · cases h4
    subst e4
    unfold slB at h5
    split at h5
    · rename_i k0 k1 k2 k3 n k5 hs
      have e5 := of_decide_eq_true h5
      subst e5
      have hsl : sl = #[k0, k1, k2, k3, some (.builtin "ValueError.__new__"), k5] := by
        obtain ⟨l⟩ := sl
        simp only at hs
        rw [hs]
      subst hsl
      exact ⟨nm, qn, ns, bs, sn, sub, ab, col, dd, k0, k1, k2, k3, k5, q, fun n hn => noneB_ok h6 hn⟩
    · cases h5
  · cases h
structure Tcl (K : PySem.W.Frag) (names : List Str) (T : Addr) : Prop where
  cls : ∃ dd cd sl, K.lookup T = some ⟨.type "type", dd, .cls cd, sl⟩ ∧ ∀ n ∈ names, PySem.W.nsIn K cd.ns n = some none
theorem tclB_ok {K : PySem.W.Frag} {T : Addr} {names : List Str} (h : tclB K names T = true) : Tcl K names T := by
  unfold tclB at h
  split at h
  · rename_i t dd cd sl q
    obtain ⟨h1, h2⟩ := Bool.and_eq_true_iff.mp h
    rw [of_decide_eq_true h1] at q
    exact ⟨dd, cd, sl, q, fun n hn => noneB_ok h2 hn⟩
  · cases h
section
variable {K : PySem.W.Frag} {T C D : Addr} {names nt : List Str}
theorem Ecl.find (c : Ecl K T names C) (t : Tcl K nt T) {n : Str} {r : Option Value} (h1 : n ∈ names) (h2 : n ∈ nt) (h3 : PySem.W.alongIn K n PySem.HandSPX.veTail = some r) : PySem.W.findIn K (.ref C) n = some r := by
  obtain ⟨nm, q, N, bs, sn, sub, ab, col, dd, k0, k1, k2, k3, k5, e, hn⟩ := c.cls
  obtain ⟨dT, cdT, slT, eT, hT⟩ := t.cls
  unfold PySem.W.findIn
  simp only [e]
  unfold PySem.W.alongIn
  have o1 : PySem.W.ownIn K n (.ref C) = some none := by
    unfold PySem.W.ownIn
    simp only [e]
    exact hn n h1
  simp only [o1]
  unfold PySem.W.alongIn
  have o2 : PySem.W.ownIn K n (.ref T) = some none := by
    unfold PySem.W.ownIn
    simp only [eT]
    exact hT n h2
  simp only [o2]
  exact h3
theorem Ecl.sub (c : Ecl K T names C) (b : Value) : PySem.W.subIn K (.ref C) b = some ((Value.ref C :: Value.ref T :: PySem.HandSPX.veTail).contains b) := by
  obtain ⟨nm, q, N, bs, sn, sub, ab, col, dd, k0, k1, k2, k3, k5, e, hn⟩ := c.cls
  show PySem.W.mroIn K C b = _
  unfold PySem.W.mroIn PySem.W.clsIn
  simp only [e]
  rfl
theorem Ecl.sub_ty (c : Ecl K T names C) {x : String} (h : Value.type x ∈ PySem.HandSPX.veTail) : PySem.W.subIn K (.ref C) (.type x) = some true := by
  rw [c.sub, List.contains_iff_mem.mpr (List.mem_cons_of_mem _ (List.mem_cons_of_mem _ h))]
theorem Ecl.ty (c : Ecl K T names C) : PySem.W.typeIn K (.ref C) = some (.type "type") := by
  obtain ⟨nm, q, N, bs, sn, sub, ab, col, dd, k0, k1, k2, k3, k5, e, hn⟩ := c.cls
  show (K.lookup C).map (·.cls) = _
  rw [e] <;> rfl
theorem Ecl.isc (c : Ecl K T names C) : (PySem.W.clsIn K C).isSome = true := by
  obtain ⟨nm, q, N, bs, sn, sub, ab, col, dd, k0, k1, k2, k3, k5, e, hn⟩ := c.cls
  unfold PySem.W.clsIn
  simp only [e]
  rfl
theorem Ecl.hasD (c : Ecl K T names C) : PySem.W.hasDictIn K C = true := by
  obtain ⟨nm, q, N, bs, sn, sub, ab, col, dd, k0, k1, k2, k3, k5, e, hn⟩ := c.cls
  unfold PySem.W.hasDictIn PySem.W.clsIn
  simp only [e]
  rfl
theorem Ecl.keep (c : Ecl K T names C) : PySem.W.keepIn K (.ref C) = true := by
  have t := c.ty
  obtain ⟨nm, q, N, bs, sn, sub, ab, col, dd, k0, k1, k2, k3, k5, e, hn⟩ := c.cls
  unfold PySem.W.keepIn
  simp only [e]
  unfold PySem.W.specialIn
  rw [t]
  show (PySem.W.findIn K (.type "type") "__call__" == some (some (.builtin "type.__call__"))) = true
  show (fastLookup "type" "__call__" == some (some (Value.builtin "type.__call__"))) = true
  decide +kernel
theorem Ecl.oex (c : Ecl K T names C) (t : Tcl K nt T) (h1 : ("__setattr__" : Str) ∈ names) (h2 : ("__setattr__" : Str) ∈ nt) (hk : PySem.W.alongIn K "__setattr__" PySem.HandSPX.veTail = some (some (.builtin "object.__setattr__"))) : OexC K C := by
  refine ⟨?_, c.find t h1 h2 hk, c.sub_ty (by decide +kernel), c.ty, c.keep⟩
  obtain ⟨nm, q, N, bs, sn, sub, ab, col, dd, k0, k1, k2, k3, k5, e, hn⟩ := c.cls
  exact ⟨nm, q, N, bs, _, sn, sub, ab, col, dd, k0, k1, k2, k3, k5, e, rfl⟩
theorem Ecl.xfc (c : Ecl K T names C) (t : Tcl K nt T) (h : ∀ n ∈ [("__getattribute__" : Str), "__getattr__"], n ∈ names ∧ n ∈ nt) (k1 : PySem.W.alongIn K "__getattribute__" PySem.HandSPX.veTail = some (some (.builtin "BaseException.__getattribute__"))) (k2 : PySem.W.alongIn K "__getattr__" PySem.HandSPX.veTail = some none) : XfC K C :=
  ⟨c.find t (h _ (by simp)).1 (h _ (by simp)).2 k1, c.find t (h _ (by simp)).1 (h _ (by simp)).2 k2, c.sub_ty (by decide +kernel), c.hasD⟩
theorem Ecl.exc (c : Ecl K T names C) (t : Tcl K nt T) (h : ∀ n ∈ [("__getattribute__" : Str), "__getattr__", "__class__"], n ∈ names ∧ n ∈ nt) (k1 : PySem.W.alongIn K "__getattribute__" PySem.HandSPX.veTail = some (some (.builtin "BaseException.__getattribute__"))) (k2 : PySem.W.alongIn K "__getattr__" PySem.HandSPX.veTail = some none)
    (k3 : PySem.W.alongIn K "__class__" PySem.HandSPX.veTail = some (some (.builtin "object.__class__"))) (k4 : PySem.W.specialIn K (.builtin "object.__class__") "__get__" = some (some (.builtin "getset_descriptor.__get__"))) (k5 : PySem.W.takesIn K (.builtin "object.__class__") = some true) : ExcC K C :=
  ⟨c.find t (h _ (by simp)).1 (h _ (by simp)).2 k1, c.find t (h _ (by simp)).1 (h _ (by simp)).2 k2, c.sub_ty (by decide +kernel), c.hasD, c.find t (h _ (by simp)).1 (h _ (by simp)).2 k3, k4, k5, c.sub_ty (x := "object") (by decide +kernel)⟩
/-- numbers that rise -/
theorem incB_lt : ∀ {l : List Nat} {a : Nat}, incB (a :: l) = true → ∀ b ∈ l, a < b
  | [], _, _, _, h => absurd h (by simp)
  | c :: r, a, h, b, hb => by
    obtain ⟨h1, h2⟩ := Bool.and_eq_true_iff.mp (show (Nat.blt a c && incB (c :: r)) = true from h)
    have h3 : a < c := Nat.le_of_ble_eq_true h1
    rcases List.mem_cons.mp hb with e | e
    · exact e ▸ h3
    · exact Nat.lt_trans h3 (incB_lt h2 b e)
theorem incB_tl {a : Nat} {l : List Nat} (h : incB (a :: l) = true) : incB l = true := by
  cases l with
  | nil => rfl
  | cons c r => exact (Bool.and_eq_true_iff.mp (show (Nat.blt a c && incB (c :: r)) = true from h)).2
theorem incB_inj : ∀ {l : List Nat} {i j a b : Nat}, incB l = true → l[i]? = some a → l[j]? = some b → (a = b ↔ i = j)
  | [], i, j, a, b, _, h, _ => by simp at h
  | c :: r, 0, 0, a, b, h, h1, h2 => by
    simp at h1 h2
    simp [← h1, ← h2]
  | c :: r, 0, j + 1, a, b, h, h1, h2 => by
    simp at h1
    have h3 : r[j]? = some b := by simpa using h2
    have := incB_lt h b (List.mem_of_getElem? h3)
    constructor
    · intro e
      omega
    · intro e
      omega
  | c :: r, i + 1, 0, a, b, h, h1, h2 => by
    simp at h2
    have h3 : r[i]? = some a := by simpa using h1
    have := incB_lt h a (List.mem_of_getElem? h3)
    constructor
    · intro e
      omega
    · intro e
      omega
  | c :: r, i + 1, j + 1, a, b, h, h1, h2 => by
    have h3 : r[i]? = some a := by simpa using h1
    have h4 : r[j]? = some b := by simpa using h2
    rw [incB_inj (incB_tl h) h3 h4]
    omega
theorem Ecl.one {n2 : List Str} (c : Ecl K T names C) (d : Ecl K T n2 D) (hT : D ≠ T) : PySem.W.kitOne K (.ref C) (.ref D) = some (decide (C = D)) := by
  unfold PySem.W.kitOne
  by_cases e : C = D
  · subst e
    rw [if_pos (by simp), decide_eq_true rfl]
  · rw [if_neg (by simpa using e), decide_eq_false e]
    show (if ((PySem.W.clsIn K D).isSome && PySem.W.typeIn K (.ref D) == some (.type "type")) = true then PySem.W.subIn K (.ref C) (.ref D) else none) = _
    rw [d.isc, d.ty, if_pos (by simp), c.sub]
    have e2 : D ≠ C := fun z => e z.symm
    simp [List.contains_cons, PySem.HandSPX.veTail, e2, hT]
theorem Ecl.oneT (c : Ecl K T names C) (t : Tcl K nt T) (h : C ≠ T) : PySem.W.kitOne K (.ref C) (.ref T) = some true := by
  obtain ⟨dT, cdT, slT, eT, hT⟩ := t.cls
  unfold PySem.W.kitOne
  rw [if_neg (by simpa using h)]
  show (if ((PySem.W.clsIn K T).isSome && PySem.W.typeIn K (.ref T) == some (.type "type")) = true then PySem.W.subIn K (.ref C) (.ref T) else none) = _
  have e1 : (PySem.W.clsIn K T).isSome = true := by
    unfold PySem.W.clsIn
    simp only [eT]
    rfl
  have e2 : PySem.W.typeIn K (.ref T) = some (.type "type") := by
    show (K.lookup T).map (·.cls) = _
    rw [eT] <;> rfl
  rw [e1, e2, if_pos (by simp), c.sub]
  simp [List.contains_cons]
theorem Ecl.oneV (c : Ecl K T names C) : PySem.W.kitOne K (.ref C) (.type "ValueError") = some true := by
  unfold PySem.W.kitOne
  rw [if_neg (by simp)]
  show (if PySem.W.kitMeta "ValueError" = true then PySem.W.subIn K (.ref C) (.type "ValueError") else none) = _
  rw [if_pos (by decide +kernel), c.sub_ty (by decide +kernel)]
end
end TB
set_option maxHeartbeats 8000000
namespace K6
open PySem PySem.Spec PyProof.Rows L2 TB
theorem tl_set (K : PySem.W.Frag) : PySem.W.alongIn K "__setattr__" PySem.HandSPX.veTail = some (some (.builtin "object.__setattr__")) := by kernel_rfl
theorem tl_ga (K : PySem.W.Frag) : PySem.W.alongIn K "__getattribute__" PySem.HandSPX.veTail = some (some (.builtin "BaseException.__getattribute__")) := by kernel_rfl
theorem tl_gg (K : PySem.W.Frag) : PySem.W.alongIn K "__getattr__" PySem.HandSPX.veTail = some none := by kernel_rfl
theorem tl_cl (K : PySem.W.Frag) : PySem.W.alongIn K "__class__" PySem.HandSPX.veTail = some (some (.builtin "object.__class__")) := by kernel_rfl
theorem tl_get (K : PySem.W.Frag) : PySem.W.specialIn K (.builtin "object.__class__") "__get__" = some (some (.builtin "getset_descriptor.__get__")) := by kernel_rfl
theorem tl_tk (K : PySem.W.Frag) : PySem.W.takesIn K (.builtin "object.__class__") = some true := by kernel_rfl
theorem tl_all : (flds.all fun f => PySem.W.alongIn [] f PySem.HandSPX.veTail == some none) = true := by decide +kernel
theorem tl_fld (K : PySem.W.Frag) {f : St} (h : f ∈ flds) : PySem.W.alongIn K f PySem.HandSPX.veTail = some none := by
  have e : PySem.W.alongIn K f PySem.HandSPX.veTail = PySem.W.alongIn [] f PySem.HandSPX.veTail := rfl
  rw [e]
  exact beq_iff_eq.mp (List.all_eq_true.mp tl_all f h)
/-- what the facts say, at a heap whose globals are mg -/
structure Hy (K : PySem.W.Frag) (mg : Str → Option Value) : Prop where
  glo : ∀ (i : Nat) (x : St), glos[i]? = some x → mg x = some (.ref (He.ga K x))
  free : ∀ (i : Nat) (x : St), frees[i]? = some x → mg x = none
  t : Tcl K nT (tE K)
  ecl : ∀ (i : Nat) (p : St × List St), cls[i]? = some p → Ecl K (tE K) (four ++ p.2) (He.ga K p.1)
  ini : ∀ (i : Nat) (p : St × List St), cls[i]? = some p → p.2.isEmpty = false → PySem.W.findIn K (.ref (He.ga K p.1)) "__init__" = some (some (.ref (He.ma K (He.ga K p.1) "__init__"))) ∧ PySem.W.typeIn K (.ref (He.ma K (He.ga K p.1) "__init__")) = some (.type "function")
  inc : incB (tE K :: cls.map fun p => He.ga K p.1) = true
  emp : PySem.W.excIn K (He.ga K "Empty") He.veBase "ValueError.__new__" = true
  fns : ∀ (i : Nat) (d : He.DefD), fn[i]? = some d → ∃ fd, FunD K d.name d.qual d.params d.body d.scope (d.dvs K) (d.kws K) (He.fAd K d.at_) fd
theorem hy_of {K : PySem.W.Frag} {h : Heap} {mg : Str → Option Value} (X : K.In h) (G : h.Ns mainGlobals mg) (s : Says K) : Hy K mg := by
  obtain ⟨a1, b⟩ := Bool.and_eq_true_iff.mp s.c1
  obtain ⟨a2, b⟩ := Bool.and_eq_true_iff.mp b
  obtain ⟨a3, a4⟩ := Bool.and_eq_true_iff.mp b
  obtain ⟨b1, b⟩ := Bool.and_eq_true_iff.mp s.c2
  obtain ⟨b2, b3⟩ := Bool.and_eq_true_iff.mp b
  refine ⟨fun i x e => He.glo_ok X G (List.all_eq_true.mp a1 x (List.mem_of_getElem? e)), fun i x e => He.free_ok X G (List.all_eq_true.mp a2 x (List.mem_of_getElem? e)), tclB_ok a3, fun i p e => eclB_ok (List.all_eq_true.mp b1 p (List.mem_of_getElem? e)), fun i p e z => ?_, a4, b3, fun i d e => ?_⟩
  · have q := List.all_eq_true.mp b2 p (List.mem_of_getElem? e)
    have q2 : (p.2.isEmpty || iniB K p.1) = true := q
    rw [z] at q2
    obtain ⟨q3, q4⟩ := Bool.and_eq_true_iff.mp (show iniB K p.1 = true from q2)
    exact ⟨He.eqO_ok q3, of_decide_eq_true q4⟩
  · have e2 : (fn.map fun d => He.fnW K d.at_)[i]? = (fn.map He.DefD.val)[i]? := by rw [show fn.map (fun d => He.fnW K d.at_) = fn.map He.DefD.val from s.c4]
    rw [List.getElem?_map, List.getElem?_map, e] at e2
    exact He.DefD.funD (Option.some.inj e2) (List.all_eq_true.mp s.c3 d (List.mem_of_getElem? e))
section
variable {P : Program} {w : World} {K : PySem.W.Frag} {mg : Str → Option Value} {base : Heap} {C fI : Addr} {x f g qual : Str} {st : Stmt} {fd : FuncData} {names : List St} {q1 q2 q3 q4 r1 r2 r3 r4 : Pos}
theorem mkB (G : mg x = some (.ref C)) (c : Ecl K (tE K) (four ++ names) C) (t : Tcl K nT (tE K)) : ∃ e : ExB K mg x, e.C = C := by
  have h4 : ∀ n ∈ four, n ∈ four ++ names ∧ n ∈ nT := fun n hn => ⟨List.mem_append_left _ hn, List.mem_append_left _ hn⟩
  have m : ∀ n ∈ [("__setattr__" : Str), "__getattribute__", "__getattr__", "__class__"], n ∈ four ++ names ∧ n ∈ nT := h4
  exact ⟨⟨C, G, c.oex t (m _ (by simp)).1 (m _ (by simp)).2 (tl_set K), c.xfc t (fun n hn => m n (by
    simp only [List.mem_cons, List.not_mem_nil, or_false] at hn ⊢
    rcases hn with h | h
    · exact .inr (.inl h)
    · exact .inr (.inr (.inl h)))) (tl_ga K) (tl_gg K), c.exc t (fun n hn => m n (List.mem_cons_of_mem _ hn)) (tl_ga K) (tl_gg K) (tl_cl K) (tl_get K) (tl_tk K)⟩, rfl⟩
theorem mk1 (G : mg x = some (.ref C)) (c : Ecl K (tE K) (four ++ [f]) C) (t : Tcl K nT (tE K)) (hf : f ∈ flds) (i : PySem.W.findIn K (.ref C) "__init__" = some (some (.ref fI)) ∧ PySem.W.typeIn K (.ref fI) = some (.type "function"))
    (F : FunD K "__init__" qual (defArgs st) (defBody st) (defScope st) [] [] fI fd) (S : FnScope ["self", f] ["self", f] (defScope st)) (hb : defBody st = [.Assign [.Attribute (.Name "self" q1) f q2] (.Name f q3) q4])
    (l1 : (defScope st).names.lookup ("self" : Str) = some NameKind.local) (l2 : (defScope st).names.lookup f = some NameKind.local) (hd : (f == ("__debug__" : Str)) = false) (hcd : (f == ("__classdict__" : Str)) = false)
    (bb : ∀ (kV doc pm : Value) (an : Option Addr) (cdv ct : Value) (us : List Value), us.length = (["self", f] : List Str).length → bindArgs (PySem.W.fnOf "__init__" qual (defArgs st) (defBody st) (defScope st) .none kV doc pm an cdv ct) ⟨us, []⟩ = pure ((["self", f] : List Str).zip us)) :
    ∃ e : Ex1 P w K mg base x f, e.C = C := by
  obtain ⟨B, rfl⟩ := mkB G c t
  have no := c.find t (List.mem_append_right _ (by simp)) (List.mem_append_right _ hf) (tl_fld K hf)
  exact ⟨⟨B, fI, fd, i.1, i.2, no, F.bindsN bb, ok_ini1 (fun_of F) S hb l1 l2 hd hcd B.oex no⟩, rfl⟩
theorem mk2 (G : mg x = some (.ref C)) (c : Ecl K (tE K) (four ++ [f, g]) C) (t : Tcl K nT (tE K)) (hf : f ∈ flds) (hg : g ∈ flds) (i : PySem.W.findIn K (.ref C) "__init__" = some (some (.ref fI)) ∧ PySem.W.typeIn K (.ref fI) = some (.type "function"))
    (F : FunD K "__init__" qual (defArgs st) (defBody st) (defScope st) [] [] fI fd) (S : FnScope ["self", f, g] ["self", f, g] (defScope st))
    (hb : defBody st = [.Assign [.Attribute (.Name "self" q1) f q2] (.Name f q3) q4, .Assign [.Attribute (.Name "self" r1) g r2] (.Name g r3) r4])
    (l1 : (defScope st).names.lookup ("self" : Str) = some NameKind.local) (l2 : (defScope st).names.lookup f = some NameKind.local) (l3 : (defScope st).names.lookup g = some NameKind.local) (hd : (f == ("__debug__" : Str)) = false) (hcd : (f == ("__classdict__" : Str)) = false) (hd2 : (g == ("__debug__" : Str)) = false) (hcd2 : (g == ("__classdict__" : Str)) = false)
    (bb : ∀ (kV doc pm : Value) (an : Option Addr) (cdv ct : Value) (us : List Value), us.length = (["self", f, g] : List Str).length → bindArgs (PySem.W.fnOf "__init__" qual (defArgs st) (defBody st) (defScope st) .none kV doc pm an cdv ct) ⟨us, []⟩ = pure ((["self", f, g] : List Str).zip us)) :
    ∃ e : Ex2 P w K mg base x f g, e.C = C := by
  obtain ⟨B, rfl⟩ := mkB G c t
  have nof := c.find t (List.mem_append_right _ (by simp)) (List.mem_append_right _ hf) (tl_fld K hf)
  have nog := c.find t (List.mem_append_right _ (by simp)) (List.mem_append_right _ hg) (tl_fld K hg)
  exact ⟨⟨B, fI, fd, i.1, i.2, nof, nog, F.bindsN bb, ok_ini2 (fun_of F) S hb l1 l2 l3 hd hcd hd2 hcd2 B.oex nof nog⟩, rfl⟩
theorem si0 : FnScope ["self", "words"] ["self", "words"] (defScope i0) := ⟨rfl, rfl, rfl, by decide +kernel, rfl, by decide +kernel, by decide +kernel⟩
theorem cl0 (y : Hy K mg) : ∃ e : Ex1 P w K mg base "BadWords" "words", e.C = He.ga K "BadWords" := by
  obtain ⟨fd, F⟩ := y.fns 0 d0 rfl
  exact mk1 (st := i0) (qual := "BadWords.__init__") (y.glo 0 "BadWords" rfl) (y.ecl 0 ("BadWords", ["words"]) rfl) y.t (List.mem_of_getElem? (show flds[0]? = some _ from rfl)) (y.ini 0 ("BadWords", ["words"]) rfl rfl) F si0 rfl rfl rfl (by decide) (by decide) (fun _ _ _ _ _ _ us hl => match us, hl with | [_, _], _ => rfl)
theorem si1 : FnScope ["self", "number"] ["self", "number"] (defScope i1) := ⟨rfl, rfl, rfl, by decide +kernel, rfl, by decide +kernel, by decide +kernel⟩
theorem cl1 (y : Hy K mg) : ∃ e : Ex1 P w K mg base "BadStanding" "number", e.C = He.ga K "BadStanding" := by
  obtain ⟨fd, F⟩ := y.fns 1 d1 rfl
  exact mk1 (st := i1) (qual := "BadStanding.__init__") (y.glo 1 "BadStanding" rfl) (y.ecl 1 ("BadStanding", ["number"]) rfl) y.t (List.mem_of_getElem? (show flds[1]? = some _ from rfl)) (y.ini 1 ("BadStanding", ["number"]) rfl rfl) F si1 rfl rfl rfl (by decide) (by decide) (fun _ _ _ _ _ _ us hl => match us, hl with | [_, _], _ => rfl)
theorem si2 : FnScope ["self", "number"] ["self", "number"] (defScope i2) := ⟨rfl, rfl, rfl, by decide +kernel, rfl, by decide +kernel, by decide +kernel⟩
theorem cl2 (y : Hy K mg) : ∃ e : Ex1 P w K mg base "BadKind" "number", e.C = He.ga K "BadKind" := by
  obtain ⟨fd, F⟩ := y.fns 2 d2 rfl
  exact mk1 (st := i2) (qual := "BadKind.__init__") (y.glo 2 "BadKind" rfl) (y.ecl 2 ("BadKind", ["number"]) rfl) y.t (List.mem_of_getElem? (show flds[1]? = some _ from rfl)) (y.ini 2 ("BadKind", ["number"]) rfl rfl) F si2 rfl rfl rfl (by decide) (by decide) (fun _ _ _ _ _ _ us hl => match us, hl with | [_, _], _ => rfl)
theorem si3 : FnScope ["self", "space"] ["self", "space"] (defScope i3) := ⟨rfl, rfl, rfl, by decide +kernel, rfl, by decide +kernel, by decide +kernel⟩
theorem cl3 (y : Hy K mg) : ∃ e : Ex1 P w K mg base "BadSpace" "space", e.C = He.ga K "BadSpace" := by
  obtain ⟨fd, F⟩ := y.fns 3 d3 rfl
  exact mk1 (st := i3) (qual := "BadSpace.__init__") (y.glo 3 "BadSpace" rfl) (y.ecl 3 ("BadSpace", ["space"]) rfl) y.t (List.mem_of_getElem? (show flds[2]? = some _ from rfl)) (y.ini 3 ("BadSpace", ["space"]) rfl rfl) F si3 rfl rfl rfl (by decide) (by decide) (fun _ _ _ _ _ _ us hl => match us, hl with | [_, _], _ => rfl)
theorem si4 : FnScope ["self", "number"] ["self", "number"] (defScope i4) := ⟨rfl, rfl, rfl, by decide +kernel, rfl, by decide +kernel, by decide +kernel⟩
theorem cl4 (y : Hy K mg) : ∃ e : Ex1 P w K mg base "BadSeat" "number", e.C = He.ga K "BadSeat" := by
  obtain ⟨fd, F⟩ := y.fns 4 d4 rfl
  exact mk1 (st := i4) (qual := "BadSeat.__init__") (y.glo 4 "BadSeat" rfl) (y.ecl 4 ("BadSeat", ["number"]) rfl) y.t (List.mem_of_getElem? (show flds[1]? = some _ from rfl)) (y.ini 4 ("BadSeat", ["number"]) rfl rfl) F si4 rfl rfl rfl (by decide) (by decide) (fun _ _ _ _ _ _ us hl => match us, hl with | [_, _], _ => rfl)
theorem si5 : FnScope ["self", "number"] ["self", "number"] (defScope i5) := ⟨rfl, rfl, rfl, by decide +kernel, rfl, by decide +kernel, by decide +kernel⟩
theorem cl5 (y : Hy K mg) : ∃ e : Ex1 P w K mg base "BadColumn" "number", e.C = He.ga K "BadColumn" := by
  obtain ⟨fd, F⟩ := y.fns 5 d5 rfl
  exact mk1 (st := i5) (qual := "BadColumn.__init__") (y.glo 5 "BadColumn" rfl) (y.ecl 5 ("BadColumn", ["number"]) rfl) y.t (List.mem_of_getElem? (show flds[1]? = some _ from rfl)) (y.ini 5 ("BadColumn", ["number"]) rfl rfl) F si5 rfl rfl rfl (by decide) (by decide) (fun _ _ _ _ _ _ us hl => match us, hl with | [_, _], _ => rfl)
theorem si6 : FnScope ["self", "number"] ["self", "number"] (defScope i6) := ⟨rfl, rfl, rfl, by decide +kernel, rfl, by decide +kernel, by decide +kernel⟩
theorem cl6 (y : Hy K mg) : ∃ e : Ex1 P w K mg base "BadCalling" "number", e.C = He.ga K "BadCalling" := by
  obtain ⟨fd, F⟩ := y.fns 6 d6 rfl
  exact mk1 (st := i6) (qual := "BadCalling.__init__") (y.glo 6 "BadCalling" rfl) (y.ecl 6 ("BadCalling", ["number"]) rfl) y.t (List.mem_of_getElem? (show flds[1]? = some _ from rfl)) (y.ini 6 ("BadCalling", ["number"]) rfl rfl) F si6 rfl rfl rfl (by decide) (by decide) (fun _ _ _ _ _ _ us hl => match us, hl with | [_, _], _ => rfl)
theorem si7 : FnScope ["self", "beats"] ["self", "beats"] (defScope i7) := ⟨rfl, rfl, rfl, by decide +kernel, rfl, by decide +kernel, by decide +kernel⟩
theorem cl7 (y : Hy K mg) : ∃ e : Ex1 P w K mg base "BadBeats" "beats", e.C = He.ga K "BadBeats" := by
  obtain ⟨fd, F⟩ := y.fns 7 d7 rfl
  exact mk1 (st := i7) (qual := "BadBeats.__init__") (y.glo 7 "BadBeats" rfl) (y.ecl 7 ("BadBeats", ["beats"]) rfl) y.t (List.mem_of_getElem? (show flds[3]? = some _ from rfl)) (y.ini 7 ("BadBeats", ["beats"]) rfl rfl) F si7 rfl rfl rfl (by decide) (by decide) (fun _ _ _ _ _ _ us hl => match us, hl with | [_, _], _ => rfl)
theorem si8 : FnScope ["self", "wish"] ["self", "wish"] (defScope i8) := ⟨rfl, rfl, rfl, by decide +kernel, rfl, by decide +kernel, by decide +kernel⟩
theorem cl8 (y : Hy K mg) : ∃ e : Ex1 P w K mg base "BadWish" "wish", e.C = He.ga K "BadWish" := by
  obtain ⟨fd, F⟩ := y.fns 8 d8 rfl
  exact mk1 (st := i8) (qual := "BadWish.__init__") (y.glo 8 "BadWish" rfl) (y.ecl 8 ("BadWish", ["wish"]) rfl) y.t (List.mem_of_getElem? (show flds[4]? = some _ from rfl)) (y.ini 8 ("BadWish", ["wish"]) rfl rfl) F si8 rfl rfl rfl (by decide) (by decide) (fun _ _ _ _ _ _ us hl => match us, hl with | [_, _], _ => rfl)
theorem si9 : FnScope ["self", "number"] ["self", "number"] (defScope i9) := ⟨rfl, rfl, rfl, by decide +kernel, rfl, by decide +kernel, by decide +kernel⟩
theorem cl9 (y : Hy K mg) : ∃ e : Ex1 P w K mg base "BadPlan" "number", e.C = He.ga K "BadPlan" := by
  obtain ⟨fd, F⟩ := y.fns 9 d9 rfl
  exact mk1 (st := i9) (qual := "BadPlan.__init__") (y.glo 9 "BadPlan" rfl) (y.ecl 9 ("BadPlan", ["number"]) rfl) y.t (List.mem_of_getElem? (show flds[1]? = some _ from rfl)) (y.ini 9 ("BadPlan", ["number"]) rfl rfl) F si9 rfl rfl rfl (by decide) (by decide) (fun _ _ _ _ _ _ us hl => match us, hl with | [_, _], _ => rfl)
theorem si10 : FnScope ["self", "sign"] ["self", "sign"] (defScope i10) := ⟨rfl, rfl, rfl, by decide +kernel, rfl, by decide +kernel, by decide +kernel⟩
theorem cl10 (y : Hy K mg) : ∃ e : Ex1 P w K mg base "BadSign" "sign", e.C = He.ga K "BadSign" := by
  obtain ⟨fd, F⟩ := y.fns 10 d10 rfl
  exact mk1 (st := i10) (qual := "BadSign.__init__") (y.glo 10 "BadSign" rfl) (y.ecl 10 ("BadSign", ["sign"]) rfl) y.t (List.mem_of_getElem? (show flds[5]? = some _ from rfl)) (y.ini 10 ("BadSign", ["sign"]) rfl rfl) F si10 rfl rfl rfl (by decide) (by decide) (fun _ _ _ _ _ _ us hl => match us, hl with | [_, _], _ => rfl)
theorem si11 : FnScope ["self", "at"] ["self", "at"] (defScope i11) := ⟨rfl, rfl, rfl, by decide +kernel, rfl, by decide +kernel, by decide +kernel⟩
theorem cl11 (y : Hy K mg) : ∃ e : Ex1 P w K mg base "BadText" "at", e.C = He.ga K "BadText" := by
  obtain ⟨fd, F⟩ := y.fns 11 d11 rfl
  exact mk1 (st := i11) (qual := "BadText.__init__") (y.glo 11 "BadText" rfl) (y.ecl 11 ("BadText", ["at"]) rfl) y.t (List.mem_of_getElem? (show flds[6]? = some _ from rfl)) (y.ini 11 ("BadText", ["at"]) rfl rfl) F si11 rfl rfl rfl (by decide) (by decide) (fun _ _ _ _ _ _ us hl => match us, hl with | [_, _], _ => rfl)
theorem si12 : FnScope ["self", "line", "word"] ["self", "line", "word"] (defScope i12) := ⟨rfl, rfl, rfl, by decide +kernel, rfl, by decide +kernel, by decide +kernel⟩
theorem cl12 (y : Hy K mg) : ∃ e : Ex2 P w K mg base "BadLine" "line" "word", e.C = He.ga K "BadLine" := by
  obtain ⟨fd, F⟩ := y.fns 12 d12 rfl
  exact mk2 (st := i12) (qual := "BadLine.__init__") (y.glo 12 "BadLine" rfl) (y.ecl 12 ("BadLine", ["line", "word"]) rfl) y.t (List.mem_of_getElem? (show flds[7]? = some _ from rfl)) (List.mem_of_getElem? (show flds[8]? = some _ from rfl)) (y.ini 12 ("BadLine", ["line", "word"]) rfl rfl) F si12 rfl rfl rfl rfl (by decide) (by decide) (by decide) (by decide) (fun _ _ _ _ _ _ us hl => match us, hl with | [_, _, _], _ => rfl)
theorem si13 : FnScope ["self", "least"] ["self", "least"] (defScope i13) := ⟨rfl, rfl, rfl, by decide +kernel, rfl, by decide +kernel, by decide +kernel⟩
theorem cl13 (y : Hy K mg) : ∃ e : Ex1 P w K mg base "BadLeast" "least", e.C = He.ga K "BadLeast" := by
  obtain ⟨fd, F⟩ := y.fns 13 d13 rfl
  exact mk1 (st := i13) (qual := "BadLeast.__init__") (y.glo 13 "BadLeast" rfl) (y.ecl 13 ("BadLeast", ["least"]) rfl) y.t (List.mem_of_getElem? (show flds[9]? = some _ from rfl)) (y.ini 13 ("BadLeast", ["least"]) rfl rfl) F si13 rfl rfl rfl (by decide) (by decide) (fun _ _ _ _ _ _ us hl => match us, hl with | [_, _], _ => rfl)
theorem si14 : FnScope ["self", "wait"] ["self", "wait"] (defScope i14) := ⟨rfl, rfl, rfl, by decide +kernel, rfl, by decide +kernel, by decide +kernel⟩
theorem cl14 (y : Hy K mg) : ∃ e : Ex1 P w K mg base "BadWait" "wait", e.C = He.ga K "BadWait" := by
  obtain ⟨fd, F⟩ := y.fns 14 d14 rfl
  exact mk1 (st := i14) (qual := "BadWait.__init__") (y.glo 14 "BadWait" rfl) (y.ecl 14 ("BadWait", ["wait"]) rfl) y.t (List.mem_of_getElem? (show flds[10]? = some _ from rfl)) (y.ini 14 ("BadWait", ["wait"]) rfl rfl) F si14 rfl rfl rfl (by decide) (by decide) (fun _ _ _ _ _ _ us hl => match us, hl with | [_, _], _ => rfl)
theorem si15 : FnScope ["self", "number"] ["self", "number"] (defScope i15) := ⟨rfl, rfl, rfl, by decide +kernel, rfl, by decide +kernel, by decide +kernel⟩
theorem cl15 (y : Hy K mg) : ∃ e : Ex1 P w K mg base "BadGoal" "number", e.C = He.ga K "BadGoal" := by
  obtain ⟨fd, F⟩ := y.fns 15 d15 rfl
  exact mk1 (st := i15) (qual := "BadGoal.__init__") (y.glo 15 "BadGoal" rfl) (y.ecl 15 ("BadGoal", ["number"]) rfl) y.t (List.mem_of_getElem? (show flds[1]? = some _ from rfl)) (y.ini 15 ("BadGoal", ["number"]) rfl rfl) F si15 rfl rfl rfl (by decide) (by decide) (fun _ _ _ _ _ _ us hl => match us, hl with | [_, _], _ => rfl)
theorem si16 : FnScope ["self", "word"] ["self", "word"] (defScope i16) := ⟨rfl, rfl, rfl, by decide +kernel, rfl, by decide +kernel, by decide +kernel⟩
theorem cl16 (y : Hy K mg) : ∃ e : Ex1 P w K mg base "BadFile" "word", e.C = He.ga K "BadFile" := by
  obtain ⟨fd, F⟩ := y.fns 16 d16 rfl
  exact mk1 (st := i16) (qual := "BadFile.__init__") (y.glo 16 "BadFile" rfl) (y.ecl 16 ("BadFile", ["word"]) rfl) y.t (List.mem_of_getElem? (show flds[8]? = some _ from rfl)) (y.ini 16 ("BadFile", ["word"]) rfl rfl) F si16 rfl rfl rfl (by decide) (by decide) (fun _ _ _ _ _ _ us hl => match us, hl with | [_, _], _ => rfl)
theorem si17 : FnScope ["self", "number"] ["self", "number"] (defScope i17) := ⟨rfl, rfl, rfl, by decide +kernel, rfl, by decide +kernel, by decide +kernel⟩
theorem cl17 (y : Hy K mg) : ∃ e : Ex1 P w K mg base "BadNumber" "number", e.C = He.ga K "BadNumber" := by
  obtain ⟨fd, F⟩ := y.fns 17 d17 rfl
  exact mk1 (st := i17) (qual := "BadNumber.__init__") (y.glo 17 "BadNumber" rfl) (y.ecl 17 ("BadNumber", ["number"]) rfl) y.t (List.mem_of_getElem? (show flds[1]? = some _ from rfl)) (y.ini 17 ("BadNumber", ["number"]) rfl rfl) F si17 rfl rfl rfl (by decide) (by decide) (fun _ _ _ _ _ _ us hl => match us, hl with | [_, _], _ => rfl)
theorem si18 : FnScope ["self", "number"] ["self", "number"] (defScope i18) := ⟨rfl, rfl, rfl, by decide +kernel, rfl, by decide +kernel, by decide +kernel⟩
theorem cl18 (y : Hy K mg) : ∃ e : Ex1 P w K mg base "BadStatement" "number", e.C = He.ga K "BadStatement" := by
  obtain ⟨fd, F⟩ := y.fns 18 d18 rfl
  exact mk1 (st := i18) (qual := "BadStatement.__init__") (y.glo 18 "BadStatement" rfl) (y.ecl 18 ("BadStatement", ["number"]) rfl) y.t (List.mem_of_getElem? (show flds[1]? = some _ from rfl)) (y.ini 18 ("BadStatement", ["number"]) rfl rfl) F si18 rfl rfl rfl (by decide) (by decide) (fun _ _ _ _ _ _ us hl => match us, hl with | [_, _], _ => rfl)
theorem si19 : FnScope ["self", "name"] ["self", "name"] (defScope i19) := ⟨rfl, rfl, rfl, by decide +kernel, rfl, by decide +kernel, by decide +kernel⟩
theorem cl19 (y : Hy K mg) : ∃ e : Ex1 P w K mg base "BadValue" "name", e.C = He.ga K "BadValue" := by
  obtain ⟨fd, F⟩ := y.fns 19 d19 rfl
  exact mk1 (st := i19) (qual := "BadValue.__init__") (y.glo 19 "BadValue" rfl) (y.ecl 19 ("BadValue", ["name"]) rfl) y.t (List.mem_of_getElem? (show flds[11]? = some _ from rfl)) (y.ini 19 ("BadValue", ["name"]) rfl rfl) F si19 rfl rfl rfl (by decide) (by decide) (fun _ _ _ _ _ _ us hl => match us, hl with | [_, _], _ => rfl)
theorem si20 : FnScope ["self", "delay"] ["self", "delay"] (defScope i20) := ⟨rfl, rfl, rfl, by decide +kernel, rfl, by decide +kernel, by decide +kernel⟩
theorem cl20 (y : Hy K mg) : ∃ e : Ex1 P w K mg base "BadDelay" "delay", e.C = He.ga K "BadDelay" := by
  obtain ⟨fd, F⟩ := y.fns 20 d20 rfl
  exact mk1 (st := i20) (qual := "BadDelay.__init__") (y.glo 20 "BadDelay" rfl) (y.ecl 20 ("BadDelay", ["delay"]) rfl) y.t (List.mem_of_getElem? (show flds[12]? = some _ from rfl)) (y.ini 20 ("BadDelay", ["delay"]) rfl rfl) F si20 rfl rfl rfl (by decide) (by decide) (fun _ _ _ _ _ _ us hl => match us, hl with | [_, _], _ => rfl)
theorem si21 : FnScope ["self", "places"] ["self", "places"] (defScope i21) := ⟨rfl, rfl, rfl, by decide +kernel, rfl, by decide +kernel, by decide +kernel⟩
theorem cl21 (y : Hy K mg) : ∃ e : Ex1 P w K mg base "BadPlaces" "places", e.C = He.ga K "BadPlaces" := by
  obtain ⟨fd, F⟩ := y.fns 21 d21 rfl
  exact mk1 (st := i21) (qual := "BadPlaces.__init__") (y.glo 21 "BadPlaces" rfl) (y.ecl 21 ("BadPlaces", ["places"]) rfl) y.t (List.mem_of_getElem? (show flds[13]? = some _ from rfl)) (y.ini 21 ("BadPlaces", ["places"]) rfl rfl) F si21 rfl rfl rfl (by decide) (by decide) (fun _ _ _ _ _ _ us hl => match us, hl with | [_, _], _ => rfl)
theorem si22 : FnScope ["self", "number"] ["self", "number"] (defScope i22) := ⟨rfl, rfl, rfl, by decide +kernel, rfl, by decide +kernel, by decide +kernel⟩
theorem cl22 (y : Hy K mg) : ∃ e : Ex1 P w K mg base "BadWay" "number", e.C = He.ga K "BadWay" := by
  obtain ⟨fd, F⟩ := y.fns 22 d22 rfl
  exact mk1 (st := i22) (qual := "BadWay.__init__") (y.glo 22 "BadWay" rfl) (y.ecl 22 ("BadWay", ["number"]) rfl) y.t (List.mem_of_getElem? (show flds[1]? = some _ from rfl)) (y.ini 22 ("BadWay", ["number"]) rfl rfl) F si22 rfl rfl rfl (by decide) (by decide) (fun _ _ _ _ _ _ us hl => match us, hl with | [_, _], _ => rfl)
theorem si23 : FnScope ["self", "number"] ["self", "number"] (defScope i23) := ⟨rfl, rfl, rfl, by decide +kernel, rfl, by decide +kernel, by decide +kernel⟩
theorem cl23 (y : Hy K mg) : ∃ e : Ex1 P w K mg base "BadRule" "number", e.C = He.ga K "BadRule" := by
  obtain ⟨fd, F⟩ := y.fns 23 d23 rfl
  exact mk1 (st := i23) (qual := "BadRule.__init__") (y.glo 23 "BadRule" rfl) (y.ecl 23 ("BadRule", ["number"]) rfl) y.t (List.mem_of_getElem? (show flds[1]? = some _ from rfl)) (y.ini 23 ("BadRule", ["number"]) rfl rfl) F si23 rfl rfl rfl (by decide) (by decide) (fun _ _ _ _ _ _ us hl => match us, hl with | [_, _], _ => rfl)
theorem si24 : FnScope ["self", "names"] ["self", "names"] (defScope i24) := ⟨rfl, rfl, rfl, by decide +kernel, rfl, by decide +kernel, by decide +kernel⟩
theorem cl24 (y : Hy K mg) : ∃ e : Ex1 P w K mg base "BadNames" "names", e.C = He.ga K "BadNames" := by
  obtain ⟨fd, F⟩ := y.fns 24 d24 rfl
  exact mk1 (st := i24) (qual := "BadNames.__init__") (y.glo 24 "BadNames" rfl) (y.ecl 24 ("BadNames", ["names"]) rfl) y.t (List.mem_of_getElem? (show flds[14]? = some _ from rfl)) (y.ini 24 ("BadNames", ["names"]) rfl rfl) F si24 rfl rfl rfl (by decide) (by decide) (fun _ _ _ _ _ _ us hl => match us, hl with | [_, _], _ => rfl)
theorem si25 : FnScope ["self", "number"] ["self", "number"] (defScope i25) := ⟨rfl, rfl, rfl, by decide +kernel, rfl, by decide +kernel, by decide +kernel⟩
theorem cl25 (y : Hy K mg) : ∃ e : Ex1 P w K mg base "BadTable" "number", e.C = He.ga K "BadTable" := by
  obtain ⟨fd, F⟩ := y.fns 25 d25 rfl
  exact mk1 (st := i25) (qual := "BadTable.__init__") (y.glo 25 "BadTable" rfl) (y.ecl 25 ("BadTable", ["number"]) rfl) y.t (List.mem_of_getElem? (show flds[1]? = some _ from rfl)) (y.ini 25 ("BadTable", ["number"]) rfl rfl) F si25 rfl rfl rfl (by decide) (by decide) (fun _ _ _ _ _ _ us hl => match us, hl with | [_, _], _ => rfl)
theorem si26 : FnScope ["self", "delays"] ["self", "delays"] (defScope i26) := ⟨rfl, rfl, rfl, by decide +kernel, rfl, by decide +kernel, by decide +kernel⟩
theorem cl26 (y : Hy K mg) : ∃ e : Ex1 P w K mg base "BadDelays" "delays", e.C = He.ga K "BadDelays" := by
  obtain ⟨fd, F⟩ := y.fns 26 d26 rfl
  exact mk1 (st := i26) (qual := "BadDelays.__init__") (y.glo 26 "BadDelays" rfl) (y.ecl 26 ("BadDelays", ["delays"]) rfl) y.t (List.mem_of_getElem? (show flds[15]? = some _ from rfl)) (y.ini 26 ("BadDelays", ["delays"]) rfl rfl) F si26 rfl rfl rfl (by decide) (by decide) (fun _ _ _ _ _ _ us hl => match us, hl with | [_, _], _ => rfl)
theorem si27 : FnScope ["self", "first"] ["self", "first"] (defScope i27) := ⟨rfl, rfl, rfl, by decide +kernel, rfl, by decide +kernel, by decide +kernel⟩
theorem cl27 (y : Hy K mg) : ∃ e : Ex1 P w K mg base "BadFirst" "first", e.C = He.ga K "BadFirst" := by
  obtain ⟨fd, F⟩ := y.fns 27 d27 rfl
  exact mk1 (st := i27) (qual := "BadFirst.__init__") (y.glo 27 "BadFirst" rfl) (y.ecl 27 ("BadFirst", ["first"]) rfl) y.t (List.mem_of_getElem? (show flds[16]? = some _ from rfl)) (y.ini 27 ("BadFirst", ["first"]) rfl rfl) F si27 rfl rfl rfl (by decide) (by decide) (fun _ _ _ _ _ _ us hl => match us, hl with | [_, _], _ => rfl)
theorem si28 : FnScope ["self", "number"] ["self", "number"] (defScope i28) := ⟨rfl, rfl, rfl, by decide +kernel, rfl, by decide +kernel, by decide +kernel⟩
theorem cl28 (y : Hy K mg) : ∃ e : Ex1 P w K mg base "BadStream" "number", e.C = He.ga K "BadStream" := by
  obtain ⟨fd, F⟩ := y.fns 28 d28 rfl
  exact mk1 (st := i28) (qual := "BadStream.__init__") (y.glo 28 "BadStream" rfl) (y.ecl 28 ("BadStream", ["number"]) rfl) y.t (List.mem_of_getElem? (show flds[1]? = some _ from rfl)) (y.ini 28 ("BadStream", ["number"]) rfl rfl) F si28 rfl rfl rfl (by decide) (by decide) (fun _ _ _ _ _ _ us hl => match us, hl with | [_, _], _ => rfl)
theorem si29 : FnScope ["self", "number"] ["self", "number"] (defScope i29) := ⟨rfl, rfl, rfl, by decide +kernel, rfl, by decide +kernel, by decide +kernel⟩
theorem cl29 (y : Hy K mg) : ∃ e : Ex1 P w K mg base "BadChain" "number", e.C = He.ga K "BadChain" := by
  obtain ⟨fd, F⟩ := y.fns 29 d29 rfl
  exact mk1 (st := i29) (qual := "BadChain.__init__") (y.glo 29 "BadChain" rfl) (y.ecl 29 ("BadChain", ["number"]) rfl) y.t (List.mem_of_getElem? (show flds[1]? = some _ from rfl)) (y.ini 29 ("BadChain", ["number"]) rfl rfl) F si29 rfl rfl rfl (by decide) (by decide) (fun _ _ _ _ _ _ us hl => match us, hl with | [_, _], _ => rfl)
theorem si30 : FnScope ["self", "most"] ["self", "most"] (defScope i30) := ⟨rfl, rfl, rfl, by decide +kernel, rfl, by decide +kernel, by decide +kernel⟩
theorem cl30 (y : Hy K mg) : ∃ e : Ex1 P w K mg base "BadMost" "most", e.C = He.ga K "BadMost" := by
  obtain ⟨fd, F⟩ := y.fns 30 d30 rfl
  exact mk1 (st := i30) (qual := "BadMost.__init__") (y.glo 30 "BadMost" rfl) (y.ecl 30 ("BadMost", ["most"]) rfl) y.t (List.mem_of_getElem? (show flds[17]? = some _ from rfl)) (y.ini 30 ("BadMost", ["most"]) rfl rfl) F si30 rfl rfl rfl (by decide) (by decide) (fun _ _ _ _ _ _ us hl => match us, hl with | [_, _], _ => rfl)
theorem si31 : FnScope ["self", "bands"] ["self", "bands"] (defScope i31) := ⟨rfl, rfl, rfl, by decide +kernel, rfl, by decide +kernel, by decide +kernel⟩
theorem cl31 (y : Hy K mg) : ∃ e : Ex1 P w K mg base "BadBands" "bands", e.C = He.ga K "BadBands" := by
  obtain ⟨fd, F⟩ := y.fns 31 d31 rfl
  exact mk1 (st := i31) (qual := "BadBands.__init__") (y.glo 31 "BadBands" rfl) (y.ecl 31 ("BadBands", ["bands"]) rfl) y.t (List.mem_of_getElem? (show flds[18]? = some _ from rfl)) (y.ini 31 ("BadBands", ["bands"]) rfl rfl) F si31 rfl rfl rfl (by decide) (by decide) (fun _ _ _ _ _ _ us hl => match us, hl with | [_, _], _ => rfl)
theorem si32 : FnScope ["self", "slow"] ["self", "slow"] (defScope i32) := ⟨rfl, rfl, rfl, by decide +kernel, rfl, by decide +kernel, by decide +kernel⟩
theorem cl32 (y : Hy K mg) : ∃ e : Ex1 P w K mg base "BadSlow" "slow", e.C = He.ga K "BadSlow" := by
  obtain ⟨fd, F⟩ := y.fns 32 d32 rfl
  exact mk1 (st := i32) (qual := "BadSlow.__init__") (y.glo 32 "BadSlow" rfl) (y.ecl 32 ("BadSlow", ["slow"]) rfl) y.t (List.mem_of_getElem? (show flds[19]? = some _ from rfl)) (y.ini 32 ("BadSlow", ["slow"]) rfl rfl) F si32 rfl rfl rfl (by decide) (by decide) (fun _ _ _ _ _ _ us hl => match us, hl with | [_, _], _ => rfl)
theorem si33 : FnScope ["self", "cycle"] ["self", "cycle"] (defScope i33) := ⟨rfl, rfl, rfl, by decide +kernel, rfl, by decide +kernel, by decide +kernel⟩
theorem cl33 (y : Hy K mg) : ∃ e : Ex1 P w K mg base "BadCycle" "cycle", e.C = He.ga K "BadCycle" := by
  obtain ⟨fd, F⟩ := y.fns 33 d33 rfl
  exact mk1 (st := i33) (qual := "BadCycle.__init__") (y.glo 33 "BadCycle" rfl) (y.ecl 33 ("BadCycle", ["cycle"]) rfl) y.t (List.mem_of_getElem? (show flds[20]? = some _ from rfl)) (y.ini 33 ("BadCycle", ["cycle"]) rfl rfl) F si33 rfl rfl rfl (by decide) (by decide) (fun _ _ _ _ _ _ us hl => match us, hl with | [_, _], _ => rfl)
theorem si34 : FnScope ["self", "ear"] ["self", "ear"] (defScope i34) := ⟨rfl, rfl, rfl, by decide +kernel, rfl, by decide +kernel, by decide +kernel⟩
theorem cl34 (y : Hy K mg) : ∃ e : Ex1 P w K mg base "BadEar" "ear", e.C = He.ga K "BadEar" := by
  obtain ⟨fd, F⟩ := y.fns 34 d34 rfl
  exact mk1 (st := i34) (qual := "BadEar.__init__") (y.glo 34 "BadEar" rfl) (y.ecl 34 ("BadEar", ["ear"]) rfl) y.t (List.mem_of_getElem? (show flds[21]? = some _ from rfl)) (y.ini 34 ("BadEar", ["ear"]) rfl rfl) F si34 rfl rfl rfl (by decide) (by decide) (fun _ _ _ _ _ _ us hl => match us, hl with | [_, _], _ => rfl)
theorem si35 : FnScope ["self", "relay"] ["self", "relay"] (defScope i35) := ⟨rfl, rfl, rfl, by decide +kernel, rfl, by decide +kernel, by decide +kernel⟩
theorem cl35 (y : Hy K mg) : ∃ e : Ex1 P w K mg base "BadRelay" "relay", e.C = He.ga K "BadRelay" := by
  obtain ⟨fd, F⟩ := y.fns 35 d35 rfl
  exact mk1 (st := i35) (qual := "BadRelay.__init__") (y.glo 35 "BadRelay" rfl) (y.ecl 35 ("BadRelay", ["relay"]) rfl) y.t (List.mem_of_getElem? (show flds[22]? = some _ from rfl)) (y.ini 35 ("BadRelay", ["relay"]) rfl rfl) F si35 rfl rfl rfl (by decide) (by decide) (fun _ _ _ _ _ _ us hl => match us, hl with | [_, _], _ => rfl)
theorem si36 : FnScope ["self", "within"] ["self", "within"] (defScope i36) := ⟨rfl, rfl, rfl, by decide +kernel, rfl, by decide +kernel, by decide +kernel⟩
theorem cl36 (y : Hy K mg) : ∃ e : Ex1 P w K mg base "BadWithin" "within", e.C = He.ga K "BadWithin" := by
  obtain ⟨fd, F⟩ := y.fns 36 d36 rfl
  exact mk1 (st := i36) (qual := "BadWithin.__init__") (y.glo 36 "BadWithin" rfl) (y.ecl 36 ("BadWithin", ["within"]) rfl) y.t (List.mem_of_getElem? (show flds[23]? = some _ from rfl)) (y.ini 36 ("BadWithin", ["within"]) rfl rfl) F si36 rfl rfl rfl (by decide) (by decide) (fun _ _ _ _ _ _ us hl => match us, hl with | [_, _], _ => rfl)
theorem si37 : FnScope ["self", "number"] ["self", "number"] (defScope i37) := ⟨rfl, rfl, rfl, by decide +kernel, rfl, by decide +kernel, by decide +kernel⟩
theorem cl37 (y : Hy K mg) : ∃ e : Ex1 P w K mg base "BadLooks" "number", e.C = He.ga K "BadLooks" := by
  obtain ⟨fd, F⟩ := y.fns 37 d37 rfl
  exact mk1 (st := i37) (qual := "BadLooks.__init__") (y.glo 37 "BadLooks" rfl) (y.ecl 37 ("BadLooks", ["number"]) rfl) y.t (List.mem_of_getElem? (show flds[1]? = some _ from rfl)) (y.ini 37 ("BadLooks", ["number"]) rfl rfl) F si37 rfl rfl rfl (by decide) (by decide) (fun _ _ _ _ _ _ us hl => match us, hl with | [_, _], _ => rfl)
theorem si38 : FnScope ["self", "word"] ["self", "word"] (defScope i38) := ⟨rfl, rfl, rfl, by decide +kernel, rfl, by decide +kernel, by decide +kernel⟩
theorem cl38 (y : Hy K mg) : ∃ e : Ex1 P w K mg base "BadSeen" "word", e.C = He.ga K "BadSeen" := by
  obtain ⟨fd, F⟩ := y.fns 38 d38 rfl
  exact mk1 (st := i38) (qual := "BadSeen.__init__") (y.glo 38 "BadSeen" rfl) (y.ecl 38 ("BadSeen", ["word"]) rfl) y.t (List.mem_of_getElem? (show flds[8]? = some _ from rfl)) (y.ini 38 ("BadSeen", ["word"]) rfl rfl) F si38 rfl rfl rfl (by decide) (by decide) (fun _ _ _ _ _ _ us hl => match us, hl with | [_, _], _ => rfl)
theorem si39 : FnScope ["self", "number"] ["self", "number"] (defScope i39) := ⟨rfl, rfl, rfl, by decide +kernel, rfl, by decide +kernel, by decide +kernel⟩
theorem cl39 (y : Hy K mg) : ∃ e : Ex1 P w K mg base "BadSight" "number", e.C = He.ga K "BadSight" := by
  obtain ⟨fd, F⟩ := y.fns 39 d39 rfl
  exact mk1 (st := i39) (qual := "BadSight.__init__") (y.glo 39 "BadSight" rfl) (y.ecl 39 ("BadSight", ["number"]) rfl) y.t (List.mem_of_getElem? (show flds[1]? = some _ from rfl)) (y.ini 39 ("BadSight", ["number"]) rfl rfl) F si39 rfl rfl rfl (by decide) (by decide) (fun _ _ _ _ _ _ us hl => match us, hl with | [_, _], _ => rfl)
theorem si40 : FnScope ["self", "number"] ["self", "number"] (defScope i40) := ⟨rfl, rfl, rfl, by decide +kernel, rfl, by decide +kernel, by decide +kernel⟩
theorem cl40 (y : Hy K mg) : ∃ e : Ex1 P w K mg base "BadSample" "number", e.C = He.ga K "BadSample" := by
  obtain ⟨fd, F⟩ := y.fns 40 d40 rfl
  exact mk1 (st := i40) (qual := "BadSample.__init__") (y.glo 40 "BadSample" rfl) (y.ecl 40 ("BadSample", ["number"]) rfl) y.t (List.mem_of_getElem? (show flds[1]? = some _ from rfl)) (y.ini 40 ("BadSample", ["number"]) rfl rfl) F si40 rfl rfl rfl (by decide) (by decide) (fun _ _ _ _ _ _ us hl => match us, hl with | [_, _], _ => rfl)
theorem si41 : FnScope ["self", "name"] ["self", "name"] (defScope i41) := ⟨rfl, rfl, rfl, by decide +kernel, rfl, by decide +kernel, by decide +kernel⟩
theorem cl41 (y : Hy K mg) : ∃ e : Ex1 P w K mg base "BadName" "name", e.C = He.ga K "BadName" := by
  obtain ⟨fd, F⟩ := y.fns 41 d41 rfl
  exact mk1 (st := i41) (qual := "BadName.__init__") (y.glo 41 "BadName" rfl) (y.ecl 41 ("BadName", ["name"]) rfl) y.t (List.mem_of_getElem? (show flds[11]? = some _ from rfl)) (y.ini 41 ("BadName", ["name"]) rfl rfl) F si41 rfl rfl rfl (by decide) (by decide) (fun _ _ _ _ _ _ us hl => match us, hl with | [_, _], _ => rfl)
theorem si42 : FnScope ["self", "word"] ["self", "word"] (defScope i42) := ⟨rfl, rfl, rfl, by decide +kernel, rfl, by decide +kernel, by decide +kernel⟩
theorem cl42 (y : Hy K mg) : ∃ e : Ex1 P w K mg base "TooMany" "word", e.C = He.ga K "TooMany" := by
  obtain ⟨fd, F⟩ := y.fns 42 d42 rfl
  exact mk1 (st := i42) (qual := "TooMany.__init__") (y.glo 42 "TooMany" rfl) (y.ecl 42 ("TooMany", ["word"]) rfl) y.t (List.mem_of_getElem? (show flds[8]? = some _ from rfl)) (y.ini 42 ("TooMany", ["word"]) rfl rfl) F si42 rfl rfl rfl (by decide) (by decide) (fun _ _ _ _ _ _ us hl => match us, hl with | [_, _], _ => rfl)
theorem si43 : FnScope ["self", "number"] ["self", "number"] (defScope i43) := ⟨rfl, rfl, rfl, by decide +kernel, rfl, by decide +kernel, by decide +kernel⟩
theorem cl43 (y : Hy K mg) : ∃ e : Ex1 P w K mg base "TooLong" "number", e.C = He.ga K "TooLong" := by
  obtain ⟨fd, F⟩ := y.fns 43 d43 rfl
  exact mk1 (st := i43) (qual := "TooLong.__init__") (y.glo 43 "TooLong" rfl) (y.ecl 43 ("TooLong", ["number"]) rfl) y.t (List.mem_of_getElem? (show flds[1]? = some _ from rfl)) (y.ini 43 ("TooLong", ["number"]) rfl rfl) F si43 rfl rfl rfl (by decide) (by decide) (fun _ _ _ _ _ _ us hl => match us, hl with | [_, _], _ => rfl)
theorem si44 : FnScope ["self", "name"] ["self", "name"] (defScope i44) := ⟨rfl, rfl, rfl, by decide +kernel, rfl, by decide +kernel, by decide +kernel⟩
theorem cl44 (y : Hy K mg) : ∃ e : Ex1 P w K mg base "Twice" "name", e.C = He.ga K "Twice" := by
  obtain ⟨fd, F⟩ := y.fns 44 d44 rfl
  exact mk1 (st := i44) (qual := "Twice.__init__") (y.glo 44 "Twice" rfl) (y.ecl 44 ("Twice", ["name"]) rfl) y.t (List.mem_of_getElem? (show flds[11]? = some _ from rfl)) (y.ini 44 ("Twice", ["name"]) rfl rfl) F si44 rfl rfl rfl (by decide) (by decide) (fun _ _ _ _ _ _ us hl => match us, hl with | [_, _], _ => rfl)
theorem si45 : FnScope ["self", "name"] ["self", "name"] (defScope i45) := ⟨rfl, rfl, rfl, by decide +kernel, rfl, by decide +kernel, by decide +kernel⟩
theorem cl45 (y : Hy K mg) : ∃ e : Ex1 P w K mg base "Unknown" "name", e.C = He.ga K "Unknown" := by
  obtain ⟨fd, F⟩ := y.fns 45 d45 rfl
  exact mk1 (st := i45) (qual := "Unknown.__init__") (y.glo 45 "Unknown" rfl) (y.ecl 45 ("Unknown", ["name"]) rfl) y.t (List.mem_of_getElem? (show flds[11]? = some _ from rfl)) (y.ini 45 ("Unknown", ["name"]) rfl rfl) F si45 rfl rfl rfl (by decide) (by decide) (fun _ _ _ _ _ _ us hl => match us, hl with | [_, _], _ => rfl)
theorem si46 : FnScope ["self", "word"] ["self", "word"] (defScope i46) := ⟨rfl, rfl, rfl, by decide +kernel, rfl, by decide +kernel, by decide +kernel⟩
theorem cl46 (y : Hy K mg) : ∃ e : Ex1 P w K mg base "Unlike" "word", e.C = He.ga K "Unlike" := by
  obtain ⟨fd, F⟩ := y.fns 46 d46 rfl
  exact mk1 (st := i46) (qual := "Unlike.__init__") (y.glo 46 "Unlike" rfl) (y.ecl 46 ("Unlike", ["word"]) rfl) y.t (List.mem_of_getElem? (show flds[8]? = some _ from rfl)) (y.ini 46 ("Unlike", ["word"]) rfl rfl) F si46 rfl rfl rfl (by decide) (by decide) (fun _ _ _ _ _ _ us hl => match us, hl with | [_, _], _ => rfl)
theorem cl47 (y : Hy K mg) : ∃ e : Ex0 K mg "Empty", e.C = He.ga K "Empty" := by
  obtain ⟨B, hB⟩ := mkB (y.glo 47 "Empty" rfl) (y.ecl 47 ("Empty", []) rfl) y.t
  have k := (y.ecl 47 ("Empty", []) rfl).keep
  have e := B.exc
  rw [hB] at e
  exact ⟨⟨_, y.glo 47 "Empty" rfl, y.emp, k, e⟩, rfl⟩
theorem si48 : FnScope ["self", "standing"] ["self", "standing"] (defScope i48) := ⟨rfl, rfl, rfl, by decide +kernel, rfl, by decide +kernel, by decide +kernel⟩
theorem cl48 (y : Hy K mg) : ∃ e : Ex1 P w K mg base "NoStanding" "standing", e.C = He.ga K "NoStanding" := by
  obtain ⟨fd, F⟩ := y.fns 47 d48 rfl
  exact mk1 (st := i48) (qual := "NoStanding.__init__") (y.glo 48 "NoStanding" rfl) (y.ecl 48 ("NoStanding", ["standing"]) rfl) y.t (List.mem_of_getElem? (show flds[24]? = some _ from rfl)) (y.ini 48 ("NoStanding", ["standing"]) rfl rfl) F si48 rfl rfl rfl (by decide) (by decide) (fun _ _ _ _ _ _ us hl => match us, hl with | [_, _], _ => rfl)
theorem si49 : FnScope ["self", "between"] ["self", "between"] (defScope i49) := ⟨rfl, rfl, rfl, by decide +kernel, rfl, by decide +kernel, by decide +kernel⟩
theorem cl49 (y : Hy K mg) : ∃ e : Ex1 P w K mg base "NoBetween" "between", e.C = He.ga K "NoBetween" := by
  obtain ⟨fd, F⟩ := y.fns 48 d49 rfl
  exact mk1 (st := i49) (qual := "NoBetween.__init__") (y.glo 49 "NoBetween" rfl) (y.ecl 49 ("NoBetween", ["between"]) rfl) y.t (List.mem_of_getElem? (show flds[25]? = some _ from rfl)) (y.ini 49 ("NoBetween", ["between"]) rfl rfl) F si49 rfl rfl rfl (by decide) (by decide) (fun _ _ _ _ _ _ us hl => match us, hl with | [_, _], _ => rfl)
theorem si50 : FnScope ["self", "length"] ["self", "length"] (defScope i50) := ⟨rfl, rfl, rfl, by decide +kernel, rfl, by decide +kernel, by decide +kernel⟩
theorem cl50 (y : Hy K mg) : ∃ e : Ex1 P w K mg base "NoLength" "length", e.C = He.ga K "NoLength" := by
  obtain ⟨fd, F⟩ := y.fns 49 d50 rfl
  exact mk1 (st := i50) (qual := "NoLength.__init__") (y.glo 50 "NoLength" rfl) (y.ecl 50 ("NoLength", ["length"]) rfl) y.t (List.mem_of_getElem? (show flds[26]? = some _ from rfl)) (y.ini 50 ("NoLength", ["length"]) rfl rfl) F si50 rfl rfl rfl (by decide) (by decide) (fun _ _ _ _ _ _ us hl => match us, hl with | [_, _], _ => rfl)
theorem si51 : FnScope ["self", "node"] ["self", "node"] (defScope i51) := ⟨rfl, rfl, rfl, by decide +kernel, rfl, by decide +kernel, by decide +kernel⟩
theorem cl51 (y : Hy K mg) : ∃ e : Ex1 P w K mg base "NoNode" "node", e.C = He.ga K "NoNode" := by
  obtain ⟨fd, F⟩ := y.fns 50 d51 rfl
  exact mk1 (st := i51) (qual := "NoNode.__init__") (y.glo 51 "NoNode" rfl) (y.ecl 51 ("NoNode", ["node"]) rfl) y.t (List.mem_of_getElem? (show flds[27]? = some _ from rfl)) (y.ini 51 ("NoNode", ["node"]) rfl rfl) F si51 rfl rfl rfl (by decide) (by decide) (fun _ _ _ _ _ _ us hl => match us, hl with | [_, _], _ => rfl)
theorem si52 : FnScope ["self", "ahead", "behind"] ["self", "ahead", "behind"] (defScope i52) := ⟨rfl, rfl, rfl, by decide +kernel, rfl, by decide +kernel, by decide +kernel⟩
theorem cl52 (y : Hy K mg) : ∃ e : Ex2 P w K mg base "NoSeat" "ahead" "behind", e.C = He.ga K "NoSeat" := by
  obtain ⟨fd, F⟩ := y.fns 51 d52 rfl
  exact mk2 (st := i52) (qual := "NoSeat.__init__") (y.glo 52 "NoSeat" rfl) (y.ecl 52 ("NoSeat", ["ahead", "behind"]) rfl) y.t (List.mem_of_getElem? (show flds[28]? = some _ from rfl)) (List.mem_of_getElem? (show flds[29]? = some _ from rfl)) (y.ini 52 ("NoSeat", ["ahead", "behind"]) rfl rfl) F si52 rfl rfl rfl rfl (by decide) (by decide) (by decide) (by decide) (fun _ _ _ _ _ _ us hl => match us, hl with | [_, _, _], _ => rfl)
theorem si53 : FnScope ["self", "name"] ["self", "name"] (defScope i53) := ⟨rfl, rfl, rfl, by decide +kernel, rfl, by decide +kernel, by decide +kernel⟩
theorem cl53 (y : Hy K mg) : ∃ e : Ex1 P w K mg base "NotSteady" "name", e.C = He.ga K "NotSteady" := by
  obtain ⟨fd, F⟩ := y.fns 52 d53 rfl
  exact mk1 (st := i53) (qual := "NotSteady.__init__") (y.glo 53 "NotSteady" rfl) (y.ecl 53 ("NotSteady", ["name"]) rfl) y.t (List.mem_of_getElem? (show flds[11]? = some _ from rfl)) (y.ini 53 ("NotSteady", ["name"]) rfl rfl) F si53 rfl rfl rfl (by decide) (by decide) (fun _ _ _ _ _ _ us hl => match us, hl with | [_, _], _ => rfl)
theorem si54 : FnScope ["self", "number"] ["self", "number"] (defScope i54) := ⟨rfl, rfl, rfl, by decide +kernel, rfl, by decide +kernel, by decide +kernel⟩
theorem cl54 (y : Hy K mg) : ∃ e : Ex1 P w K mg base "HasAnswer" "number", e.C = He.ga K "HasAnswer" := by
  obtain ⟨fd, F⟩ := y.fns 53 d54 rfl
  exact mk1 (st := i54) (qual := "HasAnswer.__init__") (y.glo 54 "HasAnswer" rfl) (y.ecl 54 ("HasAnswer", ["number"]) rfl) y.t (List.mem_of_getElem? (show flds[1]? = some _ from rfl)) (y.ini 54 ("HasAnswer", ["number"]) rfl rfl) F si54 rfl rfl rfl (by decide) (by decide) (fun _ _ _ _ _ _ us hl => match us, hl with | [_, _], _ => rfl)
theorem si55 : FnScope ["self", "name"] ["self", "name"] (defScope i55) := ⟨rfl, rfl, rfl, by decide +kernel, rfl, by decide +kernel, by decide +kernel⟩
theorem cl55 (y : Hy K mg) : ∃ e : Ex1 P w K mg base "HasVariable" "name", e.C = He.ga K "HasVariable" := by
  obtain ⟨fd, F⟩ := y.fns 54 d55 rfl
  exact mk1 (st := i55) (qual := "HasVariable.__init__") (y.glo 55 "HasVariable" rfl) (y.ecl 55 ("HasVariable", ["name"]) rfl) y.t (List.mem_of_getElem? (show flds[11]? = some _ from rfl)) (y.ini 55 ("HasVariable", ["name"]) rfl rfl) F si55 rfl rfl rfl (by decide) (by decide) (fun _ _ _ _ _ _ us hl => match us, hl with | [_, _], _ => rfl)
theorem si56 : FnScope ["self", "name"] ["self", "name"] (defScope i56) := ⟨rfl, rfl, rfl, by decide +kernel, rfl, by decide +kernel, by decide +kernel⟩
theorem cl56 (y : Hy K mg) : ∃ e : Ex1 P w K mg base "Nested" "name", e.C = He.ga K "Nested" := by
  obtain ⟨fd, F⟩ := y.fns 55 d56 rfl
  exact mk1 (st := i56) (qual := "Nested.__init__") (y.glo 56 "Nested" rfl) (y.ecl 56 ("Nested", ["name"]) rfl) y.t (List.mem_of_getElem? (show flds[11]? = some _ from rfl)) (y.ini 56 ("Nested", ["name"]) rfl rfl) F si56 rfl rfl rfl (by decide) (by decide) (fun _ _ _ _ _ _ us hl => match us, hl with | [_, _], _ => rfl)
theorem si57 : FnScope ["self", "line"] ["self", "line"] (defScope i57) := ⟨rfl, rfl, rfl, by decide +kernel, rfl, by decide +kernel, by decide +kernel⟩
theorem cl57 (y : Hy K mg) : ∃ e : Ex1 P w K mg base "Torn" "line", e.C = He.ga K "Torn" := by
  obtain ⟨fd, F⟩ := y.fns 56 d57 rfl
  exact mk1 (st := i57) (qual := "Torn.__init__") (y.glo 57 "Torn" rfl) (y.ecl 57 ("Torn", ["line"]) rfl) y.t (List.mem_of_getElem? (show flds[7]? = some _ from rfl)) (y.ini 57 ("Torn", ["line"]) rfl rfl) F si57 rfl rfl rfl (by decide) (by decide) (fun _ _ _ _ _ _ us hl => match us, hl with | [_, _], _ => rfl)
theorem all_ex (y : Hy K mg) : ∃ E : AllEx P w K mg base, E.cs = cls.map (fun p => He.ga K p.1) ∧ E.tail = tE K := by
  obtain ⟨x0, h0⟩ := cl0 (P := P) (w := w) (base := base) y
  obtain ⟨x1, h1⟩ := cl1 (P := P) (w := w) (base := base) y
  obtain ⟨x2, h2⟩ := cl2 (P := P) (w := w) (base := base) y
  obtain ⟨x3, h3⟩ := cl3 (P := P) (w := w) (base := base) y
  obtain ⟨x4, h4⟩ := cl4 (P := P) (w := w) (base := base) y
  obtain ⟨x5, h5⟩ := cl5 (P := P) (w := w) (base := base) y
  obtain ⟨x6, h6⟩ := cl6 (P := P) (w := w) (base := base) y
  obtain ⟨x7, h7⟩ := cl7 (P := P) (w := w) (base := base) y
  obtain ⟨x8, h8⟩ := cl8 (P := P) (w := w) (base := base) y
  obtain ⟨x9, h9⟩ := cl9 (P := P) (w := w) (base := base) y
  obtain ⟨x10, h10⟩ := cl10 (P := P) (w := w) (base := base) y
  obtain ⟨x11, h11⟩ := cl11 (P := P) (w := w) (base := base) y
  obtain ⟨x12, h12⟩ := cl12 (P := P) (w := w) (base := base) y
  obtain ⟨x13, h13⟩ := cl13 (P := P) (w := w) (base := base) y
  obtain ⟨x14, h14⟩ := cl14 (P := P) (w := w) (base := base) y
  obtain ⟨x15, h15⟩ := cl15 (P := P) (w := w) (base := base) y
  obtain ⟨x16, h16⟩ := cl16 (P := P) (w := w) (base := base) y
  obtain ⟨x17, h17⟩ := cl17 (P := P) (w := w) (base := base) y
  obtain ⟨x18, h18⟩ := cl18 (P := P) (w := w) (base := base) y
  obtain ⟨x19, h19⟩ := cl19 (P := P) (w := w) (base := base) y
  obtain ⟨x20, h20⟩ := cl20 (P := P) (w := w) (base := base) y
  obtain ⟨x21, h21⟩ := cl21 (P := P) (w := w) (base := base) y
  obtain ⟨x22, h22⟩ := cl22 (P := P) (w := w) (base := base) y
  obtain ⟨x23, h23⟩ := cl23 (P := P) (w := w) (base := base) y
  obtain ⟨x24, h24⟩ := cl24 (P := P) (w := w) (base := base) y
  obtain ⟨x25, h25⟩ := cl25 (P := P) (w := w) (base := base) y
  obtain ⟨x26, h26⟩ := cl26 (P := P) (w := w) (base := base) y
  obtain ⟨x27, h27⟩ := cl27 (P := P) (w := w) (base := base) y
  obtain ⟨x28, h28⟩ := cl28 (P := P) (w := w) (base := base) y
  obtain ⟨x29, h29⟩ := cl29 (P := P) (w := w) (base := base) y
  obtain ⟨x30, h30⟩ := cl30 (P := P) (w := w) (base := base) y
  obtain ⟨x31, h31⟩ := cl31 (P := P) (w := w) (base := base) y
  obtain ⟨x32, h32⟩ := cl32 (P := P) (w := w) (base := base) y
  obtain ⟨x33, h33⟩ := cl33 (P := P) (w := w) (base := base) y
  obtain ⟨x34, h34⟩ := cl34 (P := P) (w := w) (base := base) y
  obtain ⟨x35, h35⟩ := cl35 (P := P) (w := w) (base := base) y
  obtain ⟨x36, h36⟩ := cl36 (P := P) (w := w) (base := base) y
  obtain ⟨x37, h37⟩ := cl37 (P := P) (w := w) (base := base) y
  obtain ⟨x38, h38⟩ := cl38 (P := P) (w := w) (base := base) y
  obtain ⟨x39, h39⟩ := cl39 (P := P) (w := w) (base := base) y
  obtain ⟨x40, h40⟩ := cl40 (P := P) (w := w) (base := base) y
  obtain ⟨x41, h41⟩ := cl41 (P := P) (w := w) (base := base) y
  obtain ⟨x42, h42⟩ := cl42 (P := P) (w := w) (base := base) y
  obtain ⟨x43, h43⟩ := cl43 (P := P) (w := w) (base := base) y
  obtain ⟨x44, h44⟩ := cl44 (P := P) (w := w) (base := base) y
  obtain ⟨x45, h45⟩ := cl45 (P := P) (w := w) (base := base) y
  obtain ⟨x46, h46⟩ := cl46 (P := P) (w := w) (base := base) y
  obtain ⟨x47, h47⟩ := cl47 y
  obtain ⟨x48, h48⟩ := cl48 (P := P) (w := w) (base := base) y
  obtain ⟨x49, h49⟩ := cl49 (P := P) (w := w) (base := base) y
  obtain ⟨x50, h50⟩ := cl50 (P := P) (w := w) (base := base) y
  obtain ⟨x51, h51⟩ := cl51 (P := P) (w := w) (base := base) y
  obtain ⟨x52, h52⟩ := cl52 (P := P) (w := w) (base := base) y
  obtain ⟨x53, h53⟩ := cl53 (P := P) (w := w) (base := base) y
  obtain ⟨x54, h54⟩ := cl54 (P := P) (w := w) (base := base) y
  obtain ⟨x55, h55⟩ := cl55 (P := P) (w := w) (base := base) y
  obtain ⟨x56, h56⟩ := cl56 (P := P) (w := w) (base := base) y
  obtain ⟨x57, h57⟩ := cl57 (P := P) (w := w) (base := base) y
  refine ⟨⟨x0, x1, x2, x3, x4, x5, x6, x7, x8, x9, x10, x11, x12, x13, x14, x15, x16, x17, x18, x19, x20, x21, x22, x23, x24, x25, x26, x27, x28, x29, x30, x31, x32, x33, x34, x35, x36, x37, x38, x39, x40, x41, x42, x43, x44, x45, x46, x47, x48, x49, x50, x51, x52, x53, x54, x55, x56, x57, tE K, y.glo 71 "TailError" rfl⟩, ?_, rfl⟩
  show [x0.C, x1.C, x2.C, x3.C, x4.C, x5.C, x6.C, x7.C, x8.C, x9.C, x10.C, x11.C, x12.C, x13.C, x14.C, x15.C, x16.C, x17.C, x18.C, x19.C, x20.C, x21.C, x22.C, x23.C, x24.C, x25.C, x26.C, x27.C, x28.C, x29.C, x30.C, x31.C, x32.C, x33.C, x34.C, x35.C, x36.C, x37.C, x38.C, x39.C, x40.C, x41.C, x42.C, x43.C, x44.C, x45.C, x46.C, x47.C, x48.C, x49.C, x50.C, x51.C, x52.C, x53.C, x54.C, x55.C, x56.C, x57.C] = [He.ga K "BadWords", He.ga K "BadStanding", He.ga K "BadKind", He.ga K "BadSpace", He.ga K "BadSeat", He.ga K "BadColumn", He.ga K "BadCalling", He.ga K "BadBeats", He.ga K "BadWish", He.ga K "BadPlan", He.ga K "BadSign", He.ga K "BadText", He.ga K "BadLine", He.ga K "BadLeast", He.ga K "BadWait", He.ga K "BadGoal", He.ga K "BadFile", He.ga K "BadNumber", He.ga K "BadStatement", He.ga K "BadValue", He.ga K "BadDelay", He.ga K "BadPlaces", He.ga K "BadWay", He.ga K "BadRule", He.ga K "BadNames", He.ga K "BadTable", He.ga K "BadDelays", He.ga K "BadFirst", He.ga K "BadStream", He.ga K "BadChain", He.ga K "BadMost", He.ga K "BadBands", He.ga K "BadSlow", He.ga K "BadCycle", He.ga K "BadEar", He.ga K "BadRelay", He.ga K "BadWithin", He.ga K "BadLooks", He.ga K "BadSeen", He.ga K "BadSight", He.ga K "BadSample", He.ga K "BadName", He.ga K "TooMany", He.ga K "TooLong", He.ga K "Twice", He.ga K "Unknown", He.ga K "Unlike", He.ga K "Empty", He.ga K "NoStanding", He.ga K "NoBetween", He.ga K "NoLength", He.ga K "NoNode", He.ga K "NoSeat", He.ga K "NotSteady", He.ga K "HasAnswer", He.ga K "HasVariable", He.ga K "Nested", He.ga K "Torn"]
  rw [h0, h1, h2, h3, h4, h5, h6, h7, h8, h9, h10, h11, h12, h13, h14, h15, h16, h17, h18, h19, h20, h21, h22, h23, h24, h25, h26, h27, h28, h29, h30, h31, h32, h33, h34, h35, h36, h37, h38, h39, h40, h41, h42, h43, h44, h45, h46, h47, h48, h49, h50, h51, h52, h53, h54, h55, h56, h57]
theorem kit_of (y : Hy K mg) : KitOk K (cls.map fun p => He.ga K p.1) (tE K) := by
  have at_ : ∀ (i : Nat) (c : Addr), (cls.map fun p => He.ga K p.1)[i]? = some c → ∃ p, cls[i]? = some p ∧ c = He.ga K p.1 := fun i c h => by
    rw [List.getElem?_map] at h
    obtain ⟨p, h1, h2⟩ := Option.map_eq_some_iff.mp h
    exact ⟨p, h1, h2.symm⟩
  have far : ∀ (i : Nat) (c : Addr), (cls.map fun p => He.ga K p.1)[i]? = some c → c ≠ tE K := fun i c h e => by
    have := incB_lt y.inc c (List.mem_of_getElem? h)
    rw [e] at this
    exact Nat.lt_irrefl _ this
  refine ⟨fun i j c d hi hj => ?_, fun i c hi => ?_, fun i c hi => ?_, fun i c hi => ?_⟩
  · obtain ⟨p, hp, rfl⟩ := at_ i c hi
    obtain ⟨q, hq, rfl⟩ := at_ j d hj
    rw [(y.ecl i p hp).one (y.ecl j q hq) (far j _ hj)]
    exact congrArg some (decide_eq_decide.mpr (incB_inj (incB_tl y.inc) hi hj))
  · obtain ⟨p, hp, rfl⟩ := at_ i c hi
    exact (y.ecl i p hp).oneT y.t (far i _ hi)
  · obtain ⟨p, hp, rfl⟩ := at_ i c hi
    exact (y.ecl i p hp).oneV
  · obtain ⟨p, hp, rfl⟩ := at_ i c hi
    have c4 : ∀ n ∈ four, n ∈ four ++ p.2 ∧ n ∈ nT := fun n hn => ⟨List.mem_append_left _ hn, List.mem_append_left _ hn⟩
    obtain ⟨B, hB⟩ := mkB (x := "Empty") (mg := fun _ => some (.ref (He.ga K p.1))) rfl (y.ecl i p hp) y.t
    have e := B.exc
    rw [hB] at e
    exact e
theorem mkD {n : Str} {ps : List Str} (G : mg n = some (.ref C)) (F : FunD K n n (defArgs st) (defBody st) (defScope st) [] [] C fd)
    (bb : ∀ (kV doc pm : Value) (an : Option Addr) (cdv ct : Value) (us : List Value), us.length = ps.length → bindArgs (PySem.W.fnOf n n (defArgs st) (defBody st) (defScope st) .none kV doc pm an cdv ct) ⟨us, []⟩ = pure (ps.zip us)) : ∃ D : Df K mg n st ps, D.f = C ∧ D.fd = fd :=
  ⟨⟨C, fd, fun_of F, G, F.bindsN bb⟩, rfl, rfl⟩
theorem Dlaw (y : Hy K mg) : ∃ D : Df K mg "law" s_law ["script"], D.f = He.ga K "law" := by
  obtain ⟨fd, F⟩ := y.fns 57 e_law rfl
  obtain ⟨D, h, _⟩ := mkD (ps := ["script"]) (st := s_law) (y.glo 58 "law" rfl) F (fun _ _ _ _ _ _ us hl => match us, hl with | [_], _ => rfl)
  exact ⟨D, h⟩
theorem D_law_draw (y : Hy K mg) : ∃ D : Df K mg "_law_draw" s__law_draw ["script"], D.f = He.ga K "_law_draw" := by
  obtain ⟨fd, F⟩ := y.fns 58 e__law_draw rfl
  obtain ⟨D, h, _⟩ := mkD (ps := ["script"]) (st := s__law_draw) (y.glo 59 "_law_draw" rfl) F (fun _ _ _ _ _ _ us hl => match us, hl with | [_], _ => rfl)
  exact ⟨D, h⟩
theorem D_law_mix (y : Hy K mg) : ∃ D : Df K mg "_law_mix" s__law_mix ["cell", "turn"], D.f = He.ga K "_law_mix" := by
  obtain ⟨fd, F⟩ := y.fns 59 e__law_mix rfl
  obtain ⟨D, h, _⟩ := mkD (ps := ["cell", "turn"]) (st := s__law_mix) (y.glo 60 "_law_mix" rfl) F (fun _ _ _ _ _ _ us hl => match us, hl with | [_, _], _ => rfl)
  exact ⟨D, h⟩
theorem D_law_pick (y : Hy K mg) : ∃ D : Df K mg "_law_pick" s__law_pick ["draw", "many"], D.f = He.ga K "_law_pick" := by
  obtain ⟨fd, F⟩ := y.fns 60 e__law_pick rfl
  obtain ⟨D, h, _⟩ := mkD (ps := ["draw", "many"]) (st := s__law_pick) (y.glo 61 "_law_pick" rfl) F (fun _ _ _ _ _ _ us hl => match us, hl with | [_, _], _ => rfl)
  exact ⟨D, h⟩
theorem D_law_string (y : Hy K mg) : ∃ D : Df K mg "_law_string" s__law_string ["draw", "most"], D.f = He.ga K "_law_string" := by
  obtain ⟨fd, F⟩ := y.fns 61 e__law_string rfl
  obtain ⟨D, h, _⟩ := mkD (ps := ["draw", "most"]) (st := s__law_string) (y.glo 62 "_law_string" rfl) F (fun _ _ _ _ _ _ us hl => match us, hl with | [_, _], _ => rfl)
  exact ⟨D, h⟩
theorem D_law_thing (y : Hy K mg) : ∃ D : Df K mg "_law_thing" s__law_thing ["draw", "depth"], D.f = He.ga K "_law_thing" := by
  obtain ⟨fd, F⟩ := y.fns 62 e__law_thing rfl
  obtain ⟨D, h, _⟩ := mkD (ps := ["draw", "depth"]) (st := s__law_thing) (y.glo 63 "_law_thing" rfl) F (fun _ _ _ _ _ _ us hl => match us, hl with | [_, _], _ => rfl)
  exact ⟨D, h⟩
theorem D_law_flags (y : Hy K mg) : ∃ D : Df K mg "_law_flags" s__law_flags ["made"], D.f = He.ga K "_law_flags" := by
  obtain ⟨fd, F⟩ := y.fns 63 e__law_flags rfl
  obtain ⟨D, h, _⟩ := mkD (ps := ["made"]) (st := s__law_flags) (y.glo 64 "_law_flags" rfl) F (fun _ _ _ _ _ _ us hl => match us, hl with | [_], _ => rfl)
  exact ⟨D, h⟩
theorem D_law_right (y : Hy K mg) : ∃ D : Df K mg "_law_right" s__law_right ["at", "one", "two", "told", "due"], D.f = He.ga K "_law_right" := by
  obtain ⟨fd, F⟩ := y.fns 64 e__law_right rfl
  obtain ⟨D, h, _⟩ := mkD (ps := ["at", "one", "two", "told", "due"]) (st := s__law_right) (y.glo 65 "_law_right" rfl) F (fun _ _ _ _ _ _ us hl => match us, hl with | [_, _, _, _, _], _ => rfl)
  exact ⟨D, h⟩
theorem D_law_first_things (y : Hy K mg) : ∃ D : Df K mg "_law_first_things" s__law_first_things ["thing", "other"], D.f = He.ga K "_law_first_things" := by
  obtain ⟨fd, F⟩ := y.fns 65 e__law_first_things rfl
  obtain ⟨D, h, _⟩ := mkD (ps := ["thing", "other"]) (st := s__law_first_things) (y.glo 66 "_law_first_things" rfl) F (fun _ _ _ _ _ _ us hl => match us, hl with | [_, _], _ => rfl)
  exact ⟨D, h⟩
theorem D_law_other_things (y : Hy K mg) : ∃ D : Df K mg "_law_other_things" s__law_other_things ["thing", "other"], D.f = He.ga K "_law_other_things" := by
  obtain ⟨fd, F⟩ := y.fns 66 e__law_other_things rfl
  obtain ⟨D, h, _⟩ := mkD (ps := ["thing", "other"]) (st := s__law_other_things) (y.glo 67 "_law_other_things" rfl) F (fun _ _ _ _ _ _ us hl => match us, hl with | [_, _], _ => rfl)
  exact ⟨D, h⟩
theorem D_law_first_numbers (y : Hy K mg) : ∃ D : Df K mg "_law_first_numbers" s__law_first_numbers ["thing", "other"], D.f = He.ga K "_law_first_numbers" := by
  obtain ⟨fd, F⟩ := y.fns 67 e__law_first_numbers rfl
  obtain ⟨D, h, _⟩ := mkD (ps := ["thing", "other"]) (st := s__law_first_numbers) (y.glo 68 "_law_first_numbers" rfl) F (fun _ _ _ _ _ _ us hl => match us, hl with | [_, _], _ => rfl)
  exact ⟨D, h⟩
theorem D_law_other_numbers (y : Hy K mg) : ∃ D : Df K mg "_law_other_numbers" s__law_other_numbers ["thing", "other"], D.f = He.ga K "_law_other_numbers" := by
  obtain ⟨fd, F⟩ := y.fns 68 e__law_other_numbers rfl
  obtain ⟨D, h, _⟩ := mkD (ps := ["thing", "other"]) (st := s__law_other_numbers) (y.glo 69 "_law_other_numbers" rfl) F (fun _ _ _ _ _ _ us hl => match us, hl with | [_, _], _ => rfl)
  exact ⟨D, h⟩
theorem D_law_strings (y : Hy K mg) : ∃ D : Df K mg "_law_strings" s__law_strings ["thing", "other"], D.f = He.ga K "_law_strings" := by
  obtain ⟨fd, F⟩ := y.fns 69 e__law_strings rfl
  obtain ⟨D, h, _⟩ := mkD (ps := ["thing", "other"]) (st := s__law_strings) (y.glo 70 "_law_strings" rfl) F (fun _ _ _ _ _ _ us hl => match us, hl with | [_, _], _ => rfl)
  exact ⟨D, h⟩
theorem bi_of (y : Hy K mg) : Bi mg := ⟨y.free 0 "len" rfl, y.free 1 "int" rfl, y.free 2 "sum" rfl, y.free 3 "abs" rfl, y.free 4 "range" rfl, y.free 5 "str" rfl, y.free 6 "tuple" rfl, y.free 7 "list" rfl, y.free 8 "isinstance" rfl, y.free 9 "all" rfl, y.free 10 "any" rfl, y.free 11 "repr" rfl, y.free 12 "bool" rfl, y.free 13 "sorted" rfl, y.free 14 "enumerate" rfl, y.free 15 "zip" rfl, y.free 16 "min" rfl, y.free 17 "max" rfl, y.free 18 "ValueError" rfl⟩
theorem facts (y : Hy K mg) : ∃ fd : FuncData, (∀ (s : Shared) (u : Value), BindsTo s fd ⟨[u], []⟩ [("script", u)]) ∧ ∀ base : Heap, FnG P w K mg base CX0 7 (He.ga K "law") fd ["script"] (spLaw K) := by
  obtain ⟨fd, F⟩ := y.fns 57 e_law rfl
  have bb : ∀ (kV doc pm : Value) (an : Option Addr) (cdv ct : Value) (us : List Value), us.length = (["script"] : List Str).length → bindArgs (PySem.W.fnOf "law" "law" (defArgs s_law) (defBody s_law) (defScope s_law) .none kV doc pm an cdv ct) ⟨us, []⟩ = pure ((["script"] : List Str).zip us) := fun _ _ _ _ _ _ us hl => match us, hl with | [_], _ => rfl
  obtain ⟨D, h1, h2⟩ := mkD (ps := ["script"]) (st := s_law) (y.glo 58 "law" rfl) F bb
  obtain ⟨y0, _⟩ := D_law_draw y
  obtain ⟨y1, _⟩ := D_law_mix y
  obtain ⟨y2, _⟩ := D_law_pick y
  obtain ⟨y3, _⟩ := D_law_string y
  obtain ⟨y4, _⟩ := D_law_thing y
  obtain ⟨y5, _⟩ := D_law_flags y
  obtain ⟨y6, _⟩ := D_law_right y
  obtain ⟨y7, _⟩ := D_law_first_things y
  obtain ⟨y8, _⟩ := D_law_other_things y
  obtain ⟨y9, _⟩ := D_law_first_numbers y
  obtain ⟨y10, _⟩ := D_law_other_numbers y
  obtain ⟨y11, _⟩ := D_law_strings y
  have b := FunD.bindsA (ps := ["script"]) F bb
  refine ⟨fd, fun s v => b s [v] rfl, fun base => ?_⟩
  obtain ⟨E, e1, e2⟩ := all_ex (P := P) (w := w) (base := base) y
  have k := kit_of y
  rw [← e1, ← e2] at k
  have r := ok_law ⟨D, y0, y1, y2, y3, y4, y5, y6, y7, y8, y9, y10, y11⟩ (bi_of y) E k
  rw [← h1, ← h2]
  exact r
end
end K6
set_option maxHeartbeats 8000000
namespace TB
open PySem PySem.Spec PyProof.Rows L2
/-- nothing is told of the heap, or the script alone -/
def scriptH (a : Addr) (us : List Value) (zs : List Int) : Hp := fun b => if b = a then some (.frz { cls := .type "list", data := .seq us.toArray } (.lst (zs.map V.int))) else none
theorem scriptH_at {a : Addr} {us : List Value} {zs : List Int} : scriptH a us zs a = some (.frz { cls := .type "list", data := .seq us.toArray } (.lst (zs.map V.int))) := if_pos rfl
theorem scriptH_ne {a b : Addr} {us : List Value} {zs : List Int} (h : b ≠ a) : scriptH a us zs b = none := if_neg h
section
variable {P : Program} {w : World} {K : PySem.W.Frag} {mg mb : Str → Option Value} {k : Nat} {fA a : Addr} {fd : FuncData} {x : Str} {sp : Sp} {t : Shared} {us : List Value} {zs : List Int}
/-- a def that prints, called from outside, at a heap that H tells of: H tells of nothing but the script -/
theorem outer_call (H : Hp) (one : ∀ b, H b ≠ none → b = a ∧ K.lookup a = none ∧ ∃ o ys, H b = some (.frz o (.lst ys))) (sq : SqL K H a (zs.map V.int)) (ok : HOk P w H t.heap)
    (hK : K.In t.heap) (g1 : t.heap.Ns mainGlobals mg) (g2 : t.heap.Ns builtinsNs mb) (g3 : ∀ y : Str, y ≠ "__name__" → mb y = bootBuiltins y) (g4 : t.heap.NoLimit) (g5 : t.gens = #[])
    (at_ : t.heap.get? a = some { cls := .type "list", data := .seq us.toArray }) (room : Room k callerA)
    (F : ∀ base : Heap, FnG P w K mg base CX0 k fA fd [x] sp) (bind : ∀ (s : Shared) (u : Value), BindsTo s fd ⟨[u], []⟩ [(x, u)]) (says : sp [.ref a] H (fun v _ => v = .bl true) fun _ _ _ => False) :
    codeAny (model P w) callerA (.call (.ref fA) ⟨[.ref a], []⟩) (fun r t' => r = .ok (.ret (.bool true)) ∧ OldK t.heap t'.heap ∧ t'.os = t.os ∧ AllBare t'.gens) t := by
  have free : ∀ b, b ≠ a → H b = none := fun b n => by
    cases e : H b with
    | none => rfl
    | some u => exact absurd (one b (by rw [e]; intro z; cases z)).1 n
  have ns : ∀ {b : Addr} {m : Str → Option Value}, t.heap.Ns b m → (hidT t.heap H).Ns b m := by
    rintro b m ⟨o, es, ep, e, d, r⟩
    refine ⟨o, es, ep, hidT_get e (free b fun z => ?_), d, r⟩
    rw [z, at_] at e
    cases e
    cases d
  have inK : K.In (hidT t.heap H) := fun b o e => by
    refine hidT_get (hK b o e) ?_
    cases q : H b with
    | none => rfl
    | some u =>
      obtain ⟨e1, e2, _⟩ := one b (by rw [q]; intro z; cases z)
      rw [e1, e2] at e
      cases e
  obtain ⟨lim, l1, l2⟩ := g4
  have env : Env0 P w K mg (hidT t.heap H) callerA [] t H :=
    ⟨rfl, ⟨inK, ns g1, ⟨mb, ns g2, g3⟩, lim, ns l1, l2⟩, fun _ _ e => of_hidT e, Nat.le_of_eq (hidT_size _ _), trivial, fun _ hb => (List.not_mem_nil hb).elim, ok, .of_eq g5⟩
  refine codeAny_mono ((F (hidT t.heap H)).run callerA [] t H ⟨[.ref a], []⟩ [.ref a] [.ref a] _ _ rfl room env (bind t (.ref a)) (.cons rfl .nil) says) fun r t' hr => ?_
  match r, hr with
  | .error _, z => exact z.elim
  | .ok (.ret u), ⟨v, H2, os, bare, un, ok2, rel, q⟩ =>
    obtain rfl : v = .bl true := q
    obtain rfl : u = Value.bool true := rel
    refine ⟨rfl, OldK.of_keep fun b o e => ?_, os, bare⟩
    by_cases hb : H b = none
    · exact un.keep b o e hb (List.not_mem_nil) (List.not_mem_nil)
    · obtain ⟨_, _, o2, ys, z⟩ := one b hb
      have p1 := (ok b _ z).1
      have p2 := (ok2 b _ (un.frzs b o2 _ z)).1
      rw [p1] at e
      cases e
      exact p2
/-- the same, whatever the script is -/
theorem outer_any (hK : K.In t.heap) (g1 : t.heap.Ns mainGlobals mg) (g2 : t.heap.Ns builtinsNs mb) (g3 : ∀ y : Str, y ≠ "__name__" → mb y = bootBuiltins y) (g4 : t.heap.NoLimit) (g5 : t.gens = #[])
    (at_ : t.heap.get? a = some { cls := .type "list", data := .seq us.toArray }) (whole : IntsAre us zs) (len : zs.length ≤ sizeLine) (room : Room k callerA)
    (F : ∀ base : Heap, FnG P w K mg base CX0 k fA fd [x] sp) (bind : ∀ (s : Shared) (u : Value), BindsTo s fd ⟨[u], []⟩ [(x, u)]) (says : ∀ H, SqL K H a (zs.map V.int) → sp [.ref a] H (fun v _ => v = .bl true) fun _ _ _ => False) :
    codeAny (model P w) callerA (.call (.ref fA) ⟨[.ref a], []⟩) (fun r t' => r = .ok (.ret (.bool true)) ∧ OldK t.heap t'.heap ∧ t'.os = t.os ∧ AllBare t'.gens) t := by
  have rel := vals_ints whole
  have lu : us.length = zs.length := whole.length
  by_cases hk : K.lookup a = none
  · have sq : SqL K (scriptH a us zs) a (zs.map V.int) := .inl (.inr ⟨_, scriptH_at⟩)
    refine outer_call (scriptH a us zs) (fun b hb => ?_) sq (fun b u e => ?_) hK g1 g2 g3 g4 g5 at_ room F bind (says _ sq)
    · by_cases e : b = a
      · exact ⟨e, hk, _, _, by rw [e]; exact scriptH_at⟩
      · exact absurd (scriptH_ne e) hb
    · by_cases hb : b = a
      · subst hb
        rw [scriptH_at] at e
        cases e
        exact ⟨at_, by rw [List.length_map]; exact len, us, _, rel, at_⟩
      · rw [scriptH_ne hb] at e
        cases e
  · obtain ⟨o, ho⟩ := Option.ne_none_iff_exists'.mp hk
    have e := hK a o ho
    rw [at_] at e
    cases e
    have sq : SqL K (fun _ => none) a (zs.map V.int) := .inr ⟨_, us.toArray, _, ho, rfl, rfl, rfl, by rw [List.size_toArray, lu]; exact len, by simpa using rel⟩
    exact outer_call (fun _ => none) (fun b hb => absurd rfl hb) sq (fun b u e => by cases e) hK g1 g2 g3 g4 g5 at_ room F bind (says _ sq)
end
end TB
set_option maxHeartbeats 8000000
namespace K6
open PySem PySem.Spec PyProof.Rows L2 TB
theorem run (w : World) : HandSHeadRun.RunEq R (PySem.W.view R.prog [73]) hk ob 20000 loose w := by
  intro os
  obtain ⟨s, hs, h1⟩ := Option.map_eq_some_iff.mp (run1 w os)
  have h2 := run2 w os
  have h3 := run3 w os
  have h4 := run4 w os
  rw [hs] at h2 h3 h4 ⊢
  have g2 := Option.some.inj h2
  have g3 := Option.some.inj h3
  have g4 := Option.some.inj h4
  exact congrArg some (Prod.ext h1 (Prod.ext g2 (Prod.ext g3 g4)))
end K6
open PySem PySem.W PySem.Calls PyProof.Rows
theorem PySem.Challenge.cw_tailheard_k06_errors_made_holds : PySem.Challenge.rw_tailheard_k06_errors_made.Holds := by
  w_on; o_law
  refine HandSHeadRun.head_any (r := OpenLaw.row PySem.Challenge.rw_tailheard_k06_errors_made) (q := view (OpenLaw.row PySem.Challenge.rw_tailheard_k06_errors_made).prog [73]) (H := K6.hk) (ob := K6.ob) (M := 20000) (loose := K6.loose) (d := HandSHeadRun.topDef (OpenLaw.row PySem.Challenge.rw_tailheard_k06_errors_made).prog 73) (kwd := []) K6.ob_eq
    (by kernel_rfl) (fun s => by kernel_rfl) K6.run (by kernel_rfl) (by kernel_rfl) (by kernel_rfl) (by rfl) (by first | assumption | decide +kernel) (by decide +kernel) ⟨rfl, rfl, rfl, rfl, rfl, by decide +kernel⟩ ?hw ?hc
  case hw => w_witness2
  case hc =>
    refine Att.attach_call (l := PySem.Challenge.rw_tailheard_k06_errors_made) (n := 63) rfl (by kernel_rfl) fun w s₀ t mg mb fa o pm cd doc a vs ns G Y ho hd hcd hmg hobj hints hlen hg => ?_
    obtain ⟨K, KX, c⟩ := Y
    have y := K6.hy_of KX G.T.g c
    obtain ⟨fd, hb, hF⟩ := K6.facts (P := (PySem.Challenge.rw_tailheard_k06_errors_made).prog) (w := w) y
    have e := (y.glo 58 "law" rfl).symm.trans (show mg ("law" : PySem.Str) = some (.ref fa) by
      have e : (HandSHeadRun.topDef (OpenLaw.row PySem.Challenge.rw_tailheard_k06_errors_made).prog 73).name = ("law" : PySem.Str) := by kernel_rfl
      rw [← e]
      exact hmg)
    cases e
    exact TB.outer_any KX G.T.g G.T.b G.T.builtins G.T.nolimit hg hobj hints (Nat.le_trans hlen (by decide)) ⟨rfl, by decide, by decide⟩ hF hb fun H hS => ⟨a, ns, rfl, hS, hlen, fun _ => rfl⟩
