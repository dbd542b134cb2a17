import PyProof.Rows.All
import Wide.All
import OpenK.AllK
import Wide.FinOn
import HandS.ForMost
import HandS.Defaults
import HandS.Property
import HandS.IsInst
import HandS.More
import HandS.Star
import HandS.Conv
import HandS.Sort
import HandS.SortInts
import HandS.TupSets
import HandS.TupAny
import HandS.NoneIn
import HandS.Codes
import HandS.Zip
import HandS.HeadHook1
import HandS.HeadHook2
import HandS.GenCall
import HandS.GenList
import HandS.ClsMeth
import HandS.HeadNt
import HandS.OwnIter
import HandS.MakeKwOnly
import PySem.Challenge.RW_wheelreach_k32_whole_sure_by_all_reading
import KE.KStateDown
import KE.KSuper
import KE.KIsAll
import HandS.NestedK
import HandS.Head0
import HandS.Head1
import HandS.Head2
import HandS.HeadEnd
import KE.GoesMore
import KE.GoesEnum
import HandS.IterVal
import KE.KOwnIter
import PyProof.Rows.RowBridgeG
import KE.KDictZip
set_option Elab.async false
set_option linter.all false
set_option maxRecDepth 100000
set_option maxHeartbeats 4000000
namespace K32
open PySem PyProof.Rows L2
/-! ### the text by places -/
def prog : Program := PySem.Challenge.pw_wheelreach_k32_whole_sure_by_all_reading
def top (i : Nat) : Stmt := PySem.Challenge.pw_wheelreach_k32_whole_sure_by_all_reading.main.body.getD i (.Pass ⟨0, 0, 0, 0⟩)
/-! ### defs by names -/
def fdA (K : PySem.W.Frag) (f : Addr) : FuncData := match K.lookup f with
  | some ⟨_, _, .func fd, _⟩ => fd
  | _ => default
abbrev ga : PySem.W.Frag → Str → Addr := He.ga
abbrev ma : PySem.W.Frag → Addr → Str → Addr := He.ma
/-- a def of the module under the name x -/
structure DefF (K : PySem.W.Frag) (mg : Str → Option Value) (x nm : Str) (st : Stmt) : Prop where
  d : FunD K nm nm (defArgs st) (defBody st) (defScope st) [] [] (ga K x) (fdA K (ga K x))
  m : mg x = some (.ref (ga K x))
/-- the getter of a property, the function of a static method -/
def pa (K : PySem.W.Frag) (C : Addr) (m : Str) : Addr := match PySem.W.recIn K (ma K C m) "property" with
  | some (.ref g :: _) => g
  | _ => 0
def sa (K : PySem.W.Frag) (C : Addr) (m : Str) : Addr := match PySem.W.recIn K (ma K C m) "staticmethod" with
  | some (.ref g :: _) => g
  | _ => 0
end K32

/-! the head: what it looks at, its run -/
namespace K32
open PySem PySem.Spec PyProof.Rows L2
/-! ### a def where it stands -/
structure DX where
  at_ : (Nat → Addr) → PySem.W.Frag → Addr
  name : Str
  qual : Str
  st : Stmt
  clo : List Str
  kwd : List (Str × V)
abbrev FnX : Type := Option (Str × Str × Arguments × FuncBody × Scope × Addr × List Str × Addr)
def fnX (fd : FuncData) : FnX := some (fd.name, fd.qualname, fd.params, fd.body, fd.scope, fd.globals, fd.closure.map (·.1), fd.builtins)
def DX.val (d : DX) : FnX := some (d.name, d.qual, defArgs d.st, .stmts (defBody d.st), defScope d.st, mainGlobals, d.clo, builtinsNs)
/-- what it looks like, whether its code and defaults are right -/
def lookX (K : PySem.W.Frag) (d : DX) (a : Addr) : Bool × FnX := match K.lookup a with
  | some ⟨_, _, .func fd, _⟩ => (PySem.W.codeIn K fd.code d.qual && (He.dflB K fd.defaults [] && He.kwdB K fd.kwdefaults d.kwd), fnX fd)
  | _ => (false, none)
def DX.look (e : Nat → Addr) (K : PySem.W.Frag) (d : DX) : Bool × FnX := HandSHeadRun.frNat (d.at_ e K) (lookX K d)
/-! ### checks -/
def headB (o : Option (List Value)) (g : Addr) : Bool := match o with
  | some (.ref b :: _) => decide (b = g)
  | _ => false
def clsB (K : PySem.W.Frag) (C : Addr) : Bool := PySem.W.plainGet K C Str.empty && (PySem.W.hasDictIn K C && (PySem.W.plainOver K C && He.eqO (PySem.W.findIn K (.ref C) "__setattr__") (some (some (.builtin "object.__setattr__")))))
def noatB (K : PySem.W.Frag) (C : Addr) (f : Str) : Bool := He.eqO (PySem.W.findIn K (.ref C) f) (some none)
def mkB (K : PySem.W.Frag) (C f : Addr) : Bool := PySem.W.makesIn K C && (He.eqO (PySem.W.findIn K (.ref C) "__init__") (some (some (.ref f))) && (PySem.W.isFn K (.ref f) && PySem.W.keepIn K (.ref C)))
def isaB (K : PySem.W.Frag) (C D : Addr) : Bool := clsB K C && (He.eqO (PySem.W.findIn K (.ref C) "__class__") (some (some (.builtin "object.__class__"))) && (He.eqO (PySem.W.specialIn K (.builtin "object.__class__") "__get__") (some (some (.builtin "getset_descriptor.__get__"))) &&
  (decide (PySem.W.takesIn K (.builtin "object.__class__") = some true) && (decide (PySem.W.mroIn K C (.type "object") = some true) && decide (PySem.W.kitOne K (.ref C) (.ref D) = some true)))))
def propB (K : PySem.W.Frag) (C : Addr) (f : Str) (p g : Addr) : Bool := He.eqO (PySem.W.findIn K (.ref C) f) (some (some (.ref p))) && (He.eqO (PySem.W.specialIn K (.ref p) "__get__") (some (some (.builtin "property.__get__"))) && (decide (PySem.W.takesIn K (.ref p) = some true) && headB (PySem.W.recIn K p "property") g))
def smAt (o : Option PySem.W.CFound) (C p : Addr) : Bool := match o with
  | some (.get (.builtin i) (.ref a) .none (.ref b)) => decide (i = "staticmethod.__get__") && (decide (a = p) && decide (b = C))
  | _ => false
def smB (K : PySem.W.Frag) (C : Addr) (m : Str) (p g : Addr) : Bool := smAt (PySem.W.findCls K (.ref C) (.type "type") m) C p && (headB (PySem.W.recIn K p "staticmethod") g && (PySem.W.readsIn K C (.type "type") && (He.eqO (PySem.W.specialIn K (.ref C) "__getattribute__") (some (some (.builtin "type.__getattribute__"))) && PySem.W.keepIn K (.ref g))))
def ownB (K : PySem.W.Frag) (C : Addr) (m : Str) (f : Addr) : Bool := He.eqO (PySem.W.findIn K (.ref C) m) (some (some (.ref f))) && (PySem.W.isFn K (.ref f) && PySem.W.fnIn K f)
def methB (K : PySem.W.Frag) (C : Addr) (m : Str) (f : Addr) : Bool := He.eqO (PySem.W.findIn K (.ref C) m) (some (some (.ref f))) && (PySem.W.isFn K (.ref f) && PySem.W.keepIn K (.ref f))
def conB (K : PySem.W.Frag) (C : Addr) (f : Str) (u : Value) : Bool := He.eqO (PySem.W.findIn K (.ref C) f) (some (some u)) && He.eqO (PySem.W.specialIn K u "__get__") (some none)
def itemA (K : PySem.W.Frag) (a : Addr) (i : Nat) : Addr := match K.lookup a with
  | some ⟨_, _, .seq its _, _⟩ => (match its.toList[i]? with
    | some (.ref b) => b
    | _ => 0)
  | _ => 0
def tupAtB (K : PySem.W.Frag) (a : Addr) (vs : List V) : Bool := match K.lookup a with
  | some ⟨.type c, _, .seq its _, _⟩ => decide (c = "tuple") && (decide (its.size ≤ sizeLine) && He.relAll vs its.toList)
  | _ => false
def everyB (K : PySem.W.Frag) (a : Addr) : Bool := tupAtB K a [.int 1, .ref (itemA K a 1)] && (tupAtB K (itemA K a 1) [.ref (itemA K (itemA K a 1) 0)] && tupAtB K (itemA K (itemA K a 1) 0) [.int 0, .int 0])
def soB (K : PySem.W.Frag) (C f : Addr) : Bool := He.eqO (PySem.W.ks_superIn K C C "__init__") (some (some (.ref f))) && (decide (PySem.W.mroIn K C (.ref C) = some true) && ((PySem.W.clsIn K C).isSome && (decide (PySem.W.typeIn K (.ref f) = some (.type "function")) && (PySem.W.fnIn K f && He.eqO (PySem.W.nsIn K cStatics "thirdparty.any") (some none)))))
def fileB (o : Option Value) : Bool := match o with
  | some (.str z _) => prog.main.file == z
  | _ => false
def cellB (K : PySem.W.Frag) (cc D : Addr) : Bool := match K.lookup cc with
  | some ⟨_, _, .cell (some (.ref b)), _⟩ => decide (b = D)
  | _ => false
def codeB (K : PySem.W.Frag) (c : Addr) : Bool := match K.lookup c with
  | some ⟨_, _, .fields vs, _⟩ => fileB vs[2]?
  | _ => false
def supB (K : PySem.W.Frag) (f D : Addr) : Bool := match K.lookup f with
  | some ⟨_, _, .func fd, _⟩ => (match fd.code, fd.closure with
    | .ref c, [(_, cc)] => codeB K c && cellB K cc D
    | _, _ => false)
  | _ => false
/-! ### the lists -/
def faL0 : List He.Fa := [
  .free "abs",
  .free "all",
  .free "any",
  .free "bool",
  .free "enumerate",
  .free "int",
  .free "isinstance",
  .free "iter",
  .free "len",
  .free "list",
  .free "max",
  .free "min",
  .free "range",
  .free "sorted",
  .free "sum",
  .free "super",
  .free "tuple",
  .free "zip",
  .int "MOST_RUNS_lots" 2000,
  .int "MOST_RUNS_joins" 2000]
def faL1 : List He.Fa := [
  .int "MOST" 1000000000000,
  .int "MOST_WHEELS" 8,
  .int "MOST_FAR" 10000000000000000000000000000000000000000000000000000000000000000000000000000000000000000000000000000]
def faL : List He.Fa := faL0 ++ faL1
def cxL0 : List ((Nat → Addr) → PySem.W.Frag → Bool) := [
  fun e K => clsB K (e 0),
  fun e K => noatB K (e 0) "step",
  fun e K => noatB K (e 0) "own",
  fun e K => noatB K (e 0) "part",
  fun e K => noatB K (e 0) "total",
  fun e K => noatB K (e 0) "inverse",
  fun e K => clsB K (e 1),
  fun e K => noatB K (e 1) "step",
  fun e K => noatB K (e 1) "rows",
  fun e K => noatB K (e 1) "firsts",
  fun e K => clsB K (e 2),
  fun e K => noatB K (e 2) "period",
  fun e K => noatB K (e 2) "runs",
  fun e K => noatB K (e 2) "size",
  fun e K => noatB K (e 2) "own_begins",
  fun e K => clsB K (e 3),
  fun e K => noatB K (e 3) "own_parts",
  fun e K => clsB K (e 4),
  fun e K => noatB K (e 4) "own_parts",
  fun e K => noatB K (e 4) "tables"]
def cxL1 : List ((Nat → Addr) → PySem.W.Frag → Bool) := [
  fun e K => clsB K (e 5),
  fun e K => noatB K (e 5) "own_parts",
  fun e K => noatB K (e 5) "tables",
  fun e K => clsB K (e 6),
  fun e K => noatB K (e 6) "own_parts",
  fun e K => noatB K (e 6) "low",
  fun e K => noatB K (e 6) "high",
  fun e K => noatB K (e 6) "marks",
  fun e K => noatB K (e 6) "low_off",
  fun e K => noatB K (e 6) "high_off",
  fun e K => clsB K (e 7),
  fun e K => noatB K (e 7) "period",
  fun e K => noatB K (e 7) "back",
  fun e K => noatB K (e 7) "ahead",
  fun e K => clsB K (e 8),
  fun e K => noatB K (e 8) "period",
  fun e K => noatB K (e 8) "back",
  fun e K => noatB K (e 8) "ahead",
  fun e K => clsB K (e 9),
  fun e K => noatB K (e 9) "period"]
def cxL2 : List ((Nat → Addr) → PySem.W.Frag → Bool) := [
  fun e K => noatB K (e 9) "back",
  fun e K => noatB K (e 9) "ahead",
  fun e K => clsB K (e 10),
  fun e K => noatB K (e 10) "period",
  fun e K => noatB K (e 10) "back",
  fun e K => noatB K (e 10) "ahead",
  fun e K => clsB K (e 11),
  fun e K => noatB K (e 11) "period",
  fun e K => noatB K (e 11) "back",
  fun e K => noatB K (e 11) "ahead",
  fun e K => clsB K (e 12),
  fun e K => noatB K (e 12) "wheels",
  fun e K => noatB K (e 12) "off",
  fun e K => noatB K (e 12) "more",
  fun e K => noatB K (e 12) "lost",
  fun e K => mkB K (e 0) (ma K (e 0) "__init__"),
  fun e K => mkB K (e 1) (ma K (e 1) "__init__"),
  fun e K => mkB K (e 2) (ma K (e 2) "__init__"),
  fun e K => mkB K (e 7) (ma K (e 7) "__init__"),
  fun e K => mkB K (e 12) (ma K (e 12) "__init__")]
def cxL3 : List ((Nat → Addr) → PySem.W.Frag → Bool) := [
  fun e K => methB K (e 0) "place" (ma K (e 0) "place"),
  fun e K => methB K (e 1) "hit" (ma K (e 1) "hit"),
  fun e K => methB K (e 2) "at_least" (ma K (e 2) "at_least"),
  fun e K => methB K (e 12) "parting" (ma K (e 12) "parting"),
  fun e K => methB K (e 12) "is_blind" (ma K (e 12) "is_blind"),
  fun e K => methB K (e 12) "choices" (ma K (e 12) "choices"),
  fun e K => isaB K (e 7) (e 7),
  fun e K => propB K (e 7) "trusted" (ma K (e 7) "trusted") (pa K (e 7) "trusted"),
  fun e K => propB K (e 7) "play" (ma K (e 7) "play") (pa K (e 7) "play"),
  fun e K => propB K (e 7) "near" (ma K (e 7) "near") (pa K (e 7) "near"),
  fun e K => conB K (e 7) "TRUSTED" (.bool false),
  fun e K => ownB K (e 7) "__call__" (ma K (e 7) "__call__"),
  fun e K => methB K (e 7) "does_part" (ma K (e 7) "does_part"),
  fun e K => isaB K (e 8) (e 7),
  fun e K => propB K (e 8) "trusted" (ma K (e 7) "trusted") (pa K (e 7) "trusted"),
  fun e K => propB K (e 8) "play" (ma K (e 7) "play") (pa K (e 7) "play"),
  fun e K => propB K (e 8) "near" (ma K (e 7) "near") (pa K (e 7) "near"),
  fun e K => conB K (e 8) "TRUSTED" (.bool false),
  fun e K => ownB K (e 8) "__call__" (ma K (e 7) "__call__"),
  fun e K => methB K (e 8) "does_part" (ma K (e 7) "does_part")]
def cxL4 : List ((Nat → Addr) → PySem.W.Frag → Bool) := [
  fun e K => isaB K (e 9) (e 7),
  fun e K => propB K (e 9) "trusted" (ma K (e 7) "trusted") (pa K (e 7) "trusted"),
  fun e K => propB K (e 9) "play" (ma K (e 7) "play") (pa K (e 7) "play"),
  fun e K => propB K (e 9) "near" (ma K (e 7) "near") (pa K (e 7) "near"),
  fun e K => conB K (e 9) "TRUSTED" (.bool false),
  fun e K => ownB K (e 9) "__call__" (ma K (e 7) "__call__"),
  fun e K => methB K (e 9) "does_part" (ma K (e 7) "does_part"),
  fun e K => isaB K (e 10) (e 7),
  fun e K => propB K (e 10) "trusted" (ma K (e 7) "trusted") (pa K (e 7) "trusted"),
  fun e K => propB K (e 10) "play" (ma K (e 7) "play") (pa K (e 7) "play"),
  fun e K => propB K (e 10) "near" (ma K (e 7) "near") (pa K (e 7) "near"),
  fun e K => conB K (e 10) "TRUSTED" (.bool false),
  fun e K => ownB K (e 10) "__call__" (ma K (e 7) "__call__"),
  fun e K => methB K (e 10) "does_part" (ma K (e 7) "does_part"),
  fun e K => isaB K (e 11) (e 7),
  fun e K => propB K (e 11) "trusted" (ma K (e 7) "trusted") (pa K (e 7) "trusted"),
  fun e K => propB K (e 11) "play" (ma K (e 7) "play") (pa K (e 7) "play"),
  fun e K => propB K (e 11) "near" (ma K (e 7) "near") (pa K (e 7) "near"),
  fun e K => conB K (e 11) "TRUSTED" (.bool true),
  fun e K => ownB K (e 11) "__call__" (ma K (e 7) "__call__")]
def cxL5 : List ((Nat → Addr) → PySem.W.Frag → Bool) := [
  fun e K => methB K (e 11) "does_part" (ma K (e 7) "does_part"),
  fun e K => smB K (e 2) "around" (ma K (e 2) "around") (sa K (e 2) "around"),
  fun e K => isaB K (e 2) (e 2),
  fun e K => isaB K (e 12) (e 12),
  fun e K => propB K (e 12) "spare" (ma K (e 12) "spare") (pa K (e 12) "spare"),
  fun e K => ownB K (e 12) "__getitem__" (ma K (e 12) "__getitem__"),
  fun e K => ownB K (e 12) "__iter__" (ma K (e 12) "__iter__"),
  fun e K => ownB K (e 5) "__bool__" (ma K (e 3) "__bool__"),
  fun e K => conB K (e 5) "IS_TRUE" (.bool true),
  fun e K => ownB K (e 6) "__bool__" (ma K (e 3) "__bool__"),
  fun e K => conB K (e 6) "IS_TRUE" (.bool false),
  fun e K => everyB K (e 13),
  fun e K => supB K (ma K (e 4) "__init__") (e 4),
  fun e K => soB K (e 4) (ma K (e 3) "__init__"),
  fun e K => mkB K (e 4) (ma K (e 4) "__init__"),
  fun e K => supB K (ma K (e 5) "__init__") (e 5),
  fun e K => soB K (e 5) (ma K (e 3) "__init__"),
  fun e K => mkB K (e 5) (ma K (e 5) "__init__"),
  fun e K => supB K (ma K (e 6) "__init__") (e 6),
  fun e K => soB K (e 6) (ma K (e 3) "__init__")]
def cxL6 : List ((Nat → Addr) → PySem.W.Frag → Bool) := [
  fun e K => mkB K (e 6) (ma K (e 6) "__init__"),
  fun e K => supB K (ma K (e 8) "__init__") (e 8),
  fun e K => soB K (e 8) (ma K (e 7) "__init__"),
  fun e K => mkB K (e 8) (ma K (e 8) "__init__"),
  fun e K => supB K (ma K (e 9) "__init__") (e 9),
  fun e K => soB K (e 9) (ma K (e 7) "__init__"),
  fun e K => mkB K (e 9) (ma K (e 9) "__init__"),
  fun e K => supB K (ma K (e 10) "__init__") (e 10),
  fun e K => soB K (e 10) (ma K (e 7) "__init__"),
  fun e K => mkB K (e 10) (ma K (e 10) "__init__"),
  fun e K => supB K (ma K (e 11) "__init__") (e 11),
  fun e K => soB K (e 11) (ma K (e 7) "__init__"),
  fun e K => mkB K (e 11) (ma K (e 11) "__init__")]
def cxL : List ((Nat → Addr) → PySem.W.Frag → Bool) := cxL0 ++ cxL1 ++ cxL2 ++ cxL3 ++ cxL4 ++ cxL5 ++ cxL6
def dxL0 : List DX := [
  ⟨fun e K => (e 14), "is_whole", "is_whole", (top 14), [], []⟩,
  ⟨fun e K => (e 15), "need_whole", "need_whole", (top 15), [], []⟩,
  ⟨fun e K => (e 16), "need_above", "need_above", (top 16), [], []⟩,
  ⟨fun e K => (e 17), "divisor_of", "divisor_of", (top 17), [], []⟩,
  ⟨fun e K => (e 18), "common", "common", (top 18), [], []⟩,
  ⟨fun e K => (e 19), "multiple", "multiple", (top 19), [], []⟩,
  ⟨fun e K => (e 20), "apart", "apart", (top 20), [], []⟩,
  ⟨fun e K => (e 21), "inverse_of", "inverse_of", (top 21), [], []⟩,
  ⟨fun e K => (e 22), "is_run", "is_run", (top 23), [], []⟩,
  ⟨fun e K => (e 23), "length_of", "length_of", (top 24), [], []⟩,
  ⟨fun e K => (e 24), "place_among", "place_among", (top 25), [], []⟩,
  ⟨fun e K => (e 25), "count_in", "count_in", (top 26), [], []⟩,
  ⟨fun e K => (e 26), "remainders", "remainders", (top 27), [], []⟩,
  ⟨fun e K => (e 27), "meets", "meets", (top 28), [], []⟩,
  ⟨fun e K => (e 28), "begun_inside", "begun_inside", (top 31), [], []⟩]
def dxL1 : List DX := [
  ⟨fun e K => (e 29), "shared_far", "shared_far", (top 32), [], []⟩,
  ⟨fun e K => (e 30), "shared_runs", "shared_runs", (top 33), [], []⟩,
  ⟨fun e K => (e 31), "melted", "melted", (top 34), [], []⟩,
  ⟨fun e K => (e 32), "closed_round", "closed_round", (top 35), [], []⟩,
  ⟨fun e K => (e 33), "maximal", "maximal", (top 36), [], []⟩,
  ⟨fun e K => (e 34), "least_form", "least_form", (top 37), [], []⟩,
  ⟨fun e K => (e 35), "need_integer", "need_integer", (top 46), [], []⟩,
  ⟨fun e K => (e 36), "need_few", "need_few", (top 47), [], []⟩,
  ⟨fun e K => (e 37), "need_lots", "need_lots", (top 65), [], []⟩,
  ⟨fun e K => (e 38), "table_of", "table_of", (top 66), [], []⟩,
  ⟨fun e K => (e 39), "next_table", "next_table", (top 67), [], []⟩,
  ⟨fun e K => (e 40), "join", "join", (top 68), [], []⟩,
  ⟨fun e K => (e 41), "table_lot", "table_lot", (top 69), [], []⟩,
  ⟨fun e K => (e 42), "need_part", "need_part", (top 81), [], []⟩,
  ⟨fun e K => (e 43), "need_value", "need_value", (top 82), [], []⟩]
def dxL2 : List DX := [
  ⟨fun e K => (e 44), "need_count", "need_count", (top 93), [], []⟩,
  ⟨fun e K => (e 45), "some_of", "some_of", (top 94), [], []⟩,
  ⟨fun e K => (e 46), "need_meter", "need_meter", (top 101), [], []⟩,
  ⟨fun e K => (e 47), "need_number", "need_number", (top 102), [], []⟩,
  ⟨fun e K => (e 48), "near_lots", "near_lots", (top 104), [], []⟩,
  ⟨fun e K => (e 49), "tables_by_choice", "tables_by_choice", (top 105), [], []⟩,
  ⟨fun e K => (e 50), "shared_mark", "shared_mark", (top 106), [], []⟩,
  ⟨fun e K => (e 51), "pair_at", "pair_at", (top 107), [], []⟩,
  ⟨fun e K => (e 52), "sure", "sure", (top 108), [], []⟩,
  ⟨fun e K => (e 53), "_law_pen", "_law_pen", (top 110), [], []⟩,
  ⟨fun e K => (e 54), "_law_draw", "_law_draw", (top 111), [], []⟩,
  ⟨fun e K => (e 55), "_law_pick", "_law_pick", (top 112), [], []⟩,
  ⟨fun e K => (e 56), "_law_wheel", "_law_wheel", (top 113), [], []⟩,
  ⟨fun e K => (e 57), "_law_plain", "_law_plain", (top 114), [], []⟩,
  ⟨fun e K => (e 58), "_law_of", "_law_of", (top 115), [], []⟩]
def dxL3 : List DX := [
  ⟨fun e K => (e 59), "_law_meter", "_law_meter", (top 116), [], []⟩,
  ⟨fun e K => (e 60), "_law_lets", "_law_lets", (top 119), [], []⟩,
  ⟨fun e K => (e 61), "_law_readings", "_law_readings", (top 120), [], []⟩,
  ⟨fun e K => (e 62), "_law_off", "_law_off", (top 121), [], []⟩,
  ⟨fun e K => (e 63), "_law_is_sure", "_law_is_sure", (top 122), [], []⟩,
  ⟨fun e K => (e 64), "law", "law", (top 123), [], []⟩,
  ⟨fun e K => ma K (e 0) "__init__", "__init__", "Round.__init__", inClass (top 29) 0, [], []⟩,
  ⟨fun e K => ma K (e 0) "place", "place", "Round.place", inClass (top 29) 1, [], []⟩,
  ⟨fun e K => ma K (e 1) "__init__", "__init__", "Ranked.__init__", inClass (top 30) 0, [], []⟩,
  ⟨fun e K => ma K (e 1) "hit", "hit", "Ranked.hit", inClass (top 30) 1, [], []⟩,
  ⟨fun e K => ma K (e 2) "__init__", "__init__", "Lot.__init__", inClass (top 48) 1, [], []⟩,
  ⟨fun e K => sa K (e 2) "around", "around", "Lot.around", inClass (top 48) 4, [], []⟩,
  ⟨fun e K => ma K (e 2) "at_least", "at_least", "Lot.at_least", inClass (top 48) 22, [], []⟩,
  ⟨fun e K => ma K (e 3) "__init__", "__init__", "Paper.__init__", inClass (top 60) 2, [], []⟩,
  ⟨fun e K => ma K (e 3) "__bool__", "__bool__", "Paper.__bool__", inClass (top 60) 4, [], []⟩]
def dxL4 : List DX := [
  ⟨fun e K => ma K (e 7) "__init__", "__init__", "Wheel.__init__", inClass (top 85) 1, [], []⟩,
  ⟨fun e K => pa K (e 7) "trusted", "trusted", "Wheel.trusted", inClass (top 85) 3, [], []⟩,
  ⟨fun e K => pa K (e 7) "play", "play", "Wheel.play", inClass (top 85) 4, [], []⟩,
  ⟨fun e K => pa K (e 7) "near", "near", "Wheel.near", inClass (top 85) 6, [], []⟩,
  ⟨fun e K => ma K (e 7) "does_part", "does_part", "Wheel.does_part", inClass (top 85) 11, [], []⟩,
  ⟨fun e K => ma K (e 7) "__call__", "__call__", "Wheel.__call__", inClass (top 85) 13, [], []⟩,
  ⟨fun e K => ma K (e 12) "__init__", "__init__", "Meter.__init__", inClass (top 95) 0, [], [("off", .int 0), ("more", .int 0), ("lost", .int 0)]⟩,
  ⟨fun e K => pa K (e 12) "spare", "spare", "Meter.spare", inClass (top 95) 2, [], []⟩,
  ⟨fun e K => ma K (e 12) "parting", "parting", "Meter.parting", inClass (top 95) 7, [], []⟩,
  ⟨fun e K => ma K (e 12) "is_blind", "is_blind", "Meter.is_blind", inClass (top 95) 8, [], []⟩,
  ⟨fun e K => ma K (e 12) "choices", "choices", "Meter.choices", inClass (top 95) 9, [], []⟩,
  ⟨fun e K => ma K (e 12) "__iter__", "__iter__", "Meter.__iter__", inClass (top 95) 11, [], []⟩,
  ⟨fun e K => ma K (e 12) "__getitem__", "__getitem__", "Meter.__getitem__", inClass (top 95) 12, [], []⟩,
  ⟨fun e K => ma K (e 4) "__init__", "__init__", "Join.__init__", inClass (top 64) 1, ["__class__"], []⟩,
  ⟨fun e K => ma K (e 5) "__init__", "__init__", "Sure.__init__", inClass (top 99) 1, ["__class__"], []⟩]
def dxL5 : List DX := [
  ⟨fun e K => ma K (e 6) "__init__", "__init__", "Unsure.__init__", inClass (top 100) 2, ["__class__"], []⟩,
  ⟨fun e K => ma K (e 8) "__init__", "__init__", "Even.__init__", inClass (top 86) 0, ["__class__"], []⟩,
  ⟨fun e K => ma K (e 9) "__init__", "__init__", "Exact.__init__", inClass (top 87) 0, ["__class__"], []⟩,
  ⟨fun e K => ma K (e 10) "__init__", "__init__", "Lagging.__init__", inClass (top 88) 0, ["__class__"], []⟩,
  ⟨fun e K => ma K (e 11) "__init__", "__init__", "Grid.__init__", inClass (top 89) 1, ["__class__"], []⟩]
def dxL : List DX := dxL0 ++ dxL1 ++ dxL2 ++ dxL3 ++ dxL4 ++ dxL5
def gnL0 : List Str := [
  "Round",
  "Ranked",
  "Lot",
  "Paper",
  "Join",
  "Sure",
  "Unsure",
  "Wheel",
  "Even",
  "Exact",
  "Lagging",
  "Grid",
  "Meter",
  "EVERY_TABLE",
  "is_whole",
  "need_whole",
  "need_above",
  "divisor_of",
  "common",
  "multiple",
  "apart",
  "inverse_of",
  "is_run",
  "length_of",
  "place_among",
  "count_in",
  "remainders",
  "meets",
  "begun_inside",
  "shared_far"]
def gnL1 : List Str := [
  "shared_runs",
  "melted",
  "closed_round",
  "maximal",
  "least_form",
  "need_integer",
  "need_few",
  "need_lots",
  "table_of",
  "next_table",
  "join",
  "table_lot",
  "need_part",
  "need_value",
  "need_count",
  "some_of",
  "need_meter",
  "need_number_reaches",
  "near_lots",
  "tables_by_choice",
  "shared_mark",
  "pair_at",
  "sure",
  "_law_pen",
  "_law_draw",
  "_law_pick",
  "_law_wheel",
  "_law_plain",
  "_law_of",
  "_law_meter"]
def gnL2 : List Str := [
  "_law_lets",
  "_law_readings",
  "_law_off",
  "_law_is_sure",
  "law"]
def gnL : List Str := gnL0 ++ gnL1 ++ gnL2
def loL0 : List Str := [
  "_wall",
  "ReachError",
  "BadNumber",
  "BadLot",
  "BadWheel",
  "BadMeter",
  "BadValue",
  "BadText",
  "NoMember",
  "NoPlace",
  "Unlike",
  "TooMany",
  "is_whole",
  "need_whole",
  "need_above",
  "divisor_of",
  "common",
  "multiple",
  "apart",
  "inverse_of",
  "is_run",
  "length_of",
  "place_among",
  "count_in",
  "remainders",
  "meets",
  "Round",
  "Ranked",
  "begun_inside",
  "shared_far"]
def loL1 : List Str := [
  "shared_runs",
  "melted",
  "closed_round",
  "maximal",
  "least_form",
  "gaps_of",
  "MOST_PERIOD",
  "MOST_RUNS_lots",
  "MOST_TIMES",
  "MOST_FIGURES_lots",
  "need_lot",
  "need_times",
  "need_integer",
  "need_few",
  "Lot",
  "lot_of",
  "moved",
  "complement",
  "both",
  "written",
  "number_in",
  "need_word",
  "need_word_lots",
  "read_runs",
  "read_lot",
  "Paper",
  "MOST_RUNS_joins",
  "EVERY_TABLE",
  "Join",
  "need_lots"]
def loL2 : List Str := [
  "table_of",
  "next_table",
  "join",
  "table_lot",
  "FIGURES",
  "MOST_FIGURES_words",
  "whole_of",
  "number_at",
  "need_word_words",
  "words_of",
  "need_end",
  "MOST",
  "need_part",
  "need_value",
  "need_number",
  "need_number_wheels",
  "Wheel",
  "Even",
  "Exact",
  "Lagging",
  "Grid",
  "read_wheel",
  "MOST_WHEELS",
  "need_count",
  "some_of",
  "Meter",
  "read_meter",
  "MOST_FAR",
  "Sure",
  "Unsure"]
def loL3 : List Str := [
  "need_meter",
  "need_number_reaches",
  "near_lots",
  "tables_by_choice",
  "shared_mark",
  "pair_at",
  "sure",
  "_law_pen",
  "_law_draw",
  "_law_pick",
  "_law_wheel",
  "_law_plain",
  "_law_of",
  "_law_meter",
  "_law_parts",
  "_law_is_blind",
  "_law_lets",
  "_law_readings",
  "_law_off",
  "_law_is_sure"]
def loL : List Str := loL0 ++ loL1 ++ loL2 ++ loL3
/-! ### the part of the heap that is looked at -/
def refs2 (g : Addr → Option Obj) (a : Addr) : List Addr := match g a with
  | some ⟨_, _, .func fd, _⟩ => He.refV fd.code
  | some ⟨_, _, .cls cd, _⟩ => [cd.ns]
  | some ⟨_, _, .seq its _, _⟩ => its.toList.flatMap He.refV
  | _ => []
def refs3 (g : Addr → Option Obj) (a : Addr) : List Addr := match g a with
  | some ⟨_, _, .dict es _, _⟩ => es.toList.flatMap fun e => He.refV e.val
  | some ⟨_, _, .seq its _, _⟩ => its.toList.flatMap He.refV
  | _ => []
def refs4 (g : Addr → Option Obj) (a : Addr) : List Addr := match g a with
  | some ⟨_, _, .func fd, _⟩ => He.refV fd.code ++ He.refV fd.kwdefaults ++ fd.closure.map (·.2)
  | some ⟨_, _, .fields vs, _⟩ => vs.toList.flatMap He.refV
  | _ => []
def refs5 (g : Addr → Option Obj) (a : Addr) : List Addr := match g a with
  | some ⟨_, _, .func fd, _⟩ => He.refV fd.code
  | _ => []
/-! forcing -/
def frL {α : Type} : List Addr → (List Addr → α) → α
  | [], k => k []
  | a :: l, k => HandSHeadRun.frNat a fun a => frL l fun l => k (a :: l)
theorem frL_eq {α : Type} : ∀ (l : List Addr) (k : List Addr → α), frL l k = k l
  | [], k => rfl
  | a :: l, k => by rw [frL, HandSHeadRun.frNat_eq, frL_eq l]
def frO {α : Type} (o : Option Obj) (k : Option Obj → α) : α := match o with
  | some ⟨c, d, dt, sl⟩ => k (some ⟨c, d, dt, sl⟩)
  | none => k none
theorem frO_eq {α : Type} (o : Option Obj) (k : Option Obj → α) : frO o k = k o := by
  cases o <;> rfl
def consK (a : Addr) (o : Option Obj) (K : PySem.W.Frag) : PySem.W.Frag := match o with
  | some o => (a, o) :: K
  | none => K
def frK {α : Type} (g : Addr → Option Obj) : List Addr → (PySem.W.Frag → α) → α
  | [], k => k []
  | a :: l, k => frO (g a) fun o => frK g l fun K => k (consK a o K)
theorem frK_eq {α : Type} (g : Addr → Option Obj) : ∀ (l : List Addr) (k : PySem.W.Frag → α), frK g l k = k (He.frG g l)
  | [], k => rfl
  | a :: l, k => by
    rw [frK, frO_eq, frK_eq g l]
    congr 1
    unfold He.frG consK
    rw [List.filterMap_cons]
    cases g a <;> rfl
def asX {α : Type} (g : Addr → Option Obj) (k : List Addr → α) : α :=
  frL (gnL.map (ga (He.frG g [mainGlobals]))) fun l1 => frL (l1.flatMap (refs2 g)) fun l2 => frL (l2.flatMap (refs3 g)) fun l3 => frL (l3.flatMap (refs4 g)) fun l4 => frL (l4.flatMap (refs5 g)) fun l5 =>
  k ([mainGlobals, cStatics] ++ l1.take 14 ++ l2.take 14 ++ l1.drop 14 ++ l2.drop 14 ++ l3 ++ l4 ++ l5)
theorem asX_eq {α : Type} (g : Addr → Option Obj) : ∃ l, ∀ k : List Addr → α, asX g k = k l := by
  refine ⟨asX g id, fun k => ?_⟩
  unfold asX
  simp only [frL_eq, id]
/-! ### the Hook -/
abbrev AlX : Type := Bool × List (Bool × FnX)
def gnA (K : PySem.W.Frag) : List Addr := gnL.map (ga K)
def sayX (K : PySem.W.Frag) (l : List Addr) : AlX := ((faL.all fun f => f.ok K) && (l.all (fun a => decide (a ≠ 0)) && cxL.all fun f => f (fun i => l.getD i 0) K), dxL.map fun d => d.look (fun i => l.getD i 0) K)
def obsX (K : PySem.W.Frag) : AlX := frL (gnA K) (sayX K)
def valX : AlX := (true, dxL.map fun d => (true, d.val))
def SaysX (K : PySem.W.Frag) : Prop := sayX K (gnA K) = valX
def obsXG (g : Addr → Option Obj) : AlX := asX g fun l => frK g l obsX
theorem obsXG_eq (g : Addr → Option Obj) : ∃ l, obsXG g = sayX (He.frG g l) (gnA (He.frG g l)) := by
  obtain ⟨l, h⟩ := asX_eq (α := AlX) g
  refine ⟨l, ?_⟩
  unfold obsXG
  rw [h, frK_eq]
  unfold obsX
  rw [frL_eq]
def hookX : PySem.W.Hook where
  α := AlX
  obs := fun s => obsXG s.heap.get?
  val := fun _ => valX
  says := fun _ h => ∃ K : PySem.W.Frag, K.In h ∧ SaysX K
  of := fun _ s e => by
    obtain ⟨l, h⟩ := obsXG_eq s.heap.get?
    exact ⟨_, He.frG_in (as := l), by unfold SaysX; rw [← h]; exact e⟩
  keeps := fun _ _ _ ⟨K, hK, c⟩ k => ⟨K, PySem.W.Frag.In.keeps hK k, c⟩
def obX (s : PySem.W.SharedT) : AlX := obsXG (HandSHeadRun.getT s)
theorem obX_eq (s : PySem.W.SharedT) : obX s = hookX.obs s.abs := by
  have e : HandSHeadRun.getT s = s.abs.heap.get? := funext (HandSHeadRun.getT_eq s)
  show obsXG (HandSHeadRun.getT s) = obsXG s.abs.heap.get?
  rw [e]
abbrev rowX : PySem.W.OpenRow := PySem.W.OpenLaw.row PySem.Challenge.rw_wheelreach_k32_whole_sure_by_all_reading
end K32

/-! the run of the text, looked at three times -/
namespace K32
open PySem PySem.Spec PyProof.Rows L2
abbrev qX : Program := PySem.W.view rowX.prog [123]
noncomputable abbrev endX (w : World) (os : OsState) : Option PySem.W.SharedT := HandSHeadRun.endF (HandSHeadRun.stepQ (HandSHeadRun.denQ HandSHeadRun.tabQ) rowX.prog w) 15000 rowX.prog w os
theorem runA (w : World) (os : OsState) : (endX w os).map (fun s => HandSHeadRun.looksF rowX.prog (PySem.W.boot_heap w.params) s.abs) = some true := by
  kernel_rfl
theorem runB (w : World) (os : OsState) : (endX w os).map (fun s => HandSHeadRun.seenQ qX loL (importedModules rowX.prog.main.body) (fun s => PySem.W.xlAt qX [] s && PySem.W.recOk rowX.toRowW.records s) s.abs) = some (PySem.W.openGood qX loL) := by
  kernel_rfl
theorem runC (w : World) (os : OsState) : (endX w os).map (fun s => (obX s).1) = some true := by
  kernel_rfl
theorem runD (w : World) (os : OsState) : (endX w os).map (fun s => (obX s).2) = some (dxL.map fun d => (true, d.val)) := by
  kernel_rfl
theorem join4 {α β γ δ ε : Type} {x : Option α} {f : α → β} {g : α → γ} {h : α → δ × ε} {a : β} {b : γ} {c : δ} {d : ε} (e1 : x.map f = some a) (e2 : x.map g = some b) (e3 : x.map (fun s => (h s).1) = some c) (e4 : x.map (fun s => (h s).2) = some d) : x.map (fun s => (f s, g s, h s)) = some (a, b, c, d) := by
  cases x with
  | none => cases e1
  | some s =>
    obtain rfl : f s = a := Option.some.inj e1
    obtain rfl : g s = b := Option.some.inj e2
    obtain rfl : (h s).1 = c := Option.some.inj e3
    obtain rfl : (h s).2 = d := Option.some.inj e4
    rfl
theorem runX (w : World) : HandSHeadRun.RunEq rowX qX hookX obX 15000 loL w := fun os => join4 (runA w os) (runB w os) (runC w os) (runD w os)
end K32

/-! K32Mirror: the program's defs as plain Lean functions; none: the def is not walked there. -/
namespace K32
abbrev Run := Int × Int
abbrev Row := Int × Int × Int
abbrev Tab := Int × List Run

theorem ob {α β : Type} {x : Option α} {f : α → Option β} {b : β} (h : (x >>= f) = some b) : ∃ a, x = some a ∧ f a = some b := by
  cases x with
  | none => cases h
  | some a => exact ⟨a, rfl, h⟩
theorem og {α : Type} {c : Prop} [Decidable c] {x : Option α} {y : α} (h : (if c then x else none) = some y) : c ∧ x = some y := by
  by_cases hc : c
  · rw [if_pos hc] at h; exact ⟨hc, h⟩
  · rw [if_neg hc] at h; cases h
def mapO {α β : Type} (f : α → Option β) : List α → Option (List β)
  | [] => some []
  | x :: xs => do
    let y ← f x
    let ys ← mapO f xs
    some (y :: ys)
def foldO {α β : Type} (f : β → α → Option β) : β → List α → Option β
  | b, [] => some b
  | b, x :: xs => do
    let c ← f b x
    foldO f c xs

/-! ### numbers -/
def pmod (a b : Int) : Option Int := if 0 < b then some (a % b) else none
def pdiv (a b : Int) : Option Int := if 0 < b ∧ b < 1073741824 then some (a / b) else none
def pmul (a b : Int) : Option Int := if -18446744073709551616 < a ∧ a < 18446744073709551616 then some (a * b) else none
def mn (a b : Int) : Int := if b < a then b else a
def mx (a b : Int) : Int := if b > a then b else a
def absI (n : Int) : Int := if n < 0 then -n else n
def gcdF : Nat → Int → Int → Option Int
  | 0, _, _ => none
  | n + 1, a, b => if b = 0 then some a else if 0 < b then gcdF n b (a % b) else none
def divisorOf (a b : Int) : Option Int := gcdF 64 a b
def commonO (ns : List Int) : Option Int := foldO (fun g n => divisorOf g (absI n)) 0 ns
def multStep (found number : Int) : Option Int := do
  let g ← divisorOf found number
  let q ← pdiv found g
  pmul q number
def multipleO (ns : List Int) : Option Int := if ns.all (fun n => decide (1 ≤ n)) = true then foldO multStep 1 ns else none
def apartI (d p : Int) : Int := mn (d % p) (p - d % p)
def invF : Nat → Int → Int → Int → Int → Option Int
  | 0, _, _, _, _ => none
  | n + 1, one, other, first, second => if 0 < other then (do
      let times ← pdiv one other
      let a ← pmul times other
      let b ← pmul times second
      invF n other (one - a) second (first - b)) else some first
def inverseO (number modulus : Int) : Option Int := do
  let o ← pmod number modulus
  let f ← invF 64 modulus o 0 1
  pmod f modulus

theorem pmod_eq {a b r : Int} (h : pmod a b = some r) : 0 < b ∧ r = a % b := by
  obtain ⟨h1, h2⟩ := og h
  exact ⟨h1, (Option.some.inj h2).symm⟩
theorem pdiv_eq {a b r : Int} (h : pdiv a b = some r) : (0 < b ∧ b < 1073741824) ∧ r = a / b := by
  obtain ⟨h1, h2⟩ := og h
  exact ⟨h1, (Option.some.inj h2).symm⟩
theorem pmul_eq {a b r : Int} (h : pmul a b = some r) : (-18446744073709551616 < a ∧ a < 18446744073709551616) ∧ r = a * b := by
  obtain ⟨h1, h2⟩ := og h
  exact ⟨h1, (Option.some.inj h2).symm⟩
theorem inverseO_eq {n m r : Int} (h : inverseO n m = some r) : 0 < m ∧ ∃ f, invF 64 m (n % m) 0 1 = some f ∧ r = f % m := by
  unfold inverseO at h
  obtain ⟨o, ho, h2⟩ := ob h
  obtain ⟨f, hf, h3⟩ := ob h2
  obtain ⟨hm, rfl⟩ := pmod_eq ho
  exact ⟨hm, f, hf, (pmod_eq h3).2⟩
/-! ### rings -/
def lenR (r : Run) : Int := r.2 - r.1 + 1
def placeF : Nat → List Int → Int → Nat → Nat → Option Nat
  | 0, _, _, _, _ => none
  | n + 1, row, v, low, high => if low < high then (match row[(low + high) / 2]? with
      | some x => if x < v then placeF n row v ((low + high) / 2 + 1) high else placeF n row v low ((low + high) / 2)
      | none => none) else some low
theorem placeF_eq {m : Nat} {row : List Int} {v : Int} {lo hi n : Nat} (h : placeF (m + 1) row v lo hi = some n) :
    (lo < hi ∧ ∃ x, row[(lo + hi) / 2]? = some x ∧ ((x < v ∧ placeF m row v ((lo + hi) / 2 + 1) hi = some n) ∨ (¬ x < v ∧ placeF m row v lo ((lo + hi) / 2) = some n))) ∨ (¬ lo < hi ∧ n = lo) := by
  unfold placeF at h
  by_cases hb : lo < hi
  · rw [if_pos hb] at h
    cases ex : row[(lo + hi) / 2]? with
    | none => rw [ex] at h; cases h
    | some x =>
      rw [ex] at h
      have h2 : (if x < v then placeF m row v ((lo + hi) / 2 + 1) hi else placeF m row v lo ((lo + hi) / 2)) = some n := h
      refine .inl ⟨hb, x, rfl, ?_⟩
      by_cases hx : x < v
      · rw [if_pos hx] at h2
        exact .inl ⟨hx, h2⟩
      · rw [if_neg hx] at h2
        exact .inr ⟨hx, h2⟩
  · rw [if_neg hb] at h
    exact .inr ⟨hb, (Option.some.inj h).symm⟩
theorem placeF_pos {m : Nat} {row : List Int} {v : Int} {lo hi n : Nat} (h : placeF m row v lo hi = some n) : ∃ k, m = k + 1 := by
  cases m with
  | zero => cases h
  | succ k => exact ⟨k, rfl⟩
def placeO (row : List Int) (v : Int) : Option Nat := placeF 64 row v 0 row.length
def countO (row : List Int) (begin many step : Int) : Option Int := do
  let low ← pmod begin step
  let m ← pmod many step
  let q ← pdiv many step
  let qn ← pmul q (row.length : Int)
  let p1 ← placeO row (mn step (low + m))
  let p2 ← placeO row low
  if low + m > step then (do
    let p3 ← placeO row (low + m - step)
    some (qn + (p1 : Int) - (p2 : Int) + (p3 : Int))) else some (qn + (p1 : Int) - (p2 : Int) + 0)
theorem countO_eq {row : List Int} {begin many step r : Int} (h : countO row begin many step = some r) :
    0 < step ∧ step < 1073741824 ∧ (-18446744073709551616 < many / step ∧ many / step < 18446744073709551616) ∧ ∃ p1 p2 : Nat, placeO row (mn step (begin % step + many % step)) = some p1 ∧ placeO row (begin % step) = some p2 ∧
      ((begin % step + many % step > step ∧ ∃ p3 : Nat, placeO row (begin % step + many % step - step) = some p3 ∧ r = many / step * (row.length : Int) + p1 - p2 + p3) ∨
       (¬ begin % step + many % step > step ∧ r = many / step * (row.length : Int) + p1 - p2 + 0)) := by
  unfold countO at h
  obtain ⟨low, h1, h⟩ := ob h
  obtain ⟨m, h2, h⟩ := ob h
  obtain ⟨q, h3, h⟩ := ob h
  obtain ⟨qn, h4, h⟩ := ob h
  obtain ⟨p1, h5, h⟩ := ob h
  obtain ⟨p2, h6, h⟩ := ob h
  obtain ⟨_, rfl⟩ := pmod_eq h1
  obtain ⟨_, rfl⟩ := pmod_eq h2
  obtain ⟨⟨a, b⟩, rfl⟩ := pdiv_eq h3
  obtain ⟨c, rfl⟩ := pmul_eq h4
  refine ⟨a, b, c, p1, p2, h5, h6, ?_⟩
  by_cases hc : begin % step + many % step > step
  · rw [if_pos hc] at h
    obtain ⟨p3, h7, h⟩ := ob h
    exact .inl ⟨hc, p3, h7, (Option.some.inj h).symm⟩
  · rw [if_neg hc] at h
    exact .inr ⟨hc, (Option.some.inj h).symm⟩
def insK {α : Type} (key : α → Int) (x : α) : List α → List α
  | [] => [x]
  | y :: ys => if key x ≤ key y then x :: y :: ys else y :: insK key x ys
def sortK {α : Type} (key : α → Int) : List α → List α
  | [] => []
  | x :: xs => insK key x (sortK key xs)
theorem insK_perm {α : Type} {key : α → Int} {x : α} : ∀ {l : List α}, (insK key x l).Perm (x :: l)
  | [] => List.Perm.refl _
  | y :: ys => by
    unfold insK
    by_cases h : key x ≤ key y
    · rw [if_pos h]
    · rw [if_neg h]
      exact (insK_perm.cons y).trans (List.Perm.swap x y ys)
theorem sortK_perm {α : Type} {key : α → Int} : ∀ {l : List α}, (sortK key l).Perm l
  | [] => List.Perm.refl _
  | x :: xs => insK_perm.trans (sortK_perm.cons x)
theorem insK_pw {α : Type} {key : α → Int} {x : α} : ∀ {l : List α}, l.Pairwise (fun a b => key a ≤ key b) → (insK key x l).Pairwise (fun a b => key a ≤ key b)
  | [], _ => List.Pairwise.cons (fun _ h => nomatch h) .nil
  | y :: ys, h => by
    unfold insK
    by_cases e : key x ≤ key y
    · rw [if_pos e]
      refine List.Pairwise.cons (fun z hz => ?_) h
      rcases List.mem_cons.mp hz with rfl | hz
      · exact e
      · exact Int.le_trans e ((List.pairwise_cons.mp h).1 z hz)
    · rw [if_neg e]
      obtain ⟨h1, h2⟩ := List.pairwise_cons.mp h
      refine List.Pairwise.cons (fun z hz => ?_) (insK_pw h2)
      rcases List.mem_cons.mp (insK_perm.mem_iff.mp hz) with rfl | hz
      · omega
      · exact h1 z hz
theorem sortK_pw {α : Type} {key : α → Int} : ∀ {l : List α}, (sortK key l).Pairwise (fun a b => key a ≤ key b)
  | [] => .nil
  | x :: xs => insK_pw sortK_pw
theorem sortK_uniq {α : Type} {key : α → Int} {xs ys : List α} (p : ys.Perm xs) (h : ys.Pairwise (fun a b => key a ≤ key b)) (inj : ∀ a ∈ xs, ∀ b ∈ xs, key a = key b → a = b) : ys = sortK key xs :=
  List.Perm.eq_of_pairwise (fun a b ha hb h1 h2 => inj a (p.mem_iff.mp ha) b (sortK_perm.mem_iff.mp hb) (Int.le_antisymm h1 h2)) h sortK_pw (p.trans sortK_perm.symm)
abbrev sortI : List Int → List Int := sortK (fun n => n)
theorem sortI_uniq {xs ys : List Int} (p : ys.Perm xs) (h : ys.Pairwise (· ≤ ·)) : ys = sortI xs := sortK_uniq p h fun _ _ _ _ e => e
def remaindersO (runs : List Run) (step : Int) : Option (List Int) := do
  let ns ← mapO (fun r : Run => pmod r.1 step) runs
  some (sortI ns)
theorem mapO_eq {α β : Type} {f : α → Option β} : ∀ {xs : List α} {ys : List β}, mapO f xs = some ys → ys.length = xs.length ∧ ∀ (i : Nat) (x : α), xs[i]? = some x → ∃ y, ys[i]? = some y ∧ f x = some y
  | [], ys, h => by
    cases h
    exact ⟨rfl, fun i x e => by simp at e⟩
  | x :: xs, ys, h => by
    obtain ⟨y, h1, h⟩ := ob h
    obtain ⟨zs, h2, h⟩ := ob h
    cases h
    obtain ⟨l, r⟩ := mapO_eq h2
    refine ⟨by rw [List.length_cons, List.length_cons, l], fun i u e => ?_⟩
    cases i with
    | zero =>
      have e2 : x = u := Option.some.inj e
      subst e2
      exact ⟨y, rfl, h1⟩
    | succ i => exact r i u e
theorem mapO_at {α β : Type} {f : α → Option β} {xs : List α} {ys : List β} {i : Nat} {x : α} {y : β} (h : mapO f xs = some ys) (hx : xs[i]? = some x) (hy : ys[i]? = some y) : f x = some y := by
  obtain ⟨z, h1, h2⟩ := (mapO_eq h).2 i x hx
  rw [hy] at h1
  cases h1
  exact h2
theorem remaindersO_eq {runs : List Run} {step : Int} {zs : List Int} (h : remaindersO runs step = some zs) : ∃ ns, mapO (fun r : Run => pmod r.1 step) runs = some ns ∧ zs = sortI ns := by
  unfold remaindersO at h
  obtain ⟨ns, h1, h⟩ := ob h
  exact ⟨ns, h1, (Option.some.inj h).symm⟩
def meetsO (t o : Tab) : Option Int := do
  let step ← commonO [t.1, o.1]
  let own ← remaindersO t.2 step
  let its ← remaindersO o.2 step
  let c1 ← mapO (fun r : Run => countO its r.1 (lenR r) step) t.2
  let c2 ← mapO (fun r : Run => countO own (r.1 + 1) (lenR r - 1) step) o.2
  some (c1.sum + c2.sum)
structure Rnd where
  step : Int
  own : Int
  part : Int
  total : Int
  inverse : Int
def roundO (period other : Int) : Option Rnd := do
  let step ← commonO [period, other]
  let part ← pdiv other step
  let total ← multipleO [period, other]
  let q ← pdiv period step
  let inverse ← inverseO q part
  some ⟨step, period, part, total, inverse⟩
def placeR (t : Rnd) (first last : Int) : Option Int := do
  let q ← pdiv (last - first) t.step
  let m ← pmul q t.inverse
  let times ← pmod m t.part
  let s ← pmul t.own times
  pmod (first + s) t.total
def okI (n : Int) : Bool := decide (0 ≤ n) && decide (n < 1024)
def keyR (r : Row) : Int := r.1 * 1048576 + r.2.1 * 1024 + r.2.2
def keyP (r : Run) : Int := r.1 * 1024 + r.2
/-- sorted(..) of tuples: fewer than 64, of small ints -/
def sortRows (rs : List Row) : Option (List Row) := if rs.length < 64 ∧ rs.all (fun r => okI r.1 && okI r.2.1 && okI r.2.2) = true then some (sortK keyR rs) else none
def sortRuns (rs : List Run) : Option (List Run) := if rs.length < 64 ∧ rs.all (fun r => okI r.1 && okI r.2) = true then some (sortK keyP rs) else none
structure Rkd where
  step : Int
  rows : List Row
def rankedO (runs : List Run) (step : Int) : Option Rkd := do
  let rs ← mapO (fun r : Run => do
    let m ← pmod r.1 step
    some ((m, r.1, r.2) : Row)) runs
  let rows ← sortRows rs
  some ⟨step, rows⟩
def hitO (k : Rkd) (begin many : Int) : Option (List Row) :=
  if many ≥ k.step then some k.rows else do
    let low ← pmod begin k.step
    let first ← placeO (k.rows.map (·.1)) low
    if low + many ≤ k.step then (do
      let p ← placeO (k.rows.map (·.1)) (low + many)
      some ((k.rows.take p).drop first)) else (do
      let p ← placeO (k.rows.map (·.1)) (low + many - k.step)
      some (k.rows.drop first ++ k.rows.take p))
/-- range(low, many, step) -/
def rngF : Nat → Int → Int → Int → Option (List Int)
  | 0, _, _, _ => none
  | n + 1, low, many, step => if low < many then (do
    let r ← rngF n (low + step) many step
    some (low :: r)) else some []
def rangeO (low many step : Int) : Option (List Int) := if (0 < step ∧ step < 1073741824) ∧ PySem.Builtin.Range.small low many step = true then (do
    let r ← rngF 100 low many step
    if PySem.Builtin.Range.rangeSize low many step = (r.length : Int) then some r else none) else none
def rowsIn (run : Run) (k : Rkd) (least : Int) : Option (List Row) := if lenR run > least then hitO k (run.1 + least) (lenR run - least) else some []
def beginO (run : Run) (k : Rkd) (least : Int) : Option (List Row) := do
  let rows ← rowsIn run k least
  let some_ ← mapO (fun r : Row => do
    let m ← pmod (r.2.1 - run.1 - least) k.step
    some ((r.2.1, r.2.2, m + least) : Row)) rows
  let parts ← mapO (fun r : Row => do
    let gs ← rangeO r.2.2 (lenR run) k.step
    some (gs.map fun g => ((r.1, r.2.1, g) : Row))) some_
  if parts.flatten.length ≤ 3000 then some parts.flatten else none
def farR (run : Run) (row : Row) : Int := mn (run.2 - run.1 - row.2.2) (row.2.1 - row.1)
def pairsO (runs : List Run) (k : Rkd) (least : Int) : Option (List (Run × Row)) := do
  let parts ← mapO (fun r : Run => do
    let rows ← beginO r k least
    some (rows.map fun w => (r, w))) runs
  if parts.flatten.length ≤ 3000 then some parts.flatten else none
def sharedO (t o : Tab) : Option Tab := do
  let turn ← roundO t.1 o.1
  let own ← rankedO t.2 turn.step
  let its ← rankedO o.2 turn.step
  let later ← pairsO t.2 its 0
  let found ← mapO (fun p : Run × Row => do
    let b ← placeR turn (p.1.1 + p.2.2.2) p.2.1
    some ((b, farR p.1 p.2) : Run)) later
  let ahead ← pairsO o.2 own 1
  let more ← mapO (fun p : Run × Row => do
    let b ← placeR turn p.2.1 (p.1.1 + p.2.2.2)
    some ((b, farR p.1 p.2) : Run)) ahead
  let rs ← sortRuns ((found ++ more).map fun r => ((r.1, r.1 + r.2) : Run))
  some (turn.total, rs)
def meltStep (found : List Run) (r : Run) : List Run := match found.getLast? with
  | some l => if r.1 ≤ l.2 + 1 then found.dropLast ++ [(l.1, mx l.2 r.2)] else found ++ [r]
  | none => found ++ [r]
def melted (runs : List Run) : List Run := runs.foldl meltStep []
def closeF : Nat → List Run → Int → Nat → Int → Option (Nat × Int)
  | 0, _, _, _, _ => none
  | n + 1, runs, period, many, fin => if many + 1 < runs.length then (match runs[many]? with
      | some r => if r.1 + period ≤ fin + 1 then closeF n runs period (many + 1) (mx fin (r.2 + period)) else some (many, fin)
      | none => none) else some (many, fin)
def closedO (period : Int) (runs : List Run) : Option (List Run) := do
  let last ← runs.getLast?
  let r ← closeF 100 runs period 0 last.2
  some (runs.dropLast.drop r.1 ++ [(last.1, r.2)])
def foundIn (period : Int) (moved : List Run) : Option (List Run) := if moved ≠ [] then closedO period (melted moved) else some []
def maximalO (period : Int) (runs : List Run) : Option (List Run) :=
  if runs.any (fun r => decide (lenR r ≥ period)) = true then some [(0, period - 1)] else do
    let ms ← mapO (fun r : Run => do
      let m ← pmod r.1 period
      some ((m, m + lenR r - 1) : Run)) runs
    let moved ← sortRuns ms
    let found ← foundIn period moved
    match found.getLast? with
    | some l => if lenR l ≥ period then some [(0, period - 1)] else some found
    | none => some found
def rowP (period : Int) (runs : List Run) : List Run := match runs with
  | [] => []
  | r :: rs => (runs.zip (rs ++ [(r.1 + period, 0)])).map fun p => (lenR p.1, p.2.1 - p.1.1)
def turnsOf (row : List Run) (many : Nat) : List Nat := (List.range' 1 many).filter fun t => many % t == 0 && decide (row.drop t ++ row.take t = row)
def leastO (period : Int) (runs : List Run) : Option Tab := match runs with
  | [] => some (1, [])
  | r :: rs => if lenR r ≥ period then some (1, [(0, 0)]) else (match turnsOf (rowP period (r :: rs)) (r :: rs).length with
    | t :: _ => some ((((rowP period (r :: rs)).take t).map (·.2)).sum, (r :: rs).take t)
    | [] => none)

/-! ### lots, joins -/
def mkLot (period : Int) (runs : List Run) : Option Tab := if 1 ≤ period ∧ runs.all (fun r => decide (r.1 ≤ r.2)) = true then (do
    let found ← maximalO period runs
    if found.length ≤ 2000 then leastO period found else none) else none
def nearO (period play : Int) : Option Tab := if 0 ≤ play then mkLot period [(-play, play)] else none
def nearIn (runs : List Run) (at_ : Nat) (left : Int) : Option Bool := if 0 < at_ then (match runs[at_ - 1]? with
    | some r => some (decide (left ≤ r.2))
    | none => none) else some false
def atLeastO (lot : Tab) (n : Int) : Option Int := do
  let left ← pmod n lot.1
  let last ← lot.2.getLast?
  let first ← lot.2.head?
  let at_ ← placeO (lot.2.map (·.1)) (left + 1)
  let near ← nearIn lot.2 at_ left
  if near = true ∨ left + lot.1 ≤ last.2 then some n else
    match lot.2[at_]? with
    | some r => some (n - left + r.1)
    | none => some (n - left + lot.1 + first.1)
def every : Tab := (1, [(0, 0)])
def nextO (table own : Tab) : Option Tab :=
  if table = every then some own else if own = every then some table else do
    let m ← meetsO table own
    if m ≤ 2000 then sharedO table own else none
def joinF : Tab → List Tab → Option (List Tab)
  | _, [] => some []
  | t, l :: ls => do
    let u ← nextO t l
    let us ← joinF u ls
    some (u :: us)
def joinO (lots : List Tab) : Option (List Tab) := joinF every lots
def tableLotO (tables : List Tab) : Option Tab := match tables.getLast? with
  | some t => mkLot t.1 t.2
  | none => mkLot 1 [(0, 0)]
def leastOf (lots : List Tab) (w : Int) : Option Int := do
  let ts ← joinO lots
  let l ← tableLotO ts
  atLeastO l (w + 1)
end K32

/-! the mirror's functions taken apart -/
namespace K32
theorem meetsO_eq {t o : Tab} {m : Int} (h : meetsO t o = some m) : ∃ step own its c1 c2, commonO [t.1, o.1] = some step ∧ remaindersO t.2 step = some own ∧ remaindersO o.2 step = some its ∧
    mapO (fun r : Run => countO its r.1 (lenR r) step) t.2 = some c1 ∧ mapO (fun r : Run => countO own (r.1 + 1) (lenR r - 1) step) o.2 = some c2 ∧ m = c1.sum + c2.sum := by
  unfold meetsO at h
  obtain ⟨step, h1, h⟩ := ob h
  obtain ⟨own, h2, h⟩ := ob h
  obtain ⟨its, h3, h⟩ := ob h
  obtain ⟨c1, h4, h⟩ := ob h
  obtain ⟨c2, h5, h⟩ := ob h
  exact ⟨step, own, its, c1, c2, h1, h2, h3, h4, h5, (Option.some.inj h).symm⟩
theorem roundO_eq {p o : Int} {t : Rnd} (h : roundO p o = some t) : commonO [p, o] = some t.step ∧ (0 < t.step ∧ t.step < 1073741824) ∧ t.own = p ∧ t.part = o / t.step ∧ multipleO [p, o] = some t.total ∧ inverseO (p / t.step) t.part = some t.inverse := by
  unfold roundO at h
  obtain ⟨step, h1, h⟩ := ob h
  obtain ⟨part, h2, h⟩ := ob h
  obtain ⟨total, h3, h⟩ := ob h
  obtain ⟨q, h4, h⟩ := ob h
  obtain ⟨inv, h5, h⟩ := ob h
  have e := Option.some.inj h
  obtain ⟨b, e2⟩ := pdiv_eq h2
  obtain ⟨_, e4⟩ := pdiv_eq h4
  subst e e2 e4
  exact ⟨h1, b, rfl, rfl, h3, h5⟩
theorem placeR_eq {t : Rnd} {f l b : Int} (h : placeR t f l = some b) : (0 < t.step ∧ t.step < 1073741824) ∧ (-18446744073709551616 < (l - f) / t.step ∧ (l - f) / t.step < 18446744073709551616) ∧ 0 < t.part ∧
    (-18446744073709551616 < t.own ∧ t.own < 18446744073709551616) ∧ 0 < t.total ∧ b = (f + t.own * ((l - f) / t.step * t.inverse % t.part)) % t.total := by
  unfold placeR at h
  obtain ⟨q, h1, h⟩ := ob h
  obtain ⟨m, h2, h⟩ := ob h
  obtain ⟨ti, h3, h⟩ := ob h
  obtain ⟨s, h4, h⟩ := ob h
  obtain ⟨a, rfl⟩ := pdiv_eq h1
  obtain ⟨b, rfl⟩ := pmul_eq h2
  obtain ⟨c, rfl⟩ := pmod_eq h3
  obtain ⟨d, rfl⟩ := pmul_eq h4
  obtain ⟨e, rfl⟩ := pmod_eq h
  exact ⟨a, b, c, d, e, rfl⟩
theorem mapO_imp {α β γ : Type} {f : α → Option β} {g : α → γ} : ∀ {xs : List α} {ys : List β}, mapO f xs = some ys → ys.length = xs.length := fun h => (mapO_eq h).1
def rankRow (step : Int) (r : Run) : Option Row := do
  let m ← pmod r.1 step
  some ((m, r.1, r.2) : Row)
theorem rankRow_eq {s : Int} {r : Run} {w : Row} (h : rankRow s r = some w) : 0 < s ∧ w = (r.1 % s, r.1, r.2) := by
  unfold rankRow at h
  obtain ⟨m, h1, h⟩ := ob h
  obtain ⟨a, rfl⟩ := pmod_eq h1
  exact ⟨a, (Option.some.inj h).symm⟩
theorem rankedO_eq {rs : List Run} {s : Int} {k : Rkd} (h : rankedO rs s = some k) : k.step = s ∧ ∃ ws, mapO (rankRow s) rs = some ws ∧ sortRows ws = some k.rows := by
  unfold rankedO at h
  obtain ⟨ws, h1, h⟩ := ob h
  obtain ⟨rows, h2, h⟩ := ob h
  obtain rfl := Option.some.inj h
  exact ⟨rfl, ws, h1, h2⟩
theorem hitO_eq {k : Rkd} {b m : Int} {ws : List Row} (h : hitO k b m = some ws) : (m ≥ k.step ∧ ws = k.rows) ∨ (¬ m ≥ k.step ∧ 0 < k.step ∧ ∃ first : Nat, placeO (k.rows.map (·.1)) (b % k.step) = some first ∧
    ((b % k.step + m ≤ k.step ∧ ∃ p : Nat, placeO (k.rows.map (·.1)) (b % k.step + m) = some p ∧ ws = (k.rows.take p).drop first) ∨
     (¬ b % k.step + m ≤ k.step ∧ ∃ p : Nat, placeO (k.rows.map (·.1)) (b % k.step + m - k.step) = some p ∧ ws = k.rows.drop first ++ k.rows.take p))) := by
  unfold hitO at h
  by_cases c : m ≥ k.step
  · rw [if_pos c] at h
    exact .inl ⟨c, (Option.some.inj h).symm⟩
  · rw [if_neg c] at h
    obtain ⟨low, h1, h⟩ := ob h
    obtain ⟨a, rfl⟩ := pmod_eq h1
    obtain ⟨first, h2, h⟩ := ob h
    refine .inr ⟨c, a, first, h2, ?_⟩
    by_cases d : b % k.step + m ≤ k.step
    · rw [if_pos d] at h
      obtain ⟨p, h3, h⟩ := ob h
      exact .inl ⟨d, p, h3, (Option.some.inj h).symm⟩
    · rw [if_neg d] at h
      obtain ⟨p, h3, h⟩ := ob h
      exact .inr ⟨d, p, h3, (Option.some.inj h).symm⟩
theorem rngF_eq : ∀ {n : Nat} {low many step : Int} {gs : List Int}, rngF n low many step = some gs → ∀ (i : Nat) (g : Int), gs[i]? = some g → g = low + (i : Nat) * step
  | 0, _, _, _, _, h => by cases h
  | n + 1, low, many, step, gs, h => by
    unfold rngF at h
    by_cases c : low < many
    · rw [if_pos c] at h
      obtain ⟨r, h1, h2⟩ := ob h
      obtain rfl := Option.some.inj h2
      intro i g hg
      cases i with
      | zero =>
        obtain rfl := Option.some.inj hg
        simp
      | succ i =>
        rw [rngF_eq h1 i g hg]
        rw [show ((i + 1 : Nat) : Int) = (i : Int) + 1 by omega, Int.add_mul]
        omega
    · rw [if_neg c] at h
      obtain rfl := Option.some.inj h
      exact fun i g hg => by simp at hg
def lowRow (f least step : Int) (r : Row) : Option Row := do
  let m ← pmod (r.2.1 - f - least) step
  some ((r.2.1, r.2.2, m + least) : Row)
theorem lowRow_eq {f l s : Int} {r w : Row} (h : lowRow f l s r = some w) : 0 < s ∧ w = (r.2.1, r.2.2, (r.2.1 - f - l) % s + l) := by
  unfold lowRow at h
  obtain ⟨m, h1, h⟩ := ob h
  obtain ⟨a, rfl⟩ := pmod_eq h1
  exact ⟨a, (Option.some.inj h).symm⟩
def gapRows (len step : Int) (r : Row) : Option (List Row) := do
  let gs ← rangeO r.2.2 len step
  some (gs.map fun g => ((r.1, r.2.1, g) : Row))
theorem gapRows_eq {l s : Int} {r : Row} {ws : List Row} (h : gapRows l s r = some ws) : ((0 < s ∧ s < 1073741824) ∧ PySem.Builtin.Range.small r.2.2 l s = true) ∧ PySem.Builtin.Range.rangeSize r.2.2 l s = (ws.length : Int) ∧ ∀ (i : Nat) (w : Row), ws[i]? = some w → w = (r.1, r.2.1, r.2.2 + (i : Nat) * s) := by
  unfold gapRows at h
  obtain ⟨gs, h1, h⟩ := ob h
  obtain rfl := Option.some.inj h
  unfold rangeO at h1
  obtain ⟨b, h2⟩ := og h1
  obtain ⟨us, h3, h4⟩ := ob h2
  obtain ⟨h5, h6⟩ := og h4
  obtain rfl := Option.some.inj h6
  refine ⟨b, by rw [List.length_map]; exact h5, fun i w hw => ?_⟩
  rw [List.getElem?_map] at hw
  cases eg : us[i]? with
  | none => rw [eg] at hw; cases hw
  | some g =>
    rw [eg] at hw
    rw [← Option.some.inj hw, rngF_eq h3 i g eg]
theorem beginO_eq {run : Run} {k : Rkd} {least : Int} {ws : List Row} (h : beginO run k least = some ws) : ∃ rows some_ parts, (((lenR run > least ∧ hitO k (run.1 + least) (lenR run - least) = some rows) ∨ (¬ lenR run > least ∧ rows = []))) ∧
    mapO (lowRow run.1 least k.step) rows = some some_ ∧ mapO (gapRows (lenR run) k.step) some_ = some parts ∧ parts.flatten.length ≤ 3000 ∧ ws = parts.flatten := by
  unfold beginO at h
  obtain ⟨rows, h1, h⟩ := ob h
  obtain ⟨s, h2, h⟩ := ob h
  obtain ⟨p, h3, h⟩ := ob h
  obtain ⟨h4, h5⟩ := og h
  refine ⟨rows, s, p, ?_, h2, h3, h4, (Option.some.inj h5).symm⟩
  unfold rowsIn at h1
  by_cases c : lenR run > least
  · rw [if_pos c] at h1
    exact .inl ⟨c, h1⟩
  · rw [if_neg c] at h1
    exact .inr ⟨c, (Option.some.inj h1).symm⟩
def pairRow (k : Rkd) (least : Int) (r : Run) : Option (List (Run × Row)) := do
  let rows ← beginO r k least
  some (rows.map fun w => (r, w))
theorem pairRow_eq {k : Rkd} {l : Int} {r : Run} {ps : List (Run × Row)} (h : pairRow k l r = some ps) : ∃ rows, beginO r k l = some rows ∧ ps = rows.map fun w => (r, w) := by
  unfold pairRow at h
  obtain ⟨rows, h1, h⟩ := ob h
  exact ⟨rows, h1, (Option.some.inj h).symm⟩
theorem pairsO_eq {rs : List Run} {k : Rkd} {l : Int} {ps : List (Run × Row)} (h : pairsO rs k l = some ps) : ∃ parts, mapO (pairRow k l) rs = some parts ∧ parts.flatten.length ≤ 3000 ∧ ps = parts.flatten := by
  unfold pairsO at h
  obtain ⟨parts, h1, h⟩ := ob h
  obtain ⟨h4, h5⟩ := og h
  exact ⟨parts, h1, h4, (Option.some.inj h5).symm⟩
def placed (turn : Rnd) (p : Run × Row) : Option Run := do
  let b ← placeR turn (p.1.1 + p.2.2.2) p.2.1
  some ((b, farR p.1 p.2) : Run)
def placedA (turn : Rnd) (p : Run × Row) : Option Run := do
  let b ← placeR turn p.2.1 (p.1.1 + p.2.2.2)
  some ((b, farR p.1 p.2) : Run)
theorem placed_eq {t : Rnd} {p : Run × Row} {r : Run} (h : placed t p = some r) : placeR t (p.1.1 + p.2.2.2) p.2.1 = some r.1 ∧ r.2 = farR p.1 p.2 := by
  unfold placed at h
  obtain ⟨b, h1, h⟩ := ob h
  obtain rfl := Option.some.inj h
  exact ⟨h1, rfl⟩
theorem placedA_eq {t : Rnd} {p : Run × Row} {r : Run} (h : placedA t p = some r) : placeR t p.2.1 (p.1.1 + p.2.2.2) = some r.1 ∧ r.2 = farR p.1 p.2 := by
  unfold placedA at h
  obtain ⟨b, h1, h⟩ := ob h
  obtain rfl := Option.some.inj h
  exact ⟨h1, rfl⟩
theorem sharedO_eq {t o u : Tab} (h : sharedO t o = some u) : ∃ turn own its later found ahead more, roundO t.1 o.1 = some turn ∧ rankedO t.2 turn.step = some own ∧ rankedO o.2 turn.step = some its ∧ pairsO t.2 its 0 = some later ∧
    mapO (placed turn) later = some found ∧ pairsO o.2 own 1 = some ahead ∧ mapO (placedA turn) ahead = some more ∧ u.1 = turn.total ∧ sortRuns ((found ++ more).map fun r => ((r.1, r.1 + r.2) : Run)) = some u.2 := by
  unfold sharedO at h
  obtain ⟨turn, h1, h⟩ := ob h
  obtain ⟨own, h2, h⟩ := ob h
  obtain ⟨its, h3, h⟩ := ob h
  obtain ⟨later, h4, h⟩ := ob h
  obtain ⟨found, h5, h⟩ := ob h
  obtain ⟨ahead, h6, h⟩ := ob h
  obtain ⟨more, h7, h⟩ := ob h
  obtain ⟨rs, h8, h⟩ := ob h
  obtain rfl := Option.some.inj h
  exact ⟨turn, own, its, later, found, ahead, more, h1, h2, h3, h4, h5, h6, h7, rfl, h8⟩
theorem closeF_eq {n : Nat} {runs : List Run} {p : Int} {many : Nat} {fin : Int} {res : Nat × Int} (h : closeF (n + 1) runs p many fin = some res) :
    (many + 1 < runs.length ∧ ∃ r, runs[many]? = some r ∧ ((r.1 + p ≤ fin + 1 ∧ closeF n runs p (many + 1) (mx fin (r.2 + p)) = some res) ∨ (¬ r.1 + p ≤ fin + 1 ∧ res = (many, fin)))) ∨ (¬ many + 1 < runs.length ∧ res = (many, fin)) := by
  unfold closeF at h
  by_cases c : many + 1 < runs.length
  · rw [if_pos c] at h
    cases er : runs[many]? with
    | none => rw [er] at h; cases h
    | some r =>
      rw [er] at h
      have h' : (if r.1 + p ≤ fin + 1 then closeF n runs p (many + 1) (mx fin (r.2 + p)) else some (many, fin)) = some res := h
      refine .inl ⟨c, r, rfl, ?_⟩
      by_cases d : r.1 + p ≤ fin + 1
      · rw [if_pos d] at h'
        exact .inl ⟨d, h'⟩
      · rw [if_neg d] at h'
        exact .inr ⟨d, (Option.some.inj h').symm⟩
  · rw [if_neg c] at h
    exact .inr ⟨c, (Option.some.inj h).symm⟩
theorem closeF_pos {m : Nat} {runs : List Run} {p : Int} {many : Nat} {fin : Int} {res : Nat × Int} (h : closeF m runs p many fin = some res) : ∃ k, m = k + 1 := by
  cases m with
  | zero => cases h
  | succ k => exact ⟨k, rfl⟩
theorem closedO_eq {p : Int} {runs fs : List Run} (h : closedO p runs = some fs) : ∃ last r, runs.getLast? = some last ∧ closeF 100 runs p 0 last.2 = some r ∧ fs = runs.dropLast.drop r.1 ++ [(last.1, r.2)] := by
  unfold closedO at h
  obtain ⟨last, h1, h⟩ := ob h
  obtain ⟨r, h2, h⟩ := ob h
  exact ⟨last, r, h1, h2, (Option.some.inj h).symm⟩
def movedRun (p : Int) (r : Run) : Option Run := do
  let m ← pmod r.1 p
  some ((m, m + lenR r - 1) : Run)
theorem movedRun_eq {p : Int} {r u : Run} (h : movedRun p r = some u) : 0 < p ∧ u = (r.1 % p, r.1 % p + lenR r - 1) := by
  unfold movedRun at h
  obtain ⟨m, h1, h⟩ := ob h
  obtain ⟨a, rfl⟩ := pmod_eq h1
  exact ⟨a, (Option.some.inj h).symm⟩
theorem maximalO_eq {p : Int} {runs fs : List Run} (h : maximalO p runs = some fs) : (runs.any (fun r => decide (lenR r ≥ p)) = true ∧ fs = [(0, p - 1)]) ∨ (runs.any (fun r => decide (lenR r ≥ p)) = false ∧ ∃ ms moved found, mapO (movedRun p) runs = some ms ∧ sortRuns ms = some moved ∧
    ((moved ≠ [] ∧ closedO p (melted moved) = some found) ∨ (moved = [] ∧ found = [])) ∧ ((∃ l, found.getLast? = some l ∧ lenR l ≥ p ∧ fs = [(0, p - 1)]) ∨ ((∃ l, found.getLast? = some l ∧ ¬ lenR l ≥ p) ∧ fs = found) ∨ (found = [] ∧ fs = found))) := by
  unfold maximalO at h
  by_cases c : runs.any (fun r => decide (lenR r ≥ p)) = true
  · rw [if_pos c] at h
    exact .inl ⟨c, (Option.some.inj h).symm⟩
  · rw [if_neg c] at h
    obtain ⟨ms, h1, h⟩ := ob h
    obtain ⟨moved, h2, h⟩ := ob h
    obtain ⟨found, h3, h⟩ := ob h
    refine .inr ⟨Bool.eq_false_iff.mpr c, ms, moved, found, h1, h2, ?_, ?_⟩
    · unfold foundIn at h3
      rcases Decidable.em (moved = []) with d | d
      · rw [if_neg (Decidable.not_not.mpr d)] at h3
        exact .inr ⟨d, (Option.some.inj h3).symm⟩
      · rw [if_pos d] at h3
        exact .inl ⟨d, h3⟩
    · cases el : found.getLast? with
      | none =>
        rw [el] at h
        exact .inr (.inr ⟨List.getLast?_eq_none_iff.mp el, (Option.some.inj h).symm⟩)
      | some l =>
        rw [el] at h
        have h' : (if lenR l ≥ p then some [(0, p - 1)] else some found) = some fs := h
        by_cases d : lenR l ≥ p
        · rw [if_pos d] at h'
          exact .inl ⟨l, rfl, d, (Option.some.inj h').symm⟩
        · rw [if_neg d] at h'
          exact .inr (.inl ⟨⟨l, rfl, d⟩, (Option.some.inj h').symm⟩)
theorem leastO_eq {p : Int} {runs : List Run} {t : Tab} (h : leastO p runs = some t) : (runs = [] ∧ t = (1, [])) ∨ ∃ r rs, runs = r :: rs ∧ ((lenR r ≥ p ∧ t = (1, [(0, 0)])) ∨ (¬ lenR r ≥ p ∧ ∃ k ts, turnsOf (rowP p (r :: rs)) (r :: rs).length = k :: ts ∧
    t = ((((rowP p (r :: rs)).take k).map (·.2)).sum, (r :: rs).take k))) := by
  unfold leastO at h
  cases runs with
  | nil => exact .inl ⟨rfl, (Option.some.inj h).symm⟩
  | cons r rs =>
    refine .inr ⟨r, rs, rfl, ?_⟩
    by_cases c : lenR r ≥ p
    · have h' := h
      simp only [if_pos c] at h'
      exact .inl ⟨c, (Option.some.inj h').symm⟩
    · have h' := h
      simp only [if_neg c] at h'
      cases et : turnsOf (rowP p (r :: rs)) (r :: rs).length with
      | nil => rw [et] at h'; cases h'
      | cons k ts =>
        rw [et] at h'
        exact .inr ⟨c, k, ts, rfl, (Option.some.inj h').symm⟩
theorem mkLot_eq {p : Int} {runs : List Run} {t : Tab} (h : mkLot p runs = some t) : (1 ≤ p ∧ runs.all (fun r => decide (r.1 ≤ r.2)) = true) ∧ ∃ found, maximalO p runs = some found ∧ found.length ≤ 2000 ∧ leastO p found = some t := by
  unfold mkLot at h
  obtain ⟨a, h⟩ := og h
  obtain ⟨found, h1, h⟩ := ob h
  obtain ⟨b, h2⟩ := og h
  exact ⟨a, found, h1, b, h2⟩
theorem nearO_eq {p q : Int} {t : Tab} (h : nearO p q = some t) : 0 ≤ q ∧ mkLot p [(-q, q)] = some t := og h
theorem nextO_eq {t o u : Tab} (h : nextO t o = some u) : (t = every ∧ u = o) ∨ (¬ t = every ∧ o = every ∧ u = t) ∨ (¬ t = every ∧ ¬ o = every ∧ ∃ m, meetsO t o = some m ∧ m ≤ 2000 ∧ sharedO t o = some u) := by
  unfold nextO at h
  by_cases c : t = every
  · rw [if_pos c] at h
    exact .inl ⟨c, (Option.some.inj h).symm⟩
  · rw [if_neg c] at h
    by_cases d : o = every
    · rw [if_pos d] at h
      exact .inr (.inl ⟨c, d, (Option.some.inj h).symm⟩)
    · rw [if_neg d] at h
      obtain ⟨m, h1, h⟩ := ob h
      obtain ⟨e, h2⟩ := og h
      exact .inr (.inr ⟨c, d, m, h1, e, h2⟩)
theorem joinF_eq {t l : Tab} {ls us : List Tab} (h : joinF t (l :: ls) = some us) : ∃ u vs, nextO t l = some u ∧ joinF u ls = some vs ∧ us = u :: vs := by
  unfold joinF at h
  obtain ⟨u, h1, h⟩ := ob h
  obtain ⟨vs, h2, h⟩ := ob h
  exact ⟨u, vs, h1, h2, (Option.some.inj h).symm⟩
theorem tableLotO_eq {ts : List Tab} {t : Tab} (h : tableLotO ts = some t) : (∃ u, ts.getLast? = some u ∧ mkLot u.1 u.2 = some t) ∨ (ts = [] ∧ mkLot 1 [(0, 0)] = some t) := by
  unfold tableLotO at h
  cases e : ts.getLast? with
  | none =>
    rw [e] at h
    exact .inr ⟨List.getLast?_eq_none_iff.mp e, h⟩
  | some u =>
    rw [e] at h
    exact .inl ⟨u, rfl, h⟩
theorem atLeastO_eq {lot : Tab} {n d : Int} (h : atLeastO lot n = some d) : 0 < lot.1 ∧ ∃ last first, ∃ at_ : Nat, ∃ near, lot.2.getLast? = some last ∧ lot.2.head? = some first ∧ placeO (lot.2.map (·.1)) (n % lot.1 + 1) = some at_ ∧
    ((0 < at_ ∧ ∃ r, lot.2[at_ - 1]? = some r ∧ near = decide (n % lot.1 ≤ r.2)) ∨ (¬ 0 < at_ ∧ near = false)) ∧
    (((near = true ∨ n % lot.1 + lot.1 ≤ last.2) ∧ d = n) ∨ (¬ (near = true ∨ n % lot.1 + lot.1 ≤ last.2) ∧ ((∃ r, lot.2[at_]? = some r ∧ d = n - n % lot.1 + r.1) ∨ (lot.2[at_]? = none ∧ d = n - n % lot.1 + lot.1 + first.1)))) := by
  unfold atLeastO at h
  obtain ⟨left, h1, h⟩ := ob h
  obtain ⟨a, rfl⟩ := pmod_eq h1
  obtain ⟨last, h2, h⟩ := ob h
  obtain ⟨first, h3, h⟩ := ob h
  obtain ⟨at_, h4, h⟩ := ob h
  obtain ⟨near, h5, h⟩ := ob h
  refine ⟨a, last, first, at_, near, h2, h3, h4, ?_, ?_⟩
  · unfold nearIn at h5
    by_cases c : 0 < at_
    · rw [if_pos c] at h5
      cases er : lot.2[at_ - 1]? with
      | none => rw [er] at h5; cases h5
      | some r =>
        rw [er] at h5
        exact .inl ⟨c, r, rfl, (Option.some.inj h5).symm⟩
    · rw [if_neg c] at h5
      exact .inr ⟨c, (Option.some.inj h5).symm⟩
  · by_cases c : near = true ∨ n % lot.1 + lot.1 ≤ last.2
    · rw [if_pos c] at h
      exact .inl ⟨c, (Option.some.inj h).symm⟩
    · rw [if_neg c] at h
      refine .inr ⟨c, ?_⟩
      cases er : lot.2[at_]? with
      | none =>
        rw [er] at h
        exact .inr ⟨rfl, (Option.some.inj h).symm⟩
      | some r =>
        rw [er] at h
        exact .inl ⟨r, rfl, (Option.some.inj h).symm⟩
end K32

namespace K32
open PySem PyProof.Rows L2
section
variable {P : Program} {w : World} {K : PySem.W.Frag} {mg : Str → Option Value} {base : Heap}
/-- a def of the module keeps its promise: by its body -/
theorem calF {x nm : Str} {st : Stmt} {N ps : List Str} {k : Nat} {sp : Sp} (F : DefF K mg x nm st)
    (hb : ∀ (kV doc pm : Value) (an : Option Addr) (cdv ct : Value) (us : List Value), us.length = ps.length → bindArgs (PySem.W.fnOf nm nm (defArgs st) (defBody st) (defScope st) .none kV doc pm an cdv ct) ⟨us, []⟩ = pure (ps.zip us))
    (S : FnScope N ps (defScope st)) (len : ∀ vs H Q E, sp vs H Q E → vs.length = ps.length)
    (hbody : ∀ (cdv : Value) (A : Around) (outer : List Env) (s : Shared) (H : Hp) (vs : List V) (Q : VK) (E : XK), Room k (A.deeper (envOfC nm (defScope st) s.heap.objs.size (ga K x) cdv)) → sp vs H Q E →
      ∃ t, PSs (cxOf CX0 P w K mg base N nm (defScope st) (ga K x) cdv A outer s H E).nox (defBody st) t ∧ t { nx := fun _ H' => Q .non H', rt := Q } (start N vs) H) : C8.Cal P w K mg base (k + 1) x sp [] :=
  ⟨_, _, ps, [], F.d.ok S len fun cdv A outer s H vs Q E hr h => (hbody cdv A outer s H vs Q E hr h).imp fun _ z => ⟨z.1.nox, z.2⟩, F.m, F.d.kp, F.d.bindsN hb, .nil⟩
/-- a def with a star parameter, called by positions -/
structure CalR (P : Program) (w : World) (K : PySem.W.Frag) (mg : Str → Option Value) (base : Heap) (k : Nat) (x : Str) (sp : Sp) : Prop where
  ex : ∃ f : Addr, FnR P w K mg base CX0 k f sp ∧ mg x = some (.ref f) ∧ PySem.W.keepIn K (.ref f) = true
theorem CalR.imp {P : Program} {w : World} {K : PySem.W.Frag} {mg : Str → Option Value} {base : Heap} {k : Nat} {x : Str} {sp sp' : Sp} (c : CalR P w K mg base k x sp) (h : ∀ vs H Q E, sp' vs H Q E → sp vs H Q E) : CalR P w K mg base k x sp' :=
  let ⟨f, F, m, kp⟩ := c.ex
  ⟨f, F.imp h, m, kp⟩
theorem cxUp0 : StX.CXUp CX0 := fun _ _ _ _ _ _ _ _ _ _ _ z => z
/-- def x(*pv) -/
theorem calS {x nm pv : Str} {st : Stmt} {N : List Str} {k : Nat} {sp : Sp} (F : DefF K mg x nm st)
    (h0 : ∀ (kV doc pm : Value) (an : Option Addr) (cdv ct : Value), bindArgs (PySem.W.fnOf nm nm (defArgs st) (defBody st) (defScope st) .none kV doc pm an cdv ct) ⟨[], []⟩ = (newTuple [] >>= fun t => pure [(pv, t)]))
    (h1 : ∀ (kV doc pm : Value) (an : Option Addr) (cdv ct : Value) (r : Value) (rs : List Value), bindArgs (PySem.W.fnOf nm nm (defArgs st) (defBody st) (defScope st) .none kV doc pm an cdv ct) ⟨r :: rs, []⟩ = (newTuple (r :: rs) >>= fun t => pure [(pv, t)]))
    (S : FnScope N [pv] (defScope st))
    (hbody : ∀ (cdv : Value) (A : Around) (outer : List Env) (s : Shared) (H : Hp) (vs : List V) (Q : VK) (E : XK), Room k (A.deeper (envOfC nm (defScope st) s.heap.objs.size (ga K x) cdv)) → sp vs H Q E →
      ∃ t, PSs (cxOf CX0 P w K mg base N nm (defScope st) (ga K x) cdv A outer s H E).nox (defBody st) t ∧ t { nx := fun _ H' => Q .non H', rt := Q } (start N vs) H) :
    CalR P w K mg base (k + 1) x (fun vs H Q E => vs.length ≤ sizeLine ∧ ∀ p, H p = none → sp [.ref p] (upd H p (.tup vs)) Q E) := by
  obtain ⟨oc, od, dV, kV, doc, pm, an, cdv, ct, osl, e, lk, hcd, hD, _⟩ := F.d.ex
  rcases hD with ⟨_, rfl⟩ | ⟨z, _⟩
  · rw [e] at lk
    refine ⟨_, (StX.fn_star (ps := []) (pv := pv) lk hcd S cxUp0 (fun us rest hl => ?_) fun A outer s H vs Q E hr h => (hbody cdv A outer s H vs Q E hr h).imp fun _ z => ⟨z.1.nox, z.2⟩).imp fun vs H Q E h => ⟨[], vs, rfl, rfl, h.1, h.2⟩, F.m, F.d.kp⟩
    cases us with
    | nil =>
      cases rest with
      | nil => exact h0 _ _ _ _ _ _
      | cons r rs => exact h1 _ _ _ _ _ _ r rs
    | cons _ _ => cases hl
  · exact absurd rfl z
end
section
variable {X : Cx} {k j : Nat} {x : Str} {sp : Sp} {p pos : Pos} {e : Expr} {es : List Expr} {t : TA}
def tCallR (sp : Sp) (t : TA) : TE := fun σ H Q => t σ H fun vs H1 => sp vs H1 Q E0
theorem pe_cR (c : CalR X.prog X.w X.K X.mg X.base k x sp) (hr : Room j X.A) (hk : k ≤ j) (hg : Gl X x) (ha : PA X (e :: es) t) (hdb : (x == ("__debug__" : Str)) = false := by decide)
    (he : starEach (e :: es) X.env = (false, eval e X.env) :: starEach es X.env := by rfl) (hpl : (backTo pos (starEach es X.env)).any (·.1) = false := by rfl) : PE X (.Call (.Name x p) (e :: es) [] pos) (tCallR sp t) := by
  obtain ⟨f, F, hm, kp⟩ := c.ex
  refine ⟨fun pins s σ H Q I h => ?_⟩
  refine wpAny_Call_Name_kw (ld_glob I hg hm ?_ hdb)
  exact PySem.W.callWith_K (h₀ := X.base) I.ok.mod.kin kp (thn (ha.run pos pins s σ H _ I h) fun us s1 ⟨vs, H1, I1, r, q⟩ => ⟨I1.kIn, wpAny_call (run_fnR (F.mono hk) hr pass0 I1 r q)⟩) he hpl
/-- x(*e) -/
def tCallRS (K : PySem.W.Frag) (sp : Sp) (te : TE) : TE := fun σ H Q => te σ H fun y H1 => ∃ a xs, y = V.ref a ∧ (SqT K H1 a xs ∨ SqL K H1 a xs) ∧ sp xs H1 Q E0
theorem pe_cRS {sp_ : Pos} {te : TE} (c : CalR X.prog X.w X.K X.mg X.base k x sp) (hr : Room j X.A) (hk : k ≤ j) (hg : Gl X x) (he : PE X e te) (hd : (x == ("__debug__" : Str)) = false := by decide)
    (hst : starEach [.Starred e sp_] X.env = [(true, eval e X.env)] := by rfl) : PE X (.Call (.Name x p) [.Starred e sp_] [] pos) (tCallRS X.K sp te) := by
  obtain ⟨f, F, hm, kp⟩ := c.ex
  exact StX.pe_callS1 (F.mono hk) hr kp hg hm pass0 he hd hst
end
/-! ### heaps -/
theorem Same.new {H : Hp} {p : Addr} {o : HO} (h : H p = none) : Same H (upd H p o) := fun a u e => by
  rw [upd_ne (ne_of_none e h)]
  exact e
theorem Same.seqT {K : PySem.W.Frag} {H H' : Hp} {a : Addr} {xs : List V} (e : Same H H') (h : SqT K H a xs) : SqT K H' a xs := by
  rcases h with (h | ⟨o, h⟩) | h
  · exact .inl (.inl (e _ _ h))
  · exact .inl (.inr ⟨o, e _ _ h⟩)
  · exact .inr h
/-! ### lists of ints -/
theorem at_int {ns : List Int} {i : Nat} {x : V} (h : (ns.map V.int)[i]? = some x) : ∃ n, x = V.int n := by
  rw [List.getElem?_map] at h
  cases e : ns[i]? with
  | none => rw [e] at h; cases h
  | some n => rw [e] at h; exact ⟨n, (Option.some.inj h).symm⟩
theorem at_intD {ns : List Int} {i : Nat} {x : V} (h : (ns.map V.int)[i]? = some x) : ∃ n, x = V.int n ∧ ns.drop i = n :: ns.drop (i + 1) := by
  rw [List.getElem?_map] at h
  cases e : ns[i]? with
  | none => rw [e] at h; cases h
  | some n =>
    rw [e] at h
    obtain ⟨hi, en⟩ := List.getElem?_eq_some_iff.mp e
    exact ⟨n, (Option.some.inj h).symm, by rw [List.drop_eq_getElem_cons hi, en]⟩
theorem drop_end {ns : List Int} : ns.drop (ns.map V.int).length = [] := by rw [List.length_map, List.drop_length]
/-! ### readings, a step at a time -/
section
variable {σ : L2.St} {H : Hp} {Q : VK} {ta tb : TE} {K : PySem.W.Frag}
theorem rd_var {i : Nat} {v : V} (h : σ[i]? = some (some v)) (q : Q v H) : tVar i σ H Q := ⟨v, h, q⟩
theorem rd_c {v : V} (q : Q v H) : tC v σ H Q := q
theorem rd_op {r : R2} (q : ta σ H fun x H1 => tb σ H1 fun y H2 => r x y H2 Q) : tOp r ta tb σ H Q := q
theorem rd_un {r : V → Hp → VK → Prop} (q : ta σ H fun x H1 => r x H1 Q) : tUn r ta σ H Q := q
theorem rd_I0 {g : Int → Int → V} {i j : Int} (q : Q (g i j) H) : rI0 g (.int i) (.int j) H Q := ⟨i, j, rfl, rfl, q⟩
theorem rd_I {C : Int → Int → Prop} {g : Int → Int → V} {i j : Int} (hc : C i j) (q : Q (g i j) H) : rI C g (.int i) (.int j) H Q := ⟨i, j, rfl, rfl, hc, q⟩
theorem rd_U {g : Int → V} {i : Int} (q : Q (g i) H) : rU g (.int i) H Q := ⟨i, rfl, q⟩
theorem rd_ixT {p : Addr} {xs : List V} {i : Int} {v : V} (h : SqT K H p xs) (ha : atI xs i = some v) (q : Q v H) : rIxT K (.ref p) (.int i) H Q := ⟨p, xs, i, v, rfl, rfl, h, ha, q⟩
theorem rd_ixL {p : Addr} {xs : List V} {i : Int} {v : V} (h : SqL K H p xs) (ha : atI xs i = some v) (q : Q v H) : rIxL K (.ref p) (.int i) H Q := ⟨p, xs, i, v, rfl, rfl, h, ha, q⟩
theorem rd_eq {x y : V} (h : scal x y = true) (q : Q (.bl (decide (x = y))) H) : rEq x y H Q := ⟨h, q⟩
theorem rd_ne {x y : V} (h : scal x y = true) (q : Q (.bl (!decide (x = y))) H) : rNe x y H Q := ⟨h, q⟩
theorem rd_fld (q : ta σ H fun x H1 => ∃ a C dx fs v, x = .ref a ∧ H1 a = some (.ins C dx fs) ∧ Cls K C ∧ NoAttr K C f ∧ fs.lookup f = some v ∧ Q v H1) : tFld K ta f σ H Q := q
theorem rd_test {Qb : Bool → Hp → Prop} (q : ta σ H fun x H' => ∃ k, x = .bl k ∧ Qb k H') : tTest ta σ H Qb := q
theorem rd_k {P : Bool → Prop} {b : Bool} (q : P b) : ∃ k, V.bl b = .bl k ∧ P k := ⟨b, rfl, q⟩
end
/-! ### the kit's rules with K by name (a block's reading may not name the block's context) -/
section
variable {X : Cx}
theorem ixT (K : PySem.W.Frag) (h : X.K = K) : IxR X (rIxT K) := h ▸ ix_tup
theorem ixL (K : PySem.W.Frag) (h : X.K = K) : IxR X (rIxL K) := h ▸ ix_list
theorem slL (K : PySem.W.Frag) (h : X.K = K) : SlR X (rSlL K) := h ▸ sl_list
theorem slT (K : PySem.W.Frag) (h : X.K = K) : SlR X (rSlT K) := h ▸ sl_tup
theorem oEqD (K : PySem.W.Frag) (h : X.K = K) (hu : X.A.units + 64 < cLine) : OpR X (compareOp .Eq) (rEqD K) := h ▸ op_eqD hu
theorem oNeD (K : PySem.W.Frag) (h : X.K = K) (hu : X.A.units + 64 < cLine) : OpR X (compareOp .NotEq) (rNeD K) := h ▸ op_neD hu
theorem oIn (K : PySem.W.Frag) (h : X.K = K) : OpR X (compareOp .In) (rIn K false) := h ▸ op_in_seq
theorem oNotIn (K : PySem.W.Frag) (h : X.K = K) : OpR X (compareOp .NotIn) (rIn K true) := h ▸ op_notIn_seq
def rLen (K : PySem.W.Frag) : List V → Hp → VK → Prop := fun xs H Q => ∃ p ys, xs = [.ref p] ∧ (SqL K H p ys ∨ SqT K H p ys) ∧ Q (.int ys.length) H
theorem clLen (K : PySem.W.Frag) (h : X.K = K) : CallR X (.builtin "len") (rLen K) := h ▸ call_len_seq
theorem clSum (K : PySem.W.Frag) (h : X.K = K) (hc : X.calm = true) : CallR X (.builtin "sum") (rSum K) := h ▸ cr_sum hc
theorem clAny (K : PySem.W.Frag) (h : X.K = K) (hc : X.calm = true) : CallR X (.builtin "any") (rAny K) := h ▸ cr_any hc
theorem clAll (K : PySem.W.Frag) (h : X.K = K) (hc : X.calm = true) : CallR X (.builtin "all") (rAll K) := h ▸ cr_all hc
theorem clMin (K : PySem.W.Frag) (h : X.K = K) (hc : X.calm = true) : CallR X (.builtin "min") (rMin K) := h ▸ cr_min hc
theorem clMax (K : PySem.W.Frag) (h : X.K = K) (hc : X.calm = true) : CallR X (.builtin "max") (rMax K) := h ▸ cr_max hc
theorem clSortI (K : PySem.W.Frag) (h : X.K = K) : CallR X (.builtin "sorted") (rSortedI K) := h ▸ cr_sortedI
theorem clSortT (K : PySem.W.Frag) (h : X.K = K) {d : Nat} {B : Int} (hd : 1 ≤ d) : CallR X (.builtin "sorted") (rSortU K d B) := h ▸ cr_sortT hd
def rListOf (K : PySem.W.Frag) : List V → Hp → VK → Prop := fun xs H Q => ∃ p ys, xs = [.ref p] ∧ (SqL K H p ys ∨ SqT K H p ys) ∧ ∀ l, H l = none → Q (.ref l) (upd H l (.lst ys))
def rTupOf (K : PySem.W.Frag) : List V → Hp → VK → Prop := fun xs H Q => ∃ p ys, xs = [.ref p] ∧ ((SqL K H p ys ∧ ∀ l, H l = none → Q (.ref l) (upd H l (.tup ys))) ∨ (SqT K H p ys ∧ Q (.ref p) H))
theorem clList (K : PySem.W.Frag) (h : X.K = K) : CallR X (.type "list") (rListOf K) := h ▸ call_list_of
theorem clTup (K : PySem.W.Frag) (h : X.K = K) : CallR X (.type "tuple") (rTupOf K) := h ▸ call_tuple_of
theorem clIsi (K : PySem.W.Frag) (h : X.K = K) : CallR X (.builtin "isinstance") (rIsi K) := h ▸ call_isi
theorem fldK (K : PySem.W.Frag) (h : X.K = K) {e : Expr} {f : Str} {pos : Pos} {ta : TE} (he : PE X e ta) (hb : attributeBase e f X.env (eval e X.env) = eval e X.env) : PE X (.Attribute e f pos) (tFld K ta f) := h ▸ pe_fld he hb
theorem sfldK (K : PySem.W.Frag) (h : X.K = K) {o value : Expr} {f : Str} {pos pos' : Pos} {ta tv : TE} (ha : PE X o ta) (hv : PE X value tv) (hs : swapsWith value (some (.Attribute o f pos')) pos.line X.env = pure false) : PS X (.Assign [.Attribute o f pos'] value pos) (sFld K ta tv f) := h ▸ ps_fld ha hv hs
theorem starK (K : PySem.W.Frag) (h : X.K = K) {e : Expr} {es : List Expr} {p : Pos} {te : TE} {t : TA} (he : PE X e te) (hr : PA X es t) (hs : starEach (.Starred e p :: es) X.env = (true, eval e X.env) :: starEach es X.env := by rfl) : PA X (.Starred e p :: es) (StX.tStar K te t) := h ▸ StX.pa_star he hr hs
theorem piL (K : PySem.W.Frag) (h : X.K = K) {tg l : Expr} {tl : TE} (hl : PE X l tl) : PI X tg l (iList K tl) := h ▸ pi_list hl
theorem piT (K : PySem.W.Frag) (h : X.K = K) {tg l : Expr} {tl : TE} (hl : PE X l tl) : PI X tg l (iTup K tl) := h ▸ pi_tup hl
theorem piZ (K : PySem.W.Frag) (h : X.K = K) {e e2 : Expr} {ta : TA} {p pos tpos : Pos} {elts : List Expr} {kk : Nat} (hg : Gl X "zip") (hm : X.mg "zip" = none) (ha : PA X [e, e2] ta)
    (hs : starEach [e, e2] X.env = (false, eval e X.env) :: starEach [e2] X.env := by rfl) (hpl : (backTo pos (starEach [e2] X.env)).any (·.1) = false := by rfl) :
    PI X (.Tuple elts kk tpos) (.Call (.Name "zip" p) [e, e2] [] pos) (iZip K ta) := h ▸ pi_zip hg hm ha hs hpl
theorem piE (K : PySem.W.Frag) (h : X.K = K) {e : Expr} {ta : TA} {p pos tpos : Pos} {elts : List Expr} {kk : Nat} (hg : Gl X "enumerate") (hm : X.mg "enumerate" = none) (ha : PA X [e] ta) (hs : starEach [e] X.env = [(false, eval e X.env)] := by rfl) :
    PI X (.Tuple elts kk tpos) (.Call (.Name "enumerate" p) [e] [] pos) (iEnum K ta) := h ▸ pi_enum hg hm ha hs
theorem pgT (K : PySem.W.Frag) (n : Nat) (h : X.K = K) {es : List Expr} {k : Nat} {t : TGs} {pos : Pos} (hc : X.calm = true) (hp : PGs X es t)
    (hn : (assignEach es X.env).length = n := by rfl) (hst : (assignEach es X.env).findIdx? (·.1) = none := by rfl) : PG X (.Tuple es k pos) (gTup K n t) := h ▸ pg_tup hc hp hn hst
theorem bmK (K : PySem.W.Frag) (h : X.K = K) {o e : Expr} {es : List Expr} {to : TE} {t : TA} {name : Str} {apos cpos : Pos} {T id : String} {r : V → List V → Hp → VK → Prop}
    (pa : PlainAttrs T) (slot : Slot T name id) (hty : typeOf (.builtin id) = pure (.type "method_descriptor")) (hm : MtR X id r) (ho : PE X o to) (ha : PA X (e :: es) t)
    (hbase : attributeBase o name X.env (eval o X.env) = eval o X.env := by rfl)
    (hfew : ((backTo cpos (starEach (e :: es) X.env)).all (fun x => !x.1) && (backToKw cpos (keywordEach [] X.env)).all (fun x => x.1.isSome)
      && decide ((e :: es).length + ([] : List Keyword).length + (if ([] : List Keyword).isEmpty then 0 else 1) < 30)) = true := by rfl)
    (hline : (apos.endLine == cpos.line) = true := by rfl) (hs : starEach (e :: es) X.env = (false, eval e X.env) :: starEach es X.env := by rfl) (hplain : (backTo cpos (starEach es X.env)).any (·.1) = false := by rfl) :
    PE X (.Call (.Attribute o name apos) (e :: es) [] cpos) (tBM K T r to t) := h ▸ pe_bm pa slot hty hm ho ha hbase hfew hline hs hplain
end
/-! ### classes -/
theorem few {n : Nat} (h : Nat.ble n 20 = true) : n < 1000 := by
  have := Nat.le_of_ble_eq_true h
  omega
section
variable {P : Program} {w : World} {K : PySem.W.Frag} {mg : Str → Option Value} {base : Heap}
theorem fnF {m qual : Str} {st : Stmt} {N ps : List Str} {k : Nat} {sp : Sp} {f : Addr} {fd : FuncData} {kws : List (Str × V)} (F : FunD K m qual (defArgs st) (defBody st) (defScope st) [] kws f fd)
    (S : FnScope N ps (defScope st)) (len : ∀ vs H Q E, sp vs H Q E → vs.length = ps.length)
    (hbody : ∀ (cdv : Value) (A : Around) (outer : List Env) (s : Shared) (H : Hp) (vs : List V) (Q : VK) (E : XK), Room k (A.deeper (envOfC qual (defScope st) s.heap.objs.size f cdv)) → sp vs H Q E →
      ∃ t, PSs (cxOf CX0 P w K mg base N qual (defScope st) f cdv A outer s H E).nox (defBody st) t ∧ t { nx := fun _ H' => Q .non H', rt := Q } (start N vs) H) : FnOk P w K mg base CX0 (k + 1) f fd ps sp :=
  F.ok S len fun cdv A outer s H vs Q E hr h => (hbody cdv A outer s H vs Q E hr h).imp fun _ z => ⟨z.1.nox, z.2⟩
theorem makF {x qual : Str} {C : Addr} {st : Stmt} {N ps : List Str} {k : Nat} {sp : Sp} {f : Addr} {fd : FuncData} (M : Mk K C f) (hm : mg x = some (.ref C)) (F : FunD K "__init__" qual (defArgs st) (defBody st) (defScope st) [] [] f fd)
    (hb : ∀ (kV doc pm : Value) (an : Option Addr) (cdv ct : Value) (us : List Value), us.length = ps.length → bindArgs (PySem.W.fnOf "__init__" qual (defArgs st) (defBody st) (defScope st) .none kV doc pm an cdv ct) ⟨us, []⟩ = pure (ps.zip us))
    (S : FnScope N ps (defScope st)) (len : ∀ vs H Q E, sp vs H Q E → vs.length = ps.length)
    (hbody : ∀ (cdv : Value) (A : Around) (outer : List Env) (s : Shared) (H : Hp) (vs : List V) (Q : VK) (E : XK), Room k (A.deeper (envOfC qual (defScope st) s.heap.objs.size f cdv)) → sp vs H Q E →
      ∃ t, PSs (cxOf CX0 P w K mg base N qual (defScope st) f cdv A outer s H E).nox (defBody st) t ∧ t { nx := fun _ H' => Q .non H', rt := Q } (start N vs) H) : C8.Mak P w K mg base (k + 1) x C sp [] :=
  ⟨f, fd, ps, [], M, fnF F S len hbody, hm, F.bindsN hb, .nil⟩
theorem metF {m qual : Str} {C : Addr} {st : Stmt} {N ps : List Str} {k : Nat} {sp : Sp} {f : Addr} {fd : FuncData} (c : Cls K C) (me : Meth K C m f) (F : FunD K m qual (defArgs st) (defBody st) (defScope st) [] [] f fd)
    (hb : ∀ (kV doc pm : Value) (an : Option Addr) (cdv ct : Value) (us : List Value), us.length = ps.length → bindArgs (PySem.W.fnOf m qual (defArgs st) (defBody st) (defScope st) .none kV doc pm an cdv ct) ⟨us, []⟩ = pure (ps.zip us))
    (S : FnScope N ps (defScope st)) (len : ∀ vs H Q E, sp vs H Q E → vs.length = ps.length)
    (hbody : ∀ (cdv : Value) (A : Around) (outer : List Env) (s : Shared) (H : Hp) (vs : List V) (Q : VK) (E : XK), Room k (A.deeper (envOfC qual (defScope st) s.heap.objs.size f cdv)) → sp vs H Q E →
      ∃ t, PSs (cxOf CX0 P w K mg base N qual (defScope st) f cdv A outer s H E).nox (defBody st) t ∧ t { nx := fun _ H' => Q .non H', rt := Q } (start N vs) H) : C8.Met P w K mg base (k + 1) C m sp [] :=
  ⟨f, fd, ps, [], c, me, fnF F S len hbody, F.bindsN hb, .nil⟩
end
/-- all but x stays -/
def SameX (x : Addr) (H H' : Hp) : Prop := ∀ b u, b ≠ x → H b = some u → H' b = some u
theorem SameX.refl (x : Addr) (H : Hp) : SameX x H H := fun _ _ _ e => e
theorem SameX.trans {x : Addr} {H H1 H2 : Hp} (a : SameX x H H1) (b : SameX x H1 H2) : SameX x H H2 := fun c u n e => b c u n (a c u n e)
theorem Same.x {x : Addr} {H H' : Hp} (e : Same H H') : SameX x H H' := fun b u _ h => e b u h
theorem SameX.upd {x : Addr} {H : Hp} {o : HO} : SameX x H (upd H x o) := fun b u n h => by rw [upd_ne n]; exact h
/-- a new instance: from what __init__ leaves -/
theorem made {H : Hp} {x dx C : Addr} (hx : H x = none) (hdx : H dx = none) (hne : dx ≠ x) {H' : Hp} (e : SameX x (upd (upd H dx (.own x)) x (.ins C dx [])) H') : Same H H' := fun b u hb => by
  refine e b u (ne_of_none hb hx) ?_
  rw [upd_ne (ne_of_none hb hx), upd_ne (ne_of_none hb hdx)]
  exact hb
/-- all but D -/
def dropD (H : Hp) (D : Addr) : Hp := fun b => if b = D then none else H b
theorem dropD_ne {H : Hp} {D b : Addr} (h : b ≠ D) : dropD H D b = H b := by
  unfold dropD
  rw [if_neg h]
theorem dropD_some {H : Hp} {D b : Addr} {o : HO} (h : dropD H D b = some o) : b ≠ D ∧ H b = some o := by
  unfold dropD at h
  by_cases e : b = D
  · rw [if_pos e] at h
    cases h
  · rw [if_neg e] at h
    exact ⟨e, h⟩
theorem same_drop {H1 H : Hp} {D : Addr} (hD : H1 D = none) (e : Same H1 H) : Same H1 (dropD H D) := fun b o h => by
  rw [dropD_ne (ne_of_none h hD)]
  exact e b o h
theorem drop_same {H : Hp} {D : Addr} : Same (dropD H D) H := fun b o h => (dropD_some h).2
theorem drop_upd {H : Hp} {D : Addr} {o : HO} : Same (dropD H D) (upd H D o) := fun b u h => by
  obtain ⟨n, q⟩ := dropD_some h
  rw [upd_ne n]
  exact q
theorem sameX_drop {x : Addr} {H H' : Hp} (e : SameX x H H') : Same (dropD H x) H' := fun b o h => e b o (dropD_some h).1 (dropD_some h).2
theorem Same.updX {G H : Hp} {x : Addr} {o : HO} (hx : G x = none) (e : Same G H) : Same G (upd H x o) := fun b u h => by
  rw [upd_ne (ne_of_none h hx)]
  exact e b u h
theorem dropD_at {H : Hp} {x : Addr} : dropD H x x = none := if_pos rfl
/-- what an __init__ promises: R says which object it leaves -/
def InitSp (C : Addr) (R : Hp → List V → (Hp → Addr → Prop) → Prop) : Sp := fun vs H Q _ => ∃ x dx ws Ob, vs = .ref x :: ws ∧ H x = some (.ins C dx []) ∧ R (dropD H x) ws Ob ∧ ∀ H', Same (dropD H x) H' → Ob H' x → Q .non H'
theorem made_same {H : Hp} {x dx C : Addr} (hx : H x = none) (hdx : H dx = none) : Same H (dropD (upd (upd H dx (.own x)) x (.ins C dx [])) x) := fun b u hb => by
  rw [dropD_ne (ne_of_none hb hx), upd_ne (ne_of_none hb hx), upd_ne (ne_of_none hb hdx)]
  exact hb
theorem rd_make {C : Addr} {R : Hp → List V → (Hp → Addr → Prop) → Prop} {vs : List V} {H : Hp} {Q : VK} {E : XK} (Ob : Hp → Addr → Prop) (hR : ∀ G, Same H G → R G vs Ob) (q : ∀ x H', Same H H' → H x = none → Ob H' x → Q (.ref x) H') :
    ∀ x dx, H x = none → H dx = none → dx ≠ x → InitSp C R (.ref x :: (vs ++ [])) (upd (upd H dx (.own x)) x (.ins C dx [])) (fun v H2 => v = .non ∧ Q (.ref x) H2) E := by
  intro x dx hx hdx hne
  have e : Same H (dropD (upd (upd H dx (.own x)) x (.ins C dx [])) x) := fun b u hb => by
    rw [dropD_ne (ne_of_none hb hx), upd_ne (ne_of_none hb hx), upd_ne (ne_of_none hb hdx)]
    exact hb
  refine ⟨x, dx, vs, Ob, by rw [List.append_nil], upd_same, hR _ e, fun H' e' o => ⟨rfl, q x H' (e.trans e') hx o⟩⟩
/-! ### defs with a star parameter behind others; classes made by them; static methods -/
section
variable {P : Program} {w : World} {K : PySem.W.Frag} {mg : Str → Option Value} {base : Heap}
theorem fnRS {m qual pv : Str} {st : Stmt} {N ps : List Str} {k : Nat} {sp : Sp} {f : Addr} {fd : FuncData} (F : FunD K m qual (defArgs st) (defBody st) (defScope st) [] [] f fd)
    (hb : ∀ (kV doc pm : Value) (an : Option Addr) (cdv ct : Value) (us rest : List Value), us.length = ps.length → bindArgs (PySem.W.fnOf m qual (defArgs st) (defBody st) (defScope st) .none kV doc pm an cdv ct) ⟨us ++ rest, []⟩ = (newTuple rest >>= fun t => pure (ps.zip us ++ [(pv, t)])))
    (S : FnScope N (ps ++ [pv]) (defScope st))
    (hbody : ∀ (cdv : Value) (A : Around) (outer : List Env) (s : Shared) (H : Hp) (vs : List V) (Q : VK) (E : XK), Room k (A.deeper (envOfC qual (defScope st) s.heap.objs.size f cdv)) → sp vs H Q E →
      ∃ t, PSs (cxOf CX0 P w K mg base N qual (defScope st) f cdv A outer s H E).nox (defBody st) t ∧ t { nx := fun _ H' => Q .non H', rt := Q } (start N vs) H) :
    FnR P w K mg base CX0 (k + 1) f (fun vs H Q E => ∃ ws rest, vs = ws ++ rest ∧ ws.length = ps.length ∧ rest.length ≤ sizeLine ∧ ∀ p, H p = none → sp (ws ++ [.ref p]) (upd H p (.tup rest)) Q E) := by
  obtain ⟨oc, od, dV, kV, doc, pm, an, cdv, ct, osl, e, lk, hcd, hD, _⟩ := F.ex
  rcases hD with ⟨_, rfl⟩ | ⟨z, _⟩
  · rw [e] at lk
    exact StX.fn_star lk hcd S cxUp0 (hb _ _ _ _ _ _) fun A outer s H vs Q E hr h => (hbody cdv A outer s H vs Q E hr h).imp fun _ z => ⟨z.1.nox, z.2⟩
  · exact absurd rfl z
/-- a class made by such an __init__ -/
structure MakR (P : Program) (w : World) (K : PySem.W.Frag) (mg : Str → Option Value) (base : Heap) (k : Nat) (x : Str) (C : Addr) (sp : Sp) : Prop where
  ex : ∃ f : Addr, Mk K C f ∧ FnR P w K mg base CX0 k f sp ∧ mg x = some (.ref C)
/-- a static method -/
structure SMet (K : PySem.W.Frag) (C : Addr) (m : Str) (p g : Addr) : Prop where
  at_ : PySem.W.findCls K (.ref C) (.type "type") m = some (.get (.builtin "staticmethod.__get__") (.ref p) .none (.ref C))
  rc : ∃ rest, PySem.W.recIn K p "staticmethod" = some (.ref g :: rest)
  rd : ClX.CRead K C (.type "type")
  kp : PySem.W.keepIn K (.ref g) = true
/-- what isinstance asks: an instance of C is one of D -/
structure IsA (K : PySem.W.Frag) (C D : Addr) : Prop where
  cl : Cls K C
  ha : PySem.W.findIn K (.ref C) "__class__" = some (some (.builtin "object.__class__"))
  hn : PySem.W.specialIn K (.builtin "object.__class__") "__get__" = some (some (.builtin "getset_descriptor.__get__"))
  htk : PySem.W.takesIn K (.builtin "object.__class__") = some true
  hm : PySem.W.mroIn K C (.type "object") = some true
  is : PySem.W.kitOne K (.ref C) (.ref D) = some true
def rIsA (K : PySem.W.Frag) : List V → Hp → VK → Prop := fun xs H Q => ∃ a C D dx fs, xs = [.ref a, .ref D] ∧ H a = some (.ins C dx fs) ∧ IsA K C D ∧ Q (.bl true) H
end
section
variable {X : Cx} {k j : Nat} {C p g : Addr} {x m : Str} {sp : Sp} {pos apos np : Pos} {e o : Expr} {es : List Expr} {ta : TE} {t : TA}
theorem clIsA (K : PySem.W.Frag) (hK : X.K = K) : CallR X (.builtin "isinstance") (rIsA K) := by
  subst hK
  intro pins s σ H xs us Q I r h
  obtain ⟨a, C, D, dx, fs, rfl, ha, c, q⟩ := h
  obtain ⟨u, w', rfl, ru, rw'⟩ := vals2 r
  cases rw'
  exact isinst_ok I ru (TyOf.ins ha c.cl c.ha c.hn c.htk c.hm) c.is fun tk => ⟨.bl true, H, I.tok _, rfl, q⟩
/-- x(e, .., *y), x(e, ..): the class is made by an __init__ with a star parameter -/
theorem pe_mkR (c : MakR X.prog X.w X.K X.mg X.base k x C sp) (hr : Room j X.A) (hk : k + 1 ≤ j) (hg : Gl X x) (ha : PA X (e :: es) t)
    (hdb : (x == ("__debug__" : Str)) = false := by decide) (he : starEach (e :: es) X.env = (false, eval e X.env) :: starEach es X.env := by rfl) (hpl : (backTo pos (starEach es X.env)).any (·.1) = false := by rfl) :
    PE X (.Call (.Name x np) (e :: es) [] pos) (StX.tMakeR C sp E0 t) := by
  obtain ⟨f, M, F, hm⟩ := c.ex
  exact StX.pe_makeR M F (hr.mono hk) hg hm pass0 ha hdb he hpl
theorem pe_mkRS (c : MakR X.prog X.w X.K X.mg X.base k x C sp) (hr : Room j X.A) (hk : k + 1 ≤ j) (hg : Gl X x) (ha : PA X (e :: es) t)
    (hdb : (x == ("__debug__" : Str)) = false := by decide) (he : starEach (e :: es) X.env = (false, eval e X.env) :: starEach es X.env := by rfl) (hst : (backTo pos (starEach es X.env)).any (·.1) = true := by rfl) :
    PE X (.Call (.Name x np) (e :: es) [] pos) (StX.tMakeR C sp E0 t) := by
  obtain ⟨f, M, F, hm⟩ := c.ex
  refine ⟨fun pins s σ H Q I h => ?_⟩
  refine wpAny_Call_Name_kw (ld_glob I hg hm ?_ hdb)
  refine PySem.W.callWith_S2 (h₀ := X.base) I.ok.mod.kin M.kp (thn (ha.run pos pins s σ H _ I h) fun us s1 ⟨vs, H1, I1, r, q⟩ => ⟨I1.kIn, ?_⟩) he hst
  exact StX.run_makeR M F (hr.mono hk) pass0 I1 r q
/-- o.m(e, ..), o the class at C, m a static method -/
def tSMeth (C : Addr) (sp : Sp) (ta : TE) (t : TA) : TE := fun σ H Q => ta σ H fun x H1 => x = .ref C ∧ t σ H1 fun vs H2 => sp vs H2 Q E0
theorem pe_smeth {f : Addr} {fd : FuncData} {ps : List Str} {pl : Sem Bool} (he : PE X o ta) (c : SMet X.K C m p f) (F : FnOk X.prog X.w X.K X.mg X.base CX0 k f fd ps sp) (hb : Binds X.K fd ps []) (hr : Room j X.A) (hk : k ≤ j) (ha : PA X (e :: es) t)
    (hst : starEach (e :: es) X.env = (false, eval e X.env) :: starEach es X.env := by rfl) (hpl : (backTo pos (starEach es X.env)).any (·.1) = false := by rfl)
    (ht : eval (.Call (.Attribute o m apos) (e :: es) [] pos) X.env = (do
      let ov ← eval o X.env
      standAt apos.atName
      let (f, first) ← holding [ov] (getMethod ov m pl)
      callWith pos f first (backTo pos (starEach (e :: es) X.env)) (backToKw pos (keywordEach [] X.env))) := by rfl) :
    PE X (.Call (.Attribute o m apos) (e :: es) [] pos) (tSMeth C sp ta t) := by
  refine ⟨fun pins s σ H Q I h => ?_⟩
  refine PySem.W.methodCall_KW (pl := pl) (thn (he.run pins s σ H _ I h) fun u s1 ⟨x, H1, I1, rx, ex, q⟩ => ?_) ht
  subst ex
  obtain rfl : u = Value.ref C := rx
  obtain ⟨rest, hp⟩ := c.rc
  refine PySem.W.method_cls I1.kIn c.rd.ga (PySem.W.cls_bind I1.kIn c.rd.rd c.at_ (wpAny_call (PySem.W.sm_get (s := { s1 with toks := s1.toks + 1 }) I1.kIn hp (PySem.W.handed_on rfl ?_))))
  refine PySem.W.callWith_K (h₀ := X.base) (first := []) I.ok.mod.kin c.kp (thn (ha.run pos pins _ σ H1 _ (I1.tok _) q) fun us s2 ⟨vs, H2, I2, r, q2⟩ => ⟨I2.kIn, ?_⟩) hst hpl
  exact run_fn F (hr.mono hk) hb .nil pass0 I2 r (by rw [List.append_nil]; exact q2)
end
theorem gI {mg : Str → Option Value} {x : Str} {n : Int} (h : ∃ t, mg x = some (.int n t)) : ∃ u, mg x = some u ∧ RelV (.int n) u := let ⟨t, e⟩ := h; ⟨_, e, t, rfl⟩
end K32

namespace K32
open PySem L2
abbrev s_is_whole : Stmt := (top 14)
abbrev N_is_whole : List Str := ["value"]
theorem sc_is_whole : FnScope N_is_whole ["value"] (defScope s_is_whole) := ⟨rfl, rfl, rfl, by decide +kernel, rfl, by decide +kernel, by decide +kernel⟩
abbrev s_need_whole : Stmt := (top 15)
abbrev N_need_whole : List Str := ["value"]
theorem sc_need_whole : FnScope N_need_whole ["value"] (defScope s_need_whole) := ⟨rfl, rfl, rfl, by decide +kernel, rfl, by decide +kernel, by decide +kernel⟩
abbrev s_need_above : Stmt := (top 16)
abbrev N_need_above : List Str := ["value"]
theorem sc_need_above : FnScope N_need_above ["value"] (defScope s_need_above) := ⟨rfl, rfl, rfl, by decide +kernel, rfl, by decide +kernel, by decide +kernel⟩
abbrev s_divisor_of : Stmt := (top 17)
abbrev N_divisor_of : List Str := ["one", "other"]
theorem sc_divisor_of : FnScope N_divisor_of ["one", "other"] (defScope s_divisor_of) := ⟨rfl, rfl, rfl, by decide +kernel, rfl, by decide +kernel, by decide +kernel⟩
abbrev s_common : Stmt := (top 18)
abbrev N_common : List Str := ["numbers", "number", "found"]
theorem sc_common : FnScope N_common ["numbers"] (defScope s_common) := ⟨rfl, rfl, rfl, by decide +kernel, rfl, by decide +kernel, by decide +kernel⟩
abbrev s_multiple : Stmt := (top 19)
abbrev N_multiple : List Str := ["numbers", "number", "found"]
theorem sc_multiple : FnScope N_multiple ["numbers"] (defScope s_multiple) := ⟨rfl, rfl, rfl, by decide +kernel, rfl, by decide +kernel, by decide +kernel⟩
abbrev s_apart : Stmt := (top 20)
abbrev N_apart : List Str := ["d", "period", "gap"]
theorem sc_apart : FnScope N_apart ["d", "period"] (defScope s_apart) := ⟨rfl, rfl, rfl, by decide +kernel, rfl, by decide +kernel, by decide +kernel⟩
abbrev s_inverse_of : Stmt := (top 21)
abbrev N_inverse_of : List Str := ["number", "modulus", "one", "other", "first", "second", "times"]
theorem sc_inverse_of : FnScope N_inverse_of ["number", "modulus"] (defScope s_inverse_of) := ⟨rfl, rfl, rfl, by decide +kernel, rfl, by decide +kernel, by decide +kernel⟩
abbrev s_is_run : Stmt := (top 23)
abbrev N_is_run : List Str := ["value"]
theorem sc_is_run : FnScope N_is_run ["value"] (defScope s_is_run) := ⟨rfl, rfl, rfl, by decide +kernel, rfl, by decide +kernel, by decide +kernel⟩
abbrev s_length_of : Stmt := (top 24)
abbrev N_length_of : List Str := ["run"]
theorem sc_length_of : FnScope N_length_of ["run"] (defScope s_length_of) := ⟨rfl, rfl, rfl, by decide +kernel, rfl, by decide +kernel, by decide +kernel⟩
abbrev s_place_among : Stmt := (top 25)
abbrev N_place_among : List Str := ["row", "value", "low", "high", "middle"]
theorem sc_place_among : FnScope N_place_among ["row", "value"] (defScope s_place_among) := ⟨rfl, rfl, rfl, by decide +kernel, rfl, by decide +kernel, by decide +kernel⟩
abbrev s_count_in : Stmt := (top 26)
abbrev N_count_in : List Str := ["row", "begin", "many", "step", "low", "high", "found"]
theorem sc_count_in : FnScope N_count_in ["row", "begin", "many", "step"] (defScope s_count_in) := ⟨rfl, rfl, rfl, by decide +kernel, rfl, by decide +kernel, by decide +kernel⟩
abbrev s_remainders : Stmt := (top 27)
abbrev N_remainders : List Str := ["runs", "step", "run"]
theorem sc_remainders : FnScope N_remainders ["runs", "step"] (defScope s_remainders) := ⟨rfl, rfl, rfl, by decide +kernel, rfl, by decide +kernel, by decide +kernel⟩
abbrev s_meets : Stmt := (top 28)
abbrev N_meets : List Str := ["table", "other", "step", "own", "its", "found", "run"]
theorem sc_meets : FnScope N_meets ["table", "other"] (defScope s_meets) := ⟨rfl, rfl, rfl, by decide +kernel, rfl, by decide +kernel, by decide +kernel⟩
abbrev s_begun_inside : Stmt := (top 31)
abbrev N_begun_inside : List Str := ["run", "ranked", "least", "many", "step", "rows", "some", "key", "begin", "end", "low", "gap"]
theorem sc_begun_inside : FnScope N_begun_inside ["run", "ranked", "least"] (defScope s_begun_inside) := ⟨rfl, rfl, rfl, by decide +kernel, rfl, by decide +kernel, by decide +kernel⟩
abbrev s_shared_far : Stmt := (top 32)
abbrev N_shared_far : List Str := ["run", "row"]
theorem sc_shared_far : FnScope N_shared_far ["run", "row"] (defScope s_shared_far) := ⟨rfl, rfl, rfl, by decide +kernel, rfl, by decide +kernel, by decide +kernel⟩
abbrev s_shared_runs : Stmt := (top 33)
abbrev N_shared_runs : List Str := ["table", "other", "turn", "own", "its", "later", "run", "row", "found", "ahead", "more", "begin", "far"]
theorem sc_shared_runs : FnScope N_shared_runs ["table", "other"] (defScope s_shared_runs) := ⟨rfl, rfl, rfl, by decide +kernel, rfl, by decide +kernel, by decide +kernel⟩
abbrev s_melted : Stmt := (top 34)
abbrev N_melted : List Str := ["runs", "found", "run"]
theorem sc_melted : FnScope N_melted ["runs"] (defScope s_melted) := ⟨rfl, rfl, rfl, by decide +kernel, rfl, by decide +kernel, by decide +kernel⟩
abbrev s_closed_round : Stmt := (top 35)
abbrev N_closed_round : List Str := ["period", "runs", "many", "end"]
theorem sc_closed_round : FnScope N_closed_round ["period", "runs"] (defScope s_closed_round) := ⟨rfl, rfl, rfl, by decide +kernel, rfl, by decide +kernel, by decide +kernel⟩
abbrev s_maximal : Stmt := (top 36)
abbrev N_maximal : List Str := ["period", "runs", "run", "moved", "found"]
theorem sc_maximal : FnScope N_maximal ["period", "runs"] (defScope s_maximal) := ⟨rfl, rfl, rfl, by decide +kernel, rfl, by decide +kernel, by decide +kernel⟩
abbrev s_least_form : Stmt := (top 37)
abbrev N_least_form : List Str := ["period", "runs", "many", "nexts", "row", "run", "later", "turns", "turn", "few", "pair"]
theorem sc_least_form : FnScope N_least_form ["period", "runs"] (defScope s_least_form) := ⟨rfl, rfl, rfl, by decide +kernel, rfl, by decide +kernel, by decide +kernel⟩
abbrev s_need_integer : Stmt := (top 46)
abbrev N_need_integer : List Str := ["value"]
theorem sc_need_integer : FnScope N_need_integer ["value"] (defScope s_need_integer) := ⟨rfl, rfl, rfl, by decide +kernel, rfl, by decide +kernel, by decide +kernel⟩
abbrev s_need_few : Stmt := (top 47)
abbrev N_need_few : List Str := ["many"]
theorem sc_need_few : FnScope N_need_few ["many"] (defScope s_need_few) := ⟨rfl, rfl, rfl, by decide +kernel, rfl, by decide +kernel, by decide +kernel⟩
abbrev s_need_lots : Stmt := (top 65)
abbrev N_need_lots : List Str := ["lots", "at", "lot"]
theorem sc_need_lots : FnScope N_need_lots ["lots"] (defScope s_need_lots) := ⟨rfl, rfl, rfl, by decide +kernel, rfl, by decide +kernel, by decide +kernel⟩
abbrev s_table_of : Stmt := (top 66)
abbrev N_table_of : List Str := ["lot"]
theorem sc_table_of : FnScope N_table_of ["lot"] (defScope s_table_of) := ⟨rfl, rfl, rfl, by decide +kernel, rfl, by decide +kernel, by decide +kernel⟩
abbrev s_next_table : Stmt := (top 67)
abbrev N_next_table : List Str := ["table", "lot", "own"]
theorem sc_next_table : FnScope N_next_table ["table", "lot"] (defScope s_next_table) := ⟨rfl, rfl, rfl, by decide +kernel, rfl, by decide +kernel, by decide +kernel⟩
abbrev s_join : Stmt := (top 68)
abbrev N_join : List Str := ["lots", "found", "table", "lot"]
theorem sc_join : FnScope N_join ["lots"] (defScope s_join) := ⟨rfl, rfl, rfl, by decide +kernel, rfl, by decide +kernel, by decide +kernel⟩
abbrev s_table_lot : Stmt := (top 69)
abbrev N_table_lot : List Str := ["tables", "period", "runs"]
theorem sc_table_lot : FnScope N_table_lot ["tables"] (defScope s_table_lot) := ⟨rfl, rfl, rfl, by decide +kernel, rfl, by decide +kernel, by decide +kernel⟩
abbrev s_need_part : Stmt := (top 81)
abbrev N_need_part : List Str := ["value", "least", "part"]
theorem sc_need_part : FnScope N_need_part ["value", "least", "part"] (defScope s_need_part) := ⟨rfl, rfl, rfl, by decide +kernel, rfl, by decide +kernel, by decide +kernel⟩
abbrev s_need_value : Stmt := (top 82)
abbrev N_need_value : List Str := ["value"]
theorem sc_need_value : FnScope N_need_value ["value"] (defScope s_need_value) := ⟨rfl, rfl, rfl, by decide +kernel, rfl, by decide +kernel, by decide +kernel⟩
abbrev s_need_count : Stmt := (top 93)
abbrev N_need_count : List Str := ["value", "part"]
theorem sc_need_count : FnScope N_need_count ["value", "part"] (defScope s_need_count) := ⟨rfl, rfl, rfl, by decide +kernel, rfl, by decide +kernel, by decide +kernel⟩
abbrev s_some_of : Stmt := (top 94)
abbrev N_some_of : List Str := ["places", "many", "found", "spot", "at", "rest"]
theorem sc_some_of : FnScope N_some_of ["places", "many"] (defScope s_some_of) := ⟨rfl, rfl, rfl, by decide +kernel, rfl, by decide +kernel, by decide +kernel⟩
abbrev s_need_meter : Stmt := (top 101)
abbrev N_need_meter : List Str := ["meter"]
theorem sc_need_meter : FnScope N_need_meter ["meter"] (defScope s_need_meter) := ⟨rfl, rfl, rfl, by decide +kernel, rfl, by decide +kernel, by decide +kernel⟩
abbrev s_need_number_reaches : Stmt := (top 102)
abbrev N_need_number_reaches : List Str := ["value", "low", "high"]
theorem sc_need_number_reaches : FnScope N_need_number_reaches ["value", "low", "high"] (defScope s_need_number_reaches) := ⟨rfl, rfl, rfl, by decide +kernel, rfl, by decide +kernel, by decide +kernel⟩
abbrev s_near_lots : Stmt := (top 104)
abbrev N_near_lots : List Str := ["meter", "choice", "at"]
theorem sc_near_lots : FnScope N_near_lots ["meter", "choice"] (defScope s_near_lots) := ⟨rfl, rfl, rfl, by decide +kernel, rfl, by decide +kernel, by decide +kernel⟩
abbrev s_tables_by_choice : Stmt := (top 105)
abbrev N_tables_by_choice : List Str := ["meter", "found", "choice", "lots"]
theorem sc_tables_by_choice : FnScope N_tables_by_choice ["meter"] (defScope s_tables_by_choice) := ⟨rfl, rfl, rfl, by decide +kernel, rfl, by decide +kernel, by decide +kernel⟩
abbrev s_shared_mark : Stmt := (top 106)
abbrev N_shared_mark : List Str := ["wheel", "d", "gap"]
theorem sc_shared_mark : FnScope N_shared_mark ["wheel", "d"] (defScope s_shared_mark) := ⟨rfl, rfl, rfl, by decide +kernel, rfl, by decide +kernel, by decide +kernel⟩
abbrev s_pair_at : Stmt := (top 107)
abbrev N_pair_at : List Str := ["meter", "d", "parting", "lost", "rest", "high_off", "low_off", "marks", "at", "wheel"]
theorem sc_pair_at : FnScope N_pair_at ["meter", "d"] (defScope s_pair_at) := ⟨rfl, rfl, rfl, by decide +kernel, rfl, by decide +kernel, by decide +kernel⟩
abbrev s_sure : Stmt := (top 108)
abbrev N_sure : List Str := ["meter", "reach", "window", "tables", "least", "found"]
theorem sc_sure : FnScope N_sure ["meter", "reach", "window"] (defScope s_sure) := ⟨rfl, rfl, rfl, by decide +kernel, rfl, by decide +kernel, by decide +kernel⟩
abbrev s__law_pen : Stmt := (top 110)
abbrev N__law_pen : List Str := ["_law_script"]
theorem sc__law_pen : FnScope N__law_pen ["_law_script"] (defScope s__law_pen) := ⟨rfl, rfl, rfl, by decide +kernel, rfl, by decide +kernel, by decide +kernel⟩
abbrev s__law_draw : Stmt := (top 111)
abbrev N__law_draw : List Str := ["_law_pen_here", "_law_many", "_law_digit", "_law_at", "_law_cell", "_law_great", "_law_mixed"]
theorem sc__law_draw : FnScope N__law_draw ["_law_pen_here", "_law_many"] (defScope s__law_draw) := ⟨rfl, rfl, rfl, by decide +kernel, rfl, by decide +kernel, by decide +kernel⟩
abbrev s__law_pick : Stmt := (top 112)
abbrev N__law_pick : List Str := ["_law_pen_here", "_law_some"]
theorem sc__law_pick : FnScope N__law_pick ["_law_pen_here", "_law_some"] (defScope s__law_pick) := ⟨rfl, rfl, rfl, by decide +kernel, rfl, by decide +kernel, by decide +kernel⟩
abbrev s__law_wheel : Stmt := (top 113)
abbrev N__law_wheel : List Str := ["_law_pen_here", "_law_most", "_law_period", "_law_kind", "_law_slip"]
theorem sc__law_wheel : FnScope N__law_wheel ["_law_pen_here", "_law_most"] (defScope s__law_wheel) := ⟨rfl, rfl, rfl, by decide +kernel, rfl, by decide +kernel, by decide +kernel⟩
abbrev s__law_plain : Stmt := (top 114)
abbrev N__law_plain : List Str := ["_law_pen_here", "_law_many", "_law_most", "_law_wheels", "_law_lap", "_law_numbers"]
theorem sc__law_plain : FnScope N__law_plain ["_law_pen_here", "_law_many", "_law_most"] (defScope s__law_plain) := ⟨rfl, rfl, rfl, by decide +kernel, rfl, by decide +kernel, by decide +kernel⟩
abbrev s__law_of : Stmt := (top 115)
abbrev N__law_of : List Str := ["_law_plain_here", "_law_period", "_law_back", "_law_ahead", "_law_trusted"]
theorem sc__law_of : FnScope N__law_of ["_law_plain_here"] (defScope s__law_of) := ⟨rfl, rfl, rfl, by decide +kernel, rfl, by decide +kernel, by decide +kernel⟩
abbrev s__law_meter : Stmt := (top 116)
abbrev N__law_meter : List Str := ["_law_plain_here", "_law_some", "_law_off_here", "_law_more", "_law_lost", "_law_one"]
theorem sc__law_meter : FnScope N__law_meter ["_law_plain_here"] (defScope s__law_meter) := ⟨rfl, rfl, rfl, by decide +kernel, rfl, by decide +kernel, by decide +kernel⟩
abbrev s__law_lets : Stmt := (top 119)
abbrev N__law_lets : List Str := ["_law_wheel_here", "_law_value", "_law_mark"]
theorem sc__law_lets : FnScope N__law_lets ["_law_wheel_here", "_law_value", "_law_mark"] (defScope s__law_lets) := ⟨rfl, rfl, rfl, by decide +kernel, rfl, by decide +kernel, by decide +kernel⟩
abbrev s__law_readings : Stmt := (top 120)
abbrev N__law_readings : List Str := ["_law_wheels", "_law_found", "_law_wheel_here", "_law_longer", "_law_marks", "_law_mark"]
theorem sc__law_readings : FnScope N__law_readings ["_law_wheels"] (defScope s__law_readings) := ⟨rfl, rfl, rfl, by decide +kernel, rfl, by decide +kernel, by decide +kernel⟩
abbrev s__law_off : Stmt := (top 121)
abbrev N__law_off : List Str := ["_law_wheels", "_law_marks", "_law_value", "_law_pairs", "_law_wheel_here", "_law_mark"]
theorem sc__law_off : FnScope N__law_off ["_law_wheels", "_law_marks", "_law_value"] (defScope s__law_off) := ⟨rfl, rfl, rfl, by decide +kernel, rfl, by decide +kernel, by decide +kernel⟩
abbrev s__law_is_sure : Stmt := (top 122)
abbrev N__law_is_sure : List Str := ["_law_plain_here", "_law_reach", "_law_window", "_law_wheels", "_law_off_here", "_law_more", "_law_lost", "_law_marks", "_law_mark", "_law_came", "_law_fits", "_law_value", "_law_wrong", "_law_wheel_here"]
theorem sc__law_is_sure : FnScope N__law_is_sure ["_law_plain_here", "_law_reach", "_law_window"] (defScope s__law_is_sure) := ⟨rfl, rfl, rfl, by decide +kernel, rfl, by decide +kernel, by decide +kernel⟩
abbrev s_law : Stmt := (top 123)
abbrev N_law : List Str := ["_law_script", "_law_pen_here", "_law_turn", "_law_plain_here", "_law_made", "_law_lap", "_law_reach", "_law_window"]
theorem sc_law : FnScope N_law ["_law_script"] (defScope s_law) := ⟨rfl, rfl, rfl, by decide +kernel, rfl, by decide +kernel, by decide +kernel⟩
abbrev s_Round___init__ : Stmt := inClass (top 29) 0
abbrev N_Round___init__ : List Str := ["self", "period", "other"]
theorem sc_Round___init__ : FnScope N_Round___init__ ["self", "period", "other"] (defScope s_Round___init__) := ⟨rfl, rfl, rfl, by decide +kernel, rfl, by decide +kernel, by decide +kernel⟩
abbrev s_Round_place : Stmt := inClass (top 29) 1
abbrev N_Round_place : List Str := ["self", "first", "last", "times"]
theorem sc_Round_place : FnScope N_Round_place ["self", "first", "last"] (defScope s_Round_place) := ⟨rfl, rfl, rfl, by decide +kernel, rfl, by decide +kernel, by decide +kernel⟩
abbrev s_Ranked___init__ : Stmt := inClass (top 30) 0
abbrev N_Ranked___init__ : List Str := ["self", "runs", "step", "run", "row"]
theorem sc_Ranked___init__ : FnScope N_Ranked___init__ ["self", "runs", "step"] (defScope s_Ranked___init__) := ⟨rfl, rfl, rfl, by decide +kernel, rfl, by decide +kernel, by decide +kernel⟩
abbrev s_Ranked_hit : Stmt := inClass (top 30) 1
abbrev N_Ranked_hit : List Str := ["self", "begin", "many", "low", "high", "first"]
theorem sc_Ranked_hit : FnScope N_Ranked_hit ["self", "begin", "many"] (defScope s_Ranked_hit) := ⟨rfl, rfl, rfl, by decide +kernel, rfl, by decide +kernel, by decide +kernel⟩
abbrev s_Lot___init__ : Stmt := inClass (top 48) 1
abbrev N_Lot___init__ : List Str := ["self", "period", "runs", "run", "found", "least"]
theorem sc_Lot___init__ : FnScope N_Lot___init__ ["self", "period", "runs"] (defScope s_Lot___init__) := ⟨rfl, rfl, rfl, by decide +kernel, rfl, by decide +kernel, by decide +kernel⟩
abbrev s_Lot_around : Stmt := inClass (top 48) 4
abbrev N_Lot_around : List Str := ["period", "play"]
theorem sc_Lot_around : FnScope N_Lot_around ["period", "play"] (defScope s_Lot_around) := ⟨rfl, rfl, rfl, by decide +kernel, rfl, by decide +kernel, by decide +kernel⟩
abbrev s_Lot_at_least : Stmt := inClass (top 48) 22
abbrev N_Lot_at_least : List Str := ["self", "n", "left", "at"]
theorem sc_Lot_at_least : FnScope N_Lot_at_least ["self", "n"] (defScope s_Lot_at_least) := ⟨rfl, rfl, rfl, by decide +kernel, rfl, by decide +kernel, by decide +kernel⟩
abbrev s_Paper___init__ : Stmt := inClass (top 60) 2
abbrev N_Paper___init__ : List Str := ["self", "parts"]
theorem sc_Paper___init__ : FnScope N_Paper___init__ ["self", "parts"] (defScope s_Paper___init__) := ⟨rfl, rfl, rfl, by decide +kernel, rfl, by decide +kernel, by decide +kernel⟩
abbrev s_Paper___bool__ : Stmt := inClass (top 60) 4
abbrev N_Paper___bool__ : List Str := ["self"]
theorem sc_Paper___bool__ : FnScope N_Paper___bool__ ["self"] (defScope s_Paper___bool__) := ⟨rfl, rfl, rfl, by decide +kernel, rfl, by decide +kernel, by decide +kernel⟩
abbrev s_Wheel___init__ : Stmt := inClass (top 85) 1
abbrev N_Wheel___init__ : List Str := ["self", "period", "back", "ahead"]
theorem sc_Wheel___init__ : FnScope N_Wheel___init__ ["self", "period", "back", "ahead"] (defScope s_Wheel___init__) := ⟨rfl, rfl, rfl, by decide +kernel, rfl, by decide +kernel, by decide +kernel⟩
abbrev s_Wheel_trusted : Stmt := inClass (top 85) 3
abbrev N_Wheel_trusted : List Str := ["self"]
theorem sc_Wheel_trusted : FnScope N_Wheel_trusted ["self"] (defScope s_Wheel_trusted) := ⟨rfl, rfl, rfl, by decide +kernel, rfl, by decide +kernel, by decide +kernel⟩
abbrev s_Wheel_play : Stmt := inClass (top 85) 4
abbrev N_Wheel_play : List Str := ["self"]
theorem sc_Wheel_play : FnScope N_Wheel_play ["self"] (defScope s_Wheel_play) := ⟨rfl, rfl, rfl, by decide +kernel, rfl, by decide +kernel, by decide +kernel⟩
abbrev s_Wheel_near : Stmt := inClass (top 85) 6
abbrev N_Wheel_near : List Str := ["self"]
theorem sc_Wheel_near : FnScope N_Wheel_near ["self"] (defScope s_Wheel_near) := ⟨rfl, rfl, rfl, by decide +kernel, rfl, by decide +kernel, by decide +kernel⟩
abbrev s_Wheel_does_part : Stmt := inClass (top 85) 11
abbrev N_Wheel_does_part : List Str := ["self", "d"]
theorem sc_Wheel_does_part : FnScope N_Wheel_does_part ["self", "d"] (defScope s_Wheel_does_part) := ⟨rfl, rfl, rfl, by decide +kernel, rfl, by decide +kernel, by decide +kernel⟩
abbrev s_Wheel___call__ : Stmt := inClass (top 85) 13
abbrev N_Wheel___call__ : List Str := ["self", "value"]
theorem sc_Wheel___call__ : FnScope N_Wheel___call__ ["self", "value"] (defScope s_Wheel___call__) := ⟨rfl, rfl, rfl, by decide +kernel, rfl, by decide +kernel, by decide +kernel⟩
abbrev s_Meter___init__ : Stmt := inClass (top 95) 0
abbrev N_Meter___init__ : List Str := ["self", "off", "more", "lost", "wheels", "wheel"]
theorem sc_Meter___init__ : FnScope N_Meter___init__ ["self", "off", "more", "lost", "wheels"] (defScope s_Meter___init__) := ⟨rfl, rfl, rfl, by decide +kernel, rfl, by decide +kernel, by decide +kernel⟩
abbrev s_Meter_spare : Stmt := inClass (top 95) 2
abbrev N_Meter_spare : List Str := ["self"]
theorem sc_Meter_spare : FnScope N_Meter_spare ["self"] (defScope s_Meter_spare) := ⟨rfl, rfl, rfl, by decide +kernel, rfl, by decide +kernel, by decide +kernel⟩
abbrev s_Meter_parting : Stmt := inClass (top 95) 7
abbrev N_Meter_parting : List Str := ["self", "d", "at", "wheel"]
theorem sc_Meter_parting : FnScope N_Meter_parting ["self", "d"] (defScope s_Meter_parting) := ⟨rfl, rfl, rfl, by decide +kernel, rfl, by decide +kernel, by decide +kernel⟩
abbrev s_Meter_is_blind : Stmt := inClass (top 95) 8
abbrev N_Meter_is_blind : List Str := ["self", "d", "places", "at"]
theorem sc_Meter_is_blind : FnScope N_Meter_is_blind ["self", "d"] (defScope s_Meter_is_blind) := ⟨rfl, rfl, rfl, by decide +kernel, rfl, by decide +kernel, by decide +kernel⟩
abbrev s_Meter_choices : Stmt := inClass (top 95) 9
abbrev N_Meter_choices : List Str := ["self", "trusted", "at", "wheel", "others", "some"]
theorem sc_Meter_choices : GScope N_Meter_choices ["self"] (defScope s_Meter_choices) := ⟨rfl, rfl, rfl, by decide +kernel, rfl, by decide +kernel, by decide +kernel⟩
abbrev s_Meter___iter__ : Stmt := inClass (top 95) 11
abbrev N_Meter___iter__ : List Str := ["self"]
theorem sc_Meter___iter__ : FnScope N_Meter___iter__ ["self"] (defScope s_Meter___iter__) := ⟨rfl, rfl, rfl, by decide +kernel, rfl, by decide +kernel, by decide +kernel⟩
abbrev s_Meter___getitem__ : Stmt := inClass (top 95) 12
abbrev N_Meter___getitem__ : List Str := ["self", "i"]
theorem sc_Meter___getitem__ : FnScope N_Meter___getitem__ ["self", "i"] (defScope s_Meter___getitem__) := ⟨rfl, rfl, rfl, by decide +kernel, rfl, by decide +kernel, by decide +kernel⟩
abbrev s_Join___init__ : Stmt := inClass (top 64) 1
abbrev N_Join___init__ : List Str := ["self", "tables"]
abbrev s_Even___init__ : Stmt := inClass (top 86) 0
abbrev N_Even___init__ : List Str := ["self", "period", "slip"]
abbrev s_Exact___init__ : Stmt := inClass (top 87) 0
abbrev N_Exact___init__ : List Str := ["self", "period"]
abbrev s_Lagging___init__ : Stmt := inClass (top 88) 0
abbrev N_Lagging___init__ : List Str := ["self", "period", "lag"]
abbrev s_Grid___init__ : Stmt := inClass (top 89) 1
abbrev N_Grid___init__ : List Str := ["self", "period"]
abbrev s_Sure___init__ : Stmt := inClass (top 99) 1
abbrev N_Sure___init__ : List Str := ["self", "tables"]
abbrev s_Unsure___init__ : Stmt := inClass (top 100) 2
abbrev N_Unsure___init__ : List Str := ["self", "low", "high", "marks", "low_off", "high_off"]
structure Top (K : PySem.W.Frag) (mg : Str → Option Value) : Prop where
  f_abs : mg "abs" = none
  f_all : mg "all" = none
  f_any : mg "any" = none
  f_bool : mg "bool" = none
  f_enumerate : mg "enumerate" = none
  f_int : mg "int" = none
  f_isinstance : mg "isinstance" = none
  f_iter : mg "iter" = none
  f_len : mg "len" = none
  f_list : mg "list" = none
  f_max : mg "max" = none
  f_min : mg "min" = none
  f_range : mg "range" = none
  f_sorted : mg "sorted" = none
  f_sum : mg "sum" = none
  f_super : mg "super" = none
  f_tuple : mg "tuple" = none
  f_zip : mg "zip" = none
  g_MOST_RUNS_lots : ∃ t, mg "MOST_RUNS_lots" = some (.int 2000 t)
  g_MOST_RUNS_joins : ∃ t, mg "MOST_RUNS_joins" = some (.int 2000 t)
  g_MOST : ∃ t, mg "MOST" = some (.int 1000000000000 t)
  g_MOST_WHEELS : ∃ t, mg "MOST_WHEELS" = some (.int 8 t)
  g_MOST_FAR : ∃ t, mg "MOST_FAR" = some (.int 10000000000000000000000000000000000000000000000000000000000000000000000000000000000000000000000000000 t)
  is_whole : DefF K mg "is_whole" "is_whole" s_is_whole
  need_whole : DefF K mg "need_whole" "need_whole" s_need_whole
  need_above : DefF K mg "need_above" "need_above" s_need_above
  divisor_of : DefF K mg "divisor_of" "divisor_of" s_divisor_of
  common : DefF K mg "common" "common" s_common
  multiple : DefF K mg "multiple" "multiple" s_multiple
  apart : DefF K mg "apart" "apart" s_apart
  inverse_of : DefF K mg "inverse_of" "inverse_of" s_inverse_of
  is_run : DefF K mg "is_run" "is_run" s_is_run
  length_of : DefF K mg "length_of" "length_of" s_length_of
  place_among : DefF K mg "place_among" "place_among" s_place_among
  count_in : DefF K mg "count_in" "count_in" s_count_in
  remainders : DefF K mg "remainders" "remainders" s_remainders
  meets : DefF K mg "meets" "meets" s_meets
  begun_inside : DefF K mg "begun_inside" "begun_inside" s_begun_inside
  shared_far : DefF K mg "shared_far" "shared_far" s_shared_far
  shared_runs : DefF K mg "shared_runs" "shared_runs" s_shared_runs
  melted : DefF K mg "melted" "melted" s_melted
  closed_round : DefF K mg "closed_round" "closed_round" s_closed_round
  maximal : DefF K mg "maximal" "maximal" s_maximal
  least_form : DefF K mg "least_form" "least_form" s_least_form
  need_integer : DefF K mg "need_integer" "need_integer" s_need_integer
  need_few : DefF K mg "need_few" "need_few" s_need_few
  need_lots : DefF K mg "need_lots" "need_lots" s_need_lots
  table_of : DefF K mg "table_of" "table_of" s_table_of
  next_table : DefF K mg "next_table" "next_table" s_next_table
  join : DefF K mg "join" "join" s_join
  table_lot : DefF K mg "table_lot" "table_lot" s_table_lot
  need_part : DefF K mg "need_part" "need_part" s_need_part
  need_value : DefF K mg "need_value" "need_value" s_need_value
  need_count : DefF K mg "need_count" "need_count" s_need_count
  some_of : DefF K mg "some_of" "some_of" s_some_of
  need_meter : DefF K mg "need_meter" "need_meter" s_need_meter
  need_number_reaches : DefF K mg "need_number_reaches" "need_number" s_need_number_reaches
  near_lots : DefF K mg "near_lots" "near_lots" s_near_lots
  tables_by_choice : DefF K mg "tables_by_choice" "tables_by_choice" s_tables_by_choice
  shared_mark : DefF K mg "shared_mark" "shared_mark" s_shared_mark
  pair_at : DefF K mg "pair_at" "pair_at" s_pair_at
  sure : DefF K mg "sure" "sure" s_sure
  _law_pen : DefF K mg "_law_pen" "_law_pen" s__law_pen
  _law_draw : DefF K mg "_law_draw" "_law_draw" s__law_draw
  _law_pick : DefF K mg "_law_pick" "_law_pick" s__law_pick
  _law_wheel : DefF K mg "_law_wheel" "_law_wheel" s__law_wheel
  _law_plain : DefF K mg "_law_plain" "_law_plain" s__law_plain
  _law_of : DefF K mg "_law_of" "_law_of" s__law_of
  _law_meter : DefF K mg "_law_meter" "_law_meter" s__law_meter
  _law_lets : DefF K mg "_law_lets" "_law_lets" s__law_lets
  _law_readings : DefF K mg "_law_readings" "_law_readings" s__law_readings
  _law_off : DefF K mg "_law_off" "_law_off" s__law_off
  _law_is_sure : DefF K mg "_law_is_sure" "_law_is_sure" s__law_is_sure
  law : DefF K mg "law" "law" s_law
  c_Round : mg "Round" = some (.ref (ga K "Round"))
  k_Round : Cls K (ga K "Round")
  n_Round_step : NoAttr K (ga K "Round") "step"
  n_Round_own : NoAttr K (ga K "Round") "own"
  n_Round_part : NoAttr K (ga K "Round") "part"
  n_Round_total : NoAttr K (ga K "Round") "total"
  n_Round_inverse : NoAttr K (ga K "Round") "inverse"
  c_Ranked : mg "Ranked" = some (.ref (ga K "Ranked"))
  k_Ranked : Cls K (ga K "Ranked")
  n_Ranked_step : NoAttr K (ga K "Ranked") "step"
  n_Ranked_rows : NoAttr K (ga K "Ranked") "rows"
  n_Ranked_firsts : NoAttr K (ga K "Ranked") "firsts"
  c_Lot : mg "Lot" = some (.ref (ga K "Lot"))
  k_Lot : Cls K (ga K "Lot")
  n_Lot_period : NoAttr K (ga K "Lot") "period"
  n_Lot_runs : NoAttr K (ga K "Lot") "runs"
  n_Lot_size : NoAttr K (ga K "Lot") "size"
  n_Lot_own_begins : NoAttr K (ga K "Lot") "own_begins"
  c_Paper : mg "Paper" = some (.ref (ga K "Paper"))
  k_Paper : Cls K (ga K "Paper")
  n_Paper_own_parts : NoAttr K (ga K "Paper") "own_parts"
  c_Join : mg "Join" = some (.ref (ga K "Join"))
  k_Join : Cls K (ga K "Join")
  n_Join_own_parts : NoAttr K (ga K "Join") "own_parts"
  n_Join_tables : NoAttr K (ga K "Join") "tables"
  c_Sure : mg "Sure" = some (.ref (ga K "Sure"))
  k_Sure : Cls K (ga K "Sure")
  n_Sure_own_parts : NoAttr K (ga K "Sure") "own_parts"
  n_Sure_tables : NoAttr K (ga K "Sure") "tables"
  c_Unsure : mg "Unsure" = some (.ref (ga K "Unsure"))
  k_Unsure : Cls K (ga K "Unsure")
  n_Unsure_own_parts : NoAttr K (ga K "Unsure") "own_parts"
  n_Unsure_low : NoAttr K (ga K "Unsure") "low"
  n_Unsure_high : NoAttr K (ga K "Unsure") "high"
  n_Unsure_marks : NoAttr K (ga K "Unsure") "marks"
  n_Unsure_low_off : NoAttr K (ga K "Unsure") "low_off"
  n_Unsure_high_off : NoAttr K (ga K "Unsure") "high_off"
  c_Wheel : mg "Wheel" = some (.ref (ga K "Wheel"))
  k_Wheel : Cls K (ga K "Wheel")
  n_Wheel_period : NoAttr K (ga K "Wheel") "period"
  n_Wheel_back : NoAttr K (ga K "Wheel") "back"
  n_Wheel_ahead : NoAttr K (ga K "Wheel") "ahead"
  c_Even : mg "Even" = some (.ref (ga K "Even"))
  k_Even : Cls K (ga K "Even")
  n_Even_period : NoAttr K (ga K "Even") "period"
  n_Even_back : NoAttr K (ga K "Even") "back"
  n_Even_ahead : NoAttr K (ga K "Even") "ahead"
  c_Exact : mg "Exact" = some (.ref (ga K "Exact"))
  k_Exact : Cls K (ga K "Exact")
  n_Exact_period : NoAttr K (ga K "Exact") "period"
  n_Exact_back : NoAttr K (ga K "Exact") "back"
  n_Exact_ahead : NoAttr K (ga K "Exact") "ahead"
  c_Lagging : mg "Lagging" = some (.ref (ga K "Lagging"))
  k_Lagging : Cls K (ga K "Lagging")
  n_Lagging_period : NoAttr K (ga K "Lagging") "period"
  n_Lagging_back : NoAttr K (ga K "Lagging") "back"
  n_Lagging_ahead : NoAttr K (ga K "Lagging") "ahead"
  c_Grid : mg "Grid" = some (.ref (ga K "Grid"))
  k_Grid : Cls K (ga K "Grid")
  n_Grid_period : NoAttr K (ga K "Grid") "period"
  n_Grid_back : NoAttr K (ga K "Grid") "back"
  n_Grid_ahead : NoAttr K (ga K "Grid") "ahead"
  c_Meter : mg "Meter" = some (.ref (ga K "Meter"))
  k_Meter : Cls K (ga K "Meter")
  n_Meter_wheels : NoAttr K (ga K "Meter") "wheels"
  n_Meter_off : NoAttr K (ga K "Meter") "off"
  n_Meter_more : NoAttr K (ga K "Meter") "more"
  n_Meter_lost : NoAttr K (ga K "Meter") "lost"
  Round___init__ : FunD K "__init__" "Round.__init__" (defArgs s_Round___init__) (defBody s_Round___init__) (defScope s_Round___init__) [] [] (ma K (ga K "Round") "__init__") (fdA K (ma K (ga K "Round") "__init__"))
  Round_place : FunD K "place" "Round.place" (defArgs s_Round_place) (defBody s_Round_place) (defScope s_Round_place) [] [] (ma K (ga K "Round") "place") (fdA K (ma K (ga K "Round") "place"))
  Ranked___init__ : FunD K "__init__" "Ranked.__init__" (defArgs s_Ranked___init__) (defBody s_Ranked___init__) (defScope s_Ranked___init__) [] [] (ma K (ga K "Ranked") "__init__") (fdA K (ma K (ga K "Ranked") "__init__"))
  Ranked_hit : FunD K "hit" "Ranked.hit" (defArgs s_Ranked_hit) (defBody s_Ranked_hit) (defScope s_Ranked_hit) [] [] (ma K (ga K "Ranked") "hit") (fdA K (ma K (ga K "Ranked") "hit"))
  Lot___init__ : FunD K "__init__" "Lot.__init__" (defArgs s_Lot___init__) (defBody s_Lot___init__) (defScope s_Lot___init__) [] [] (ma K (ga K "Lot") "__init__") (fdA K (ma K (ga K "Lot") "__init__"))
  Lot_at_least : FunD K "at_least" "Lot.at_least" (defArgs s_Lot_at_least) (defBody s_Lot_at_least) (defScope s_Lot_at_least) [] [] (ma K (ga K "Lot") "at_least") (fdA K (ma K (ga K "Lot") "at_least"))
  Paper___init__ : FunD K "__init__" "Paper.__init__" (defArgs s_Paper___init__) (defBody s_Paper___init__) (defScope s_Paper___init__) [] [] (ma K (ga K "Paper") "__init__") (fdA K (ma K (ga K "Paper") "__init__"))
  Paper___bool__ : FunD K "__bool__" "Paper.__bool__" (defArgs s_Paper___bool__) (defBody s_Paper___bool__) (defScope s_Paper___bool__) [] [] (ma K (ga K "Paper") "__bool__") (fdA K (ma K (ga K "Paper") "__bool__"))
  Wheel___init__ : FunD K "__init__" "Wheel.__init__" (defArgs s_Wheel___init__) (defBody s_Wheel___init__) (defScope s_Wheel___init__) [] [] (ma K (ga K "Wheel") "__init__") (fdA K (ma K (ga K "Wheel") "__init__"))
  Wheel_does_part : FunD K "does_part" "Wheel.does_part" (defArgs s_Wheel_does_part) (defBody s_Wheel_does_part) (defScope s_Wheel_does_part) [] [] (ma K (ga K "Wheel") "does_part") (fdA K (ma K (ga K "Wheel") "does_part"))
  Wheel___call__ : FunD K "__call__" "Wheel.__call__" (defArgs s_Wheel___call__) (defBody s_Wheel___call__) (defScope s_Wheel___call__) [] [] (ma K (ga K "Wheel") "__call__") (fdA K (ma K (ga K "Wheel") "__call__"))
  Meter___init__ : FunD K "__init__" "Meter.__init__" (defArgs s_Meter___init__) (defBody s_Meter___init__) (defScope s_Meter___init__) [] [("off", .int 0), ("more", .int 0), ("lost", .int 0)] (ma K (ga K "Meter") "__init__") (fdA K (ma K (ga K "Meter") "__init__"))
  Meter_parting : FunD K "parting" "Meter.parting" (defArgs s_Meter_parting) (defBody s_Meter_parting) (defScope s_Meter_parting) [] [] (ma K (ga K "Meter") "parting") (fdA K (ma K (ga K "Meter") "parting"))
  Meter_is_blind : FunD K "is_blind" "Meter.is_blind" (defArgs s_Meter_is_blind) (defBody s_Meter_is_blind) (defScope s_Meter_is_blind) [] [] (ma K (ga K "Meter") "is_blind") (fdA K (ma K (ga K "Meter") "is_blind"))
  Meter_choices : FunD K "choices" "Meter.choices" (defArgs s_Meter_choices) (defBody s_Meter_choices) (defScope s_Meter_choices) [] [] (ma K (ga K "Meter") "choices") (fdA K (ma K (ga K "Meter") "choices"))
  Meter___iter__ : FunD K "__iter__" "Meter.__iter__" (defArgs s_Meter___iter__) (defBody s_Meter___iter__) (defScope s_Meter___iter__) [] [] (ma K (ga K "Meter") "__iter__") (fdA K (ma K (ga K "Meter") "__iter__"))
  Meter___getitem__ : FunD K "__getitem__" "Meter.__getitem__" (defArgs s_Meter___getitem__) (defBody s_Meter___getitem__) (defScope s_Meter___getitem__) [] [] (ma K (ga K "Meter") "__getitem__") (fdA K (ma K (ga K "Meter") "__getitem__"))
  mk_Round : Mk K (ga K "Round") (ma K (ga K "Round") "__init__")
  mk_Ranked : Mk K (ga K "Ranked") (ma K (ga K "Ranked") "__init__")
  mk_Lot : Mk K (ga K "Lot") (ma K (ga K "Lot") "__init__")
  mk_Wheel : Mk K (ga K "Wheel") (ma K (ga K "Wheel") "__init__")
  mk_Meter : Mk K (ga K "Meter") (ma K (ga K "Meter") "__init__")
  m_Round_place : Meth K (ga K "Round") "place" (ma K (ga K "Round") "place")
  m_Ranked_hit : Meth K (ga K "Ranked") "hit" (ma K (ga K "Ranked") "hit")
  m_Lot_at_least : Meth K (ga K "Lot") "at_least" (ma K (ga K "Lot") "at_least")
  m_Meter_parting : Meth K (ga K "Meter") "parting" (ma K (ga K "Meter") "parting")
  m_Meter_is_blind : Meth K (ga K "Meter") "is_blind" (ma K (ga K "Meter") "is_blind")
  m_Meter_choices : Meth K (ga K "Meter") "choices" (ma K (ga K "Meter") "choices")
end K32

/-! own __getitem__, __bool__; enumerate of a tuple -/
namespace K32
open PySem PySem.Spec PyProof.Rows L2
section
variable {X : Cx} {pins : List (Addr × Obj)} {σ : L2.St} {H : Hp} {s : Shared}
theorem run_fnA {A' : Around} {k : Nat} {g : Addr} {sp : Sp} {E : XK} {Q : VK} {us : List Value} {vs : List V} (F : FnR X.prog X.w X.K X.mg X.base CX0 k g sp) (hr : Room k A') (e0 : Env0 X.prog X.w X.K X.mg X.base A' X.stack s H) (hx : Passes CX0 X E) (I : Inv X pins σ H s) (r : Vals vs us) (h : sp vs H Q E) :
    codeAny (model X.prog X.w) A' (.call (.ref g) ⟨us, []⟩) (fun r s' => match r with | .ok (.ret v) => EP X pins σ Q v s' | .ok _ => False | .error e => X.xe e s') s := by
  refine codeAny_mono (F A' X.stack s H us vs Q E hr e0 r h) fun r s' hq => ?_
  cases r with
  | error e => exact hx pins σ H s e s' I hq
  | ok fl =>
    cases fl with
    | ret u => exact I.after hq
    | next => exact False.elim hq
    | brk => exact False.elim hq
    | cont => exact False.elim hq
end
/-- C(x): the type's __new__ walked in this program -/
theorem callType_newIn {prog : Program} {w : World} {A : Around} {E : Value → Shared → Prop} {s : Shared} {T newId : String} {Bn : Builtin} {args : List Value} {Q : Value → Shared → Prop} (ft : TypeCalled T newId "object.__init__")
    (hne : (some newId != some "object.__new__") = true) (hct : checkTypeCall T ⟨args, []⟩ = pure ()) (hcn : checkBuiltinCall newId ⟨.type T :: args, []⟩ = pure ())
    (hok : ∀ obj, argsOk "object.__init__" ⟨obj :: args, []⟩) (entryN : entryFor table newId = some Bn)
    (h : wpAny (model prog w) A.in1.in1 (Bn ⟨.type T :: args, []⟩) (fun fin s' => ∃ v, fin = .done (.ret v) ∧ s'.TypeIs v T ∧ Q v s') E s) : wpAny (model prog w) A (call (.type T) args) Q E s := by
  refine callType_codes (Q₁ := fun v s' => s'.TypeIs v T ∧ Q v s') ft hct F.entry_object_init (codeAny_call_builtin ft.plain entryN (wpAny_of_eq hcn (wpAny_mono h (fun fin s' hq => ?_) fun e s' he => he))) fun obj s1 hq => ⟨hq.1, hok obj, ?_⟩
  · obtain ⟨v, rfl, hq⟩ := hq
    exact hq
  · exact object_init_meets ft.init.lookup ft.made hne prog w A.in1 _ s1 ⟨hq.1, rfl, hq.2⟩
/-- an own __bool__ -/
structure OwnB (K : PySem.W.Frag) (C f : Addr) : Prop where
  at_ : PySem.W.findIn K (.ref C) "__bool__" = some (some (.ref f))
  fn : PySem.W.isFn K (.ref f) = true
def rBoolO (K : PySem.W.Frag) (f : Addr) (sp : Sp) : List V → Hp → VK → Prop := fun xs H Q => ∃ a C dx fs, xs = [.ref a] ∧ H a = some (.ins C dx fs) ∧ OwnB K C f ∧ sp [.ref a] H (fun v H' => ∃ b, v = .bl b ∧ Q (.bl b) H') E0
section
variable {X : Cx} {k : Nat} {f : Addr} {sp : Sp}
theorem clBoolO (K : PySem.W.Frag) (hK : X.K = K) (Fn : FnR X.prog X.w X.K X.mg X.base CX0 k f sp) (hr : Room (k + 2) X.A) : CallR X (.type "bool") (rBoolO K f sp) := by
  subst hK
  intro pins s σ H xs us Q I r h
  obtain ⟨a, C, dx, fs, rfl, ha, ob, q⟩ := h
  obtain rfl := Vals.ref1 r
  obtain ⟨mA, O, _⟩ := ins_get I.hok ha
  obtain ⟨od, J, _⟩ := O.look
  obtain ⟨m, fr⟩ := I.fr
  refine callType_newIn F.called_bool F.newNe_bool (F.typeCall_bool_1 _) (F.newCall_bool_1 _) (fun obj => F.args_object_init_2 obj _) F.entry_bool_new ?_
  have ht : wpAny (model X.prog X.w) X.A.in1.in1 (truthy (.ref a)) (fun b s' => ∃ H', Inv X pins σ H' s' ∧ Q (.bl b) H') X.xe s := by
    refine PySem.W.truthy_K fr I.mod.kin J ob.at_ ob.fn (wpAny_call (codeAny_mono (run_fnA Fn hr.in1.in1 I.env0.in1.in1 pass0 I (.cons (a := V.ref a) rfl .nil) q) fun r s' hq => ?_))
    cases r with
    | error e => exact hq
    | ok fl =>
      cases fl with
      | ret u =>
        obtain ⟨v, H', I', rv, b, rfl, q'⟩ := hq
        obtain rfl : u = Value.bool b := rv
        exact ⟨H', I', q'⟩
      | next => exact False.elim hq
      | brk => exact False.elim hq
      | cont => exact False.elim hq
  have f1 := F.conv_sub_bool
  unfold Builtin.«bool.__new__»
  obtain ⟨hp, g, d, tk, os⟩ := s
  repeat (any_goals (first | assumption | (with_reducible refine wpAny_bind (wpAny_mono ht (fun b s' hq => ?_) fun _ _ z => z)) | wp_step))
  all_goals (obtain ⟨H', I', q'⟩ := hq; exact ⟨_, rfl, rfl, .bl b, H', I', rfl, q'⟩)
end
/-- an own __getitem__ -/
structure OwnG (K : PySem.W.Frag) (C f : Addr) : Prop where
  at_ : PySem.W.findIn K (.ref C) "__getitem__" = some (some (.ref f))
  fn : PySem.W.isFn K (.ref f) = true
  fi : PySem.W.fnIn K f = true
def rOwnIx (K : PySem.W.Frag) (f : Addr) (sp : Sp) : R2 := fun x y H Q => ∃ a C dx fs, x = .ref a ∧ H a = some (.ins C dx fs) ∧ OwnG K C f ∧ sp [x, y] H Q E0
section
variable {X : Cx} {k : Nat} {f : Addr} {sp : Sp}
def tOwnIx (K : PySem.W.Frag) (f : Addr) (sp : Sp) (ta tb : TE) : TE := fun σ H Q => ta σ H fun x H1 => tb σ H1 fun y H2 => rOwnIx K f sp x y H2 Q
theorem pe_ixO (K : PySem.W.Frag) (hK : X.K = K) {value slice : Expr} {pos : Pos} {ta tb : TE} (Fn : FnR X.prog X.w X.K X.mg X.base CX0 k f sp) (hr : Room (k + 1) X.A) (ha : PE X value ta) (hb : PE X slice tb)
    (hsl : ∀ v u, subscripted slice true v u = runValue (.builtin "lifetime.subscript" ⟨[v, u], []⟩)) : PE X (.Subscript value slice pos) (tOwnIx K f sp ta tb) := by
  subst hK
  refine ⟨fun pins s σ H Q I h => ?_⟩
  refine Subscript_ (thn (ha.run pins s σ H _ I h) fun v s1 ⟨x, H1, I1, rx, q1⟩ => thn (hb.run pins s1 σ H1 _ I1 q1) fun u s2 ⟨y, H2, I2, ry, q2⟩ => ?_)
  obtain ⟨a, C, dx, fs, rfl, ha, og, q⟩ := q2
  obtain rfl : v = Value.ref a := rx
  obtain ⟨mA, O, _⟩ := ins_get I2.hok ha
  obtain ⟨od, J, _⟩ := O.look
  obtain ⟨m, fr⟩ := I2.fr
  refine PySem.W.sub_K fr I2.mod.kin J og.at_ og.fi og.fn (wpAny_call (codeAny_mono (run_fnA Fn hr.in1 I2.env0.in1 pass0 I2 (.cons (a := V.ref a) rfl (.cons ry .nil)) q) fun r s' hq => ?_)) (hsl _ _)
  cases r with
  | error e => exact hq
  | ok fl =>
    cases fl with
    | ret u => exact hq
    | next => exact False.elim hq
    | brk => exact False.elim hq
    | cont => exact False.elim hq
end
end K32

/-! methods that say super().__init__(..) -/
namespace K32
open PySem PySem.Spec PyProof.Rows L2
/-- such a def as it stands behind the top: c its code, cc the cell of its class D -/
structure SupD (K : PySem.W.Frag) (pf : Str) (x qual : Str) (st : Stmt) (f c cc D : Addr) (fd : FuncData) : Prop where
  ex : ∃ (oc kV doc pm : Value) (od : Option Addr) (an : Option Addr) (ct : Value) (osl : Array (Option Value)), fd = PySem.W.fnX x qual (defArgs st) (defBody st) (defScope st) [("__class__", cc)] .none kV doc pm an (.ref c) ct ∧ K.lookup f = some ⟨oc, od, .func fd, osl⟩
  code : PySem.W.codeIn K (.ref c) qual = true
  flds : ∃ (ccl : Value) (cdd : Option Addr) (vs : Array Value) (ccs : Array (Option Value)) (file : Str) (tf : Tok), K.lookup c = some ⟨ccl, cdd, .fields vs, ccs⟩ ∧ vs[2]? = some (.str file tf) ∧ (pf == file) = true
  cell : ∃ (cl : Value) (cld : Option Addr) (csl : Array (Option Value)), K.lookup cc = some ⟨cl, cld, .cell (some (.ref D)), csl⟩
/-- of C's instances super() in D gives f2 as __init__ -/
structure SupOf (K : PySem.W.Frag) (C D f2 : Addr) : Prop where
  m : PySem.W.ks_superIn K C D "__init__" = some (some (.ref f2))
  sub : PySem.W.mroIn K C (.ref D) = some true
  isC : ∃ cd, PySem.W.clsIn K C = some cd
  isD : ∃ cd, PySem.W.clsIn K D = some cd
  ty : PySem.W.typeIn K (.ref f2) = some (.type "function")
  fi : PySem.W.fnIn K f2 = true
  ho : PySem.W.nsIn K cStatics "thirdparty.any" = some none
/-- statements of the body B, at the code of B -/
structure AtS (X : Cx) (B : List Stmt) (st : List Stmt) (t : TS) : Prop where
  run : ∀ (pins : List (Addr × Obj)) (s : Shared) (σ : L2.St) (H : Hp) (D : Ends), Inv X pins σ H s → t D σ H → _root_.PySem.wpAt (model X.prog X.w) X.A (.func B X.env) (execs st X.env) (SP X pins D) X.xe s
section
variable {X : Cx} {B rest : List Stmt} {st : Stmt} {t u : TS}
theorem atS_of (h : PSs X rest t) : AtS X B rest t := ⟨fun pins s σ H D I q => wpAt_of_wpAny (h.run pins s σ H D I q)⟩
theorem at_cons (h1 : PS X st t) (h2 : AtS X B rest u) : AtS X B (st :: rest) (tSeq t u) := by
  refine ⟨fun pins s σ H D I h => ?_⟩
  refine ks_wpAt_execs_cons (wpAt_of_wpAny (thn (h1.run pins s σ H { D with nx := u D } I h) fun f s1 q => ?_))
  cases f with
  | next =>
    obtain ⟨σ', H', I', q⟩ := q
    exact h2.run pins s1 σ' H' D I' q
  | ret v => exact q
  | brk => exact q
  | cont => exact q
/-- super().__init__(..), the first parameter at 0 -/
def tSup (K : PySem.W.Frag) (D f2 : Addr) (sp2 : Sp) (t : TA) : TS := fun Dn σ H => ∃ x C dx fs, σ[0]? = some (some (.ref x)) ∧ H x = some (.ins C dx fs) ∧ SupOf K C D f2 ∧ t σ H fun vs H1 => sp2 (.ref x :: vs) H1 (fun _ H2 => Dn.nx σ H2) E0
theorem at_super {e : Expr} {es : List Expr} {ta : TA} {p0 p1 apos cpos pos : Pos} {x qual : Str} {s0 : Stmt} {f c cc D f2 : Addr} {fd : FuncData} {k : Nat} {sp2 : Sp} {slf : Str} (F : SupD X.K X.prog.main.file x qual s0 f c cc D fd)
    (hfu : X.env.func = some f) (hco : X.env.code = .ref c) (hcl : X.env.cells.lookup ("__class__" : Str) = some cc) (hks : X.env.kindOf "super" = some .globalImplicit) (hkc : X.env.kindOf "__class__" = some .free)
    (hm : X.mg "super" = none) (htop : (X.prog.main.scope.names.lookup ("super" : Str)).isSome = false) (hp : ∃ ar : Arg, ((defArgs s0).posonlyargs ++ (defArgs s0).args).head? = some ar ∧ ar.arg = slf) (hN : X.N[0]? = some slf) (hv : X.env.kindOf slf = some .local)
    (F2 : FnR X.prog X.w X.K X.mg X.base CX0 k f2 sp2) (hr : Room k X.A) (ha : PA X (e :: es) ta)
    (h2 : AtS X B rest u)
    (hst : starEach (e :: es) X.env = (false, eval e X.env) :: starEach es X.env := by rfl) (hpl : (backTo cpos (starEach es X.env)).any (·.1) = false := by rfl)
    (hi : interactive X.env = false := by rfl) (hs : swapsWith (.Call (.Attribute (.Call (.Name "super" p0) [] [] p1) "__init__" apos) (e :: es) [] cpos) none pos.line X.env = pure false := by rfl)
    (hd : (slf == ("__debug__" : Str)) = false := by decide) (pl : Sem Bool := pure false)
    (he : eval (.Call (.Attribute (.Call (.Name "super" p0) [] [] p1) "__init__" apos) (e :: es) [] cpos) X.env = (do
      let ov ← attributeBase (.Call (.Name "super" p0) [] [] p1) "__init__" X.env (eval (.Call (.Name "super" p0) [] [] p1) X.env)
      standAt apos.atName
      let (f, first) ← holding [ov] (getMethod ov "__init__" pl)
      callWith cpos f first (backTo cpos (starEach (e :: es) X.env)) []) := by rfl) :
    AtS X B (.Expr (.Call (.Attribute (.Call (.Name "super" p0) [] [] p1) "__init__" apos) (e :: es) [] cpos) pos :: rest) (tSeq (tSup X.K D f2 sp2 ta) u) := by
  obtain ⟨ar, hp, rfl⟩ := hp
  obtain ⟨oc, kV, doc, pm, od, an, ct, osl, rfl, lk⟩ := F.ex
  obtain ⟨ccl, cdd, vs, ccs, file, tf, lkc, hvs, hfile⟩ := F.flds
  obtain ⟨cl, cld, csl, lkcc⟩ := F.cell
  refine ⟨fun pins s σ H Dn I h => ?_⟩
  obtain ⟨x, C, dx, fs, hx, hxi, so, q⟩ := h
  have KX := I.kIn
  refine ks_wpAt_execs_cons (ks_wpAt_Expr_any (ks_wpAt_MethodCall (pl := pl) ?_ he) hi hs)
  refine ks_wpAt_super_base hks hkc rfl hfu (KX _ _ lk) rfl hp hco (KX _ _ lkc) rfl hvs hfile htop ?_
  obtain ⟨mb, hb1, hb2⟩ := I.mod.blt
  refine PySem.W.ks_loadName_global I.ok.kind hks (Calls.loadGlobal_builtin (by rw [I.ok.glob]; exact I.mod.glob.keeps I.bk) hm (by rw [I.ok.blt]; exact hb1.keeps I.bk) ((hb2 "super" (by decide)).trans (by decide +kernel)) ⟨rfl, ?_⟩)
  refine wpAny_loadName_free I.ok.kind hkc hcl ⟨_, KX _ _ lkcc, rfl⟩ ?_
  obtain ⟨m, hn, hl⟩ := I.loc
  obtain ⟨us, rs, ls⟩ := hl 0 _ _ hN hx (.inl hv)
  obtain rfl : us = Value.ref x := rs
  have hlm : m ar.arg = some (.ref x) := by
    rcases ls with ⟨_, e⟩ | ⟨z, _⟩
    · exact e
    · rw [hv] at z
      rcases z with z | z <;> cases z
  refine wpAny_loadName_local I.ok.kind hv hn hlm ?_
  obtain ⟨cdD, hcD⟩ := so.isD
  obtain ⟨cdC, hcC⟩ := so.isC
  obtain ⟨oD, hD1, hD2⟩ : ∃ oD, s.heap.get? D = some oD ∧ oD.data = .cls cdD := by
    unfold PySem.W.clsIn at hcD
    split at hcD
    · rename_i c d cd' sl ho
      cases hcD
      exact ⟨_, KX _ _ ho, rfl⟩
    · cases hcD
  obtain ⟨mA, O, _⟩ := ins_get I.hok hxi
  obtain ⟨odx, J, _⟩ := O.look
  refine ks_wpAny_isType_cls hD1 hD2 ⟨rfl, ?_⟩
  refine ks_wpAny_call_super hD1 hD2 J.at_ J.cls (fun c e => ?_) (PySem.W.looks_mroIn KX so.sub) (fun h' e kp => ?_)
  · have := J.no
    unfold PySem.W.notCls at this
    rw [e] at this
    exact Bool.noConfusion this
  have I1 := ClX.pin_new (t' := s.toks) I kp (Nat.le_refl _) e (fun v z => nomatch z)
  have J1 := J
  obtain ⟨of, hof, hofc⟩ : ∃ of, h'.get? f2 = some of ∧ of.cls = .type "function" := by
    have ht' : (X.K.lookup f2).map (·.cls) = some (.type "function") := so.ty
    cases z : X.K.lookup f2 with
    | none => rw [z] at ht'; cases ht'
    | some of => rw [z] at ht'; exact ⟨of, I1.kIn _ _ z, Option.some.inj ht'⟩
  have hm2 := so.m
  unfold PySem.W.ks_superIn at hm2
  rw [hcC] at hm2
  refine ks_wpAny_getMethod_super e (PySem.W.looks_opaque I1.kIn so.ho) (l₀ := cdC.mro) ?_ rfl I1.kIn hm2 hof hofc (PySem.W.ks_ne KX J hcC) rfl ?_
  · exact fun A Q E s k q => wpAny_bind ((PySem.W.looks_clsIn I1.kIn hcC) A _ E s k (wpAny_pure q))
  have I2 := ClX.pin_new (t' := s.toks + 1) I1 (fun _ _ z => Heap.get?_push_of_some _ z) (Nat.le_refl _) (Heap.get?_push_size h' (o := PySem.W.methodObj (.ref f2) (.ref x)) rfl) (fun v z => nomatch z)
  refine ClX.callwith_cm I2 (ClX.base_none I1 (Nat.le_refl _)) so.fi (thn (ha.run cpos _ _ σ H _ I2 q) fun us s3 ⟨vs, H2, I3, rv, q2⟩ => ⟨⟨ClX.pin_at I3, I3.kIn⟩, ?_⟩) hst hpl
  refine thn (ClX.run_cm F2 hr pass0 I3 rv q2) fun v s4 q4 => ?_
  obtain ⟨v', H3, I4, _, q5⟩ := ClX.unpinE q4
  exact h2.run pins s4 σ H3 Dn I4 q5
end
section
variable {P : Program} {w : World} {K : PySem.W.Frag} {mg : Str → Option Value} {base : Heap}
def nfOf (qual : Str) (st : Stmt) (c cc : Addr) : NdefX.NF := ⟨qual, qual, defArgs st, defBody st, defScope st, [("__class__", cc)], c⟩
/-- THE RULE for such a def -/
theorem fnSup {x qual : Str} {st : Stmt} {f c cc D : Addr} {fd : FuncData} {N ps : List Str} {k : Nat} {sp : Sp} (F : SupD K P.main.file x qual st f c cc D fd) (S : NdefX.NScope N ps ["__class__"] (defScope st))
    (hloc : ∀ y ∈ ps, (defScope st).names.lookup y = some .local) (len : ∀ vs H Q E, sp vs H Q E → vs.length = ps.length)
    (hbody : ∀ (A : Around) (outer : List Env) (s : Shared) (H : Hp) (vs : List V) (Q : VK) (E : XK), Room k (A.deeper (NdefX.envF (nfOf qual st c cc) f s.heap.objs.size)) → sp vs H Q E →
      ∃ t, AtS (NdefX.ncx CX0 P w K mg base N (nfOf qual st c cc) f A outer s H E).nox (defBody st) (defBody st) t ∧ t { nx := fun _ H' => Q .non H', rt := Q } (NdefX.startF N vs [none]) H) : FnOk P w K mg base CX0 (k + 1) f fd ps sp := by
  obtain ⟨oc, kV, doc, pm, od, an, ct, osl, rfl, lk⟩ := F.ex
  obtain ⟨cl, cld, csl, lkcc⟩ := F.cell
  refine ⟨len, fun A outer s H args us vs Q E hr e0 hb r hsp => ?_⟩
  have hl := len _ _ _ _ hsp
  have KX : K.In s.heap := e0.mod.kin.keeps fun b o e => (e0.bs b o e).1
  have lim : s.heap.NoLimit := e0.mod.nolimit.keeps fun b o e => (e0.bs b o e).1
  refine ks_codeAny_call_defAt hr.depth (KX _ _ lk) rfl lim (PySem.W.codeRec_of KX F.code) rfl hb S.nocell (fun y hy => hloc y.1 (List.of_mem_zip hy).1) (fun h₁ hns kp => ?_) S.co S.gen S.kind
  obtain ⟨t, ht, hq⟩ := hbody A outer s H vs Q E (hr.deeper _) hsp
  have C : NdefX.CellsAt (nfOf qual st c cc).cl ["__class__"] [none] s.heap H := by
    have one : ∀ y c', (nfOf qual st c cc).cl.lookup y = some c' → y = "__class__" ∧ c' = cc := fun y c' e => by
      have e : (if y == "__class__" then some cc else none) = some c' := by
        have e' : List.lookup y [(("__class__" : Str), cc)] = some c' := e
        rw [List.lookup_cons] at e'
        cases hy : (y == "__class__") with
        | true => rw [hy] at e'; exact e'
        | false => rw [hy] at e'; cases e'
      cases hy : (y == "__class__") with
      | true =>
        rw [hy] at e
        exact ⟨beq_iff_eq.mp hy, (Option.some.inj e).symm⟩
      | false =>
        rw [hy] at e
        cases e
    refine ⟨rfl, fun y c' e => ?_, fun a b c' e1 e2 => (one _ _ e1).1.trans (one _ _ e2).1.symm, fun i y hi => ?_⟩
    · obtain ⟨_, rfl⟩ := one _ _ e
      refine ⟨?_, _, _, KX _ _ lkcc, rfl⟩
      cases z : base.get? c' with
      | none => exact absurd (e0.mod.kin _ _ lkcc) (by rw [z]; exact fun y => nomatch y)
      | some o => exact (e0.bs c' o z).2
    · match i, hi with
      | 0, hi =>
        obtain rfl := Option.some.inj hi
        exact ⟨cc, rfl, fun v z => by cases z⟩
      | i + 1, hi => simp at hi
  have I := NdefX.inv_startN (CX := CX0) (P := P) (w := w) (f := f) (N := N) (E := E) (tk := s.toks + (ps.zip us).length) S hr.hd e0 hl r C hns kp
  have kn : ∀ {σ' : L2.St} {H' : Hp} {s' : Shared}, Inv (NdefX.ncx CX0 P w K mg base N (nfOf qual st c cc) f A outer s H E).nox [] σ' H' s' → Inv (NdefX.ncx CX0 P w K mg base N (nfOf qual st c cc) f A outer s H E) [] σ' H' s' := fun J => J.wish _
  have fin : ∀ {σ' : L2.St} {H' : Hp} {v : V} {u : Value} {s' : Shared}, Inv (NdefX.ncx CX0 P w K mg base N (nfOf qual st c cc) f A outer s H E) [] σ' H' s' → L2.RelV v u → Q v H' → CE outer P w H s Q u s' :=
    fun {σ' H' v u s'} J rv q => ⟨v, H', J.os, J.bare, J.base, J.hok, rv, q⟩
  refine PySem.wpAt_mono (ht.run [] _ (NdefX.startF N vs [none]) H _ (I.wish _) hq) (fun fl s' hs => ?_) fun e s' hs => False.elim hs
  cases fl with
  | ret u =>
    obtain ⟨v, σ', H', J, rv, q⟩ := hs
    exact fin (kn J) rv q
  | next =>
    obtain ⟨σ', H', J, q⟩ := hs
    exact fin (v := V.non) (u := Value.none) (kn J) rfl q
  | brk =>
    obtain ⟨_, _, _, q⟩ := hs
    exact False.elim q
  | cont =>
    obtain ⟨_, _, _, q⟩ := hs
    exact False.elim q
end
end K32

/-! enumerate of a tuple; of an instance whose __iter__ gives a tuple's iterator -/
namespace K32
open PySem PySem.Spec PyProof.Rows L2
/-- the tuple at a, each item in a new pair -/
def ItE (K : PySem.W.Frag) (a : Addr) : It :=
  ⟨fun i H => ∃ (xs : List V) (x : V), SqT K H a xs ∧ xs[i]? = some x, fun i H v H' => ∃ T x, v = .ref T ∧ H T = none ∧ H' = upd H T (.tup [.int (i : Nat), x]) ∧ ∀ xs, SqT K H a xs → xs[i]? = some x, fun i H => ∃ xs : List V, SqT K H a xs ∧ xs.length ≤ i⟩
theorem tup_inj {X : Cx} {pins : List (Addr × Obj)} {σ : L2.St} {H : Hp} {s : Shared} {a : Addr} {xs ys : List V} (I : Inv X pins σ H s) (h : SqT X.K H a xs) (h' : SqT X.K H a ys) : ys = xs := by
  obtain ⟨its, r, p, _⟩ := I.tuple h
  obtain ⟨its', r', p', _⟩ := I.tuple h'
  obtain ⟨o, ho, hc, n, hd⟩ := p
  obtain ⟨o', ho', hc', n', hd'⟩ := p'
  rw [ho] at ho'
  cases ho'
  rw [hd] at hd'
  injection hd' with e1 e2
  have e3 : its = its' := by simpa using congrArg Array.toList e1
  subst e3
  exact Vals.inj r' r
theorem wpAny_pyNext_enum_tup_end {prog : Program} {w : World} {A : Around} {E : Value → Shared → Prop} {s : Shared} {e it t : Addr} {i : Nat} {j : Int} {items : Array Value} {old : Value} {Q : Option Value → Shared → Prop} (hh : A.handled = none)
    (he : IsEnum s.heap e it j old) (hit : s.heap.IsTupleIter it t i) (ht : s.heap.IsTuple t items) (hx : items[i]? = none)
    (hQ : ∀ h', Heap.ExtBut it s.heap h' → Q none { s with heap := h' }) : wpAny (model prog w) A (pyNext (.ref e)) Q E s := by
  have hT : s.TypeIs (.ref e) "enumerate" := ⟨_, he, rfl⟩
  unfold pyNext
  refine wpAny_bind (wpAny_attempt (wpAny_callSpecial?_slot (name := Str.ofString "__next__") hT F.slot_enumerate_next
    (wpAny_call_entry F.slot_enumerate_next hT F.entry_enumerate_next ?_ (F.args_enumerate_next_1 _))))
  show wpAny _ _ (field (.ref e) 2 >>= _) _ _ _
  refine wpAny_bind (wpAny_field he rfl (x := .ref it) rfl ?_)
  refine wpAny_bind (wpAny_nextOf_tuple_end (A := A.in1) hh hit ht hx fun h' x he' hx' => ?_)
  obtain ⟨o, ho, hc⟩ := hx'
  refine wpAny_bind (wpAny_isInstance (T := "StopIteration") (b := true) ⟨o, ho, hc⟩ isSubtype_stop ?_)
  exact wpAny_pure (hQ _ he')
theorem turn_enumT {P : Program} {w : World} {K : PySem.W.Frag} {elts : List Expr} {kk : Nat} {tpos : Pos} (a e it : Addr) :
    Turn P w K (.Tuple elts kk tpos) (ItE K a) [e, it] e (fun i h => (∃ old, IsEnum h e it ((i : Nat) : Int) old) ∧ h.IsTupleIter it a i ∧ e ≠ it) where
  mem := by simp
  obj := fun i h st b hb => by
    obtain ⟨⟨old, he⟩, ⟨o, ho, hc, hd⟩, _⟩ := st
    have e' : b = e ∨ b = it := by simpa using hb
    rcases e' with z | z
    · rw [z]; exact ⟨_, he, fun v q => nomatch q⟩
    · rw [z]; exact ⟨o, ho, fun v q => by rw [hd] at q; cases q⟩
  keep := fun i h h' st k => let ⟨⟨old, he⟩, hi, hne⟩ := st; ⟨⟨old, k e (by simp) _ he⟩, hi.at fun o q => k it (by simp) o q, hne⟩
  item := by
    intro X hP hw hK hc i pins s σ H E I hf st hg
    subst hP hw hK
    obtain ⟨⟨old, he⟩, hit, hne⟩ := st
    obtain ⟨xs, x, hq, hx⟩ := hg
    obtain ⟨its, rv, p, hz⟩ := I.tuple hq
    obtain ⟨u, hu, ru⟩ := rv.get hx
    have hel : e < s.heap.objs.size := Heap.lt_size he
    have hil : it < s.heap.objs.size := by obtain ⟨_, q, _⟩ := hit; exact Heap.lt_size q
    have pt : s.heap.IsTuple a its.toArray := p
    obtain ⟨ot, hot, hct, nt, hdt⟩ := p
    have hai : a ≠ it := fun z => by
      obtain ⟨oi, hoi, hci, hdi⟩ := hit
      rw [← z, hot] at hoi
      cases hoi
      rw [hdt] at hdi
      cases hdi
    have hea : e ≠ a := fun z => by
      have he2 : s.heap.get? a = _ := z ▸ he
      rw [hot] at he2
      have e3 := Option.some.inj he2
      rw [e3] at hct
      exact absurd (Value.type.inj hct) (by decide)
    have hl := rv.length
    have hlt : i < its.toArray.size := by
      rw [List.size_toArray]
      exact (List.getElem?_eq_some_iff.mp hu).1
    refine wpAny_pyNext_enum_itemD (D := Draws.tuple (A := X.A.in1) (I.ok.hd hc) it a hai its.toArray) he ⟨hit, pt⟩ hlt hne (by simp [hne, hea]) fun x' h' tk hx' ho hst hT hsz hk => ?_
    have ex : x' = u := by
      have e1 : its[i]? = some x' := by simpa using hx'
      rw [hu] at e1
      exact (Option.some.inj e1).symm
    subst ex
    refine ⟨_, rfl, wpAny_letOwnedTupleGo_enum (s := { s with heap := h', toks := tk + 1 }) ho fun h'' he' sb => ?_⟩
    have hT2 : h''.get? s.heap.objs.size = some { cls := .type "tuple", data := .seq #[.int i tk, x'] } := (sb.2 _ (Nat.ne_of_gt hel)).trans hT
    have new : ObjOk X.prog X.w (upd H s.heap.objs.size (.tup [.int (i : Nat), x])) h'' s.heap.objs.size (.tup [.int (i : Nat), x]) :=
      ⟨by show 2 ≤ sizeLine; decide, [.int i tk, x'], .cons ⟨_, rfl⟩ (.cons ru .nil), ⟨_, hT2, rfl, _, rfl⟩⟩
    have I1 : Inv X pins σ (upd H s.heap.objs.size (.tup [.int (i : Nat), x])) { s with heap := h'', toks := tk + 1 } :=
      I.turnedNew (ch := [e, it]) (fun b ob hb q => (sb.2 b (fun z => hb (by simp [z]))).trans (hk b ob (fun z => hb (by simp [z])) (fun z => hb (by simp [z])) q)) hf (Nat.le_refl _) new
    refine ⟨.ref s.heap.objs.size, _, I1, rfl, ⟨_, x, rfl, I.hok.fresh (Nat.le_refl _), rfl, fun ys hy => by rw [tup_inj I hq hy]; exact hx⟩, ⟨⟨x', ?_⟩, hst.1.at fun o q => (sb.2 it (Ne.symm hne)).trans q, hne⟩, fun b hb => ?_⟩
    · have e1 : ((i + 1 : Nat) : Int) = (i : Int) + 1 := by omega
      rw [e1]; exact he'
    · have hb' : b < s.heap.objs.size := by
        have e' : b = e ∨ b = it := by simpa using hb
        rcases e' with z | z
        · rw [z]; exact hel
        · rw [z]; exact hil
      rw [upd_ne (Nat.ne_of_lt hb')]
      exact (hf b hb).1
  done := by
    intro X hP hw hK hc i pins s σ H E I hf st hg
    subst hP hw hK
    obtain ⟨⟨old, he⟩, hit, hne⟩ := st
    obtain ⟨xs, hq, hx⟩ := hg
    obtain ⟨its, rv, p, hz⟩ := I.tuple hq
    have pt : s.heap.IsTuple a its.toArray := p
    obtain ⟨f0, f1, f2, f3, f4, f5⟩ := hf it (by simp)
    have hl := rv.length
    obtain ⟨oi, hoi, hci, hdi⟩ := hit
    exact wpAny_pyNext_enum_tup_end (I.ok.hd hc) he ⟨oi, hoi, hci, hdi⟩ pt (by simp; omega) fun h' eb => ⟨rfl, I.turned (t' := s.toks) (fun b o hb q => eb b o hb q) f0 f1 f3 f4 f5⟩
  self := fun A i s Q E st h => let ⟨⟨_, he⟩, _⟩ := st; wpAny_pyIter_enum he h
/-- enumerate(v): from what iter(v) does -/
theorem enum_new {prog : Program} {w : World} {A : Around} {E : Value → Shared → Prop} {s : Shared} {v : Value} {Q : Value → Shared → Prop}
    (h : wpAny (model prog w) A.in1.in1 (pyIter v) (fun itv s' => Q (.ref s'.heap.objs.size) { s' with heap := s'.heap.push { cls := .type "enumerate", data := .fields #[.none, .bool false, itv, rawInt 0, .none, .none] } }) E s) :
    wpAny (model prog w) A (call (.type "enumerate") [v]) Q E s := by
  refine callType_newIn F.called_enumerate (by decide) (F.typeCall_enumerate_1 _) (F.newCall_enumerate_1 _) (fun obj => F.args_object_init_2 obj _) F.entry_enumerate_new ?_
  have hsub := sub_enumerate
  obtain ⟨hp, g, d, tk, os⟩ := s
  have hh : ∀ {Q' : Value → Shared → Prop}, (∀ itv s', Q (Value.ref s'.heap.objs.size) { s' with heap := s'.heap.push { cls := .type "enumerate", data := .fields #[.none, .bool false, itv, rawInt 0, .none, .none] } } → Q' itv s') → wpAny (model prog w) A.in1.in1 (pyIter v) Q' E ⟨hp, g, d, tk, os⟩ := fun f => wpAny_mono h f fun _ _ z => z
  have fin : ∀ (itv : Value) (s' : Shared), Q (Value.ref s'.heap.objs.size) { s' with heap := s'.heap.push { cls := .type "enumerate", data := .fields #[.none, .bool false, itv, rawInt 0, .none, .none] } } → wpAny (model prog w) A.in1.in1 (do ret (← Builtin.SmallTypes.newRecord (.type "enumerate") (Builtin.SmallTypes.ownedTupleFields ++ [itv, rawInt 0, .none, .none]))) (fun fin s' => ∃ v, fin = .done (.ret v) ∧ s'.TypeIs v "enumerate" ∧ Q v s') E s' := fun itv s' q => by
    obtain ⟨hp', g', d', tk', os'⟩ := s'
    wp_walk
    exact ⟨_, rfl, ⟨_, Heap.get?_push_size _ rfl, rfl⟩, q⟩
  wp_walk
  refine wpAny_stack_any fun st => wpAny_pure ?_
  split
  · rename_i c _ _ _ _ _
    cases (c == Value.type "enumerate")
    · wp_walk using hh
      all_goals exact fun itv s' q => fin itv s' q
    · wp_walk using hh
      all_goals exact fun itv s' q => fin itv s' q
  · wp_walk using hh
    all_goals exact fun itv s' q => fin itv s' q
section
variable {X : Cx} {e : Expr} {ta : TA} {p pos tpos : Pos} {elts : List Expr} {kk : Nat}
def iEnumT (K : PySem.W.Frag) (ta : TA) : TI := fun σ H R => ta σ H fun vs H1 => ∃ a xs, vs = [.ref a] ∧ SqT K H1 a xs ∧ R (ItE K a) H1
theorem enum_lay {pins : List (Addr × Obj)} {σ : L2.St} {H H1 : Hp} {s1 s2 : Shared} {R : It → Hp → Prop} {a it : Addr} (I2 : Inv X pins σ H1 s2) (ht : s2.heap.IsTupleIter it a 0) (hit : it < s2.heap.objs.size) (hfp : FpOk X pins H1 it) (q : R (ItE X.K a) H1) :
    PIE X pins σ (.Tuple elts kk tpos) R (.ref s2.heap.objs.size) { s2 with heap := s2.heap.push { cls := .type "enumerate", data := .fields #[.none, .bool false, .ref it, rawInt 0, .none, .none] } } := by
  have k : ∀ b o, s2.heap.get? b = some o → (s2.heap.push { cls := .type "enumerate", data := .fields #[.none, .bool false, .ref it, rawInt 0, .none, .none] }).get? b = some o := fun b o e => Heap.get?_push_of_some _ e
  have I3 := I2.kept (t' := s2.toks) k
  refine ⟨s2.heap.objs.size, [s2.heap.objs.size, it], _, _, H1, rfl, I3, turn_enumT a s2.heap.objs.size it, ⟨⟨.none, Heap.get?_push_size _ rfl⟩, ht.at fun o e => k _ _ e, fun z => Nat.lt_irrefl _ (z ▸ hit)⟩, fun b hb => ?_, q⟩
  have e' : b = s2.heap.objs.size ∨ b = it := by simpa using hb
  rcases e' with z | z
  · rw [z]
    exact I2.fpOk (Nat.le_refl _) (I2.hok.fresh (Nat.le_refl _))
  · rw [z]
    exact hfp
theorem piEnumT (K : PySem.W.Frag) (hK : X.K = K) (hg : Gl X "enumerate") (hm : X.mg "enumerate" = none) (ha : PA X [e] ta) (hs : starEach [e] X.env = [(false, eval e X.env)] := by rfl) :
    PI X (.Tuple elts kk tpos) (.Call (.Name "enumerate" p) [e] [] pos) (iEnumT K ta) := by
  subst hK
  refine ⟨fun pins s σ H R I h => ?_⟩
  refine Call_ (ld_blt I hg hm boot_enumerate (PyProof.Rows.callWith_type1 (thn (ha.run pos pins s σ H _ I h) fun us s1 ⟨vs, H1, I1, r1, q1⟩ => ?_) hs rfl))
  obtain ⟨a, xs, ex, hq, q⟩ := q1
  subst ex
  obtain rfl := Vals.ref1 r1
  obtain ⟨its, rv, p', hz⟩ := I1.tuple hq
  have pt : s1.heap.IsTuple a its.toArray := p'
  have k : ∀ b o, s1.heap.get? b = some o → (s1.heap.push { cls := .type "tuple_iterator", data := .fields #[.ref a, .int 0 0] }).get? b = some o := fun b o e => Heap.get?_push_of_some _ e
  have I2 := I1.kept (t' := s1.toks) k
  have hsz : (s1.heap.push { cls := .type "tuple_iterator", data := .fields #[.ref a, .int 0 0] }).objs.size = s1.heap.objs.size + 1 := Heap.size_push _ _
  have hlay := enum_lay (elts := elts) (kk := kk) (tpos := tpos) (s1 := s1) (H := H) I2 (it := s1.heap.objs.size) (a := a) ⟨_, Heap.get?_push_size _ rfl, rfl, rfl⟩ (by show s1.heap.objs.size < Array.size _; rw [hsz]; exact Nat.lt_succ_self _) (I1.fpOk (Nat.le_refl _) (I1.hok.fresh (Nat.le_refl _))) q
  refine enum_new (wpAny_pyIter_tuple pt ?_)
  obtain ⟨it2, fp, tn, J, H2, e1, I3, T, st, fo, qq⟩ := hlay
  refine wpAny_pyIter_enum (e := (s1.heap.push { cls := .type "tuple_iterator", data := .fields #[.ref a, .int 0 0] }).objs.size) (it := s1.heap.objs.size) (i := 0) (old := .none) (Heap.get?_push_size _ rfl) ?_
  exact ⟨it2, fp, tn, J, H2, e1, I3, T, st, fo, qq⟩
end
end K32

/-! an instance whose __iter__ gives a tuple's iterator -/
namespace K32
open PySem PySem.Spec PyProof.Rows L2
/-- a tuple's iterator at its begin -/
def TitO (it a : Addr) : HO := .ext fun h => h.get? it = some { cls := .type "tuple_iterator", data := .fields #[.ref a, .int 0 0] }
theorem titO_ok {P : Program} {w : World} {H : Hp} {h : Heap} {it a : Addr} (e : h.get? it = some { cls := .type "tuple_iterator", data := .fields #[.ref a, .int 0 0] }) : ObjOk P w H h it (TitO it a) := ⟨e, ⟨_, e⟩, fun h1 h2 q k => k _ q⟩
/-- iter(a tuple) -/
def rIterT (K : PySem.W.Frag) (n : Nat) : List V → Hp → VK → Prop := fun xs H Q => ∃ (l : Addr) (zs : List V), xs = [.ref l] ∧ SqT K H l zs ∧ ∀ it, H it = none → n ≤ it → Q (.ref it) (upd H it (TitO it l))
section
variable {X : Cx}
theorem call_iterT : CallR X (.builtin "iter") (rIterT X.K X.s_0.heap.objs.size) := by
  intro pins s σ H xs us Q I r h
  obtain ⟨l, zs, rfl, hq, q⟩ := h
  obtain rfl := Vals.ref1 r
  obtain ⟨its, rv, pl, hz⟩ := I.tuple hq
  have pt : s.heap.IsTuple l its.toArray := pl
  refine Calls.call_function_entry (by decide +kernel) (by decide +kernel) PySem.W.kdk_entry_iter (PySem.W.kdk_args_iter _) ?_
  unfold Builtin.«iter»
  refine wpAny_bind (m := someArgs "iter" 1 2 _) (wpAny_of_eq (a := [Value.ref l]) (by first | rfl | kernel_rfl!) ?_)
  show wpAny _ _ (pyIter (.ref l) >>= _) _ _ _
  refine wpAny_bind (wpAny_pyIter_tuple pt ?_)
  refine wpAny_pure ⟨_, rfl, ?_⟩
  exact ⟨.ref s.heap.objs.size, _, I.laid (t' := s.toks) (fun b u e => Heap.get?_push_of_some _ e) (Nat.le_refl _) (titO_ok (Heap.get?_push_size _ rfl)), rfl, q _ (I.hok.fresh (Nat.le_refl _)) I.sz⟩
end
/-- a def whose promise may name the state at the call -/
theorem fnAt {P : Program} {w : World} {K : PySem.W.Frag} {mg : Str → Option Value} {base : Heap} {k : Nat} {f : Addr} {m qual : Str} {st : Stmt} {fd : FuncData} {kws : List (Str × V)} {N ps : List Str} (F : FunD K m qual (defArgs st) (defBody st) (defScope st) [] kws f fd)
    (S : FnScope N ps (defScope st)) (hb : ∀ (kV doc pm : Value) (an : Option Addr) (cdv ct : Value) (us : List Value), us.length = ps.length → bindArgs (PySem.W.fnOf m qual (defArgs st) (defBody st) (defScope st) .none kV doc pm an cdv ct) ⟨us, []⟩ = pure (ps.zip us))
    {A : Around} {outer : List Env} {s : Shared} {H : Hp} {us : List Value} {vs : List V} {Q : VK} (hr : Room (k + 1) A) (e0 : Env0 P w K mg base A outer s H) (r : Vals vs us) (hl : vs.length = ps.length)
    (hbody : ∀ cdv, Room k (A.deeper (envOfC qual (defScope st) s.heap.objs.size f cdv)) → ∃ t, PSs (cxOf CX0 P w K mg base N qual (defScope st) f cdv A outer s H E0).nox (defBody st) t ∧ t { nx := fun _ H' => Q .non H', rt := Q } (start N vs) H) :
    codeAny (model P w) A (.call (.ref f) ⟨us, []⟩) (CR CX0 outer P w H s Q E0) s := by
  obtain ⟨oc, od, dV, kV, doc, pm, an, cdv, ct, osl, rfl, lk, hcd, hD, _⟩ := F.ex
  have hdn : dV = .none := by
    rcases hD with ⟨_, e⟩ | ⟨z, _⟩
    · exact e
    · exact absurd rfl z
  subst hdn
  have KX : K.In s.heap := e0.mod.kin.keeps fun b o e => (e0.bs b o e).1
  have lim : s.heap.NoLimit := e0.mod.nolimit.keeps fun b o e => (e0.bs b o e).1
  have hkind : ∀ y ∈ ps.zip us, (defScope st).names.lookup y.1 = some .local ∨ ((defScope st).names.lookup y.1 = some .cell ∧ ((cellsFrom (s.heap.objs.size + 1) (defScope st).names []).lookup y.1).isSome = true) := fun ⟨n, v⟩ hy => by
    rcases S.par n (List.of_mem_zip hy).1 with q | q
    · exact .inl q
    · exact .inr ⟨q, PySem.W.cellsFrom_some _ _ _ (.inl q)⟩
  refine codeAny_call_function hr.depth (KX _ _ lk) rfl S.co S.gen rfl (PySem.W.codeRec_of KX hcd) ?_
  rw [hb kV doc pm an cdv ct us (by rw [← r.length]; exact hl)]
  refine wpAny_pure (wpAny_newFunctionEnv_cells S.kind hkind fun env he s1 x => ?_)
  subst he
  refine ⟨lim.keeps x.toInCall.keep, codeAny_func ?_⟩
  obtain ⟨t, ht, hq⟩ := hbody cdv (hr.deeper _)
  have I : Inv (cxOf CX0 P w K mg base N qual (defScope st) f cdv A outer s H E0) [] (start N vs) H s1 := inv_start S hr.hd e0 hl r x
  refine wpAny_mono (ht.nox.run [] s1 (start N vs) H _ I hq) (fun fl s' hs => ?_) fun e s' hs => hs
  have fin : ∀ {σ' : L2.St} {H' : Hp} {v : V} {u : Value}, Inv (cxOf CX0 P w K mg base N qual (defScope st) f cdv A outer s H E0) [] σ' H' s' → L2.RelV v u → Q v H' → CE outer P w H s Q u s' :=
    fun {σ' H' v u} J rv q => ⟨v, H', J.os, J.bare, J.base, J.hok, rv, q⟩
  cases fl with
  | ret u =>
    obtain ⟨v, σ', H', J, rv, q⟩ := hs
    exact fin J rv q
  | next =>
    obtain ⟨σ', H', J, q⟩ := hs
    exact fin (v := V.non) (u := Value.none) J rfl q
  | brk =>
    obtain ⟨_, _, _, q⟩ := hs
    exact False.elim q
  | cont =>
    obtain ⟨_, _, _, q⟩ := hs
    exact False.elim q
/-- f(o) gives the iterator of the tuple at tp -/
def FnI (P : Program) (w : World) (K : PySem.W.Frag) (mg : Str → Option Value) (base : Heap) (k : Nat) (f : Addr) (pre : Hp → Addr → Addr → Prop) : Prop :=
  ∀ (A : Around) (outer : List Env) (s : Shared) (H : Hp) (a tp : Addr) (Q : VK), Room k A → Env0 P w K mg base A outer s H → pre H a tp → (∀ it, H it = none → s.heap.objs.size ≤ it → Q (.ref it) (upd H it (TitO it tp))) →
    codeAny (model P w) A (.call (.ref f) ⟨[.ref a], []⟩) (CR CX0 outer P w H s Q E0) s
structure OwnI (K : PySem.W.Frag) (C f : Addr) : Prop where
  at_ : PySem.W.findIn K (.ref C) "__iter__" = some (some (.ref f))
  fn : PySem.W.isFn K (.ref f) = true
/-- enumerate(o) -/
def iEnumO (K : PySem.W.Frag) (f : Addr) (pre : Hp → Addr → Addr → Prop) (ta : TA) : TI := fun σ H R => ta σ H fun vs H1 => ∃ a C dx fs tp, vs = [.ref a] ∧ H1 a = some (.ins C dx fs) ∧ OwnI K C f ∧ pre H1 a tp ∧ R (ItE K tp) H1
section
variable {X : Cx} {e : Expr} {ta : TA} {p pos tpos : Pos} {elts : List Expr} {kk k : Nat} {f : Addr} {pre : Hp → Addr → Addr → Prop}
theorem piEnumO (K : PySem.W.Frag) (hK : X.K = K) (Fi : FnI X.prog X.w X.K X.mg X.base k f pre) (hr : Room (k + 2) X.A) (hg : Gl X "enumerate") (hm : X.mg "enumerate" = none) (ha : PA X [e] ta) (hs : starEach [e] X.env = [(false, eval e X.env)] := by rfl) :
    PI X (.Tuple elts kk tpos) (.Call (.Name "enumerate" p) [e] [] pos) (iEnumO K f pre ta) := by
  subst hK
  refine ⟨fun pins s σ H R I h => ?_⟩
  refine Call_ (ld_blt I hg hm boot_enumerate (PyProof.Rows.callWith_type1 (thn (ha.run pos pins s σ H _ I h) fun us s1 ⟨vs, H1, I1, r1, q1⟩ => ?_) hs rfl))
  obtain ⟨a, C, dx, fs, tp, ex, hai, oi, hp, q⟩ := q1
  subst ex
  obtain rfl := Vals.ref1 r1
  obtain ⟨mA, O, _⟩ := ins_get I1.hok hai
  obtain ⟨od, J, _⟩ := O.look
  obtain ⟨m, fr⟩ := I1.fr
  refine enum_new (PySem.W.owit_iter fr I1.mod.kin J oi.at_ oi.fn (wpAny_call (codeAny_mono (Fi X.A.in1.in1 X.stack s1 H1 a tp (fun v H' => ∃ it, v = .ref it ∧ H1 it = none ∧ s1.heap.objs.size ≤ it ∧ H' = upd H1 it (TitO it tp)) hr.in1.in1 I1.env0.in1.in1 hp fun it h1 h2 => ⟨it, rfl, h1, h2, rfl⟩) fun r s' hq => ?_)))
  cases r with
  | error e => exact False.elim (pass0 (X := X.nox) pins σ H1 s1 e s' (I1.wish _) hq)
  | ok fl =>
    cases fl with
    | ret u =>
      obtain ⟨v, H', I3, rv, it, rfl, hn, hle, rfl⟩ := I1.after hq
      obtain rfl : u = Value.ref it := rv
      have hti : s'.heap.get? it = some { cls := .type "tuple_iterator", data := .fields #[.ref tp, .int 0 0] } := (I3.hok it _ upd_same).1
      have hT : s'.TypeIs (.ref it) "tuple_iterator" := ⟨_, hti, rfl⟩
      have I4 := ItX.inv_drop I3 (a := it) (show upd H1 it (TitO it tp) it = some (.ext _) from upd_same)
      have hfp := ItX.inv_fp (pins := pins) I3 (u := TitO it tp) upd_same (Nat.le_trans I1.sz hle)
      rw [ItX.dropH_upd hn] at I4 hfp
      have hlay := enum_lay (elts := elts) (kk := kk) (tpos := tpos) (s1 := s1) (H := H) I4 (it := it) (a := tp) ⟨_, hti, rfl, rfl⟩ (Heap.lt_size hti) hfp q
      obtain ⟨it2, fp, tn, J2, H2, e1, I5, T, st, fo, qq⟩ := hlay
      unfold PySem.W.OwitIt
      refine wpAny_specialOf (name := Str.ofString "__next__") hT F.slot_tuple_iterator_next.lookup ?_
      refine wpAny_pyIter_enum (e := s'.heap.objs.size) (it := it) (i := 0) (old := .none) (Heap.get?_push_size _ rfl) ?_
      exact ⟨it2, fp, tn, J2, H2, e1, I5, T, st, fo, qq⟩
    | next => exact False.elim hq
    | brk => exact False.elim hq
    | cont => exact False.elim hq
end
end K32

namespace K32
open PySem PyProof.Rows L2
/-- a class of wheels; tr: a trusted one -/
structure WhC (K : PySem.W.Frag) (C : Addr) (tr : Bool) : Prop where
  cls : Cls K C
  isA : IsA K C (ga K "Wheel")
  p_trusted : PropOf K C "trusted" (ma K (ga K "Wheel") "trusted") (pa K (ga K "Wheel") "trusted")
  p_play : PropOf K C "play" (ma K (ga K "Wheel") "play") (pa K (ga K "Wheel") "play")
  p_near : PropOf K C "near" (ma K (ga K "Wheel") "near") (pa K (ga K "Wheel") "near")
  con : Con K C "TRUSTED" (.bl tr) (.bool tr)
  call : StX.CallO K C (ma K (ga K "Wheel") "__call__")
  part : Meth K C "does_part" (ma K (ga K "Wheel") "does_part")
  n_period : NoAttr K C "period"
  n_back : NoAttr K C "back"
  n_ahead : NoAttr K C "ahead"
theorem scn_Join___init__ : NdefX.NScope ["self", "tables", "__class__"] ["self", "tables"] ["__class__"] (defScope s_Join___init__) := NdefX.nscope_by (by decide +kernel)
theorem scn_Sure___init__ : NdefX.NScope ["self", "tables", "__class__"] ["self", "tables"] ["__class__"] (defScope s_Sure___init__) := NdefX.nscope_by (by decide +kernel)
theorem scn_Unsure___init__ : NdefX.NScope ["self", "low", "high", "marks", "low_off", "high_off", "__class__"] ["self", "low", "high", "marks", "low_off", "high_off"] ["__class__"] (defScope s_Unsure___init__) := NdefX.nscope_by (by decide +kernel)
theorem scn_Even___init__ : NdefX.NScope ["self", "period", "slip", "__class__"] ["self", "period", "slip"] ["__class__"] (defScope s_Even___init__) := NdefX.nscope_by (by decide +kernel)
theorem scn_Exact___init__ : NdefX.NScope ["self", "period", "__class__"] ["self", "period"] ["__class__"] (defScope s_Exact___init__) := NdefX.nscope_by (by decide +kernel)
theorem scn_Lagging___init__ : NdefX.NScope ["self", "period", "lag", "__class__"] ["self", "period", "lag"] ["__class__"] (defScope s_Lagging___init__) := NdefX.nscope_by (by decide +kernel)
theorem scn_Grid___init__ : NdefX.NScope ["self", "period", "__class__"] ["self", "period"] ["__class__"] (defScope s_Grid___init__) := NdefX.nscope_by (by decide +kernel)
structure Facts (P : Program) (K : PySem.W.Frag) (mg : Str → Option Value) : Prop where
  w_Wheel : WhC K (ga K "Wheel") false
  w_Even : WhC K (ga K "Even") false
  w_Exact : WhC K (ga K "Exact") false
  w_Lagging : WhC K (ga K "Lagging") false
  w_Grid : WhC K (ga K "Grid") true
  Wheel_trusted : FunD K "trusted" "Wheel.trusted" (defArgs s_Wheel_trusted) (defBody s_Wheel_trusted) (defScope s_Wheel_trusted) [] [] (pa K (ga K "Wheel") "trusted") (fdA K (pa K (ga K "Wheel") "trusted"))
  Wheel_play : FunD K "play" "Wheel.play" (defArgs s_Wheel_play) (defBody s_Wheel_play) (defScope s_Wheel_play) [] [] (pa K (ga K "Wheel") "play") (fdA K (pa K (ga K "Wheel") "play"))
  Wheel_near : FunD K "near" "Wheel.near" (defArgs s_Wheel_near) (defBody s_Wheel_near) (defScope s_Wheel_near) [] [] (pa K (ga K "Wheel") "near") (fdA K (pa K (ga K "Wheel") "near"))
  Meter_spare : FunD K "spare" "Meter.spare" (defArgs s_Meter_spare) (defBody s_Meter_spare) (defScope s_Meter_spare) [] [] (pa K (ga K "Meter") "spare") (fdA K (pa K (ga K "Meter") "spare"))
  Lot_around : FunD K "around" "Lot.around" (defArgs s_Lot_around) (defBody s_Lot_around) (defScope s_Lot_around) [] [] (sa K (ga K "Lot") "around") (fdA K (sa K (ga K "Lot") "around"))
  sm_around : SMet K (ga K "Lot") "around" (ma K (ga K "Lot") "around") (sa K (ga K "Lot") "around")
  isLot : IsA K (ga K "Lot") (ga K "Lot")
  isMeter : IsA K (ga K "Meter") (ga K "Meter")
  p_spare : PropOf K (ga K "Meter") "spare" (ma K (ga K "Meter") "spare") (pa K (ga K "Meter") "spare")
  ownG : OwnG K (ga K "Meter") (ma K (ga K "Meter") "__getitem__")
  ownI : OwnI K (ga K "Meter") (ma K (ga K "Meter") "__iter__")
  ownB_Sure : OwnB K (ga K "Sure") (ma K (ga K "Paper") "__bool__")
  con_Sure : Con K (ga K "Sure") "IS_TRUE" (.bl true) (.bool true)
  ownB_Unsure : OwnB K (ga K "Unsure") (ma K (ga K "Paper") "__bool__")
  con_Unsure : Con K (ga K "Unsure") "IS_TRUE" (.bl false) (.bool false)
  every : ∃ a b c : Addr, mg "EVERY_TABLE" = some (.ref a) ∧ True ∧ ∀ H : Hp, SqT K H a [.int 1, .ref b] ∧ SqT K H b [.ref c] ∧ SqT K H c [.int 0, .int 0]
  htop : (P.main.scope.names.lookup ("super" : Str)).isSome = false
  sup_Join : ∃ c cc, SupD K P.main.file "__init__" "Join.__init__" s_Join___init__ (ma K (ga K "Join") "__init__") c cc (ga K "Join") (fdA K (ma K (ga K "Join") "__init__"))
  so_Join : SupOf K (ga K "Join") (ga K "Join") (ma K (ga K "Paper") "__init__")
  mk_Join : Mk K (ga K "Join") (ma K (ga K "Join") "__init__")
  sup_Sure : ∃ c cc, SupD K P.main.file "__init__" "Sure.__init__" s_Sure___init__ (ma K (ga K "Sure") "__init__") c cc (ga K "Sure") (fdA K (ma K (ga K "Sure") "__init__"))
  so_Sure : SupOf K (ga K "Sure") (ga K "Sure") (ma K (ga K "Paper") "__init__")
  mk_Sure : Mk K (ga K "Sure") (ma K (ga K "Sure") "__init__")
  sup_Unsure : ∃ c cc, SupD K P.main.file "__init__" "Unsure.__init__" s_Unsure___init__ (ma K (ga K "Unsure") "__init__") c cc (ga K "Unsure") (fdA K (ma K (ga K "Unsure") "__init__"))
  so_Unsure : SupOf K (ga K "Unsure") (ga K "Unsure") (ma K (ga K "Paper") "__init__")
  mk_Unsure : Mk K (ga K "Unsure") (ma K (ga K "Unsure") "__init__")
  sup_Even : ∃ c cc, SupD K P.main.file "__init__" "Even.__init__" s_Even___init__ (ma K (ga K "Even") "__init__") c cc (ga K "Even") (fdA K (ma K (ga K "Even") "__init__"))
  so_Even : SupOf K (ga K "Even") (ga K "Even") (ma K (ga K "Wheel") "__init__")
  mk_Even : Mk K (ga K "Even") (ma K (ga K "Even") "__init__")
  sup_Exact : ∃ c cc, SupD K P.main.file "__init__" "Exact.__init__" s_Exact___init__ (ma K (ga K "Exact") "__init__") c cc (ga K "Exact") (fdA K (ma K (ga K "Exact") "__init__"))
  so_Exact : SupOf K (ga K "Exact") (ga K "Exact") (ma K (ga K "Wheel") "__init__")
  mk_Exact : Mk K (ga K "Exact") (ma K (ga K "Exact") "__init__")
  sup_Lagging : ∃ c cc, SupD K P.main.file "__init__" "Lagging.__init__" s_Lagging___init__ (ma K (ga K "Lagging") "__init__") c cc (ga K "Lagging") (fdA K (ma K (ga K "Lagging") "__init__"))
  so_Lagging : SupOf K (ga K "Lagging") (ga K "Lagging") (ma K (ga K "Wheel") "__init__")
  mk_Lagging : Mk K (ga K "Lagging") (ma K (ga K "Lagging") "__init__")
  sup_Grid : ∃ c cc, SupD K P.main.file "__init__" "Grid.__init__" s_Grid___init__ (ma K (ga K "Grid") "__init__") c cc (ga K "Grid") (fdA K (ma K (ga K "Grid") "__init__"))
  so_Grid : SupOf K (ga K "Grid") (ga K "Grid") (ma K (ga K "Wheel") "__init__")
  mk_Grid : Mk K (ga K "Grid") (ma K (ga K "Grid") "__init__")
end K32

/-! properties, methods and calls of instances whose class is known by what it holds -/
namespace K32
open PySem PySem.Spec PyProof.Rows L2
section
variable {X : Cx} {k j : Nat} {p g : Addr} {f m : Str} {sp : Sp} {e o : Expr} {es : List Expr} {pos apos : Pos} {ta : TE} {t : TA}
/-- e.f, a property -/
def tPropA (K : PySem.W.Frag) (f : Str) (g : Addr) (sp : Sp) (ta : TE) : TE := fun σ H Q => ta σ H fun x H1 => ∃ a C dx fs p, x = .ref a ∧ H1 a = some (.ins C dx fs) ∧ Cls K C ∧ PropOf K C f p g ∧ sp [.ref a] H1 Q E0
theorem pe_propA (K : PySem.W.Frag) (hK : X.K = K) (he : PE X e ta) (F : FnR X.prog X.w X.K X.mg X.base CX0 k g sp) (hr : Room j X.A) (hk : k + 1 ≤ j) (hab : attributeBase e f X.env (eval e X.env) = eval e X.env := by rfl) : PE X (.Attribute e f pos) (tPropA K f g sp ta) := by
  subst hK
  refine ⟨fun pins s σ H Q I h => ?_⟩
  refine attr_of hab (thn (he.run pins s σ H _ I h) fun u s1 ⟨x, H1, I1, rx, a, C, dx, fs, p, ex, ea, c, hp, q⟩ => ?_)
  subst ex
  obtain rfl : u = Value.ref a := rx
  obtain ⟨mA, O, _, _, _, _⟩ := ins_get I1.hok ea
  obtain ⟨od, J, _⟩ := O.look
  obtain ⟨rest, hrec⟩ := hp.rec_
  have I2 := I1.tok (s1.toks + 1)
  have hc : (PySem.W.clsIn X.K C).isSome = true := by
    obtain ⟨cd, hc, _⟩ := PySem.W.any_some c.hd
    rw [hc]
    rfl
  refine PySem.W.get_bind I1.kIn J (PySem.W.plainGet_of (c.get f)).1 (PySem.W.findObj_data hc hp.at_ hp.get hp.tak) (PySem.W.plainGet_of (c.get f)).2 (wpAny_call (PySem.W.prop_get (s := { s1 with toks := s1.toks + 1 }) I1.kIn hrec ?_))
  refine codeAny_mono (F X.A.in1 X.stack { s1 with toks := s1.toks + 1 } H1 [.ref a] [.ref a] Q E0 (hr.mono hk).in1 I2.env0.in1 (.cons rfl .nil) q) fun r s' hq => ?_
  cases r with
  | error er => exact False.elim (pass0 (X := X.nox) pins σ H1 { s1 with toks := s1.toks + 1 } er s' (I2.wish _) hq)
  | ok fl =>
    cases fl with
    | ret u =>
      obtain ⟨v, H', I3, rv, q3⟩ := I2.after hq
      show wpAny _ _ (handedOut u) _ _ _
      rw [PySem.W.handedOut_of (handed_of rv)]
      exact wpAny_pure ⟨v, H', I3, rv, q3⟩
    | next => exact False.elim hq
    | brk => exact False.elim hq
    | cont => exact False.elim hq
theorem conK (K : PySem.W.Frag) (hK : X.K = K) (he : PE X e ta) (hb : attributeBase e f X.env (eval e X.env) = eval e X.env := by rfl) : PE X (.Attribute e f pos) (tCon K ta f) := by
  subst hK
  exact pe_con he hb
/-- o.m(e, ..) -/
def tMethA (K : PySem.W.Frag) (m : Str) (g : Addr) (sp : Sp) (ta : TE) (t : TA) : TE := fun σ H Q => ta σ H fun x H1 => ∃ a C dx fs, x = .ref a ∧ H1 a = some (.ins C dx fs) ∧ Cls K C ∧ Meth K C m g ∧ fs.lookup m = none ∧ t σ H1 fun vs H2 => sp (.ref a :: vs) H2 Q E0
theorem pe_mtA (K : PySem.W.Frag) (hK : X.K = K) {pl : Sem Bool} (he : PE X o ta) (F : FnR X.prog X.w X.K X.mg X.base CX0 k g sp) (hr : Room j X.A) (hk : k ≤ j) (ha : PA X (e :: es) t)
    (hst : starEach (e :: es) X.env = (false, eval e X.env) :: starEach es X.env := by rfl) (hpl : (backTo pos (starEach es X.env)).any (·.1) = false := by rfl)
    (ht : eval (.Call (.Attribute o m apos) (e :: es) [] pos) X.env = (do
      let ov ← eval o X.env
      standAt apos.atName
      let (f, first) ← holding [ov] (getMethod ov m pl)
      callWith pos f first (backTo pos (starEach (e :: es) X.env)) (backToKw pos (keywordEach [] X.env))) := by rfl) :
    PE X (.Call (.Attribute o m apos) (e :: es) [] pos) (tMethA K m g sp ta t) := by
  subst hK
  refine ⟨fun pins s σ H Q I h => ?_⟩
  refine PySem.W.methodCall_KW (pl := pl) (thn (he.run pins s σ H _ I h) fun u s1 ⟨x, H1, I1, rx, a, C, dx, fs, ex, ea, c, hm, l, q⟩ => ?_) ht
  subst ex
  obtain rfl : u = Value.ref a := rx
  refine getmeth_ok I1 ea c hm l ?_
  refine PySem.W.callWith_K (first := [.ref a]) (h₀ := X.base) I1.ok.mod.kin hm.kp (thn (ha.run pos pins s1 σ H1 _ I1 q) fun us s2 ⟨vs, H2, I2, r, q2⟩ => ⟨I2.kIn, ?_⟩) hst hpl
  exact wpAny_call (run_fnR (us := .ref a :: us) (vs := .ref a :: vs) (F.mono hk) hr pass0 I2 (.cons rfl r) q2)
/-- e(e1, ..), e an instance -/
def tCallA (K : PySem.W.Frag) (g : Addr) (sp : Sp) (tf : TE) (t : TA) : TE := fun σ H Q => tf σ H fun y H1 => ∃ a, y = V.ref a ∧ t σ H1 fun vs H2 => ∃ C dx fs, H2 a = some (.ins C dx fs) ∧ StX.CallO K C g ∧ sp (V.ref a :: vs) H2 Q E0
theorem pe_callA (K : PySem.W.Frag) (hK : X.K = K) {fe : Expr} {tf : TE} (hf : PE X fe tf) (F : FnR X.prog X.w X.K X.mg X.base CX0 k g sp) (hr : Room j X.A) (hk : k ≤ j) (ha : PA X (e :: es) t)
    (ht : eval (.Call fe (e :: es) [] pos) X.env = (do callWith pos (← eval fe X.env) [] (backTo pos (starEach (e :: es) X.env)) (backToKw pos (keywordEach [] X.env))) := by rfl)
    (he : starEach (e :: es) X.env = (false, eval e X.env) :: starEach es X.env := by rfl) (hpl : (backTo pos (starEach es X.env)).any (·.1) = false := by rfl) : PE X (.Call fe (e :: es) [] pos) (tCallA K g sp tf t) := by
  subst hK
  refine ⟨fun pins s σ H Q I h => ?_⟩
  refine Call_ (thn (hf.run pins s σ H _ I h) fun u s1 ⟨y, H1, I1, ry, a, ey, q⟩ => ?_) ht
  subst ey
  obtain rfl : u = Value.ref a := ry
  refine StX.callO_with (thn (ha.run pos pins s1 σ H1 _ I1 q) fun us s2 ⟨vs, H2, I2, r, C, dx, fs, hi, c, q2⟩ => ?_) he hpl
  obtain ⟨ox, od, J, hd⟩ := StX.insC_at I2 (.inr ⟨dx, fs, hi⟩)
  exact ⟨⟨C, ox, od, J, hd⟩, StX.run_callO c (F.mono hk) hr pass0 I2 (.inr ⟨dx, fs, hi⟩) r q2⟩
end
end K32

/-! def f(self, *v, k1=.., ..) called with all keywords -/
namespace K32
open PySem PySem.Spec PyProof.Rows L2
abbrev SpK := List V → List V → Hp → VK → Prop
def FnRK (P : Program) (w : World) (K : PySem.W.Frag) (mg : Str → Option Value) (base : Heap) (k : Nat) (f : Addr) (ks : List Str) (sp : SpK) : Prop :=
  ∀ (A : Around) (outer : List Env) (s : Shared) (H : Hp) (us ws : List Value) (vs zs : List V) (Q : VK), Room k A → Env0 P w K mg base A outer s H → Vals vs us → Vals zs ws → zs.length = ks.length → sp vs zs H Q →
    codeAny (model P w) A (.call (.ref f) ⟨us, ks.zip ws⟩) (CR CX0 outer P w H s Q E0) s
theorem FnRK.imp {P : Program} {w : World} {K : PySem.W.Frag} {mg : Str → Option Value} {base : Heap} {k : Nat} {f : Addr} {ks : List Str} {sp sp' : SpK} (F : FnRK P w K mg base k f ks sp) (h : ∀ vs zs H Q, sp' vs zs H Q → sp vs zs H Q) : FnRK P w K mg base k f ks sp' :=
  fun A outer s H us ws vs zs Q hr e0 r rz l hs => F A outer s H us ws vs zs Q hr e0 r rz l (h _ _ _ _ hs)
section
variable {P : Program} {w : World} {K : PySem.W.Frag} {mg : Str → Option Value} {base : Heap}
theorem fn_starK {m qual pv : Str} {st : Stmt} {N ps ks : List Str} {k : Nat} {sp : Sp} {f : Addr} {fd : FuncData} {kws : List (Str × V)} (F : FunD K m qual (defArgs st) (defBody st) (defScope st) [] kws f fd)
    (hb : ∀ (kV doc pm : Value) (an : Option Addr) (cdv ct : Value) (us rest ws : List Value), us.length = ps.length → ws.length = ks.length → bindArgs (PySem.W.fnOf m qual (defArgs st) (defBody st) (defScope st) .none kV doc pm an cdv ct) ⟨us ++ rest, ks.zip ws⟩ = (newTuple rest >>= fun t => pure ((ps ++ ks).zip (us ++ ws) ++ [(pv, t)])))
    (S : FnScope N (ps ++ ks ++ [pv]) (defScope st))
    (hbody : ∀ (cdv : Value) (A : Around) (outer : List Env) (s : Shared) (H : Hp) (vs : List V) (Q : VK) (E : XK), Room k (A.deeper (envOfC qual (defScope st) s.heap.objs.size f cdv)) → sp vs H Q E →
      ∃ t, PSs (cxOf CX0 P w K mg base N qual (defScope st) f cdv A outer s H E).nox (defBody st) t ∧ t { nx := fun _ H' => Q .non H', rt := Q } (start N vs) H) :
    FnRK P w K mg base (k + 1) f ks (fun vs zs H Q => ∃ ws rest, vs = ws ++ rest ∧ ws.length = ps.length ∧ rest.length ≤ sizeLine ∧ ∀ p, H p = none → sp (ws ++ zs ++ [.ref p]) (upd H p (.tup rest)) Q E0) := by
  obtain ⟨oc, od, dV, kV, doc, pm, an, cdv, ct, osl, e, lk, hcd, hD, _⟩ := F.ex
  rcases hD with ⟨_, rfl⟩ | ⟨z, _⟩
  rotate_left
  · exact absurd rfl z
  rw [e] at lk
  intro A outer s H us ws vs zs Q hr e0 r rz lz hsp
  obtain ⟨w0, rest, ev, hl, hz, hq⟩ := hsp
  subst ev
  obtain ⟨u1, u2, eu, r1, r2⟩ := StX.vals_split r
  subst eu
  have hn : H s.heap.objs.size = Option.none := e0.hok.fresh (Nat.le_refl _)
  have hl1 : u1.length = ps.length := by rw [← r1.length]; exact hl
  have hl2 : u2.length ≤ sizeLine := by rw [← r2.length]; exact hz
  have hl3 : ws.length = ks.length := by rw [← rz.length]; exact lz
  refine StX.run_bnd lk hcd S hr e0 (G := fun xs H2 => ∃ p, H p = Option.none ∧ xs = w0 ++ zs ++ [V.ref p] ∧ H2 = upd H p (.tup rest)) (fun A' Ex Q' h => ?_) fun s2 H2 xs ⟨p, hp, ex, eH⟩ hr' => ?_
  · rw [hb _ _ _ _ _ _ u1 u2 ws hl1 hl3]
    refine wpAny_bind (wpAny_newTuple (wpAny_pure ?_) hl2)
    have new : ObjOk P w (upd H s.heap.objs.size (.tup rest)) (s.heap.push ({ cls := .type "tuple", data := .seq u2.toArray } : Obj)) s.heap.objs.size (.tup rest) := ⟨hz, u2, r2, ⟨_, Heap.get?_push_size _ rfl, rfl, _, rfl⟩⟩
    have un := StX.un_laid (fs := frs outer) (s := s) (o := ({ cls := .type "tuple", data := .seq u2.toArray } : Obj)) (u := .tup rest) hn
    have z := h _ _ (w0 ++ zs ++ [V.ref s.heap.objs.size]) (u1 ++ ws ++ [Value.ref s.heap.objs.size]) (StX.env0_laid e0 new) un rfl (fun e s' => cxUp0 outer s H _ _ E0 e s' un (fun b o q => Heap.get?_push_of_some _ q) rfl) ((r1.append rz).append (.cons rfl .nil))
      (by rw [List.length_append, List.length_append, List.length_append, List.length_append, hl, lz] <;> rfl) ⟨_, hn, rfl, rfl⟩
    rw [List.zip_append (by rw [List.length_append, List.length_append, hl1, hl3])] at z
    exact z
  · subst ex eH
    obtain ⟨t, h1, h2⟩ := hbody cdv A outer s2 _ _ Q E0 hr' (hq p hp)
    exact ⟨t, h1.nox, h2⟩
end
section
variable {X : Cx} {k j : Nat} {f C : Addr} {ks : List Str} {sp : SpK} {x : Str} {p pos : Pos} {e : Expr} {es : List Expr} {kws : List Keyword} {t tk : TA}
def tMakeSK (C : Addr) (m : Nat) (sp : SpK) (t tk : TA) : TE := fun σ H Q => t σ H fun vs H1 => tk σ H1 fun zs H2 => zs.length = m ∧ ∀ x dx, H2 x = none → H2 dx = none → dx ≠ x →
  sp (.ref x :: vs) zs (upd (upd H2 dx (.own x)) x (.ins C dx [])) (fun v H3 => v = .non ∧ Q (.ref x) H3)
theorem pe_makeSK (M : Mk X.K C f) (F : FnRK X.prog X.w X.K X.mg X.base k f ks sp) (hr : Room j X.A) (hj : k + 1 ≤ j) (hg : Gl X x) (hm : X.mg x = some (.ref C)) (ha : PA X (e :: es) t) (hkw : PK X kws tk)
    (hall : (backToKw pos (keywordEach kws X.env)).all (·.1.isSome) = true := by rfl) (hks : (backToKw pos (keywordEach kws X.env)).filterMap (·.1) = ks := by rfl) (hdb : (x == ("__debug__" : Str)) = false := by decide)
    (he : starEach (e :: es) X.env = (false, eval e X.env) :: starEach es X.env := by rfl) (hpl : ((backTo pos (starEach (e :: es) X.env)).any (·.1) || (backToKw pos (keywordEach kws X.env)).any (·.1.isNone)) = false := by rfl) :
    PE X (.Call (.Name x p) (e :: es) kws pos) (tMakeSK C ks.length sp t tk) := by
  refine ⟨fun pins s σ H Q I h => ?_⟩
  refine wpAny_Call_Name_kw (ld_glob I hg hm ?_ hdb)
  refine PySem.W.callWith_KW (h₀ := X.base) I.ok.mod.kin M.kp hall (thn (ha.run pos pins s σ H _ I h) fun us s1 ⟨vs, H1, I1, r, q⟩ => ?_) hpl he
  refine thn (hkw.run pos pins s1 σ H1 _ I1 q) fun ws s2 ⟨zs, H2, I2, rz, l2, q2⟩ => ⟨I2.kIn, ?_⟩
  rw [hks]
  have hq := q2 (s2.heap.objs.size + 1) s2.heap.objs.size (I2.hok.fresh (Nat.le_succ _)) (I2.hok.fresh (Nat.le_refl _)) (Nat.ne_of_lt (Nat.lt_succ_self _))
  have I3 := Inv.made (C := C) I2
  refine wpAny_call (make_map (f := f) I2.kIn M.makes M.init (beq_iff_eq.mp M.fn) (codeAny_mono (F _ X.stack _ _ (Value.ref (s2.heap.objs.size + 1) :: us) ws _ _ _ ((hr.mono hj).make C us (ks.zip ws)) (I3.env0.make C us (ks.zip ws)) (.cons (a := V.ref (s2.heap.objs.size + 1)) rfl r) rz l2 hq) fun r s' hq' => ?_))
  cases r with
  | error e => exact pass0 pins σ _ _ e s' I3 hq'
  | ok fl =>
    cases fl with
    | ret u =>
      obtain ⟨v, H', I4, rv, ev, q3⟩ := I3.after hq'
      subst ev
      exact ⟨rv, ⟨V.ref (s2.heap.objs.size + 1), H', I4, rfl, q3⟩⟩
    | next => exact False.elim hq'
    | brk => exact False.elim hq'
    | cont => exact False.elim hq'
end
end K32

/-! numbers.py -/
namespace K32
open PySem PyProof.Rows L2
section
variable {P : Program} {w : World} {K : PySem.W.Frag} {mg : Str → Option Value} {base : Heap}
def spIsWhole : Sp := fun vs H Q _ => ∃ i, vs = [.int i] ∧ Q (.bl true) H
theorem c_is_whole (T : Top K mg) : C8.Cal P w K mg base 1 "is_whole" spIsWhole [] := by
  refine calF T.is_whole (fun _ _ _ _ _ _ us hl => match us, hl with | [_], _ => rfl) sc_is_whole (by rintro vs H Q E ⟨i, rfl, _⟩; rfl) (fun cdv A outer s H vs Q E hr h => ?_)
  obtain ⟨i, rfl, k⟩ := h
  refine ⟨_, (pss_one (ps_ret (pe_and (pe_callB (clIsi K rfl) (by rfl) T.f_isinstance (by decide +kernel) (pa_cons (pv 0) (pa_cons (pe_bltn (v := .ty "int") (u := .type "int") (by rfl) T.f_int (by decide +kernel) rfl) pa_nil))) (pe_one (pe_not (pe_callB (clIsi K rfl) (by rfl) T.f_isinstance (by decide +kernel) (pa_cons (pv 0) (pa_cons (pe_bltn (v := .ty "bool") (u := .type "bool") (by rfl) T.f_bool (by decide +kernel) rfl) pa_nil)))))))), ?_⟩
  refine ⟨_, rfl, V.int i, V.ty "int", .type "int", _, true, rfl, .ty _, .base (.int i), kit_ty (by decide +kernel), true, rfl, iteT ?_⟩
  exact ⟨_, rfl, V.int i, V.ty "bool", .type "int", _, false, rfl, .ty _, .base (.int i), kit_ty (by decide +kernel), false, rfl, k⟩
def spNeedI : Sp := fun vs H Q _ => ∃ i, vs = [.int i] ∧ Q .non H
theorem c_need_whole (T : Top K mg) : C8.Cal P w K mg base 2 "need_whole" spNeedI [] := by
  refine calF T.need_whole (fun _ _ _ _ _ _ us hl => match us, hl with | [_], _ => rfl) sc_need_whole (by rintro vs H Q E ⟨i, rfl, _⟩; rfl) (fun cdv A outer s H vs Q E hr h => ?_)
  obtain ⟨i, rfl, k⟩ := h
  refine ⟨_, (pss_one (ps_if (pt_not (pt_val (C8.pe_c (c_is_whole T) hr (by decide) rfl (pa_cons (pv 0) pa_nil)))) (pss_one (ps_never)) pss_nil)), ?_⟩
  exact ⟨_, rfl, i, rfl, true, rfl, iteF k⟩
def spNeedAbove : Sp := fun vs H Q _ => ∃ i, vs = [.int i] ∧ 1 ≤ i ∧ Q .non H
theorem c_need_above (T : Top K mg) : C8.Cal P w K mg base 2 "need_above" spNeedAbove [] := by
  refine calF T.need_above (fun _ _ _ _ _ _ us hl => match us, hl with | [_], _ => rfl) sc_need_above (by rintro vs H Q E ⟨i, rfl, _⟩; rfl) (fun cdv A outer s H vs Q E hr h => ?_)
  obtain ⟨i, rfl, h1, k⟩ := h
  refine ⟨_, (pss_one (ps_if (PW.pt (pw_or (pt_not (pt_val (C8.pe_c (c_is_whole T) hr (by decide) rfl (pa_cons (pv 0) pa_nil)))) (pw_or1 (pt_cmpR op_lt (pv 0) pe_int (nomark _))))) (pss_one (ps_never)) pss_nil)), ?_⟩
  refine ⟨_, rfl, i, rfl, true, rfl, iteF ⟨_, rfl, _, _, rfl, rfl, _, rfl, ?_⟩⟩
  rw [decide_eq_false (show ¬ i < 1 by omega)]
  exact iteF k
def spDivisorOf : Sp := fun vs H Q _ => ∃ (i j g : Int), vs = [.int i, .int j] ∧ divisorOf i j = some g ∧ Q (.int g) H
theorem c_divisor_of (T : Top K mg) : C8.Cal P w K mg base 1 "divisor_of" spDivisorOf [] := by
  refine calF T.divisor_of (fun _ _ _ _ _ _ us hl => match us, hl with | [_, _], _ => rfl) sc_divisor_of (by rintro vs H Q E ⟨i, j, g, rfl, _⟩; rfl) (fun cdv A outer s H vs Q E hr h => ?_)
  obtain ⟨i, j, g, rfl, hg, k⟩ := h
  refine ⟨_, (pss_cons (ps_while PassesOwn.never (pt_cmpR op_ne (pv 1) pe_int (nomark _)) (pss_one (ps_par (i := 0) (j := 1) (by rfl) sc_divisor_of.nd rfl rfl (by decide) rfl rfl (pa_cons (pv 1) (pa_cons (pe_op op_mod (pv 0) (pv 1)) pa_nil)) (by rfl))))
      (pss_one (ps_ret (pv 0)))), ?_⟩
  refine ⟨fun m σ H' => H' = H ∧ ∃ a b : Int, σ = [some (.int a), some (.int b)] ∧ gcdF (m + 1) a b = some g, ⟨63, rfl, i, j, rfl, hg⟩, ?_⟩
  rintro m σ H' ⟨rfl, a, b, rfl, hm⟩
  refine ⟨_, rfl, rfl, _, rfl, ?_⟩
  have hm' : (if b = 0 then some a else if 0 < b then gcdF m b (a % b) else none) = some g := hm
  by_cases hb : b = 0
  · subst hb
    refine iteF ⟨_, rfl, ?_⟩
    rw [if_pos rfl] at hm'
    cases hm'
    exact k
  · have e : (!decide (V.int b = V.int 0)) = true := by rw [dec_int]; simp [hb]
    rw [e]
    rw [if_neg hb] at hm'
    obtain ⟨h0, hm'⟩ := og hm'
    obtain ⟨m, rfl⟩ : ∃ m', m = m' + 1 := ⟨m - 1, by cases m with | zero => cases hm' | succ n => rfl⟩
    refine iteT ⟨fun σ' H2 => H2 = H' ∧ ∃ a b : Int, σ' = [some (.int a), some (.int b)] ∧ gcdF (m + 1) a b = some g, fun σ' H2 q => ⟨m, Nat.lt_succ_self _, q⟩, ?_⟩
    exact ⟨_, rfl, _, rfl, _, rfl, _, _, rfl, rfl, h0, _, _, rfl, rfl, _, _, rfl, hm'⟩
def spCommon : Sp := fun vs H Q _ => ∃ (ns : List Int) (g : Int), vs = ns.map V.int ∧ ns.length ≤ 100 ∧ commonO ns = some g ∧ ∀ H', Same H H' → Q (.int g) H'
theorem c_common (T : Top K mg) : CalR P w K mg base 3 "common" spCommon := by
  refine (calS (k := 2) (sp := fun vs H Q _ => ∃ (p : Addr) (ns : List Int) (g : Int), vs = [.ref p] ∧ SqT K H p (ns.map V.int) ∧ commonO ns = some g ∧ Q (.int g) H) T.common (fun _ _ _ _ _ _ => rfl) (fun _ _ _ _ _ _ _ _ => rfl) sc_common (fun cdv A outer s H vs Q E hr h => ?_)).imp (fun vs H Q E h => ?_)
  · obtain ⟨p, ns, g, rfl, hp, hg, k⟩ := h
    refine ⟨_, (pss_cons (ps_for PassesOwn.never rfl (piT K rfl (pv 0)) (pg_name (i := 1) sc_common.nd rfl (Or.inl rfl)) (pss_one (ps_expr (C8.pe_c (c_need_whole T) hr (by decide) rfl (pa_cons (pv 1) pa_nil)))))
      (pss_cons (ps_set (i := 2) sc_common.nd rfl (Or.inl rfl) pe_int)
      (pss_cons (ps_for PassesOwn.never rfl (piT K rfl (pv 0)) (pg_name (i := 1) sc_common.nd rfl (Or.inl rfl)) (pss_one (ps_set (i := 2) sc_common.nd rfl (Or.inl rfl) (C8.pe_c (c_divisor_of T) hr (by decide) rfl (pa_cons (pv 2) (pa_cons (pe_callB call_abs (by rfl) T.f_abs (by decide +kernel) (pa_cons (pv 1) pa_nil)) pa_nil))))))
      (pss_one (ps_ret (pv 2)))))), ?_⟩
    refine ⟨_, rfl, p, rfl, ⟨_, hp⟩, for_tup (K := K) (a := p) (xs := ns.map V.int) (fun i σ H' => H' = H ∧ ∃ v, σ = [some (.ref p), v, none]) ⟨rfl, _, rfl⟩ (fun i σ H' _ q => by rw [q.1]; exact hp) ?_ ?_⟩
    · rintro i x σ H' hx ⟨rfl, v, rfl⟩
      obtain ⟨n, rfl⟩ := at_int hx
      exact ⟨_, rfl, n, rfl, rfl, _, rfl⟩
    · rintro σ H' ⟨rfl, v, rfl⟩
      refine ⟨_, rfl, p, rfl, ⟨_, hp⟩, for_tup (K := K) (a := p) (xs := ns.map V.int) (fun i σ H2 => H2 = H' ∧ ∃ v f, σ = [some (.ref p), v, some (.int f)] ∧ foldO (fun g n => divisorOf g (absI n)) f (ns.drop i) = some g) ⟨rfl, v, 0, rfl, hg⟩ (fun i σ H2 _ q => by rw [q.1]; exact hp) ?_ ?_⟩
      · rintro i x σ H2 hx ⟨rfl, v, f, rfl, hf⟩
        obtain ⟨n, rfl, hn⟩ := at_intD hx
        rw [hn] at hf
        obtain ⟨c, hc, hf⟩ := ob hf
        exact ⟨_, rfl, _, rfl, _, rfl, f, _, c, rfl, hc, rfl, _, _, rfl, hf⟩
      · rintro σ H2 ⟨rfl, v, f, rfl, hf⟩
        rw [drop_end] at hf
        cases hf
        exact ⟨_, rfl, k⟩
  · obtain ⟨ns, g, rfl, hl, hg, k⟩ := h
    exact ⟨by rw [List.length_map]; exact Nat.le_trans hl (by decide), fun p hp => ⟨p, ns, g, rfl, .of upd_same, hg, k _ (Same.new hp)⟩⟩
def spMultiple : Sp := fun vs H Q _ => ∃ (ns : List Int) (g : Int), vs = ns.map V.int ∧ ns.length ≤ 100 ∧ multipleO ns = some g ∧ ∀ H', Same H H' → Q (.int g) H'
theorem c_multiple (T : Top K mg) : CalR P w K mg base 3 "multiple" spMultiple := by
  refine (calS (k := 2) (sp := fun vs H Q _ => ∃ (p : Addr) (ns : List Int) (g : Int), vs = [.ref p] ∧ SqT K H p (ns.map V.int) ∧ multipleO ns = some g ∧ Q (.int g) H) T.multiple (fun _ _ _ _ _ _ => rfl) (fun _ _ _ _ _ _ _ _ => rfl) sc_multiple (fun cdv A outer s H vs Q E hr h => ?_)).imp (fun vs H Q E h => ?_)
  · obtain ⟨p, ns, g, rfl, hp, hg, k⟩ := h
    obtain ⟨hall, hg⟩ := og hg
    refine ⟨_, (pss_cons (ps_for PassesOwn.never rfl (piT K rfl (pv 0)) (pg_name (i := 1) sc_multiple.nd rfl (Or.inl rfl)) (pss_one (ps_expr (C8.pe_c (c_need_above T) hr (by decide) rfl (pa_cons (pv 1) pa_nil)))))
      (pss_cons (ps_set (i := 2) sc_multiple.nd rfl (Or.inl rfl) pe_int)
      (pss_cons (ps_for PassesOwn.never rfl (piT K rfl (pv 0)) (pg_name (i := 1) sc_multiple.nd rfl (Or.inl rfl)) (pss_one (ps_set (i := 2) sc_multiple.nd rfl (Or.inl rfl) (pe_op op_mul (pe_op op_fdiv (pv 2) (C8.pe_c (c_divisor_of T) hr (by decide) rfl (pa_cons (pv 2) (pa_cons (pv 1) pa_nil)))) (pv 1)))))
      (pss_one (ps_ret (pv 2)))))), ?_⟩
    refine ⟨_, rfl, p, rfl, ⟨_, hp⟩, for_tup (K := K) (a := p) (xs := ns.map V.int) (fun i σ H' => H' = H ∧ ∃ v, σ = [some (.ref p), v, none]) ⟨rfl, _, rfl⟩ (fun i σ H' _ q => by rw [q.1]; exact hp) ?_ ?_⟩
    · rintro i x σ H' hx ⟨rfl, v, rfl⟩
      obtain ⟨n, rfl, hn⟩ := at_intD hx
      have h1 : n ∈ ns := List.mem_of_mem_drop (i := i) (by rw [hn]; exact List.mem_cons_self)
      exact ⟨_, rfl, n, rfl, of_decide_eq_true (List.all_eq_true.mp hall n h1), rfl, _, rfl⟩
    · rintro σ H' ⟨rfl, v, rfl⟩
      refine ⟨_, rfl, p, rfl, ⟨_, hp⟩, for_tup (K := K) (a := p) (xs := ns.map V.int) (fun i σ H2 => H2 = H' ∧ ∃ v f, σ = [some (.ref p), v, some (.int f)] ∧ foldO multStep f (ns.drop i) = some g) ⟨rfl, v, 1, rfl, hg⟩ (fun i σ H2 _ q => by rw [q.1]; exact hp) ?_ ?_⟩
      · rintro i x σ H2 hx ⟨rfl, v, f, rfl, hf⟩
        obtain ⟨n, rfl, hn⟩ := at_intD hx
        rw [hn] at hf
        obtain ⟨c, hc, hf⟩ := ob hf
        obtain ⟨g1, hg1, hc⟩ := ob hc
        obtain ⟨q1, hq1, hc⟩ := ob hc
        obtain ⟨cd, hq1⟩ := og hq1
        obtain ⟨cm, hc⟩ := og hc
        cases hq1
        cases hc
        exact ⟨_, rfl, _, rfl, _, rfl, f, n, g1, rfl, hg1, _, _, rfl, rfl, cd, _, rfl, _, _, rfl, rfl, .inl cm, rfl, _, _, rfl, hf⟩
      · rintro σ H2 ⟨rfl, v, f, rfl, hf⟩
        rw [drop_end] at hf
        cases hf
        exact ⟨_, rfl, k⟩
  · obtain ⟨ns, g, rfl, hl, hg, k⟩ := h
    exact ⟨by rw [List.length_map]; exact Nat.le_trans hl (by decide), fun p hp => ⟨p, ns, g, rfl, .of upd_same, hg, k _ (Same.new hp)⟩⟩
def spApart : Sp := fun vs H Q _ => ∃ d p : Int, vs = [.int d, .int p] ∧ 1 ≤ p ∧ Q (.int (apartI d p)) H
theorem c_apart (T : Top K mg) : C8.Cal P w K mg base 3 "apart" spApart [] := by
  refine calF T.apart (fun _ _ _ _ _ _ us hl => match us, hl with | [_, _], _ => rfl) sc_apart (by rintro vs H Q E ⟨i, j, rfl, _⟩; rfl) (fun cdv A outer s H vs Q E hr h => ?_)
  obtain ⟨d, p, rfl, hp, k⟩ := h
  refine ⟨_, (pss_cons (ps_expr (C8.pe_c (c_need_whole T) hr (by decide) rfl (pa_cons (pv 0) pa_nil)))
      (pss_cons (ps_expr (C8.pe_c (c_need_above T) hr (by decide) rfl (pa_cons (pv 1) pa_nil)))
      (pss_cons (ps_set (i := 2) sc_apart.nd rfl (Or.inl rfl) (pe_op op_mod (pv 0) (pv 1)))
      (pss_one (ps_ret (pe_callB (call_min2 rfl) (by rfl) T.f_min (by decide +kernel) (pa_cons (pe_callTy call_int1 (by rfl) T.f_int (by decide +kernel) (pa_cons (pv 2) pa_nil)) (pa_cons (pe_callTy call_int1 (by rfl) T.f_int (by decide +kernel) (pa_cons (pe_op op_sub (pv 1) (pv 2)) pa_nil)) pa_nil)))))))), ?_⟩
  exact ⟨_, rfl, d, rfl, _, rfl, p, rfl, hp, _, rfl, _, rfl, _, _, rfl, rfl, (show (0 : Int) < p by omega), _, rfl, .inl ⟨_, rfl, _, rfl, _, rfl, _, _, rfl, rfl, .inl ⟨_, rfl, _, _, rfl, k⟩⟩⟩
def spInverse : Sp := fun vs H Q _ => ∃ n m r : Int, vs = [.int n, .int m] ∧ inverseO n m = some r ∧ ∀ H', Same H H' → Q (.int r) H'
theorem c_inverse_of (T : Top K mg) : C8.Cal P w K mg base 1 "inverse_of" spInverse [] := by
  refine calF T.inverse_of (fun _ _ _ _ _ _ us hl => match us, hl with | [_, _], _ => rfl) sc_inverse_of (by rintro vs H Q E ⟨i, j, r, rfl, _⟩; rfl) (fun cdv A outer s H vs Q E hr h => ?_)
  obtain ⟨n, m, r, rfl, hi, k⟩ := h
  obtain ⟨hm, f, hf, rfl⟩ := inverseO_eq hi
  refine ⟨_, (pss_cons (ps_asg (pe_tup (pa_cons (pv 1) (pa_cons (pe_op op_mod (pv 0) (pv 1)) (pa_cons pe_int (pa_cons pe_int pa_nil))))) (pgT K 4 rfl (by rfl) (pgs_cons (pg_name (i := 2) sc_inverse_of.nd rfl (Or.inl rfl)) (pgs_cons (pg_name (i := 3) sc_inverse_of.nd rfl (Or.inl rfl)) (pgs_cons (pg_name (i := 4) sc_inverse_of.nd rfl (Or.inl rfl)) (pgs_cons (pg_name (i := 5) sc_inverse_of.nd rfl (Or.inl rfl)) pgs_nil))))))
      (pss_cons (ps_while PassesOwn.never (pt_cmpR op_gt (pv 3) pe_int (nomark _)) (pss_cons (ps_set (i := 6) sc_inverse_of.nd rfl (Or.inl rfl) (pe_op op_fdiv (pv 2) (pv 3)))
      (pss_cons (ps_par (i := 2) (j := 3) (by rfl) sc_inverse_of.nd rfl rfl (by decide) rfl rfl (pa_cons (pv 3) (pa_cons (pe_op op_sub (pv 2) (pe_op op_mul (pv 6) (pv 3))) pa_nil)) (by rfl))
      (pss_one (ps_par (i := 4) (j := 5) (by rfl) sc_inverse_of.nd rfl rfl (by decide) rfl rfl (pa_cons (pv 5) (pa_cons (pe_op op_sub (pv 4) (pe_op op_mul (pv 6) (pv 5))) pa_nil)) (by rfl))))))
      (pss_one (ps_ret (pe_op op_mod (pv 4) (pv 1)))))), ?_⟩
  refine ⟨_, rfl, _, rfl, _, rfl, _, _, rfl, rfl, hm, (by show 4 ≤ sizeLine; decide), fun p hp => ?_⟩
  refine ⟨p, _, rfl, .of upd_same, rfl, _, _, rfl, _, _, rfl, _, _, rfl, _, _, rfl, rfl, ?_⟩
  refine ⟨fun j σ H' => H' = upd H p (.tup [.int m, .int (n % m), .int 0, .int 1]) ∧ ∃ (a b c d : Int) (t : Option V), σ = [some (.int n), some (.int m), some (.int a), some (.int b), some (.int c), some (.int d), t] ∧ invF (j + 1) a b c d = some f, ⟨63, rfl, _, _, _, _, _, rfl, hf⟩, ?_⟩
  rintro j σ H' ⟨rfl, a, b, c, d, t, rfl, hj⟩
  refine ⟨_, rfl, _, _, rfl, rfl, _, rfl, ?_⟩
  have hj' : (if 0 < b then (do
      let times ← pdiv a b
      let x ← pmul times b
      let y ← pmul times d
      invF j b (a - x) d (c - y)) else some c) = some f := hj
  by_cases hb : 0 < b
  · rw [if_pos hb] at hj'
    obtain ⟨t1, h1, hj2⟩ := ob hj'
    obtain ⟨x, h2, hj3⟩ := ob hj2
    obtain ⟨y, h3, hj4⟩ := ob hj3
    obtain ⟨c1, rfl⟩ := pdiv_eq h1
    obtain ⟨c2, rfl⟩ := pmul_eq h2
    obtain ⟨c3, rfl⟩ := pmul_eq h3
    clear hj hj' hj2 hj3
    obtain ⟨j, rfl⟩ : ∃ j', j = j' + 1 := ⟨j - 1, by cases j with | zero => cases hj4 | succ n => rfl⟩
    rw [decide_eq_true hb]
    refine iteT ⟨fun σ' H2 => H2 = upd H p (.tup [.int m, .int (n % m), .int 0, .int 1]) ∧ ∃ (a b c d : Int) (t : Option V), σ' = [some (.int n), some (.int m), some (.int a), some (.int b), some (.int c), some (.int d), t] ∧ invF (j + 1) a b c d = some f, fun σ' H2 q => ⟨j, Nat.lt_succ_self _, q⟩, ?_⟩
    refine ⟨_, rfl, _, rfl, _, _, rfl, rfl, c1, ?_⟩
    refine ⟨_, rfl, _, rfl, _, rfl, _, rfl, _, _, rfl, rfl, .inl c2, _, _, rfl, rfl, _, _, rfl, ?_⟩
    exact ⟨_, rfl, _, rfl, _, rfl, _, rfl, _, _, rfl, rfl, .inl c3, _, _, rfl, rfl, _, _, rfl, rfl, _, _, _, _, _, rfl, hj4⟩
  · rw [if_neg hb] at hj'
    cases hj'
    rw [decide_eq_false hb]
    exact iteF ⟨_, rfl, _, rfl, _, _, rfl, rfl, hm, k _ (Same.new hp)⟩
end
end K32

/-! comprehensions over anything: the items by their number, the results as a list -/
namespace K32
open PySem PyProof.Rows L2

/-- an iterator over n items: PY i x H: x is the i-th one -/
structure ItsOk (J : It) (H1 : Hp) (n : Nat) (PY : Nat → V → Hp → Prop) : Prop where
  go : ∀ i H, Same H1 H → i < n → J.go i H
  stop : ∀ H, Same H1 H → J.stop n H
  yld : ∀ i H x H', J.yld i H x H' → Same H1 H → i < n → Same H H' ∧ PY i x H'
theorem its_list {K : PySem.W.Frag} {a : Addr} {vs : List V} {H1 : Hp} (h : SqL K H1 a vs) : ItsOk (Itl K a) H1 vs.length (fun i x _ => vs[i]? = some x) :=
  ⟨fun i H e hi => ⟨vs, vs[i], e.seq h, List.getElem?_eq_getElem hi⟩, fun H e => ⟨vs, e.seq h, Nat.le_refl _⟩, fun i H x H' y e _ => by
    obtain ⟨rfl, y⟩ := y
    exact ⟨Same.refl _, y vs (e.seq h)⟩⟩
theorem its_tup {K : PySem.W.Frag} {a : Addr} {vs : List V} {H1 : Hp} (h : SqT K H1 a vs) : ItsOk (Itt K a) H1 vs.length (fun i x _ => vs[i]? = some x) :=
  ⟨fun i H e hi => ⟨vs, vs[i], Same.seqT e h, List.getElem?_eq_getElem hi⟩, fun H e => ⟨vs, Same.seqT e h, Nat.le_refl _⟩, fun i H x H' y e _ => by
    obtain ⟨rfl, y⟩ := y
    exact ⟨Same.refl _, y vs (Same.seqT e h)⟩⟩
theorem its_range {lo : Int} {n : Nat} {H1 : Hp} : ItsOk (Itr lo n) H1 n (fun i x _ => x = .int (lo + i)) :=
  ⟨fun i H _ hi => hi, fun H _ => Nat.le_refl _, fun i H x H' y _ _ => by
    obtain ⟨rfl, y⟩ := y
    exact ⟨Same.refl _, y⟩⟩
theorem its_rangeC {lo c : Int} {n : Nat} {H1 : Hp} : ItsOk (Itc lo c n) H1 n (fun i x _ => x = .int (lo + (i : Nat) * c)) :=
  ⟨fun i H _ hi => hi, fun H _ => Nat.le_refl _, fun i H x H' y _ _ => by
    obtain ⟨rfl, y⟩ := y
    exact ⟨Same.refl _, y⟩⟩
theorem its_zip {K : PySem.W.Frag} {a b : Addr} {xs ys : List V} {H1 : Hp} (h : SqL K H1 a xs) (h' : SqL K H1 b ys) (hl : xs.length = ys.length) :
    ItsOk (Itz K a b) H1 xs.length (fun i v H' => ∃ T x y, v = .ref T ∧ H' T = some (.tup [x, y]) ∧ xs[i]? = some x ∧ ys[i]? = some y) :=
  ⟨fun i H e hi => ⟨xs, ys, xs[i], ys[i]'(by omega), e.seq h, e.seq h', List.getElem?_eq_getElem hi, List.getElem?_eq_getElem (by omega)⟩, fun H e => ⟨xs, ys, e.seq h, e.seq h', .inl (Nat.le_refl _)⟩, fun i H v H' y e _ => by
    obtain ⟨T, x, z, rfl, hT, rfl, hx, hy⟩ := y
    exact ⟨Same.new hT, T, x, z, rfl, upd_same, hx xs (e.seq h), hy ys (e.seq h')⟩⟩

/-- what is said of an item stays when the new list at D grows -/
def Stab {γ : Type} (R : Hp → V → γ → Prop) : Prop := ∀ (D : Addr) (acc : List V) (H H' : Hp) (y : V) (z : γ), H D = some (.lst acc) → (∀ b o, b ≠ D → H b = some o → H' b = some o) → R H y z → R H' y z
theorem Stab.same {γ : Type} {R : Hp → V → γ → Prop} (s : Stab R) {H H' : Hp} {D : Addr} {acc : List V} {y : V} {z : γ} (hD : H D = some (.lst acc)) (e : Same H H') (r : R H y z) : R H' y z := s D acc H H' y z hD (fun b o _ h => e b o h) r
theorem paired_imp {γ : Type} {R R' : V → γ → Prop} {ys : List V} {zs : List γ} (p : Paired R ys zs) (f : ∀ y z, R y z → R' y z) : Paired R' ys zs := Paired.mapP p f

section
variable {γ : Type} {R : Hp → V → γ → Prop} {J : It} {H1 : Hp} {n : Nat} {PY : Nat → V → Hp → Prop} {σ : L2.St} {D : Addr} {vs vs1 : List Nat} {g g1 : TG} {tt : TT} {te : TE} {Qd : Hp → Prop}
theorem lcG (it : ItsOk J H1 n PY) (hD : H1 D = none) (zs : List (Option γ)) (st : Stab R) (hz : zs.length = n) (hn : n ≤ 100000)
    (turn : ∀ i x oz H', i < n → PY i x H' → zs[i]? = some oz → Same H1 H' → ∀ (Qe : VK) (Qn : Hp → Prop), (∀ z, oz = some z → ∀ y H4, Same H' H4 → R H4 y z → Qe y H4) → (oz = none → ∀ H4, Same H' H4 → Qn H4) →
      g x (wipe σ vs) H' fun σ2 H2 => wipe σ2 vs = wipe σ vs ∧ tt σ2 H2 fun b H3 => if b = true then te σ2 H3 Qe else Qn H3)
    (done : ∀ ys H', Same H1 H' → H' D = some (.lst ys) → Paired (R H') ys (zs.filterMap id) → Qd H') :
    ∃ W : Nat → Nat → Hp → Prop, (∃ m, W 0 m (upd H1 D (.lst []))) ∧ ∀ i m H, W i m H →
      (J.stop i H ∧ Qd H) ∨ (J.go i H ∧ ∃ Nx : Hp → Prop, (∀ H', Nx H' → ∃ m', m' < m ∧ W (i + 1) m' H') ∧ ∀ x H', J.yld i H x H' → g x (wipe σ vs) H' fun σ2 H2 => wipe σ2 vs = wipe σ vs ∧ tt σ2 H2 fun b H3 =>
        if b = true then te σ2 H3 fun y H4 => ∃ acc, H4 D = some (.lst acc) ∧ acc.length < sizeLine ∧ Nx (upd H4 D (.lst (acc ++ [y]))) else Nx H3) := by
  refine ⟨fun i m H => m = n - i ∧ i ≤ n ∧ Same H1 H ∧ ∃ ys, H D = some (.lst ys) ∧ Paired (R H) ys ((zs.take i).filterMap id), ⟨n, rfl, Nat.zero_le _, Same.new hD, [], upd_same, .nil⟩, ?_⟩
  rintro i m H ⟨rfl, hi, e, ys, hy, p⟩
  by_cases hlt : i < n
  · refine .inr ⟨it.go i H e hlt, fun H' => i + 1 ≤ n ∧ Same H1 H' ∧ ∃ ys, H' D = some (.lst ys) ∧ Paired (R H') ys ((zs.take (i + 1)).filterMap id), fun H' q => ⟨n - (i + 1), by omega, rfl, q⟩, fun x H' hyl => ?_⟩
    obtain ⟨e1, py⟩ := it.yld i H x H' hyl e hlt
    have hi' : i < zs.length := by omega
    have ez : zs[i]? = some zs[i] := List.getElem?_eq_getElem hi'
    have et : zs.take (i + 1) = zs.take i ++ [zs[i]] := by rw [List.take_add_one, ez] <;> rfl
    have hl := p.length
    have hlen : ys.length ≤ 100000 := by
      have q1 := List.length_filterMap_le id (zs.take i)
      have q2 := List.length_take (i := i) (l := zs)
      omega
    refine turn i x zs[i] H' hlt py ez (e.trans e1) _ _ (fun z hz y H4 e4 r => ?_) (fun hz H4 e4 => ?_)
    · have hy4 : H4 D = some (.lst ys) := e4 _ _ (e1 _ _ hy)
      refine ⟨ys, hy4, Nat.lt_of_le_of_lt hlen (by decide), hlt, fun b o hb => ?_, _, upd_same, ?_⟩
      · rw [upd_ne (ne_of_none hb hD)]
        exact e4 _ _ (e1 _ _ (e _ _ hb))
      · rw [et, List.filterMap_append, hz]
        have keepR : ∀ v u, R H4 v u → R (upd H4 D (.lst (ys ++ [y]))) v u := fun v u q => st D ys H4 _ v u hy4 (fun b o hb ho => by rw [upd_ne hb]; exact ho) q
        exact (paired_imp p fun v u q => keepR v u (st.same hy (e1.trans e4) q)).snoc (keepR y z r)
    · refine ⟨hlt, (e.trans e1).trans e4, ys, e4 _ _ (e1 _ _ hy), ?_⟩
      rw [et, List.filterMap_append, hz]
      rw [show ([none] : List (Option γ)).filterMap id = [] from rfl, List.append_nil]
      exact paired_imp p fun y z q => st.same hy (e1.trans e4) q
  · have hin : i = n := by omega
    subst hin
    refine .inl ⟨it.stop H e, done ys H e hy ?_⟩
    rw [← hz, List.take_length] at p
    exact p
/-- without a test -/
theorem lcA (it : ItsOk J H1 n PY) (hD : H1 D = none) (zs : List γ) (st : Stab R) (hz : zs.length = n) (hn : n ≤ 100000)
    (turn : ∀ i x z H', i < n → PY i x H' → zs[i]? = some z → Same H1 H' → ∀ (Qe : VK), (∀ y H4, Same H' H4 → R H4 y z → Qe y H4) →
      g x (wipe σ vs) H' fun σ2 H2 => wipe σ2 vs = wipe σ vs ∧ te σ2 H2 Qe)
    (mono : ∀ x σ' H' (Q Q' : L2.St → Hp → Prop), (∀ σ2 H2, Q σ2 H2 → Q' σ2 H2) → g x σ' H' Q → g x σ' H' Q')
    (done : ∀ ys H', Same H1 H' → H' D = some (.lst ys) → Paired (R H') ys zs → Qd H') :
    ∃ W : Nat → Nat → Hp → Prop, (∃ m, W 0 m (upd H1 D (.lst []))) ∧ ∀ i m H, W i m H →
      (J.stop i H ∧ Qd H) ∨ (J.go i H ∧ ∃ Nx : Hp → Prop, (∀ H', Nx H' → ∃ m', m' < m ∧ W (i + 1) m' H') ∧ ∀ x H', J.yld i H x H' → g x (wipe σ vs) H' fun σ2 H2 => wipe σ2 vs = wipe σ vs ∧ tYes σ2 H2 fun b H3 =>
        if b = true then te σ2 H3 fun y H4 => ∃ acc, H4 D = some (.lst acc) ∧ acc.length < sizeLine ∧ Nx (upd H4 D (.lst (acc ++ [y]))) else Nx H3) := by
  refine lcG it hD (zs.map some) st (by rw [List.length_map]; exact hz) hn (fun i x oz H' hi py ez e Qe Qn q1 q2 => ?_) (fun ys H' e h p => done ys H' e h ?_)
  · rw [List.getElem?_map] at ez
    cases e2 : zs[i]? with
    | none => rw [e2] at ez; cases ez
    | some z =>
      rw [e2] at ez
      have eo : oz = some z := (Option.some.inj ez).symm
      exact mono _ _ _ _ _ (fun σ2 H2 ⟨a, b⟩ => ⟨a, by show (if true = true then te σ2 H2 Qe else Qn H2); rw [if_pos rfl]; exact b⟩) (turn i x z H' hi py e2 e Qe (fun y H4 a b => q1 z eo y H4 a b))
  · rw [List.filterMap_map] at p
    have : (id ∘ some : γ → Option γ) = some := rfl
    rw [this, List.filterMap_some] at p
    exact p
theorem gname_mono {i : Nat} : ∀ x σ' H' (Q Q' : L2.St → Hp → Prop), (∀ σ2 H2, Q σ2 H2 → Q' σ2 H2) → gName i x σ' H' Q → gName i x σ' H' Q' := fun _ _ _ _ _ f h => f _ _ h
end
theorem yes_intro {σ2 : L2.St} {H2 : Hp} {A B : Hp → Prop} (h : A H2) : tYes σ2 H2 fun b H3 => if b = true then A H3 else B H3 := by
  show (if true = true then A H2 else B H2)
  rw [if_pos rfl]
  exact h
section
variable {γ : Type} {R : Hp → V → γ → Prop} {J : It} {H1 : Hp} {n : Nat} {PY : Nat → V → Hp → Prop} {σ : L2.St} {D : Addr} {vs vs1 : List Nat} {g g1 : TG} {wi1 : TI} {te : TE} {Qd : Hp → Prop}
theorem lc2A (it : ItsOk J H1 n PY) (hD : H1 D = none) (zss : List (List γ)) (st : Stab R) (hz : zss.length = n) (hn : zss.flatten.length ≤ 100000)
    (turn : ∀ i x zs H' acc, i < n → PY i x H' → zss[i]? = some zs → Same H1 H' → H' D = some (.lst acc) → ∀ (Kt : It → L2.St → Hp → Prop),
      (∀ (J1 : It) (σ2 : L2.St) (H4 : Hp) (PY1 : Nat → V → Hp → Prop), Same H' H4 → ItsOk J1 (dropD H4 D) zs.length PY1 →
        (∀ j y z H5, j < zs.length → PY1 j y H5 → zs[j]? = some z → Same (dropD H4 D) H5 → ∀ Qe : VK, (∀ v H6, Same H5 H6 → R H6 v z → Qe v H6) → g1 y (wipe σ2 vs1) H5 fun σ3 H6 => wipe σ3 vs1 = wipe σ2 vs1 ∧ te σ3 H6 Qe) → Kt J1 σ2 H4) →
      g x (wipe σ vs) H' fun σ2 H2 => wipe σ2 vs = wipe σ vs ∧ wi1 σ2 H2 fun J1 H4 => Kt J1 σ2 H4)
    (mono : ∀ x σ' H' (Q Q' : L2.St → Hp → Prop), (∀ σ2 H2, Q σ2 H2 → Q' σ2 H2) → g x σ' H' Q → g x σ' H' Q')
    (mono1 : ∀ x σ' H' (Q Q' : L2.St → Hp → Prop), (∀ σ2 H2, Q σ2 H2 → Q' σ2 H2) → g1 x σ' H' Q → g1 x σ' H' Q')
    (done : ∀ ys H', Same H1 H' → H' D = some (.lst ys) → Paired (R H') ys zss.flatten → Qd H') :
    ∃ W : Nat → Nat → Hp → Prop, (∃ m, W 0 m (upd H1 D (.lst []))) ∧ ∀ i m H, W i m H →
      (J.stop i H ∧ Qd H) ∨ (J.go i H ∧ ∃ Nx : Hp → Prop, (∀ H', Nx H' → ∃ m', m' < m ∧ W (i + 1) m' H') ∧ ∀ x H', J.yld i H x H' → g x (wipe σ vs) H' fun σ2 H2 => wipe σ2 vs = wipe σ vs ∧ tYes σ2 H2 fun b H3 =>
        if b = true then wi1 σ2 H3 fun J1 H4 => ∃ W1 : Nat → Nat → Hp → Prop, (∃ m, W1 0 m H4) ∧ ∀ j k H, W1 j k H →
          (J1.stop j H ∧ Nx H) ∨ (J1.go j H ∧ ∃ Nx1 : Hp → Prop, (∀ H', Nx1 H' → ∃ k', k' < k ∧ W1 (j + 1) k' H') ∧ ∀ x H', J1.yld j H x H' → g1 x (wipe σ2 vs1) H' fun σ3 H5 => wipe σ3 vs1 = wipe σ2 vs1 ∧ tYes σ3 H5 fun b H6 =>
            if b = true then te σ3 H6 fun y H7 => ∃ acc, H7 D = some (.lst acc) ∧ acc.length < sizeLine ∧ Nx1 (upd H7 D (.lst (acc ++ [y]))) else Nx1 H6)
        else Nx H3) := by
  refine ⟨fun i m H => m = n - i ∧ i ≤ n ∧ Same H1 H ∧ ∃ ys, H D = some (.lst ys) ∧ Paired (R H) ys (zss.take i).flatten, ⟨n, rfl, Nat.zero_le _, Same.new hD, [], upd_same, .nil⟩, ?_⟩
  rintro i m H ⟨rfl, hi, e, ys, hy, p⟩
  by_cases hlt : i < n
  · refine .inr ⟨it.go i H e hlt, fun H' => i + 1 ≤ n ∧ Same H1 H' ∧ ∃ ys, H' D = some (.lst ys) ∧ Paired (R H') ys (zss.take (i + 1)).flatten, fun H' q => ⟨n - (i + 1), by omega, rfl, q⟩, fun x H' hyl => ?_⟩
    obtain ⟨e1, py⟩ := it.yld i H x H' hyl e hlt
    have hi' : i < zss.length := by omega
    have ez : zss[i]? = some zss[i] := List.getElem?_eq_getElem hi'
    have et : (zss.take (i + 1)).flatten = (zss.take i).flatten ++ zss[i] := by rw [List.take_add_one, ez, List.flatten_append]; simp
    have hle : ((zss.take (i + 1)).flatten).length ≤ zss.flatten.length := by
      have q := congrArg (fun l => l.flatten.length) (List.take_append_drop (i + 1) zss)
      simp only [List.flatten_append, List.length_append] at q
      omega
    have hy1 := e1 _ _ hy
    refine mono _ _ _ _ _ (fun σ2 H2 q => ⟨q.1, ?_⟩) (turn i x zss[i] H' ys hlt py ez (e.trans e1) hy1 (fun J1 σ2 H4 => ∃ W1 : Nat → Nat → Hp → Prop, (∃ m, W1 0 m H4) ∧ ∀ j k H, W1 j k H →
          (J1.stop j H ∧ (fun H' => i + 1 ≤ n ∧ Same H1 H' ∧ ∃ ys, H' D = some (.lst ys) ∧ Paired (R H') ys (zss.take (i + 1)).flatten) H) ∨ (J1.go j H ∧ ∃ Nx1 : Hp → Prop, (∀ H', Nx1 H' → ∃ k', k' < k ∧ W1 (j + 1) k' H') ∧ ∀ x H', J1.yld j H x H' → g1 x (wipe σ2 vs1) H' fun σ3 H5 => wipe σ3 vs1 = wipe σ2 vs1 ∧ tYes σ3 H5 fun b H6 =>
            if b = true then te σ3 H6 fun y H7 => ∃ acc, H7 D = some (.lst acc) ∧ acc.length < sizeLine ∧ Nx1 (upd H7 D (.lst (acc ++ [y]))) else Nx1 H6))
      (fun J1 σ2 H4 PY1 e4 it1 turn1 => ?_))
    · exact yes_intro q.2
    · have e14 : Same H1 H4 := (e.trans e1).trans e4
      have b14 : Same H1 (dropD H4 D) := same_drop hD e14
      refine ⟨fun j k H => k = zss[i].length - j ∧ j ≤ zss[i].length ∧ Same (dropD H4 D) H ∧ ∃ ys, H D = some (.lst ys) ∧ Paired (R H) ys ((zss.take i).flatten ++ zss[i].take j), ⟨zss[i].length, rfl, Nat.zero_le _, drop_same, ys, e4 _ _ hy1, ?_⟩, ?_⟩
      · rw [List.take_zero, List.append_nil]
        exact paired_imp p fun v u q => st.same hy (e1.trans e4) q
      · rintro j k H5 ⟨rfl, hj, e5, ys5, hy5, p5⟩
        by_cases hjl : j < zss[i].length
        · refine .inr ⟨it1.go j H5 e5 hjl, fun H' => j + 1 ≤ zss[i].length ∧ Same (dropD H4 D) H' ∧ ∃ ys, H' D = some (.lst ys) ∧ Paired (R H') ys ((zss.take i).flatten ++ zss[i].take (j + 1)), fun H' q => ⟨zss[i].length - (j + 1), by omega, rfl, q⟩, fun y H6 hyl1 => ?_⟩
          obtain ⟨e6, py6⟩ := it1.yld j H5 y H6 hyl1 e5 hjl
          have ezj : zss[i][j]? = some zss[i][j] := List.getElem?_eq_getElem hjl
          have etj : zss[i].take (j + 1) = zss[i].take j ++ [zss[i][j]] := by rw [List.take_add_one, ezj] <;> rfl
          have hlen : ys5.length ≤ 100000 := by
            have q1 := p5.length
            rw [List.length_append, List.length_take] at q1
            rw [et, List.length_append] at hle
            omega
          refine mono1 _ _ _ _ _ (fun σ3 H7 q => ⟨q.1, ?_⟩) (turn1 j y zss[i][j] H6 hjl py6 ezj (e5.trans e6) (fun y H7 => ∃ acc, H7 D = some (.lst acc) ∧ acc.length < sizeLine ∧ (fun H' => j + 1 ≤ zss[i].length ∧ Same (dropD H4 D) H' ∧ ∃ ys, H' D = some (.lst ys) ∧ Paired (R H') ys ((zss.take i).flatten ++ zss[i].take (j + 1))) (upd H7 D (.lst (acc ++ [y]))))
            (fun v H7 e7 r => ?_))
          · exact yes_intro q.2
          · have hy7 : H7 D = some (.lst ys5) := e7 _ _ (e6 _ _ hy5)
            refine ⟨ys5, hy7, Nat.lt_of_le_of_lt hlen (by decide), hjl, fun b o hb => ?_, _, upd_same, ?_⟩
            · rw [upd_ne (dropD_some hb).1]
              exact e7 _ _ (e6 _ _ (e5 _ _ hb))
            · rw [etj, ← List.append_assoc]
              have keepR : ∀ v' u, R H7 v' u → R (upd H7 D (.lst (ys5 ++ [v]))) v' u := fun v' u q => st D ys5 H7 _ v' u hy7 (fun b o hb ho => by rw [upd_ne hb]; exact ho) q
              exact (paired_imp p5 fun v' u q => keepR v' u (st.same hy5 (e6.trans e7) q)).snoc (keepR v _ r)
        · have hjn : j = zss[i].length := by omega
          subst hjn
          refine .inl ⟨it1.stop H5 e5, hlt, b14.trans e5, ys5, hy5, ?_⟩
          rw [et]
          rw [List.take_length] at p5
          exact p5
  · have hin : i = n := by omega
    subst hin
    refine .inl ⟨it.stop H e, done ys H e hy ?_⟩
    rw [← hz, List.take_length] at p
    exact p
end
/-! ### binds: what holds of more -/
def MonoG (g : TG) : Prop := ∀ x σ' H' (Q Q' : L2.St → Hp → Prop), (∀ σ2 H2, Q σ2 H2 → Q' σ2 H2) → g x σ' H' Q → g x σ' H' Q'
def MonoGs (g : TGs) : Prop := ∀ x σ' H' (Q Q' : L2.St → Hp → Prop), (∀ σ2 H2, Q σ2 H2 → Q' σ2 H2) → g x σ' H' Q → g x σ' H' Q'
theorem mg_tup {K : PySem.W.Frag} {n : Nat} {t : TGs} (h : MonoGs t) : MonoG (gTup K n t) := fun _ _ _ _ _ f ⟨a, xs, e, q, l, z⟩ => ⟨a, xs, e, q, l, h _ _ _ _ _ f z⟩
theorem mg_cons {t : TG} {u : TGs} (h : MonoG t) (h' : MonoGs u) : MonoGs (gCons t u) := fun _ _ _ _ _ f ⟨v, vr, e, z⟩ => ⟨v, vr, e, h _ _ _ _ _ (fun σ2 H2 q => h' _ _ _ _ _ f q) z⟩
theorem mg_nil : MonoGs gNil := fun _ _ _ _ _ f ⟨e, z⟩ => ⟨e, f _ _ z⟩
theorem mg_n2 {K : PySem.W.Frag} {n i j : Nat} : MonoG (gTup K n (gCons (gName i) (gCons (gName j) gNil))) := mg_tup (mg_cons gname_mono (mg_cons gname_mono mg_nil))
theorem mg_n3 {K : PySem.W.Frag} {n i j l : Nat} : MonoG (gTup K n (gCons (gName i) (gCons (gName j) (gCons (gName l) gNil)))) := mg_tup (mg_cons gname_mono (mg_cons gname_mono (mg_cons gname_mono mg_nil)))
end K32

/-! runs, rows, tables in the heap -/
namespace K32
open PySem PyProof.Rows L2

section
variable {K : PySem.W.Frag} {H H' : Hp}
theorem stabT {a D : Addr} {xs acc : List V} (hD : H D = some (.lst acc)) (k : ∀ b o, b ≠ D → H b = some o → H' b = some o) (h : SqT K H a xs) : SqT K H' a xs := by
  rcases h with (h | ⟨o, h⟩) | h
  · exact .inl (.inl (k _ _ (ne_of h hD (fun z => nomatch z)) h))
  · exact .inl (.inr ⟨o, k _ _ (ne_of h hD (fun z => nomatch z)) h⟩)
  · exact .inr h
def RunAt (K : PySem.W.Frag) (H : Hp) (v : V) (r : Run) : Prop := ∃ a, v = .ref a ∧ SqT K H a [.int r.1, .int r.2]
def RowAt (K : PySem.W.Frag) (H : Hp) (v : V) (r : Row) : Prop := ∃ a, v = .ref a ∧ SqT K H a [.int r.1, .int r.2.1, .int r.2.2]
theorem RunAt.same {v : V} {r : Run} (e : Same H H') (h : RunAt K H v r) : RunAt K H' v r := let ⟨a, ea, t⟩ := h; ⟨a, ea, Same.seqT e t⟩
theorem RowAt.same {v : V} {r : Row} (e : Same H H') (h : RowAt K H v r) : RowAt K H' v r := let ⟨a, ea, t⟩ := h; ⟨a, ea, Same.seqT e t⟩
theorem stab_run : Stab (RunAt K) := fun D acc H H' y z hD k h => let ⟨a, ea, t⟩ := h; ⟨a, ea, stabT hD k t⟩
theorem stab_row : Stab (RowAt K) := fun D acc H H' y z hD k h => let ⟨a, ea, t⟩ := h; ⟨a, ea, stabT hD k t⟩
/-- a pair (run, row) -/
def PairAt (K : PySem.W.Frag) (H : Hp) (v : V) (p : Run × Row) : Prop := ∃ a x y, v = .ref a ∧ SqT K H a [x, y] ∧ RunAt K H x p.1 ∧ RowAt K H y p.2
theorem PairAt.same {v : V} {p : Run × Row} (e : Same H H') (h : PairAt K H v p) : PairAt K H' v p := let ⟨a, x, y, ea, t, r1, r2⟩ := h; ⟨a, x, y, ea, Same.seqT e t, r1.same e, r2.same e⟩
theorem stab_pair : Stab (PairAt K) := fun D acc H H' v z hD k h => let ⟨a, x, y, ea, t, r1, r2⟩ := h; ⟨a, x, y, ea, stabT hD k t, stab_run D acc H H' x _ hD k r1, stab_row D acc H H' y _ hD k r2⟩
def IntIs (_ : Hp) (v : V) (i : Int) : Prop := v = .int i
def BlIs (_ : Hp) (v : V) (b : Bool) : Prop := v = .bl b
theorem stab_int : Stab IntIs := fun _ _ _ _ _ _ _ _ h => h
theorem stab_bl : Stab BlIs := fun _ _ _ _ _ _ _ _ h => h
theorem paired_int : ∀ {ys : List V} {zs : List Int}, Paired (IntIs H) ys zs → ys = zs.map V.int
  | _, _, .nil => rfl
  | _, _, .cons r t => by rw [r, paired_int t] <;> rfl
theorem paired_bl : ∀ {ys : List V} {zs : List Bool}, Paired (BlIs H) ys zs → ys = zs.map V.bl
  | _, _, .nil => rfl
  | _, _, .cons r t => by rw [r, paired_bl t] <;> rfl
/-- a tuple, a list of such -/
def TupOf {γ : Type} (K : PySem.W.Frag) (R : Hp → V → γ → Prop) (H : Hp) (a : Addr) (zs : List γ) : Prop := zs.length ≤ 3000 ∧ ∃ vs, SqT K H a vs ∧ Paired (R H) vs zs
def LstOf {γ : Type} (K : PySem.W.Frag) (R : Hp → V → γ → Prop) (H : Hp) (a : Addr) (zs : List γ) : Prop := zs.length ≤ 3000 ∧ ∃ vs, SqL K H a vs ∧ Paired (R H) vs zs
abbrev RunsT (K : PySem.W.Frag) := TupOf (γ := Run) K (RunAt K)
abbrev RunsL (K : PySem.W.Frag) := LstOf (γ := Run) K (RunAt K)
abbrev RowsL (K : PySem.W.Frag) := LstOf (γ := Row) K (RowAt K)
/-- it stays -/
def Mono {γ : Type} (R : Hp → V → γ → Prop) : Prop := ∀ (H H' : Hp) (v : V) (z : γ), Same H H' → R H v z → R H' v z
theorem mono_run : Mono (RunAt K) := fun _ _ _ _ e h => h.same e
theorem mono_row : Mono (RowAt K) := fun _ _ _ _ e h => h.same e
theorem mono_pair : Mono (PairAt K) := fun _ _ _ _ e h => h.same e
theorem TupOf.same {γ : Type} {R : Hp → V → γ → Prop} {a : Addr} {zs : List γ} (m : Mono R) (e : Same H H') (h : TupOf K R H a zs) : TupOf K R H' a zs :=
  let ⟨l, vs, t, p⟩ := h; ⟨l, vs, Same.seqT e t, paired_imp p fun v z => m H H' v z e⟩
theorem LstOf.same {γ : Type} {R : Hp → V → γ → Prop} {a : Addr} {zs : List γ} (m : Mono R) (e : Same H H') (h : LstOf K R H a zs) : LstOf K R H' a zs :=
  let ⟨l, vs, t, p⟩ := h; ⟨l, vs, e.seq t, paired_imp p fun v z => m H H' v z e⟩
theorem runsT_same {a : Addr} {rs : List Run} (e : Same H H') (h : RunsT K H a rs) : RunsT K H' a rs := TupOf.same mono_run e h
theorem runsL_same {a : Addr} {rs : List Run} (e : Same H H') (h : RunsL K H a rs) : RunsL K H' a rs := LstOf.same mono_run e h
theorem rowsL_same {a : Addr} {rs : List Row} (e : Same H H') (h : RowsL K H a rs) : RowsL K H' a rs := LstOf.same mono_row e h
end
section
variable {γ : Type} {R : V → γ → Prop}
theorem paired_get : ∀ {vs : List V} {zs : List γ} {i : Nat} {v : V}, Paired R vs zs → vs[i]? = some v → ∃ z, zs[i]? = some z ∧ R v z
  | _, _, _, _, .nil, h => by simp at h
  | _, _, 0, _, .cons r _, h => by simp at h; subst h; exact ⟨_, rfl, r⟩
  | _, _, i + 1, _, .cons _ t, h => by
    obtain ⟨z, h1, h2⟩ := paired_get (i := i) t (by simpa using h)
    exact ⟨z, by simpa using h1, h2⟩
theorem paired_getR : ∀ {vs : List V} {zs : List γ} {i : Nat} {z : γ}, Paired R vs zs → zs[i]? = some z → ∃ v, vs[i]? = some v ∧ R v z
  | _, _, _, _, .nil, h => by simp at h
  | _, _, 0, _, .cons r _, h => by simp at h; subst h; exact ⟨_, rfl, r⟩
  | _, _, i + 1, _, .cons _ t, h => by
    obtain ⟨z, h1, h2⟩ := paired_getR (i := i) t (by simpa using h)
    exact ⟨z, by simpa using h1, h2⟩
theorem paired_at {vs : List V} {zs : List γ} {i : Nat} {v : V} {z : γ} (p : Paired R vs zs) (h : vs[i]? = some v) (hz : zs[i]? = some z) : R v z := by
  obtain ⟨z', h1, h2⟩ := paired_get p h
  rw [hz] at h1
  cases h1
  exact h2
theorem paired_app : ∀ {vs ws : List V} {zs us : List γ}, Paired R vs zs → Paired R ws us → Paired R (vs ++ ws) (zs ++ us)
  | _, _, _, _, .nil, q => q
  | _, _, _, _, .cons r t, q => .cons r (paired_app t q)
theorem paired_drop : ∀ {vs : List V} {zs : List γ} (n : Nat), Paired R vs zs → Paired R (vs.drop n) (zs.drop n)
  | _, _, 0, p => p
  | _, _, _ + 1, .nil => .nil
  | _, _, n + 1, .cons _ t => paired_drop n t
theorem paired_take : ∀ {vs : List V} {zs : List γ} (n : Nat), Paired R vs zs → Paired R (vs.take n) (zs.take n)
  | _, _, 0, _ => .nil
  | _, _, _ + 1, .nil => .nil
  | _, _, n + 1, .cons r t => .cons r (paired_take n t)
theorem paired_perm : ∀ {xs ys : List V}, ys.Perm xs → ∀ {zs : List γ}, Paired R xs zs → ∃ us, Paired R ys us ∧ us.Perm zs := by
  intro xs ys p
  have gen : ∀ {l m : List V}, l.Perm m → ∀ {zs : List γ}, Paired R m zs → ∃ us, Paired R l us ∧ us.Perm zs := by
    intro l m p
    induction p with
    | nil => exact fun q => ⟨_, q, List.Perm.refl _⟩
    | cons x _ ih =>
      intro zs q
      cases q with
      | cons r t =>
        obtain ⟨us, h1, h2⟩ := ih t
        exact ⟨_, .cons r h1, h2.cons _⟩
    | swap x y l =>
      intro zs q
      cases q with
      | cons r t =>
        cases t with
        | cons r' t' => exact ⟨_, .cons r' (.cons r t'), List.Perm.swap _ _ _⟩
    | trans _ _ ih1 ih2 =>
      intro zs q
      obtain ⟨us, h1, h2⟩ := ih2 q
      obtain ⟨ws, h3, h4⟩ := ih1 h1
      exact ⟨ws, h3, h4.trans h2⟩
  exact fun {zs} q => gen p q
theorem paired_mem {vs : List V} {zs : List γ} (p : Paired R vs zs) : ∀ v ∈ vs, ∃ z, z ∈ zs ∧ R v z := fun v hv => by
  obtain ⟨i, hi⟩ := List.getElem?_of_mem hv
  obtain ⟨z, h1, h2⟩ := paired_get p hi
  exact ⟨z, List.mem_of_getElem? h1, h2⟩
theorem paired_pw {W : V → V → Prop} {Z : γ → γ → Prop} : ∀ {ys : List V} {us : List γ}, Paired R ys us → (∀ x y a b, a ∈ us → b ∈ us → R x a → R y b → W x y → Z a b) → ys.Pairwise W → us.Pairwise Z
  | _, _, .nil, _, _ => .nil
  | _, _, .cons (l₁ := ys) (l₂ := us) r t, f, h => by
    obtain ⟨h1, h2⟩ := List.pairwise_cons.mp h
    refine List.Pairwise.cons (fun b hb => ?_) (paired_pw t (fun x y a b ha hb => f x y a b (List.mem_cons_of_mem _ ha) (List.mem_cons_of_mem _ hb)) h2)
    obtain ⟨j, hj⟩ := List.getElem?_of_mem hb
    obtain ⟨v, hv, rv⟩ := paired_getR t hj
    exact f _ v _ b List.mem_cons_self (List.mem_cons_of_mem _ hb) r rv (h1 v (List.mem_of_getElem? hv))
end
/-! ### sorted lists of tuples -/
theorem keyP_code (r : Run) : TS.code 1024 [r.1, r.2] = keyP r := by
  show r.1 * 1024 ^ 1 + (r.2 * 1024 ^ 0 + 0) = r.1 * 1024 + r.2
  rw [Int.pow_succ, Int.pow_zero] <;> omega
theorem keyR_code (r : Row) : TS.code 1024 [r.1, r.2.1, r.2.2] = keyR r := by
  show r.1 * 1024 ^ 2 + (r.2.1 * 1024 ^ 1 + (r.2.2 * 1024 ^ 0 + 0)) = r.1 * 1048576 + r.2.1 * 1024 + r.2.2
  rw [show (1024 : Int) ^ 2 = 1048576 by decide, show (1024 : Int) ^ 1 = 1024 by decide, show (1024 : Int) ^ 0 = 1 by decide]
  omega
theorem okI_iff {n : Int} (h : okI n = true) : 0 ≤ n ∧ n < 1024 := by
  unfold okI at h
  simpa using h
theorem sortRuns_eq {rs zs : List Run} (h : sortRuns rs = some zs) : rs.length < 64 ∧ (∀ r ∈ rs, (0 ≤ r.1 ∧ r.1 < 1024) ∧ 0 ≤ r.2 ∧ r.2 < 1024) ∧ zs = sortK keyP rs := by
  obtain ⟨⟨h1, h2⟩, h3⟩ := og h
  refine ⟨h1, fun r hr => ?_, (Option.some.inj h3).symm⟩
  have q := List.all_eq_true.mp h2 r hr
  obtain ⟨q1, q2⟩ := Bool.and_eq_true_iff.mp q
  exact ⟨okI_iff q1, okI_iff q2⟩
theorem sortRows_eq {rs zs : List Row} (h : sortRows rs = some zs) : rs.length < 64 ∧ (∀ r ∈ rs, (0 ≤ r.1 ∧ r.1 < 1024) ∧ (0 ≤ r.2.1 ∧ r.2.1 < 1024) ∧ 0 ≤ r.2.2 ∧ r.2.2 < 1024) ∧ zs = sortK keyR rs := by
  obtain ⟨⟨h1, h2⟩, h3⟩ := og h
  refine ⟨h1, fun r hr => ?_, (Option.some.inj h3).symm⟩
  have q := List.all_eq_true.mp h2 r hr
  obtain ⟨q1, q2⟩ := Bool.and_eq_true_iff.mp q
  obtain ⟨q3, q4⟩ := Bool.and_eq_true_iff.mp q1
  exact ⟨okI_iff q3, okI_iff q4, okI_iff q2⟩
theorem keyP_inj {a b : Run} (ha : (0 ≤ a.1 ∧ a.1 < 1024) ∧ 0 ≤ a.2 ∧ a.2 < 1024) (hb : (0 ≤ b.1 ∧ b.1 < 1024) ∧ 0 ≤ b.2 ∧ b.2 < 1024) (h : keyP a = keyP b) : a = b := by
  obtain ⟨a1, a2⟩ := a
  obtain ⟨b1, b2⟩ := b
  have h' : a1 * 1024 + a2 = b1 * 1024 + b2 := h
  simp only at ha hb
  rw [Prod.mk.injEq]
  omega
theorem keyR_inj {a b : Row} (ha : (0 ≤ a.1 ∧ a.1 < 1024) ∧ (0 ≤ a.2.1 ∧ a.2.1 < 1024) ∧ 0 ≤ a.2.2 ∧ a.2.2 < 1024) (hb : (0 ≤ b.1 ∧ b.1 < 1024) ∧ (0 ≤ b.2.1 ∧ b.2.1 < 1024) ∧ 0 ≤ b.2.2 ∧ b.2.2 < 1024) (h : keyR a = keyR b) : a = b := by
  obtain ⟨a1, a2, a3⟩ := a
  obtain ⟨b1, b2, b3⟩ := b
  have h' : a1 * 1048576 + a2 * 1024 + a3 = b1 * 1048576 + b2 * 1024 + b3 := h
  simp only at ha hb
  rw [Prod.mk.injEq, Prod.mk.injEq]
  omega
section
variable {K : PySem.W.Frag} {H : Hp}
theorem tupI_inj {x : V} {a : Addr} {ns ms : List Int} {P : Program} {w : World} : True := trivial
theorem RunAt.tupI {v : V} {r : Run} (h : RunAt K H v r) : TupI K H v [r.1, r.2] := h
theorem RowAt.tupI {v : V} {r : Row} (h : RowAt K H v r) : TupI K H v [r.1, r.2.1, r.2.2] := h
/-- sorted(a list of runs) -/
theorem srtP {a : Addr} {zs us : List Run} (h : RunsL K H a zs) (hs : sortRuns zs = some us) : ∃ vs, SqL K H a vs ∧ vs.length < 64 ∧ (∀ x ∈ vs, ∃ ns, TupI K H x ns ∧ ns.length = 2 ∧ TS.Bd 1024 ns) ∧
    ∀ (ys : List V) (p : Addr), ys.Perm vs → ys.Pairwise (fun x y => ∀ n m, TupI K H x n → TupI K H y m → TS.code 1024 n ≤ TS.code 1024 m) → H p = none → Same H (upd H p (.lst ys)) ∧ RunsL K (upd H p (.lst ys)) p us := by
  obtain ⟨hl, vs, hv, pv⟩ := h
  obtain ⟨h64, hb, rfl⟩ := sortRuns_eq hs
  have el := pv.length
  refine ⟨vs, hv, by omega, fun x hx => ?_, fun ys p pm pw hp => ?_⟩
  · obtain ⟨z, hz, rz⟩ := paired_mem pv x hx
    refine ⟨_, rz.tupI, rfl, fun m hm => ?_⟩
    obtain ⟨b1, b2⟩ := hb z hz
    rcases List.mem_cons.mp hm with rfl | hm
    · exact b1
    · rcases List.mem_cons.mp hm with rfl | hm
      · exact b2
      · cases hm
  · obtain ⟨us, pu, pz⟩ := paired_perm pm pv
    have pw2 : us.Pairwise (fun a b => keyP a ≤ keyP b) := paired_pw pu (fun x y a b _ _ rx ry hxy => by
      have e := hxy _ _ rx.tupI ry.tupI
      rw [keyP_code, keyP_code] at e
      exact e) pw
    have eu := sortK_uniq pz pw2 fun a ha b hb' => keyP_inj (hb a ha) (hb b hb')
    have e : Same H (upd H p (.lst ys)) := Same.new hp
    refine ⟨e, by rw [← eu, pz.length_eq]; exact hl, ys, .of upd_same, ?_⟩
    rw [← eu]
    exact paired_imp pu fun v z r => r.same e
theorem srtR {a : Addr} {zs us : List Row} (h : RowsL K H a zs) (hs : sortRows zs = some us) : ∃ vs, SqL K H a vs ∧ vs.length < 64 ∧ (∀ x ∈ vs, ∃ ns, TupI K H x ns ∧ ns.length = 3 ∧ TS.Bd 1024 ns) ∧
    ∀ (ys : List V) (p : Addr), ys.Perm vs → ys.Pairwise (fun x y => ∀ n m, TupI K H x n → TupI K H y m → TS.code 1024 n ≤ TS.code 1024 m) → H p = none → Same H (upd H p (.lst ys)) ∧ RowsL K (upd H p (.lst ys)) p us := by
  obtain ⟨hl, vs, hv, pv⟩ := h
  obtain ⟨h64, hb, rfl⟩ := sortRows_eq hs
  have el := pv.length
  refine ⟨vs, hv, by omega, fun x hx => ?_, fun ys p pm pw hp => ?_⟩
  · obtain ⟨z, hz, rz⟩ := paired_mem pv x hx
    refine ⟨_, rz.tupI, rfl, fun m hm => ?_⟩
    obtain ⟨b1, b2, b3⟩ := hb z hz
    rcases List.mem_cons.mp hm with rfl | hm
    · exact b1
    · rcases List.mem_cons.mp hm with rfl | hm
      · exact b2
      · rcases List.mem_cons.mp hm with rfl | hm
        · exact b3
        · cases hm
  · obtain ⟨us, pu, pz⟩ := paired_perm pm pv
    have pw2 : us.Pairwise (fun a b => keyR a ≤ keyR b) := paired_pw pu (fun x y a b _ _ rx ry hxy => by
      have e := hxy _ _ rx.tupI ry.tupI
      rw [keyR_code, keyR_code] at e
      exact e) pw
    have eu := sortK_uniq pz pw2 fun a ha b hb' => keyR_inj (hb a ha) (hb b hb')
    have e : Same H (upd H p (.lst ys)) := Same.new hp
    refine ⟨e, by rw [← eu, pz.length_eq]; exact hl, ys, .of upd_same, ?_⟩
    rw [← eu]
    exact paired_imp pu fun v z r => r.same e
theorem tyx_tup {a : Addr} {xs : List V} (h : SqT K H a xs) : TyX K H (.ref a) (.type "tuple") := by
  rcases h with (h | ⟨o, h⟩) | ⟨o, its, n, h, hc, _⟩
  · exact .base (.tup h)
  · exact .fTuple h
  · exact .kTuple h hc
end
/-! ### all but the instances stays -/
def Keep (H H' : Hp) : Prop := ∀ b u, (∀ C dx fs, u ≠ .ins C dx fs) → H b = some u → H' b = some u
section
variable {K : PySem.W.Frag} {H H' : Hp}
theorem Same.keep (e : Same H H') : Keep H H' := fun b u _ h => e b u h
theorem Keep.trans {H2 : Hp} (a : Keep H H') (b : Keep H' H2) : Keep H H2 := fun c u n h => b c u n (a c u n h)
theorem Keep.upd {x C dx : Addr} {fs : List (Str × V)} {o : HO} (hx : H x = some (.ins C dx fs)) : Keep H (upd H x o) := fun b u n h => by
  rw [upd_ne (fun e => by subst e; rw [hx] at h; exact n _ _ _ (Option.some.inj h).symm)]
  exact h
theorem Keep.seqT {a : Addr} {xs : List V} (k : Keep H H') (h : SqT K H a xs) : SqT K H' a xs := by
  rcases h with (h | ⟨o, h⟩) | h
  · exact .inl (.inl (k _ _ (fun _ _ _ z => nomatch z) h))
  · exact .inl (.inr ⟨o, k _ _ (fun _ _ _ z => nomatch z) h⟩)
  · exact .inr h
theorem Keep.seqL {a : Addr} {xs : List V} (k : Keep H H') (h : SqL K H a xs) : SqL K H' a xs := by
  rcases h with (h | ⟨o, h⟩) | h
  · exact .inl (.inl (k _ _ (fun _ _ _ z => nomatch z) h))
  · exact .inl (.inr ⟨o, k _ _ (fun _ _ _ z => nomatch z) h⟩)
  · exact .inr h
theorem RunAt.keep {v : V} {r : Run} (e : Keep H H') (h : RunAt K H v r) : RunAt K H' v r := let ⟨a, ea, t⟩ := h; ⟨a, ea, e.seqT t⟩
theorem RowAt.keep {v : V} {r : Row} (e : Keep H H') (h : RowAt K H v r) : RowAt K H' v r := let ⟨a, ea, t⟩ := h; ⟨a, ea, e.seqT t⟩
theorem runsT_keep {a : Addr} {rs : List Run} (e : Keep H H') (h : RunsT K H a rs) : RunsT K H' a rs := let ⟨l, vs, t, p⟩ := h; ⟨l, vs, e.seqT t, paired_imp p fun v z q => q.keep e⟩
theorem runsL_keep {a : Addr} {rs : List Run} (e : Keep H H') (h : RunsL K H a rs) : RunsL K H' a rs := let ⟨l, vs, t, p⟩ := h; ⟨l, vs, e.seqL t, paired_imp p fun v z q => q.keep e⟩
theorem rowsL_keep {a : Addr} {rs : List Row} (e : Keep H H') (h : RowsL K H a rs) : RowsL K H' a rs := let ⟨l, vs, t, p⟩ := h; ⟨l, vs, e.seqL t, paired_imp p fun v z q => q.keep e⟩
end
/-! ### slices -/
theorem cut_from (xs : List V) (n : Nat) : cutV xs (some (n : Int)) none = xs.drop n := by
  unfold cutV
  rw [HT.sIx_nat, HT.sIx_none]
  by_cases h : n ≤ xs.length
  · rw [Nat.min_eq_left h, List.take_of_length_le (by rw [List.length_drop]; exact Nat.le_refl _)]
  · rw [Nat.min_eq_right (by omega), List.drop_eq_nil_of_le (Nat.le_refl _), List.drop_eq_nil_of_le (by omega), List.take_nil]
theorem cut_to (xs : List V) (n : Nat) : cutV xs none (some (n : Int)) = xs.take n := by
  unfold cutV
  rw [HT.sIx_nat, HT.sIx_none, List.drop_zero, Nat.sub_zero]
  by_cases h : n ≤ xs.length
  · rw [Nat.min_eq_left h]
  · rw [Nat.min_eq_right (by omega), List.take_of_length_le (Nat.le_refl _), List.take_of_length_le (by omega)]
theorem cut_both (xs : List V) (i p : Nat) : cutV xs (some (i : Int)) (some (p : Int)) = (xs.take p).drop i := by
  unfold cutV
  rw [HT.sIx_nat, HT.sIx_nat, List.drop_take]
  refine List.ext_getElem? fun k => ?_
  rw [List.getElem?_take, List.getElem?_take, List.getElem?_drop, List.getElem?_drop]
  by_cases h : i ≤ xs.length
  · rw [Nat.min_eq_left h]
    by_cases hp : p ≤ xs.length
    · rw [Nat.min_eq_left hp]
    · rw [Nat.min_eq_right (by omega)]
      by_cases hk : i + k < xs.length
      · rw [if_pos (by omega), if_pos (by omega)]
      · rw [List.getElem?_eq_none (by omega), ite_self, ite_self]
  · rw [Nat.min_eq_right (a := i) (by omega), if_neg (by omega), List.getElem?_eq_none (by omega), ite_self]
theorem Same.none {H H1 : Hp} {D : Addr} (e : Same H H1) (h : H1 D = none) : H D = none := by
  cases q : H D with
  | none => rfl
  | some u => rw [e _ _ q] at h; cases h
section
variable {K : PySem.W.Frag} {H : Hp} {D : Addr}
theorem seqL_drop {p : Addr} {xs : List V} (n : p ≠ D) (h : SqL K H p xs) : SqL K (dropD H D) p xs := by
  rcases h with (h | ⟨o, h⟩) | h
  · exact .inl (.inl (by rw [dropD_ne n]; exact h))
  · exact .inl (.inr ⟨o, by rw [dropD_ne n]; exact h⟩)
  · exact .inr h
theorem seqT_drop {p : Addr} {xs acc : List V} (hD : H D = some (.lst acc)) (h : SqT K H p xs) : SqT K (dropD H D) p xs := stabT hD (fun b o n h => by rw [dropD_ne n]; exact h) h
theorem RunAt.drop {v : V} {r : Run} {acc : List V} (hD : H D = some (.lst acc)) (h : RunAt K H v r) : RunAt K (dropD H D) v r := let ⟨a, ea, t⟩ := h; ⟨a, ea, seqT_drop hD t⟩
theorem RowAt.drop {v : V} {r : Row} {acc : List V} (hD : H D = some (.lst acc)) (h : RowAt K H v r) : RowAt K (dropD H D) v r := let ⟨a, ea, t⟩ := h; ⟨a, ea, seqT_drop hD t⟩
theorem rowsL_drop {a : Addr} {rs : List Row} {acc : List V} (n : a ≠ D) (hD : H D = some (.lst acc)) (h : RowsL K H a rs) : RowsL K (dropD H D) a rs := let ⟨l, vs, t, p⟩ := h; ⟨l, vs, seqL_drop n t, paired_imp p fun v z q => q.drop hD⟩
end
theorem sIx_neg1 (n d : Nat) : HT.sIx n d (some (-1)) = n - 1 := by
  show (if (-1 : Int) < 0 then ((-1 : Int) + (n : Int)).toNat else min (-1 : Int).toNat n) = n - 1
  rw [if_pos (by decide)]
  omega
theorem cut_butlast (xs : List V) : cutV xs none (some (-1)) = xs.dropLast := by
  unfold cutV
  rw [HT.sIx_none, List.drop_zero, Nat.sub_zero, List.dropLast_eq_take]
  rw [sIx_neg1]
theorem cut_mid (xs : List V) (i : Nat) : cutV xs (some (i : Int)) (some (-1)) = xs.dropLast.drop i := by
  by_cases h0 : xs = []
  · subst h0
    simp [cutV]
  have hp : 0 < xs.length := List.length_pos_iff.mpr h0
  have e : cutV xs (some (i : Int)) (some (-1)) = cutV xs (some (i : Int)) (some ((xs.length - 1 : Nat) : Int)) := by
    unfold cutV
    rw [sIx_neg1, HT.sIx_nat xs.length xs.length, Nat.min_eq_left (by omega)]
  rw [e, cut_both, List.dropLast_eq_take]
theorem paired_last {γ : Type} {R : V → γ → Prop} : ∀ {vs : List V} {zs : List γ} {z : γ}, Paired R vs zs → zs.getLast? = some z → ∃ us v, vs = us ++ [v] ∧ Paired R us zs.dropLast ∧ R v z
  | _, _, _, .nil, h => by cases h
  | _, _, _, .cons (l₁ := vs) (l₂ := []) (a := v) (b := y) r t, h => by
    cases t
    obtain rfl := Option.some.inj h
    exact ⟨[], v, rfl, .nil, r⟩
  | _, _, z, .cons (l₁ := vs) (l₂ := y' :: ys) (a := v) (b := y) r t, h => by
    have h' : (y' :: ys).getLast? = some z := by
      rw [List.getLast?_cons_cons] at h
      exact h
    obtain ⟨us, u, rfl, p, q⟩ := paired_last t h'
    refine ⟨v :: us, u, rfl, ?_, q⟩
    rw [List.dropLast_cons_of_ne_nil (by simp)]
    exact .cons r p
theorem paired_dropLast {γ : Type} {R : V → γ → Prop} {vs : List V} {zs : List γ} (p : Paired R vs zs) : Paired R vs.dropLast zs.dropLast := by
  rw [List.dropLast_eq_take, List.dropLast_eq_take, p.length]
  exact paired_take _ p
end K32

/-! rings.py, first part -/
namespace K32
open PySem PyProof.Rows L2
section
variable {P : Program} {w : World} {K : PySem.W.Frag} {mg : Str → Option Value} {base : Heap}
def spIsRun (K : PySem.W.Frag) : Sp := fun vs H Q _ => ∃ (a : Addr) (r : Run), vs = [.ref a] ∧ SqT K H a [.int r.1, .int r.2] ∧ Q (.bl (decide (r.1 ≤ r.2))) H
theorem c_is_run (T : Top K mg) : C8.Cal P w K mg base 2 "is_run" (spIsRun K) [] := by
  refine calF T.is_run (fun _ _ _ _ _ _ us hl => match us, hl with | [_], _ => rfl) sc_is_run (by rintro vs H Q E ⟨i, r, rfl, _⟩; rfl) (fun cdv A outer s H vs Q E hr h => ?_)
  obtain ⟨a, r, rfl, hT, k⟩ := h
  refine ⟨_, (pss_cons (ps_if (PW.pt (pw_or (pt_not (pt_val (pe_callB (clIsi K rfl) (by rfl) T.f_isinstance (by decide +kernel) (pa_cons (pv 0) (pa_cons (pe_bltn (v := .ty "tuple") (u := .type "tuple") (by rfl) T.f_tuple (by decide +kernel) rfl) pa_nil))))) (pw_or (pt_cmpR op_ne (pe_callB (clLen K rfl) (by rfl) T.f_len (by decide +kernel) (pa_cons (pv 0) pa_nil)) pe_int (nomark _)) (pw_or (pt_not (pt_val (C8.pe_c (c_is_whole T) hr (by decide) rfl (pa_cons (pe_ix (ixT K rfl) (pv 0) pe_int (fun _ _ => rfl)) pa_nil)))) (pw_or1 (pt_not (pt_val (C8.pe_c (c_is_whole T) hr (by decide) rfl (pa_cons (pe_ix (ixT K rfl) (pv 0) pe_int (fun _ _ => rfl)) pa_nil))))))))) (pss_one (ps_ret pe_bl)) pss_nil)
      (pss_one (ps_ret (pe_cmpR op_le (pe_ix (ixT K rfl) (pv 0) pe_int (fun _ _ => rfl)) (pe_ix (ixT K rfl) (pv 0) pe_int (fun _ _ => rfl)) (nomark _))))), ?_⟩
  refine ⟨_, rfl, V.ref a, V.ty "tuple", .type "tuple", _, true, rfl, .ty _, tyx_tup hT, kit_ty (by decide +kernel), true, rfl, iteF ?_⟩
  refine ⟨_, rfl, a, _, rfl, .inr hT, rfl, false, rfl, iteF ?_⟩
  refine ⟨_, rfl, a, _, _, _, rfl, rfl, hT, rfl, r.1, rfl, true, rfl, iteF ?_⟩
  refine ⟨_, rfl, a, _, _, _, rfl, rfl, hT, rfl, r.2, rfl, true, rfl, iteF ?_⟩
  exact ⟨_, rfl, a, _, _, _, rfl, rfl, hT, rfl, _, rfl, a, _, _, _, rfl, rfl, hT, rfl, _, _, rfl, rfl, k⟩
def spLengthOf (K : PySem.W.Frag) : Sp := fun vs H Q _ => ∃ (a : Addr) (r : Run), vs = [.ref a] ∧ SqT K H a [.int r.1, .int r.2] ∧ Q (.int (lenR r)) H
theorem c_length_of (T : Top K mg) : C8.Cal P w K mg base 1 "length_of" (spLengthOf K) [] := by
  refine calF T.length_of (fun _ _ _ _ _ _ us hl => match us, hl with | [_], _ => rfl) sc_length_of (by rintro vs H Q E ⟨i, r, rfl, _⟩; rfl) (fun cdv A outer s H vs Q E hr h => ?_)
  obtain ⟨a, r, rfl, hT, k⟩ := h
  refine ⟨_, (pss_one (ps_ret (pe_op op_add (pe_op op_sub (pe_ix (ixT K rfl) (pv 0) pe_int (fun _ _ => rfl)) (pe_ix (ixT K rfl) (pv 0) pe_int (fun _ _ => rfl))) pe_int))), ?_⟩
  exact ⟨_, rfl, a, _, _, _, rfl, rfl, hT, rfl, _, rfl, a, _, _, _, rfl, rfl, hT, rfl, _, _, rfl, rfl, _, _, rfl, rfl, k⟩
def spPlace (K : PySem.W.Frag) : Sp := fun vs H Q _ => ∃ (a : Addr) (ns : List Int) (v : Int) (n : Nat), vs = [.ref a, .int v] ∧ SqL K H a (ns.map V.int) ∧ placeO ns v = some n ∧ Q (.int n) H
theorem c_place_among (T : Top K mg) : C8.Cal P w K mg base 1 "place_among" (spPlace K) [] := by
  refine calF T.place_among (fun _ _ _ _ _ _ us hl => match us, hl with | [_, _], _ => rfl) sc_place_among (by rintro vs H Q E ⟨i, r, v, n, rfl, _⟩; rfl) (fun cdv A outer s H vs Q E hr h => ?_)
  obtain ⟨a, ns, v, n, rfl, hL, hp, k⟩ := h
  refine ⟨_, (pss_cons (ps_par (i := 2) (j := 3) (by rfl) sc_place_among.nd rfl rfl (by decide) rfl rfl (pa_cons pe_int (pa_cons (pe_callB (clLen K rfl) (by rfl) T.f_len (by decide +kernel) (pa_cons (pv 0) pa_nil)) pa_nil)) (by rfl))
      (pss_cons (ps_while PassesOwn.never (pt_cmpR op_lt (pv 2) (pv 3) (nomark _)) (pss_cons (ps_set (i := 4) sc_place_among.nd rfl (Or.inl rfl) (pe_op op_fdiv (pe_op op_add (pv 2) (pv 3)) pe_int))
      (pss_one (ps_if (pt_cmpR op_lt (pe_ix (ixL K rfl) (pv 0) (pv 4) (fun _ _ => rfl)) (pv 1) (nomark _)) (pss_one (ps_set (i := 2) sc_place_among.nd rfl (Or.inl rfl) (pe_op op_add (pv 4) pe_int))) (pss_one (ps_set (i := 3) sc_place_among.nd rfl (Or.inl rfl) (pv 4)))))))
      (pss_one (ps_ret (pv 2))))), ?_⟩
  refine ⟨_, rfl, a, _, rfl, .inl hL, _, _, rfl, ?_⟩
  refine ⟨fun m σ H' => H' = H ∧ ∃ (lo hi : Nat) (mid : Option V), σ = [some (.ref a), some (.int v), some (.int lo), some (.int hi), mid] ∧ placeF (m + 1) ns v lo hi = some n, ⟨63, rfl, 0, ns.length, none, by rw [List.length_map] <;> rfl, hp⟩, ?_⟩
  rintro m σ H' ⟨rfl, lo, hi, mid, rfl, hm⟩
  refine ⟨_, rfl, _, rfl, _, _, rfl, rfl, _, rfl, ?_⟩
  rcases placeF_eq hm with ⟨hb, x, ex, hx⟩ | ⟨hb, rfl⟩
  · rw [decide_eq_true (show (lo : Int) < hi by omega)]
    have ed : ((lo : Int) + hi) / 2 = (((lo + hi) / 2 : Nat) : Int) := by omega
    obtain ⟨m, rfl⟩ : ∃ m', m = m' + 1 := by
      rcases hx with ⟨_, q⟩ | ⟨_, q⟩
      · exact placeF_pos q
      · exact placeF_pos q
    refine iteT ⟨fun σ' H2 => H2 = H' ∧ ∃ (lo hi : Nat) (mid : Option V), σ' = [some (.ref a), some (.int v), some (.int lo), some (.int hi), mid] ∧ placeF (m + 1) ns v lo hi = some n, fun σ' H2 q => ⟨m, Nat.lt_succ_self _, q⟩, ?_⟩
    refine ⟨_, rfl, _, rfl, _, _, rfl, rfl, _, _, rfl, rfl, ⟨by decide, by decide⟩, ?_⟩
    refine ⟨_, rfl, _, rfl, a, _, _, _, rfl, rfl, hL, at_of ed (by rw [List.getElem?_map, ex] <;> rfl), _, rfl, _, _, rfl, rfl, _, rfl, ?_⟩
    rcases hx with ⟨hx, hm'⟩ | ⟨hx, hm'⟩
    · rw [decide_eq_true hx]
      refine iteT ⟨_, rfl, _, _, rfl, rfl, rfl, (lo + hi) / 2 + 1, hi, some (.int (((lo : Int) + hi) / 2)), ?_, hm'⟩
      rw [show (((lo + hi) / 2 + 1 : Nat) : Int) = ((lo : Int) + hi) / 2 + 1 by omega]
      rfl
    · rw [decide_eq_false hx]
      refine iteF ⟨_, rfl, rfl, lo, (lo + hi) / 2, some (.int (((lo : Int) + hi) / 2)), ?_, hm'⟩
      rw [← ed]
      rfl
  · rw [decide_eq_false (show ¬ (n : Int) < hi by omega)]
    exact iteF ⟨_, rfl, k⟩
end
end K32

/-! rings.py: counting -/
namespace K32
open PySem PyProof.Rows L2
section
variable {P : Program} {w : World} {K : PySem.W.Frag} {mg : Str → Option Value} {base : Heap}
def spCount (K : PySem.W.Frag) : Sp := fun vs H Q _ => ∃ (a : Addr) (ns : List Int) (b m s r : Int), vs = [.ref a, .int b, .int m, .int s] ∧ SqL K H a (ns.map V.int) ∧ countO ns b m s = some r ∧ Q (.int r) H
theorem c_count_in (T : Top K mg) : C8.Cal P w K mg base 2 "count_in" (spCount K) [] := by
  refine calF T.count_in (fun _ _ _ _ _ _ us hl => match us, hl with | [_, _, _, _], _ => rfl) sc_count_in (by rintro vs H Q E ⟨a, ns, b, m, s, r, rfl, _⟩; rfl) (fun cdv A outer sh H vs Q E hr h => ?_)
  obtain ⟨a, ns, b, m, s, r, rfl, hL, hc, k⟩ := h
  obtain ⟨h0, h1, h2, p1, p2, e1, e2, e3⟩ := countO_eq hc
  refine ⟨_, (pss_cons (ps_set (i := 4) sc_count_in.nd rfl (Or.inl rfl) (pe_op op_mod (pv 1) (pv 3)))
      (pss_cons (ps_set (i := 5) sc_count_in.nd rfl (Or.inl rfl) (pe_op op_add (pv 4) (pe_op op_mod (pv 2) (pv 3))))
      (pss_cons (ps_set (i := 6) sc_count_in.nd rfl (Or.inl rfl) (pe_op op_sub (pe_op op_add (pe_op op_mul (pe_op op_fdiv (pv 2) (pv 3)) (pe_callB (clLen K rfl) (by rfl) T.f_len (by decide +kernel) (pa_cons (pv 0) pa_nil))) (C8.pe_c (c_place_among T) hr (by decide) rfl (pa_cons (pv 0) (pa_cons (pe_callB (call_min2 rfl) (by rfl) T.f_min (by decide +kernel) (pa_cons (pe_callTy call_int1 (by rfl) T.f_int (by decide +kernel) (pa_cons (pv 3) pa_nil)) (pa_cons (pe_callTy call_int1 (by rfl) T.f_int (by decide +kernel) (pa_cons (pv 5) pa_nil)) pa_nil))) pa_nil)))) (C8.pe_c (c_place_among T) hr (by decide) rfl (pa_cons (pv 0) (pa_cons (pv 4) pa_nil)))))
      (pss_one (ps_ret (pe_op op_add (pv 6) (pe_ifExp (pt_cmpR op_gt (pv 5) (pv 3) (nomark _)) (C8.pe_c (c_place_among T) hr (by decide) rfl (pa_cons (pv 0) (pa_cons (pe_op op_sub (pv 5) (pv 3)) pa_nil))) pe_int))))))), ?_⟩
  refine ⟨_, rfl, _, rfl, _, _, rfl, rfl, h0, _, rfl, _, rfl, _, rfl, _, _, rfl, rfl, h0, _, _, rfl, rfl, ?_⟩
  refine ⟨_, rfl, _, rfl, _, _, rfl, rfl, ⟨h0, h1⟩, _, rfl, a, _, rfl, .inl hL, _, _, rfl, rfl, .inl h2, _, rfl, _, rfl, .inl ⟨_, rfl, _, rfl, .inl ⟨_, rfl, _, _, rfl, a, ns, _, p1, rfl, hL, e1, _, _, rfl, rfl, _, rfl, _, rfl, a, ns, _, p2, rfl, hL, e2, _, _, rfl, rfl, ?_⟩⟩⟩
  simp only [List.length_map]
  refine ⟨_, rfl, _, rfl, _, rfl, _, _, rfl, rfl, _, rfl, ?_⟩
  rcases e3 with ⟨hg, p3, e3, rfl⟩ | ⟨hg, rfl⟩
  · rw [decide_eq_true hg]
    exact iteT ⟨_, rfl, _, rfl, _, rfl, _, _, rfl, rfl, a, ns, _, p3, rfl, hL, e3, _, _, rfl, rfl, k⟩
  · rw [decide_eq_false hg]
    exact iteF ⟨_, _, rfl, rfl, k⟩
def spRemainders (K : PySem.W.Frag) : Sp := fun vs H Q _ => ∃ (a : Addr) (rs : List Run) (s : Int) (zs : List Int), vs = [.ref a, .int s] ∧ RunsT K H a rs ∧ remaindersO rs s = some zs ∧ ∀ p H', Same H H' → H' p = some (.lst (zs.map V.int)) → Q (.ref p) H'
theorem c_remainders (T : Top K mg) : C8.Cal P w K mg base 1 "remainders" (spRemainders K) [] := by
  refine calF T.remainders (fun _ _ _ _ _ _ us hl => match us, hl with | [_, _], _ => rfl) sc_remainders (by rintro vs H Q E ⟨a, rs, s, zs, rfl, _⟩; rfl) (fun cdv A outer sh H vs Q E hr h => ?_)
  obtain ⟨a, rs, s, zs, rfl, ⟨hl, us, hT, pu⟩, hz, k⟩ := h
  obtain ⟨ns, hn, rfl⟩ := remaindersO_eq hz
  refine ⟨_, (pss_one (ps_ret (pe_callB (clSortI K rfl) (by rfl) T.f_sorted (by decide +kernel) (pa_cons (pe_lc (own := [("run", 2)]) rfl sc_remainders.nd (piT K rfl (pv 0)) (blkOk_by (own := [("run", 2)]) (N := N_remainders) (sc := defScope s_remainders) (by decide +kernel)) (fun _ _ _ _ _ => (pg_name (i := 2) sc_remainders.nd rfl (Or.inl rfl))) (fun _ _ _ _ _ => pts_nil) (fun _ _ _ _ _ => (pe_callTy call_int1 (by rfl) T.f_int (by decide +kernel) (pa_cons (pe_op op_mod (pe_ix (ixT K rfl) (pv 2) pe_int (fun _ _ => rfl)) (pv 1)) pa_nil)))) pa_nil)))), ?_⟩
  have el := pu.length
  refine ⟨_, rfl, a, rfl, ⟨_, hT⟩, fun D hD => lcA (its_tup hT) hD ns stab_int ((mapO_eq hn).1.trans el.symm) (by omega) (fun i x z H' hi hx hzi e Qe q => ?_) gname_mono fun ys H' e hy py => ?_⟩
  · obtain ⟨r, hr1, ⟨b, rfl, hb⟩⟩ := paired_get pu hx
    obtain ⟨hs, rfl⟩ := pmod_eq (mapO_at (f := fun r : Run => pmod r.1 s) hn hr1 hzi)
    exact ⟨rfl, _, rfl, b, _, _, _, rfl, rfl, Same.seqT e hb, rfl, _, rfl, _, _, rfl, rfl, hs, .inl ⟨_, rfl, q _ _ (Same.refl _) rfl⟩⟩
  · rw [paired_int py] at hy
    refine ⟨D, ns, rfl, .of hy, fun ns' p pm pw hp => ?_⟩
    rw [sortI_uniq pm pw]
    exact k p _ (e.trans (Same.new hp)) upd_same
def TabP (K : PySem.W.Frag) (H : Hp) (a : Addr) (t : Tab) : Prop := ∃ b, SqT K H a [.int t.1, .ref b] ∧ RunsT K H b t.2
theorem TabP.same {H H' : Hp} {a : Addr} {t : Tab} (e : Same H H') (h : TabP K H a t) : TabP K H' a t := let ⟨b, h1, h2⟩ := h; ⟨b, Same.seqT e h1, runsT_same e h2⟩
def spMeets (K : PySem.W.Frag) : Sp := fun vs H Q _ => ∃ (a b : Addr) (t o : Tab) (m : Int), vs = [.ref a, .ref b] ∧ TabP K H a t ∧ TabP K H b o ∧ meetsO t o = some m ∧ ∀ H', Same H H' → Q (.int m) H'
theorem c_meets (T : Top K mg) : C8.Cal P w K mg base 4 "meets" (spMeets K) [] := by
  refine calF T.meets (fun _ _ _ _ _ _ us hl => match us, hl with | [_, _], _ => rfl) sc_meets (by rintro vs H Q E ⟨a, b, t, o, m, rfl, _⟩; rfl) (fun cdv A outer sh H vs Q E hr h => ?_)
  obtain ⟨a, b', t, o, m, rfl, ⟨a2, hA, hA2⟩, ⟨b2, hB, hB2⟩, hm, k⟩ := h
  obtain ⟨step, own, its, c1, c2, h1, h2, h3, h4, h5, rfl⟩ := meetsO_eq hm
  refine ⟨_, (pss_cons (ps_set (i := 2) sc_meets.nd rfl (Or.inr rfl) (pe_cR (c_common T) hr (by decide) rfl (pa_cons (pe_ix (ixT K rfl) (pv 0) pe_int (fun _ _ => rfl)) (pa_cons (pe_ix (ixT K rfl) (pv 1) pe_int (fun _ _ => rfl)) pa_nil))))
      (pss_cons (ps_asg (pe_tup (pa_cons (C8.pe_c (c_remainders T) hr (by decide) rfl (pa_cons (pe_ix (ixT K rfl) (pv 0) pe_int (fun _ _ => rfl)) (pa_cons (pv 2) pa_nil))) (pa_cons (C8.pe_c (c_remainders T) hr (by decide) rfl (pa_cons (pe_ix (ixT K rfl) (pv 1) pe_int (fun _ _ => rfl)) (pa_cons (pv 2) pa_nil))) pa_nil))) (pgT K 2 rfl (by rfl) (pgs_cons (pg_name (i := 3) sc_meets.nd rfl (Or.inr rfl)) (pgs_cons (pg_name (i := 4) sc_meets.nd rfl (Or.inr rfl)) pgs_nil))))
      (pss_cons (ps_set (i := 5) sc_meets.nd rfl (Or.inl rfl) (pe_callB (clSum K rfl rfl) (by rfl) T.f_sum (by decide +kernel) (pa_cons (pe_lc (own := [("run", 6)]) rfl sc_meets.nd (piT K rfl (pe_ix (ixT K rfl) (pv 0) pe_int (fun _ _ => rfl))) (blkOk_by (own := [("run", 6)]) (N := N_meets) (sc := defScope s_meets) (by decide +kernel)) (fun _ _ _ _ _ => (pg_name (i := 6) sc_meets.nd rfl (Or.inl rfl))) (fun _ _ _ _ _ => pts_nil) (fun _ _ _ _ _ => (C8.pe_c (c_count_in T) hr (by decide) rfl (pa_cons (pv 4) (pa_cons (pe_ix (ixT K rfl) (pv 6) pe_int (fun _ _ => rfl)) (pa_cons (C8.pe_c (c_length_of T) hr (by decide) rfl (pa_cons (pv 6) pa_nil)) (pa_cons (pv 2) pa_nil))))))) pa_nil)))
      (pss_one (ps_ret (pe_op op_add (pv 5) (pe_callB (clSum K rfl rfl) (by rfl) T.f_sum (by decide +kernel) (pa_cons (pe_lc (own := [("run", 6)]) rfl sc_meets.nd (piT K rfl (pe_ix (ixT K rfl) (pv 1) pe_int (fun _ _ => rfl))) (blkOk_by (own := [("run", 6)]) (N := N_meets) (sc := defScope s_meets) (by decide +kernel)) (fun _ _ _ _ _ => (pg_name (i := 6) sc_meets.nd rfl (Or.inl rfl))) (fun _ _ _ _ _ => pts_nil) (fun _ _ _ _ _ => (C8.pe_c (c_count_in T) hr (by decide) rfl (pa_cons (pv 3) (pa_cons (pe_op op_add (pe_ix (ixT K rfl) (pv 6) pe_int (fun _ _ => rfl)) pe_int) (pa_cons (pe_op op_sub (C8.pe_c (c_length_of T) hr (by decide) rfl (pa_cons (pv 6) pa_nil)) pe_int) (pa_cons (pv 2) pa_nil))))))) pa_nil)))))))), ?_⟩
  refine ⟨_, rfl, a, _, _, _, rfl, rfl, hA, rfl, _, rfl, b', _, _, _, rfl, rfl, hB, rfl, [t.1, o.1], step, rfl, by simp, h1, fun H1 e1 => ?_⟩
  refine ⟨_, rfl, a, _, _, _, rfl, rfl, Same.seqT e1 hA, rfl, _, rfl, a2, t.2, step, own, rfl, runsT_same e1 hA2, h2, fun p1 H2 e2 hp1 => ?_⟩
  have e12 := e1.trans e2
  refine ⟨_, rfl, b', _, _, _, rfl, rfl, Same.seqT e12 hB, rfl, _, rfl, b2, o.2, step, its, rfl, runsT_same e12 hB2, h3, fun p2 H3 e3 hp2 => ?_⟩
  have e13 := e12.trans e3
  refine ⟨(by show (2 : Nat) ≤ sizeLine; decide), fun p hp => ⟨p, _, rfl, .inl (.inl upd_same), rfl, _, _, rfl, _, _, rfl, rfl, ?_⟩⟩
  have e14 := e13.trans (Same.new (o := .tup [.ref p1, .ref p2]) hp)
  obtain ⟨hl1, us1, hT1, pu1⟩ := runsT_same e14 hA2
  obtain ⟨hl2, us2, hT2, pu2⟩ := runsT_same e14 hB2
  have el1 := pu1.length
  have el2 := pu2.length
  have hown : SqL K _ p1 (own.map V.int) := .of (Same.new (o := .tup [.ref p1, .ref p2]) hp _ _ (e3 _ _ hp1))
  have hits : SqL K _ p2 (its.map V.int) := .of (Same.new (o := .tup [.ref p1, .ref p2]) hp _ _ hp2)
  refine ⟨_, rfl, a, _, _, _, rfl, rfl, Same.seqT e14 hA, rfl, a2, rfl, ⟨_, hT1⟩, fun D hD => lcA (its_tup hT1) hD c1 stab_int ((mapO_eq h4).1.trans el1.symm) (by omega) (fun i x z H' hi hx hzi e Qe q => ?_) gname_mono fun ys H' e hy py => ?_⟩
  · obtain ⟨r, hr1, ⟨b, rfl, hb⟩⟩ := paired_get pu1 hx
    have hc := mapO_at (f := fun r : Run => countO its r.1 (lenR r) step) h4 hr1 hzi
    exact ⟨rfl, _, rfl, _, rfl, b, _, _, _, rfl, rfl, Same.seqT e hb, rfl, _, rfl, b, r, rfl, Same.seqT e hb, _, rfl, p2, its, r.1, lenR r, step, z, rfl, e.seq hits, hc, q _ _ (Same.refl _) rfl⟩
  · rw [paired_int py] at hy
    refine ⟨D, c1, rfl, .of hy, ?_⟩
    refine ⟨_, rfl, _, rfl, b', _, _, _, rfl, rfl, Same.seqT (e14.trans e) hB, rfl, b2, rfl, ⟨_, Same.seqT e hT2⟩, fun D2 hD2 => lcA (its_tup (Same.seqT e hT2)) hD2 c2 stab_int ((mapO_eq h5).1.trans el2.symm) (by omega) (fun i x z H' hi hx hzi e' Qe q => ?_) gname_mono fun ys2 H' e' hy2 py2 => ?_⟩
    · obtain ⟨r, hr1, ⟨b, rfl, hb⟩⟩ := paired_get pu2 hx
      have hc := mapO_at (f := fun r : Run => countO own (r.1 + 1) (lenR r - 1) step) h5 hr1 hzi
      have hb' := Same.seqT (e.trans e') hb
      exact ⟨rfl, _, rfl, _, rfl, b, _, _, _, rfl, rfl, hb', rfl, _, _, rfl, rfl, _, rfl, b, r, rfl, hb', _, _, rfl, rfl, _, rfl, p1, own, r.1 + 1, lenR r - 1, step, z, rfl, (e.trans e').seq hown, hc, q _ _ (Same.refl _) rfl⟩
    · rw [paired_int py2] at hy2
      exact ⟨D2, c2, rfl, .of hy2, _, _, rfl, rfl, k _ ((e14.trans e).trans e')⟩
end
end K32

/-! rings.py: Round, Ranked -/
namespace K32
open PySem PyProof.Rows L2
section
variable {P : Program} {w : World} {K : PySem.W.Frag} {mg : Str → Option Value} {base : Heap}
def RndAt (K : PySem.W.Frag) (t : Rnd) (H : Hp) (a : Addr) : Prop := ∃ dx, H a = some (.ins (ga K "Round") dx [("step", .int t.step), ("own", .int t.own), ("part", .int t.part), ("total", .int t.total), ("inverse", .int t.inverse)])
theorem RndAt.same {t : Rnd} {H H' : Hp} {a : Addr} (e : Same H H') (h : RndAt K t H a) : RndAt K t H' a := h.imp fun _ z => e _ _ z
def spRound (K : PySem.W.Frag) : Sp := InitSp (ga K "Round") fun G ws Ob => ∃ p o t, ws = [.int p, .int o] ∧ roundO p o = some t ∧ Ob = RndAt K t
theorem mk_Round (T : Top K mg) : C8.Mak P w K mg base 4 "Round" (ga K "Round") (spRound K) [] := by
  refine makF T.mk_Round T.c_Round T.Round___init__ (fun _ _ _ _ _ _ us hl => match us, hl with | [_, _, _], _ => rfl) sc_Round___init__ (by rintro vs H Q E ⟨x, dx, ws, Ob, rfl, _, ⟨p, o, t, rfl, _⟩, _⟩; rfl) (fun cdv A outer sh H vs Q E hr h => ?_)
  obtain ⟨x, dx, ws, Ob, rfl, hx, ⟨p, o, t, rfl, ht, rfl⟩, k⟩ := h
  obtain ⟨h1, h2, h3, h4, h5, h6⟩ := roundO_eq ht
  refine ⟨_, (pss_cons (sfldK K rfl (pv 0) (pe_cR (c_common T) hr (by decide) rfl (pa_cons (pv 1) (pa_cons (pv 2) pa_nil))) rfl)
      (pss_cons (sfldK K rfl (pv 0) (pv 1) rfl)
      (pss_cons (sfldK K rfl (pv 0) (pe_op op_fdiv (pv 2) (fldK K rfl (pv 0) rfl)) rfl)
      (pss_cons (sfldK K rfl (pv 0) (pe_cR (c_multiple T) hr (by decide) rfl (pa_cons (pv 1) (pa_cons (pv 2) pa_nil))) rfl)
      (pss_one (sfldK K rfl (pv 0) (C8.pe_c (c_inverse_of T) hr (by decide) rfl (pa_cons (pe_op op_fdiv (pv 1) (fldK K rfl (pv 0) rfl)) (pa_cons (fldK K rfl (pv 0) rfl) pa_nil))) rfl)))))), ?_⟩
  refine ⟨_, rfl, _, rfl, [p, o], t.step, rfl, by simp, h1, fun H1 e1 => ⟨_, rfl, x, _, _, _, rfl, e1 _ _ hx, T.k_Round, T.n_Round_step, few rfl, ?_⟩⟩
  refine ⟨_, rfl, _, rfl, x, _, _, _, rfl, upd_same, T.k_Round, T.n_Round_own, few rfl, ?_⟩
  refine ⟨_, rfl, _, rfl, x, _, _, _, _, rfl, upd_same, T.k_Round, T.n_Round_step, rfl, _, _, rfl, rfl, h2, _, rfl, x, _, _, _, rfl, upd_same, T.k_Round, T.n_Round_part, few rfl, ?_⟩
  refine ⟨_, rfl, _, rfl, [p, o], t.total, rfl, by simp, h5, fun H2 e2 => ⟨_, rfl, x, _, _, _, rfl, e2 _ _ upd_same, T.k_Round, T.n_Round_total, few rfl, ?_⟩⟩
  refine ⟨_, rfl, _, rfl, x, _, _, _, _, rfl, upd_same, T.k_Round, T.n_Round_step, rfl, _, _, rfl, rfl, h2, _, rfl, x, _, _, _, _, rfl, upd_same, T.k_Round, T.n_Round_part, rfl, p / t.step, t.part, t.inverse, by rw [h4] <;> rfl, h6, fun H3 e3 => ⟨_, rfl, x, _, _, _, rfl, e3 _ _ upd_same, T.k_Round, T.n_Round_inverse, few rfl, ?_⟩⟩
  exact k _ (Same.updX dropD_at ((Same.updX dropD_at (Same.trans (Same.updX dropD_at (Same.updX dropD_at (Same.updX dropD_at (drop_same.trans e1)))) e2)).trans e3)) ⟨dx, by rw [h3, h4] <;> exact upd_same⟩
def spRoundPlace (K : PySem.W.Frag) : Sp := fun vs H Q _ => ∃ a t f l b, vs = [.ref a, .int f, .int l] ∧ RndAt K t H a ∧ placeR t f l = some b ∧ Q (.int b) H
theorem m_Round_place (T : Top K mg) : C8.Met P w K mg base 1 (ga K "Round") "place" (spRoundPlace K) [] := by
  refine metF T.k_Round T.m_Round_place T.Round_place (fun _ _ _ _ _ _ us hl => match us, hl with | [_, _, _], _ => rfl) sc_Round_place (by rintro vs H Q E ⟨a, t, f, l, b, rfl, _⟩; rfl) (fun cdv A outer sh H vs Q E hr h => ?_)
  obtain ⟨a, t, f, l, b, rfl, ⟨dx, ha⟩, hp, k⟩ := h
  obtain ⟨h1, h2, h3, h4, h5, rfl⟩ := placeR_eq hp
  refine ⟨_, (pss_cons (ps_set (i := 3) sc_Round_place.nd rfl (Or.inl rfl) (pe_op op_mod (pe_op op_mul (pe_op op_fdiv (pe_op op_sub (pv 2) (pv 1)) (fldK K rfl (pv 0) rfl)) (fldK K rfl (pv 0) rfl)) (fldK K rfl (pv 0) rfl)))
      (pss_one (ps_ret (pe_op op_mod (pe_op op_add (pv 1) (pe_op op_mul (fldK K rfl (pv 0) rfl) (pv 3))) (fldK K rfl (pv 0) rfl))))), ?_⟩
  refine ⟨_, rfl, _, rfl, _, _, rfl, rfl, _, rfl, a, _, _, _, _, rfl, ha, T.k_Round, T.n_Round_step, rfl, _, _, rfl, rfl, h1, _, rfl, a, _, _, _, _, rfl, ha, T.k_Round, T.n_Round_inverse, rfl, _, _, rfl, rfl, .inl h2, ?_⟩
  refine ⟨_, rfl, a, _, _, _, _, rfl, ha, T.k_Round, T.n_Round_part, rfl, _, _, rfl, rfl, h3, ?_⟩
  refine ⟨_, rfl, _, rfl, a, _, _, _, _, rfl, ha, T.k_Round, T.n_Round_own, rfl, _, rfl, _, _, rfl, rfl, .inl h4, _, _, rfl, rfl, _, rfl, a, _, _, _, _, rfl, ha, T.k_Round, T.n_Round_total, rfl, _, _, rfl, rfl, h5, k⟩
def RkdAt (K : PySem.W.Frag) (k : Rkd) (H : Hp) (a : Addr) : Prop := ∃ dx ra fa, H a = some (.ins (ga K "Ranked") dx [("step", .int k.step), ("rows", .ref ra), ("firsts", .ref fa)]) ∧ (RowsL K H ra k.rows ∧ k.rows.length ≤ 64) ∧ SqL K H fa ((k.rows.map (·.1)).map V.int)
theorem RkdAt.same {k : Rkd} {H H' : Hp} {a : Addr} (e : Same H H') (h : RkdAt K k H a) : RkdAt K k H' a := let ⟨dx, ra, fa, h1, h2, h3⟩ := h; ⟨dx, ra, fa, e _ _ h1, ⟨rowsL_same e h2.1, h2.2⟩, e.seq h3⟩
def spRanked (K : PySem.W.Frag) : Sp := InitSp (ga K "Ranked") fun G ws Ob => ∃ a rs s k, ws = [.ref a, .int s] ∧ RunsT K G a rs ∧ rankedO rs s = some k ∧ Ob = RkdAt K k
theorem mk_Ranked (T : Top K mg) : C8.Mak P w K mg base 1 "Ranked" (ga K "Ranked") (spRanked K) [] := by
  refine makF T.mk_Ranked T.c_Ranked T.Ranked___init__ (fun _ _ _ _ _ _ us hl => match us, hl with | [_, _, _], _ => rfl) sc_Ranked___init__ (by rintro vs H Q E ⟨x, dx, ws, Ob, rfl, _, ⟨a, rs, s, k, rfl, _⟩, _⟩; rfl) (fun cdv A outer sh H vs Q E hr h => ?_)
  obtain ⟨x, dx, ws, Ob, rfl, hx, ⟨a, rs, s, k, rfl, hT, hk, rfl⟩, q⟩ := h
  obtain ⟨rfl, ws, h1, h2⟩ := rankedO_eq hk
  refine ⟨_, (pss_cons (sfldK K rfl (pv 0) (pv 2) rfl)
      (pss_cons (sfldK K rfl (pv 0) (pe_callB (clSortT K rfl (d := 3) (B := 1024) (by decide)) (by rfl) T.f_sorted (by decide +kernel) (pa_cons (pe_lc (own := [("run", 3)]) rfl sc_Ranked___init__.nd (piT K rfl (pv 1)) (blkOk_by (own := [("run", 3)]) (N := N_Ranked___init__) (sc := defScope s_Ranked___init__) (by decide +kernel)) (fun _ _ _ _ _ => (pg_name (i := 3) sc_Ranked___init__.nd rfl (Or.inl rfl))) (fun _ _ _ _ _ => pts_nil) (fun _ _ _ _ _ => (pe_tup (pa_cons (pe_callTy call_int1 (by rfl) T.f_int (by decide +kernel) (pa_cons (pe_op op_mod (pe_ix (ixT K rfl) (pv 3) pe_int (fun _ _ => rfl)) (pv 2)) pa_nil)) (pa_cons (pe_callTy call_int1 (by rfl) T.f_int (by decide +kernel) (pa_cons (pe_ix (ixT K rfl) (pv 3) pe_int (fun _ _ => rfl)) pa_nil)) (pa_cons (pe_callTy call_int1 (by rfl) T.f_int (by decide +kernel) (pa_cons (pe_ix (ixT K rfl) (pv 3) pe_int (fun _ _ => rfl)) pa_nil)) pa_nil)))))) pa_nil)) rfl)
      (pss_one (sfldK K rfl (pv 0) (pe_lc (own := [("row", 4)]) rfl sc_Ranked___init__.nd (piL K rfl (fldK K rfl (pv 0) rfl)) (blkOk_by (own := [("row", 4)]) (N := N_Ranked___init__) (sc := defScope s_Ranked___init__) (by decide +kernel)) (fun _ _ _ _ _ => (pg_name (i := 4) sc_Ranked___init__.nd rfl (Or.inl rfl))) (fun _ _ _ _ _ => pts_nil) (fun _ _ _ _ _ => (pe_ix (ixT K rfl) (pv 4) pe_int (fun _ _ => rfl)))) rfl)))), ?_⟩
  refine ⟨_, rfl, _, rfl, x, _, _, _, rfl, hx, T.k_Ranked, T.n_Ranked_step, few rfl, ?_⟩
  have g1 : Same (dropD H x) (upd H x (.ins (ga K "Ranked") dx [("step", .int k.step)])) := Same.updX dropD_at drop_same
  obtain ⟨hl, us, hU, pu⟩ := runsT_same g1 hT
  have el := pu.length
  refine ⟨_, rfl, a, rfl, ⟨_, hU⟩, fun D hD => lcA (its_tup hU) hD ws (stab_row (K := K)) ((mapO_eq h1).1.trans el.symm) (by omega) (fun i y z H' hi hy hzi e Qe q => ?_) gname_mono fun ys H' e hy py => ?_⟩
  · obtain ⟨r, hr1, ⟨b, rfl, hb⟩⟩ := paired_get pu hy
    have hb := Same.seqT e hb
    obtain ⟨hs, rfl⟩ := rankRow_eq (mapO_at h1 hr1 hzi)
    exact ⟨rfl, _, rfl, b, _, _, _, rfl, rfl, hb, rfl, _, rfl, _, _, rfl, rfl, hs, .inl ⟨_, rfl, _, rfl, b, _, _, _, rfl, rfl, hb, rfl, .inl ⟨_, rfl, _, rfl, b, _, _, _, rfl, rfl, hb, rfl, .inl ⟨_, rfl, (by show (3 : Nat) ≤ sizeLine; decide), fun p hp => q _ _ (Same.new hp) ⟨p, rfl, .inl (.inl upd_same)⟩⟩⟩⟩⟩
  · have hL : RowsL K H' D ws := ⟨by rw [(mapO_eq h1).1]; exact hl, ys, .of hy, py⟩
    obtain ⟨vs0, a1, a2, a3, a4⟩ := srtR hL h2
    have h64 : k.rows.length ≤ 64 := by
      obtain ⟨b1, _, b2⟩ := sortRows_eq h2
      rw [b2, sortK_perm.length_eq]
      omega
    refine ⟨D, vs0, rfl, a1, a2, a3, fun ys2 p pm pw hp => ?_⟩
    obtain ⟨e2, hR⟩ := a4 ys2 p pm pw hp
    have hx2 := e2 _ _ (e _ _ upd_same)
    refine ⟨_, rfl, x, _, _, _, rfl, hx2, T.k_Ranked, T.n_Ranked_rows, few rfl, ?_⟩
    have hR3 := rowsL_keep (Keep.upd (o := .ins (ga K "Ranked") dx [("step", .int k.step), ("rows", .ref p)]) hx2) hR
    obtain ⟨hl3, us3, hU3, pu3⟩ := hR3
    have el3 := pu3.length
    refine ⟨_, rfl, x, _, _, _, _, rfl, upd_same, T.k_Ranked, T.n_Ranked_rows, rfl, p, rfl, ⟨_, hU3⟩, fun D4 hD4 => lcA (its_list hU3) hD4 (k.rows.map (·.1)) stab_int (by rw [List.length_map, el3]) (by omega) (fun i y z H' hi hy hzi e Qe q => ?_) gname_mono fun ys4 H4 e4 hy4 py4 => ?_⟩
    · obtain ⟨r, hr1, ⟨b, rfl, hb⟩⟩ := paired_get pu3 hy
      have hb := Same.seqT e hb
      rw [List.getElem?_map, hr1] at hzi
      exact ⟨rfl, _, rfl, b, _, _, _, rfl, rfl, hb, rfl, q _ _ (Same.refl _) (by rw [← Option.some.inj hzi] <;> rfl)⟩
    · rw [paired_int py4] at hy4
      have hx4 := e4 _ _ upd_same
      refine ⟨_, rfl, x, _, _, _, rfl, hx4, T.k_Ranked, T.n_Ranked_firsts, few rfl, ?_⟩
      have kp := Keep.upd (o := .ins (ga K "Ranked") dx [("step", .int k.step), ("rows", .ref p), ("firsts", .ref D4)]) hx4
      exact q _ (Same.updX dropD_at (Same.trans (Same.updX dropD_at ((g1.trans e).trans e2)) e4)) ⟨dx, p, D4, upd_same, ⟨rowsL_keep kp (rowsL_same e4 ⟨hl3, us3, hU3, pu3⟩), h64⟩, kp.seqL (.of hy4)⟩
def spHit (K : PySem.W.Frag) : Sp := fun vs H Q _ => ∃ a k b m ws, vs = [.ref a, .int b, .int m] ∧ RkdAt K k H a ∧ hitO k b m = some ws ∧ ∀ p H', Same H H' → RowsL K H' p ws → Q (.ref p) H'
theorem m_hit (T : Top K mg) : C8.Met P w K mg base 2 (ga K "Ranked") "hit" (spHit K) [] := by
  refine metF T.k_Ranked T.m_Ranked_hit T.Ranked_hit (fun _ _ _ _ _ _ us hl => match us, hl with | [_, _, _], _ => rfl) sc_Ranked_hit (by rintro vs H Q E ⟨a, k, b, m, ws, rfl, _⟩; rfl) (fun cdv A outer sh H vs Q E hr h => ?_)
  obtain ⟨a, k, b, m, ws, rfl, ⟨dx, ra, fa, ha, ⟨hR, h64⟩, hF⟩, hh, q⟩ := h
  have hw : ws.length ≤ 3000 := by
    rcases hitO_eq hh with ⟨hc, rfl⟩ | ⟨hc, hs, first, hf, ⟨hd, p, hp, rfl⟩ | ⟨hd, p, hp, rfl⟩⟩
    · omega
    · rw [List.length_drop, List.length_take]
      omega
    · rw [List.length_append, List.length_drop, List.length_take]
      omega
  refine ⟨_, (pss_cons (ps_if (pt_cmpR op_ge (pv 2) (fldK K rfl (pv 0) rfl) (nomark _)) (pss_one (ps_ret (fldK K rfl (pv 0) rfl))) pss_nil)
      (pss_cons (ps_set (i := 3) sc_Ranked_hit.nd rfl (Or.inl rfl) (pe_op op_mod (pv 1) (fldK K rfl (pv 0) rfl)))
      (pss_cons (ps_set (i := 4) sc_Ranked_hit.nd rfl (Or.inl rfl) (pe_op op_add (pv 3) (pv 2)))
      (pss_cons (ps_set (i := 5) sc_Ranked_hit.nd rfl (Or.inl rfl) (C8.pe_c (c_place_among T) hr (by decide) rfl (pa_cons (fldK K rfl (pv 0) rfl) (pa_cons (pv 3) pa_nil))))
      (pss_cons (ps_if (pt_cmpR op_le (pv 4) (fldK K rfl (pv 0) rfl) (nomark _)) (pss_one (ps_ret (pe_slice (slL K rfl) (fldK K rfl (pv 0) rfl) (po_some (pv 5)) (po_some (C8.pe_c (c_place_among T) hr (by decide) rfl (pa_cons (fldK K rfl (pv 0) rfl) (pa_cons (pv 4) pa_nil))))))) pss_nil)
      (pss_one (ps_ret (pe_lst (starK K rfl (pe_slice (slL K rfl) (fldK K rfl (pv 0) rfl) (po_some (pv 5)) po_none) (starK K rfl (pe_slice (slL K rfl) (fldK K rfl (pv 0) rfl) po_none (po_some (C8.pe_c (c_place_among T) hr (by decide) rfl (pa_cons (fldK K rfl (pv 0) rfl) (pa_cons (pe_op op_sub (pv 4) (fldK K rfl (pv 0) rfl)) pa_nil))))) pa_nil)))))))))), ?_⟩
  refine ⟨_, rfl, _, rfl, a, _, _, _, _, rfl, ha, T.k_Ranked, T.n_Ranked_step, rfl, _, _, rfl, rfl, _, rfl, ?_⟩
  rcases hitO_eq hh with ⟨hc, rfl⟩ | ⟨hc, hs, first, hf, hx⟩
  · rw [decide_eq_true hc]
    exact iteT ⟨_, rfl, a, _, _, _, _, rfl, ha, T.k_Ranked, T.n_Ranked_rows, rfl, q _ _ (Same.refl _) hR⟩
  rw [decide_eq_false hc]
  refine iteF ⟨_, rfl, _, rfl, a, _, _, _, _, rfl, ha, T.k_Ranked, T.n_Ranked_step, rfl, _, _, rfl, rfl, hs, _, rfl, _, rfl, _, _, rfl, rfl, ?_⟩
  refine ⟨_, rfl, a, _, _, _, _, rfl, ha, T.k_Ranked, T.n_Ranked_firsts, rfl, _, rfl, fa, _, _, first, rfl, hF, hf, ?_⟩
  refine ⟨_, rfl, _, rfl, a, _, _, _, _, rfl, ha, T.k_Ranked, T.n_Ranked_step, rfl, _, _, rfl, rfl, _, rfl, ?_⟩
  obtain ⟨hl, us, hU, pu⟩ := hR
  rcases hx with ⟨hd, p, hp, rfl⟩ | ⟨hd, p, hp, rfl⟩
  · rw [decide_eq_true hd]
    refine iteT ⟨_, rfl, a, _, _, _, _, rfl, ha, T.k_Ranked, T.n_Ranked_rows, rfl, _, rfl, _, rfl, _, rfl, a, _, _, _, _, rfl, ha, T.k_Ranked, T.n_Ranked_firsts, rfl, _, rfl, fa, _, _, p, rfl, hF, hp, _, rfl, ra, us, rfl, hU, fun l hl0 => ?_⟩
    refine q _ _ (Same.new hl0) ⟨hw, _, .of upd_same, ?_⟩
    rw [cut_both]
    exact paired_imp (paired_drop _ (paired_take _ pu)) fun v z r => r.same (Same.new hl0)
  · rw [decide_eq_false hd]
    refine iteF ⟨_, rfl, a, _, _, _, _, rfl, ha, T.k_Ranked, T.n_Ranked_rows, rfl, _, rfl, _, rfl, ra, us, rfl, hU, fun l1 hl1 => ⟨l1, _, rfl, .inr (.of upd_same), ?_⟩⟩
    have e1 : Same H (upd H l1 (.lst (cutV us (some (first : Int)) none))) := Same.new hl1
    refine ⟨_, rfl, a, _, _, _, _, rfl, e1 _ _ ha, T.k_Ranked, T.n_Ranked_rows, rfl, _, rfl, a, _, _, _, _, rfl, e1 _ _ ha, T.k_Ranked, T.n_Ranked_firsts, rfl, _, rfl, _, rfl, a, _, _, _, _, rfl, e1 _ _ ha, T.k_Ranked, T.n_Ranked_step, rfl, _, _, rfl, rfl, fa, _, _, p, rfl, e1.seq hF, hp, _, rfl, ra, us, rfl, e1.seq hU, fun l2 hl2 => ⟨l2, _, rfl, .inr (.of upd_same), ?_⟩⟩
    have e2 := e1.trans (Same.new (o := .lst (cutV us none (some (p : Int)))) hl2)
    have pp : ∀ G, Same H G → Paired (RowAt K G) (cutV us (some (first : Int)) none ++ (cutV us none (some (p : Int)) ++ [])) (k.rows.drop first ++ k.rows.take p) := fun G e => by
      rw [cut_from, cut_to, List.append_nil]
      exact paired_imp (paired_app (paired_drop _ pu) (paired_take _ pu)) fun v z r => r.same e
    refine ⟨?_, fun l3 hl3 => q _ _ (e2.trans (Same.new hl3)) ⟨hw, _, .of upd_same, pp _ (e2.trans (Same.new hl3))⟩⟩
    have := (pp H (Same.refl _)).length
    rw [this]
    exact Nat.le_trans hw (by decide)
end
end K32

/-! rings.py: shared runs -/
namespace K32
open PySem PyProof.Rows L2
section
variable {P : Program} {w : World} {K : PySem.W.Frag} {mg : Str → Option Value} {base : Heap}
def spBegun (K : PySem.W.Frag) : Sp := fun vs H Q _ => ∃ a c r k l ws, vs = [.ref a, .ref c, .int l] ∧ SqT K H a [.int r.1, .int r.2] ∧ RkdAt K k H c ∧ beginO r k l = some ws ∧ ∀ p H', Same H H' → H p = none → RowsL K H' p ws → Q (.ref p) H'
theorem c_begun_inside (T : Top K mg) : C8.Cal P w K mg base 3 "begun_inside" (spBegun K) [] := by
  refine calF T.begun_inside (fun _ _ _ _ _ _ us hl => match us, hl with | [_, _, _], _ => rfl) sc_begun_inside (by rintro vs H Q E ⟨a, c, r, k, l, ws, rfl, _⟩; rfl) (fun cdv A outer sh H vs Q E hr h => ?_)
  obtain ⟨a, c, r, k, l, ws, rfl, hA, hC, hb, q⟩ := h
  obtain ⟨rows, some_, parts, h1, h2, h3, h4, rfl⟩ := beginO_eq hb
  refine ⟨_, (pss_cons (ps_asg (pe_tup (pa_cons (C8.pe_c (c_length_of T) hr (by decide) rfl (pa_cons (pv 0) pa_nil)) (pa_cons (fldK K rfl (pv 1) rfl) pa_nil))) (pgT K 2 rfl (by rfl) (pgs_cons (pg_name (i := 3) sc_begun_inside.nd rfl (Or.inr rfl)) (pgs_cons (pg_name (i := 4) sc_begun_inside.nd rfl (Or.inr rfl)) pgs_nil))))
      (C8.pss_cut (ps_set (i := 5) sc_begun_inside.nd rfl (Or.inl rfl) (pe_ifExp (pt_cmpR op_gt (pv 3) (pv 2) (nomark _)) (C8.pe_mt (m_hit T) hr (by decide) (pv 1) (pa_cons (pe_op op_add (pe_ix (ixT K rfl) (pv 0) pe_int (fun _ _ => rfl)) (pv 2)) (pa_cons (pe_op op_sub (pv 3) (pv 2)) pa_nil))) (pe_lst pa_nil)))
      (pss_cons (ps_setLc (i := 6) (own := [("key", 7), ("begin", 8), ("end", 9)]) rfl sc_begun_inside.nd rfl rfl (sw_true rfl rfl rfl (by decide +kernel)) (piL K rfl (pv 5)) (blkOk_by (own := [("key", 7), ("begin", 8), ("end", 9)]) (N := N_begun_inside) (sc := defScope s_begun_inside) (by decide +kernel)) (fun _ _ _ _ _ => (pgT K 3 rfl (by rfl) (pgs_cons (pg_name (i := 7) sc_begun_inside.nd rfl (Or.inl rfl)) (pgs_cons (pg_name (i := 8) sc_begun_inside.nd rfl (Or.inl rfl)) (pgs_cons (pg_name (i := 9) sc_begun_inside.nd rfl (Or.inl rfl)) pgs_nil))))) (fun _ _ _ _ _ => pts_nil) (fun _ _ _ _ _ => (pe_tup (pa_cons (pv 8) (pa_cons (pv 9) (pa_cons (pe_op op_add (pe_op op_mod (pe_op op_sub (pe_op op_sub (pv 8) (pe_ix (ixT K rfl) (pv 0) pe_int (fun _ _ => rfl))) (pv 2)) (pv 4)) (pv 2)) pa_nil))))))
      (pss_one (ps_ret (pe_lc2 (own := [("begin", 8), ("end", 9), ("low", 10), ("gap", 11)]) (vs1 := [11]) rfl sc_begun_inside.nd (piL K rfl (pv 6)) (blkOk_by (own := [("begin", 8), ("end", 9), ("low", 10), ("gap", 11)]) (N := N_begun_inside) (sc := defScope s_begun_inside) (by decide +kernel)) (by decide) (fun _ _ _ _ _ => (pgT K 3 rfl (by rfl) (pgs_cons (pg_name (i := 8) sc_begun_inside.nd rfl (Or.inl rfl)) (pgs_cons (pg_name (i := 9) sc_begun_inside.nd rfl (Or.inl rfl)) (pgs_cons (pg_name (i := 10) sc_begun_inside.nd rfl (Or.inl rfl)) pgs_nil))))) (fun _ _ _ _ _ => pts_nil) (fun _ _ _ _ _ => (pi_range3 rfl T.f_range (pa_cons (pv 10) (pa_cons (pv 3) (pa_cons (pv 4) pa_nil))))) (fun _ _ _ _ _ => (pg_name (i := 11) sc_begun_inside.nd rfl (Or.inl rfl))) (fun _ _ _ _ _ => pts_nil) (fun _ _ _ _ _ => (pe_tup (pa_cons (pv 8) (pa_cons (pv 9) (pa_cons (pv 11) pa_nil))))))))))), ?_⟩
  have hC' := hC
  obtain ⟨dx, ra, fa, hc, _, _⟩ := hC'
  refine ⟨_, rfl, a, r, rfl, hA, _, rfl, c, _, _, _, _, rfl, hc, T.k_Ranked, T.n_Ranked_step, rfl, ?_⟩
  refine ⟨(by show (2 : Nat) ≤ sizeLine; decide), fun p0 hp0 => ⟨p0, _, rfl, .inl (.inl upd_same), rfl, _, _, rfl, _, _, rfl, rfl, ?_⟩⟩
  have e0 : Same H (upd H p0 (.tup [.int (lenR r), .int k.step])) := Same.new hp0
  refine ⟨fun σ H' => ∃ p, σ = [some (.ref a), some (.ref c), some (.int l), some (.int (lenR r)), some (.int k.step), some (.ref p), none, none, none, none, none, none] ∧ Same H H' ∧ RowsL K H' p rows, ?_, ?_⟩
  · refine ⟨_, rfl, _, rfl, _, _, rfl, rfl, _, rfl, ?_⟩
    rcases h1 with ⟨hd, h1⟩ | ⟨hd, rfl⟩
    · rw [decide_eq_true hd]
      refine iteT ⟨_, rfl, c, dx, _, rfl, e0 _ _ hc, rfl, _, rfl, a, _, _, _, rfl, rfl, Same.seqT e0 hA, rfl, _, rfl, _, _, rfl, rfl, _, rfl, _, rfl, _, _, rfl, rfl, ?_⟩
      exact ⟨c, k, r.1 + l, lenR r - l, rows, rfl, hC.same e0, h1, fun p H' e' hR => ⟨p, rfl, e0.trans e', hR⟩⟩
    · rw [decide_eq_false hd]
      exact iteF ⟨(by decide), fun p hp => ⟨p, rfl, e0.trans (Same.new hp), (by decide), [], .of upd_same, .nil⟩⟩
  · rintro σ H1 ⟨p, rfl, e1, hl, us, hU, pu⟩
    have el := pu.length
    refine ⟨_, rfl, p, rfl, ⟨_, hU⟩, fun D hD => lcA (its_list hU) hD some_ (stab_row (K := K)) ((mapO_eq h2).1.trans el.symm) (by omega) (fun i y z H' hi hy hzi e Qe q => ?_) mg_n3 fun ys H' e hy py => ?_⟩
    · obtain ⟨w, hw, ⟨b, rfl, hb⟩⟩ := paired_get pu hy
      have hb := Same.seqT e hb
      obtain ⟨hs, rfl⟩ := lowRow_eq (mapO_at h2 hw hzi)
      have hA' := Same.seqT (e1.trans e) hA
      refine ⟨b, _, rfl, hb, rfl, _, _, rfl, _, _, rfl, _, _, rfl, rfl, rfl, ?_⟩
      exact ⟨_, rfl, _, rfl, _, rfl, _, rfl, a, _, _, _, rfl, rfl, hA', rfl, _, _, rfl, rfl, _, rfl, _, _, rfl, rfl, _, rfl, _, _, rfl, rfl, hs, _, rfl, _, _, rfl, rfl, (by show (3 : Nat) ≤ sizeLine; decide), fun p hp => q _ _ (Same.new hp) ⟨p, rfl, .inl (.inl upd_same)⟩⟩
    · have e11 := e1.trans e
      have ly := py.length
      refine ⟨_, rfl, D, rfl, ⟨_, .of hy⟩, fun D2 hD2 => lc2A (its_list (.of hy)) hD2 parts (stab_row (K := K)) ((mapO_eq h3).1.trans ly.symm) (by omega) (fun i y zs H2 acc hi hyi hzi e2 hD3 Kt kt => ?_) mg_n3 gname_mono fun ys2 H2 e2 hy2 py2 => ?_⟩
      · obtain ⟨w, hw, ⟨b, rfl, hb⟩⟩ := paired_get py hyi
        have hb := Same.seqT e2 hb
        obtain ⟨⟨hs, hsm⟩, hn, hg⟩ := gapRows_eq (mapO_at h3 hw hzi)
        refine ⟨b, _, rfl, hb, rfl, _, _, rfl, _, _, rfl, _, _, rfl, rfl, rfl, ?_⟩
        refine ⟨_, rfl, _, rfl, _, rfl, _, _, _, zs.length, rfl, ⟨by omega, by omega, hsm, hn⟩, kt _ _ _ _ (Same.refl _) its_rangeC fun j y z H5 hj hyj hzj e5 Qe q => ?_⟩
        obtain rfl := hyj
        obtain rfl := hg j z hzj
        exact ⟨rfl, _, rfl, _, rfl, _, rfl, (by show (3 : Nat) ≤ sizeLine; decide), fun p hp => q _ _ (Same.new hp) ⟨p, rfl, .inl (.inl upd_same)⟩⟩
      · exact q _ _ (e11.trans e2) (Same.none e11 hD2) ⟨h4, ys2, .of hy2, py2⟩
def spFar (K : PySem.W.Frag) : Sp := fun vs H Q _ => ∃ a b r w, vs = [.ref a, .ref b] ∧ SqT K H a [.int r.1, .int r.2] ∧ SqT K H b [.int w.1, .int w.2.1, .int w.2.2] ∧ Q (.int (farR r w)) H
theorem c_shared_far (T : Top K mg) : C8.Cal P w K mg base 1 "shared_far" (spFar K) [] := by
  refine calF T.shared_far (fun _ _ _ _ _ _ us hl => match us, hl with | [_, _], _ => rfl) sc_shared_far (by rintro vs H Q E ⟨a, b, r, w, rfl, _⟩; rfl) (fun cdv A outer sh H vs Q E hr h => ?_)
  obtain ⟨a, b, r, w, rfl, hA, hB, q⟩ := h
  refine ⟨_, (pss_one (ps_ret (pe_callB (call_min2 rfl) (by rfl) T.f_min (by decide +kernel) (pa_cons (pe_callTy call_int1 (by rfl) T.f_int (by decide +kernel) (pa_cons (pe_op op_sub (pe_op op_sub (pe_ix (ixT K rfl) (pv 0) pe_int (fun _ _ => rfl)) (pe_ix (ixT K rfl) (pv 0) pe_int (fun _ _ => rfl))) (pe_ix (ixT K rfl) (pv 1) pe_int (fun _ _ => rfl))) pa_nil)) (pa_cons (pe_callTy call_int1 (by rfl) T.f_int (by decide +kernel) (pa_cons (pe_op op_sub (pe_ix (ixT K rfl) (pv 1) pe_int (fun _ _ => rfl)) (pe_ix (ixT K rfl) (pv 1) pe_int (fun _ _ => rfl))) pa_nil)) pa_nil))))), ?_⟩
  exact ⟨_, rfl, a, _, _, _, rfl, rfl, hA, rfl, _, rfl, a, _, _, _, rfl, rfl, hA, rfl, _, _, rfl, rfl, _, rfl, b, _, _, _, rfl, rfl, hB, rfl, _, _, rfl, rfl, .inl ⟨_, rfl, _, rfl, b, _, _, _, rfl, rfl, hB, rfl, _, rfl, b, _, _, _, rfl, rfl, hB, rfl, _, _, rfl, rfl, .inl ⟨_, rfl, _, _, rfl, q⟩⟩⟩
def spShared (K : PySem.W.Frag) : Sp := fun vs H Q _ => ∃ (a b : Addr) (t o u : Tab), vs = [.ref a, .ref b] ∧ TabP K H a t ∧ TabP K H b o ∧ sharedO t o = some u ∧ ∀ p H', Same H H' → H p = none → TabP K H' p u → Q (.ref p) H'
theorem c_shared_runs (T : Top K mg) : C8.Cal P w K mg base 6 "shared_runs" (spShared K) [] := by
  refine calF T.shared_runs (fun _ _ _ _ _ _ us hl => match us, hl with | [_, _], _ => rfl) sc_shared_runs (by rintro vs H Q E ⟨a, b, t, o, u, rfl, _⟩; rfl) (fun cdv A outer sh H vs Q E hr h => ?_)
  obtain ⟨a, b', t, o, u, rfl, ⟨a2, hA, hA2⟩, ⟨b2, hB, hB2⟩, hu, q⟩ := h
  obtain ⟨turn, own, its, later, found, ahead, more, h1, h2, h3, h4, h5, h6, h7, h8, h9⟩ := sharedO_eq hu
  refine ⟨_, (pss_cons (ps_set (i := 2) sc_shared_runs.nd rfl (Or.inr rfl) (C8.pe_mk (mk_Round T) hr (by decide) rfl (pa_cons (pe_ix (ixT K rfl) (pv 0) pe_int (fun _ _ => rfl)) (pa_cons (pe_ix (ixT K rfl) (pv 1) pe_int (fun _ _ => rfl)) pa_nil))))
      (C8.pss_cut (ps_asg (pe_tup (pa_cons (C8.pe_mk (mk_Ranked T) hr (by decide) rfl (pa_cons (pe_ix (ixT K rfl) (pv 0) pe_int (fun _ _ => rfl)) (pa_cons (fldK K rfl (pv 2) rfl) pa_nil))) (pa_cons (C8.pe_mk (mk_Ranked T) hr (by decide) rfl (pa_cons (pe_ix (ixT K rfl) (pv 1) pe_int (fun _ _ => rfl)) (pa_cons (fldK K rfl (pv 2) rfl) pa_nil))) pa_nil))) (pgT K 2 rfl (by rfl) (pgs_cons (pg_name (i := 3) sc_shared_runs.nd rfl (Or.inr rfl)) (pgs_cons (pg_name (i := 4) sc_shared_runs.nd rfl (Or.inr rfl)) pgs_nil))))
      (C8.pss_cut (ps_setLc2 (i := 5) (own := [("run", 6), ("row", 7)]) (vs1 := [7]) rfl sc_shared_runs.nd rfl rfl (sw_true rfl rfl rfl (by decide +kernel)) (piT K rfl (pe_ix (ixT K rfl) (pv 0) pe_int (fun _ _ => rfl))) (blkOk_by (own := [("run", 6), ("row", 7)]) (N := N_shared_runs) (sc := defScope s_shared_runs) (by decide +kernel)) (by decide) (fun _ _ _ _ _ => (pg_name (i := 6) sc_shared_runs.nd rfl (Or.inl rfl))) (fun _ _ _ _ _ => pts_nil) (fun _ _ _ _ _ => (piL K rfl (C8.pe_c (c_begun_inside T) hr (by decide) rfl (pa_cons (pv 6) (pa_cons (pv 4) (pa_cons pe_int pa_nil)))))) (fun _ _ _ _ _ => (pg_name (i := 7) sc_shared_runs.nd rfl (Or.inl rfl))) (fun _ _ _ _ _ => pts_nil) (fun _ _ _ _ _ => (pe_tup (pa_cons (pv 6) (pa_cons (pv 7) pa_nil)))))
      (C8.pss_cut (ps_setLc (i := 8) (own := [("run", 6), ("row", 7)]) rfl sc_shared_runs.nd rfl rfl (sw_true rfl rfl rfl (by decide +kernel)) (piL K rfl (pv 5)) (blkOk_by (own := [("run", 6), ("row", 7)]) (N := N_shared_runs) (sc := defScope s_shared_runs) (by decide +kernel)) (fun _ _ _ _ _ => (pgT K 2 rfl (by rfl) (pgs_cons (pg_name (i := 6) sc_shared_runs.nd rfl (Or.inl rfl)) (pgs_cons (pg_name (i := 7) sc_shared_runs.nd rfl (Or.inl rfl)) pgs_nil)))) (fun _ _ _ _ _ => pts_nil) (fun _ _ _ _ _ => (pe_tup (pa_cons (C8.pe_mt (m_Round_place T) hr (by decide) (pv 2) (pa_cons (pe_op op_add (pe_ix (ixT K rfl) (pv 6) pe_int (fun _ _ => rfl)) (pe_ix (ixT K rfl) (pv 7) pe_int (fun _ _ => rfl))) (pa_cons (pe_ix (ixT K rfl) (pv 7) pe_int (fun _ _ => rfl)) pa_nil))) (pa_cons (C8.pe_c (c_shared_far T) hr (by decide) rfl (pa_cons (pv 6) (pa_cons (pv 7) pa_nil))) pa_nil)))))
      (C8.pss_cut (ps_setLc2 (i := 9) (own := [("run", 6), ("row", 7)]) (vs1 := [7]) rfl sc_shared_runs.nd rfl rfl (sw_true rfl rfl rfl (by decide +kernel)) (piT K rfl (pe_ix (ixT K rfl) (pv 1) pe_int (fun _ _ => rfl))) (blkOk_by (own := [("run", 6), ("row", 7)]) (N := N_shared_runs) (sc := defScope s_shared_runs) (by decide +kernel)) (by decide) (fun _ _ _ _ _ => (pg_name (i := 6) sc_shared_runs.nd rfl (Or.inl rfl))) (fun _ _ _ _ _ => pts_nil) (fun _ _ _ _ _ => (piL K rfl (C8.pe_c (c_begun_inside T) hr (by decide) rfl (pa_cons (pv 6) (pa_cons (pv 3) (pa_cons pe_int pa_nil)))))) (fun _ _ _ _ _ => (pg_name (i := 7) sc_shared_runs.nd rfl (Or.inl rfl))) (fun _ _ _ _ _ => pts_nil) (fun _ _ _ _ _ => (pe_tup (pa_cons (pv 6) (pa_cons (pv 7) pa_nil)))))
      (C8.pss_cut (ps_setLc (i := 10) (own := [("run", 6), ("row", 7)]) rfl sc_shared_runs.nd rfl rfl (sw_true rfl rfl rfl (by decide +kernel)) (piL K rfl (pv 9)) (blkOk_by (own := [("run", 6), ("row", 7)]) (N := N_shared_runs) (sc := defScope s_shared_runs) (by decide +kernel)) (fun _ _ _ _ _ => (pgT K 2 rfl (by rfl) (pgs_cons (pg_name (i := 6) sc_shared_runs.nd rfl (Or.inl rfl)) (pgs_cons (pg_name (i := 7) sc_shared_runs.nd rfl (Or.inl rfl)) pgs_nil)))) (fun _ _ _ _ _ => pts_nil) (fun _ _ _ _ _ => (pe_tup (pa_cons (C8.pe_mt (m_Round_place T) hr (by decide) (pv 2) (pa_cons (pe_ix (ixT K rfl) (pv 7) pe_int (fun _ _ => rfl)) (pa_cons (pe_op op_add (pe_ix (ixT K rfl) (pv 6) pe_int (fun _ _ => rfl)) (pe_ix (ixT K rfl) (pv 7) pe_int (fun _ _ => rfl))) pa_nil))) (pa_cons (C8.pe_c (c_shared_far T) hr (by decide) rfl (pa_cons (pv 6) (pa_cons (pv 7) pa_nil))) pa_nil)))))
      (pss_one (ps_ret (pe_tup (pa_cons (fldK K rfl (pv 2) rfl) (pa_cons (pe_callTy (clTup K rfl) (by rfl) T.f_tuple (by decide +kernel) (pa_cons (pe_callB (clSortT K rfl (d := 2) (B := 1024) (by decide)) (by rfl) T.f_sorted (by decide +kernel) (pa_cons (pe_lc (own := [("begin", 11), ("far", 12)]) rfl sc_shared_runs.nd (piL K rfl (pe_lst (starK K rfl (pv 8) (starK K rfl (pv 10) pa_nil)))) (blkOk_by (own := [("begin", 11), ("far", 12)]) (N := N_shared_runs) (sc := defScope s_shared_runs) (by decide +kernel)) (fun _ _ _ _ _ => (pgT K 2 rfl (by rfl) (pgs_cons (pg_name (i := 11) sc_shared_runs.nd rfl (Or.inl rfl)) (pgs_cons (pg_name (i := 12) sc_shared_runs.nd rfl (Or.inl rfl)) pgs_nil)))) (fun _ _ _ _ _ => pts_nil) (fun _ _ _ _ _ => (pe_tup (pa_cons (pv 11) (pa_cons (pe_op op_add (pv 11) (pv 12)) pa_nil))))) pa_nil)) pa_nil)) pa_nil))))))))))), ?_⟩
  refine ⟨_, rfl, a, _, _, _, rfl, rfl, hA, rfl, _, rfl, b', _, _, _, rfl, rfl, hB, rfl, fun x dx hx hdx hne => ⟨x, dx, _, RndAt K turn, rfl, upd_same, ⟨t.1, o.1, turn, rfl, h1, rfl⟩, fun H1 e1' hR => ⟨rfl, ?_⟩⟩⟩
  have e1 : Same H H1 := Same.trans (made_same hx hdx) e1'
  obtain ⟨rdx, hR'⟩ := hR
  refine ⟨fun σ H' => ∃ x y z : Addr, σ = [some (.ref a), some (.ref b'), some (.ref x), some (.ref y), some (.ref z), none, none, none, none, none, none, none, none] ∧ Same H H' ∧ RndAt K turn H' x ∧ RkdAt K own H' y ∧ RkdAt K its H' z, ?_, ?_⟩
  · refine ⟨_, rfl, a, _, _, _, rfl, rfl, Same.seqT e1 hA, rfl, _, rfl, x, _, _, _, _, rfl, hR', T.k_Round, T.n_Round_step, rfl, fun y dy hy hdy hney => ⟨y, dy, _, RkdAt K own, rfl, upd_same, ⟨a2, t.2, turn.step, own, rfl, runsT_same (e1.trans (made_same hy hdy)) hA2, h2, rfl⟩, fun H2 e2' hO => ⟨rfl, ?_⟩⟩⟩
    have e12 : Same H1 H2 := Same.trans (made_same hy hdy) e2'
    have e2 : Same H H2 := e1.trans e12
    refine ⟨_, rfl, b', _, _, _, rfl, rfl, Same.seqT e2 hB, rfl, _, rfl, x, _, _, _, _, rfl, e12 _ _ hR', T.k_Round, T.n_Round_step, rfl, fun z dz hz hdz hnez => ⟨z, dz, _, RkdAt K its, rfl, upd_same, ⟨b2, o.2, turn.step, its, rfl, runsT_same (e2.trans (made_same hz hdz)) hB2, h3, rfl⟩, fun H3 e3' hI => ⟨rfl, ?_⟩⟩⟩
    have e23 : Same H2 H3 := Same.trans (made_same hz hdz) e3'
    refine ⟨(by show (2 : Nat) ≤ sizeLine; decide), fun p hp => ⟨p, _, rfl, .inl (.inl upd_same), rfl, _, _, rfl, _, _, rfl, rfl, ?_⟩⟩
    have e34 : Same H3 (upd H3 p (.tup [.ref y, .ref z])) := Same.new hp
    exact ⟨x, y, z, rfl, (e2.trans e23).trans e34, ⟨rdx, e34 _ _ (e23 _ _ (e12 _ _ hR'))⟩, hO.same (e23.trans e34), hI.same e34⟩
  clear hR' e1 e1'
  rintro σ H4 ⟨x, y, z, rfl, e4, hR4, hO4, hI4⟩
  refine ⟨fun σ H' => ∃ x y z l : Addr, σ = [some (.ref a), some (.ref b'), some (.ref x), some (.ref y), some (.ref z), some (.ref l), none, none, none, none, none, none, none] ∧ Same H H' ∧ RndAt K turn H' x ∧ RkdAt K own H' y ∧ RkdAt K its H' z ∧ LstOf K (PairAt K) H' l later, ?_, ?_⟩
  · clear q
    obtain ⟨lz, lz1, lz2, rfl⟩ := pairsO_eq h4
    obtain ⟨lzl, lzu, lzU, lzp⟩ := runsT_same e4 hA2
    have lzel := lzp.length
    refine ⟨_, rfl, a, _, _, _, rfl, rfl, Same.seqT e4 hA, rfl, a2, rfl, ⟨_, lzU⟩, fun D hD => lc2A (its_tup lzU) hD lz (stab_pair (K := K)) ((mapO_eq lz1).1.trans lzel.symm) (by omega) (fun i v zs H' acc hi hv hzi e hD' Kt kt => ?_) gname_mono gname_mono fun ys H5 e hy py => ?_⟩
    · obtain ⟨r, hr1, ⟨c, rfl, hc⟩⟩ := paired_get lzp hv
      obtain ⟨rows, hb, rfl⟩ := pairRow_eq (mapO_at lz1 hr1 hzi)
      have hc := Same.seqT e hc
      refine ⟨rfl, _, rfl, _, rfl, c, z, r, its, 0, rows, rfl, hc, hI4.same e, hb, fun p H5 e5 hp hRw => ?_⟩
      have hne : p ≠ D := fun z => by rw [z, hD'] at hp; cases hp
      obtain ⟨wl, wv, wS, wp⟩ := rowsL_drop hne (e5 _ _ hD') hRw
      have hJ : ItsOk (Itl K p) (dropD H5 D) (rows.map fun w => (r, w)).length (fun i x _ => wv[i]? = some x) := by
        rw [List.length_map, ← wp.length]
        exact its_list wS
      refine ⟨p, rfl, ⟨_, hRw.2.choose_spec.1⟩, kt _ _ _ _ e5 hJ fun j y z H6 hj hy hzj e6 Qe q => ?_⟩
      obtain ⟨w0, hw0, hw⟩ := paired_get wp hy
      rw [List.getElem?_map, hw0] at hzj
      obtain rfl := Option.some.inj hzj
      refine ⟨rfl, _, rfl, _, rfl, (by show (2 : Nat) ≤ sizeLine; decide), fun p2 hp2 => q _ _ (Same.new hp2) ⟨p2, _, _, rfl, .inl (.inl upd_same), ?_, ?_⟩⟩
      · exact RunAt.same (Same.trans e6 (Same.new hp2)) (RunAt.drop (e5 _ _ hD') ⟨c, rfl, Same.seqT e5 hc⟩)
      · exact RowAt.same (Same.trans e6 (Same.new hp2)) hw
    · exact ⟨x, y, z, D, rfl, e4.trans e, hR4.same e, hO4.same e, hI4.same e, lz2, ys, .of hy, py⟩
  rintro σ H4 ⟨x, y, z, l, rfl, e4, hR4, hO4, hI4, hll, lu, lS, lp⟩
  refine ⟨fun σ H' => ∃ x y z l f : Addr, σ = [some (.ref a), some (.ref b'), some (.ref x), some (.ref y), some (.ref z), some (.ref l), none, none, some (.ref f), none, none, none, none] ∧ Same H H' ∧ RndAt K turn H' x ∧ RkdAt K own H' y ∧ RkdAt K its H' z ∧ RunsL K H' f found, ?_, ?_⟩
  · clear q
    refine ⟨_, rfl, l, rfl, ⟨_, lS⟩, fun D hD => lcA (its_list lS) hD found (stab_run (K := K)) (by rw [(mapO_eq h5).1, lp.length]) (by have := lp.length; omega) (fun i v b H' hi hv hbi e Qe q => ?_) mg_n2 fun ys H5 e hy py => ?_⟩
    · obtain ⟨z, hz, ⟨c, x1, x2, rfl, hc, ⟨cr, rfl, hr'⟩, cw, rfl, hw'⟩⟩ := paired_get lp hv
      obtain ⟨f1, f2⟩ := placed_eq (mapO_at h5 hz hbi)
      have hc := Same.seqT e hc
      have hr' := Same.seqT e hr'
      have hw' := Same.seqT e hw'
      have hRR := hR4.same e
      have hRR' := hRR
      obtain ⟨rdx, hR'⟩ := hRR'
      refine ⟨c, _, rfl, hc, rfl, _, _, rfl, _, _, rfl, rfl, rfl, ?_⟩
      refine ⟨_, rfl, x, rdx, _, rfl, hR', rfl, _, rfl, cr, _, _, _, rfl, rfl, hr', rfl, _, rfl, cw, _, _, _, rfl, rfl, hw', rfl, _, _, rfl, rfl, _, rfl, cw, _, _, _, rfl, rfl, hw', rfl, x, turn, z.1.1 + z.2.2.2, z.2.1, b.1, rfl, hRR, f1, ?_⟩
      refine ⟨_, rfl, _, rfl, cr, cw, z.1, z.2, rfl, hr', hw', (by show (2 : Nat) ≤ sizeLine; decide), fun p hp => q _ _ (Same.new hp) ⟨p, rfl, .inl (.inl ?_)⟩⟩
      rw [f2]
      exact upd_same
    · exact ⟨x, y, z, l, D, rfl, e4.trans e, hR4.same e, hO4.same e, hI4.same e, by rw [(mapO_eq h5).1]; exact hll, ys, .of hy, py⟩
  clear lS lp
  rintro σ H4 ⟨x, y, z, l, f, rfl, e4, hR4, hO4, hI4, hF⟩
  refine ⟨fun σ H' => ∃ x y z l f h : Addr, σ = [some (.ref a), some (.ref b'), some (.ref x), some (.ref y), some (.ref z), some (.ref l), none, none, some (.ref f), some (.ref h), none, none, none] ∧ Same H H' ∧ RndAt K turn H' x ∧ RkdAt K own H' y ∧ RkdAt K its H' z ∧ RunsL K H' f found ∧ LstOf K (PairAt K) H' h ahead, ?_, ?_⟩
  · clear q
    obtain ⟨lz, lz1, lz2, rfl⟩ := pairsO_eq h6
    obtain ⟨lzl, lzu, lzU, lzp⟩ := runsT_same e4 hB2
    have lzel := lzp.length
    refine ⟨_, rfl, b', _, _, _, rfl, rfl, Same.seqT e4 hB, rfl, b2, rfl, ⟨_, lzU⟩, fun D hD => lc2A (its_tup lzU) hD lz (stab_pair (K := K)) ((mapO_eq lz1).1.trans lzel.symm) (by omega) (fun i v zs H' acc hi hv hzi e hD' Kt kt => ?_) gname_mono gname_mono fun ys H5 e hy py => ?_⟩
    · obtain ⟨r, hr1, ⟨c, rfl, hc⟩⟩ := paired_get lzp hv
      obtain ⟨rows, hb, rfl⟩ := pairRow_eq (mapO_at lz1 hr1 hzi)
      have hc := Same.seqT e hc
      refine ⟨rfl, _, rfl, _, rfl, c, y, r, own, 1, rows, rfl, hc, hO4.same e, hb, fun p H5 e5 hp hRw => ?_⟩
      have hne : p ≠ D := fun z => by rw [z, hD'] at hp; cases hp
      obtain ⟨wl, wv, wS, wp⟩ := rowsL_drop hne (e5 _ _ hD') hRw
      have hJ : ItsOk (Itl K p) (dropD H5 D) (rows.map fun w => (r, w)).length (fun i x _ => wv[i]? = some x) := by
        rw [List.length_map, ← wp.length]
        exact its_list wS
      refine ⟨p, rfl, ⟨_, hRw.2.choose_spec.1⟩, kt _ _ _ _ e5 hJ fun j y z H6 hj hy hzj e6 Qe q => ?_⟩
      obtain ⟨w0, hw0, hw⟩ := paired_get wp hy
      rw [List.getElem?_map, hw0] at hzj
      obtain rfl := Option.some.inj hzj
      refine ⟨rfl, _, rfl, _, rfl, (by show (2 : Nat) ≤ sizeLine; decide), fun p2 hp2 => q _ _ (Same.new hp2) ⟨p2, _, _, rfl, .inl (.inl upd_same), ?_, ?_⟩⟩
      · exact RunAt.same (Same.trans e6 (Same.new hp2)) (RunAt.drop (e5 _ _ hD') ⟨c, rfl, Same.seqT e5 hc⟩)
      · exact RowAt.same (Same.trans e6 (Same.new hp2)) hw
    · exact ⟨x, y, z, l, f, D, rfl, e4.trans e, hR4.same e, hO4.same e, hI4.same e, runsL_same e hF, lz2, ys, .of hy, py⟩
  rintro σ H4 ⟨x, y, z, l, f, h, rfl, e4, hR4, hO4, hI4, hF, hhl, hu, hS, hp⟩
  refine ⟨fun σ H' => ∃ x y z l f h m : Addr, σ = [some (.ref a), some (.ref b'), some (.ref x), some (.ref y), some (.ref z), some (.ref l), none, none, some (.ref f), some (.ref h), some (.ref m), none, none] ∧ Same H H' ∧ RndAt K turn H' x ∧ RkdAt K own H' y ∧ RkdAt K its H' z ∧ RunsL K H' f found ∧ RunsL K H' m more, ?_, ?_⟩
  · clear q
    refine ⟨_, rfl, h, rfl, ⟨_, hS⟩, fun D hD => lcA (its_list hS) hD more (stab_run (K := K)) (by rw [(mapO_eq h7).1, hp.length]) (by have := hp.length; omega) (fun i v b H' hi hv hbi e Qe q => ?_) mg_n2 fun ys H5 e hy py => ?_⟩
    · obtain ⟨z, hz, ⟨c, x1, x2, rfl, hc, ⟨cr, rfl, hr'⟩, cw, rfl, hw'⟩⟩ := paired_get hp hv
      obtain ⟨f1, f2⟩ := placedA_eq (mapO_at h7 hz hbi)
      have hc := Same.seqT e hc
      have hr' := Same.seqT e hr'
      have hw' := Same.seqT e hw'
      have hRR := hR4.same e
      have hRR' := hRR
      obtain ⟨rdx, hR'⟩ := hRR'
      refine ⟨c, _, rfl, hc, rfl, _, _, rfl, _, _, rfl, rfl, rfl, ?_⟩
      refine ⟨_, rfl, x, rdx, _, rfl, hR', rfl, _, rfl, cw, _, _, _, rfl, rfl, hw', rfl, _, rfl, cr, _, _, _, rfl, rfl, hr', rfl, _, rfl, cw, _, _, _, rfl, rfl, hw', rfl, _, _, rfl, rfl, x, turn, z.2.1, z.1.1 + z.2.2.2, b.1, rfl, hRR, f1, ?_⟩
      refine ⟨_, rfl, _, rfl, cr, cw, z.1, z.2, rfl, hr', hw', (by show (2 : Nat) ≤ sizeLine; decide), fun p hp => q _ _ (Same.new hp) ⟨p, rfl, .inl (.inl ?_)⟩⟩
      rw [f2]
      exact upd_same
    · exact ⟨x, y, z, l, f, h, D, rfl, e4.trans e, hR4.same e, hO4.same e, hI4.same e, runsL_same e hF, by rw [(mapO_eq h7).1]; exact hhl, ys, .of hy, py⟩
  clear hS hp
  rintro σ H4 ⟨x, y, z, l, f, h, m, rfl, e4, hR4, hO4, hI4, ⟨fl, fu, fS, fp⟩, ml, mu, mS, mp⟩
  obtain ⟨rdx, hR8⟩ := hR4
  have hmm := paired_app fp mp
  have lmm := hmm.length
  have hs := sortRuns_eq h9
  have l64 := hs.1
  rw [List.length_map] at l64
  refine ⟨_, rfl, x, _, rdx, _, _, rfl, hR8, T.k_Round, T.n_Round_total, rfl, ?_⟩
  refine ⟨_, rfl, f, _, rfl, .inr fS, _, rfl, m, _, rfl, .inr mS, ?_, fun p9 hp9 => ⟨p9, rfl, ⟨_, .of upd_same⟩, fun D hD => lcA (its_list (.of upd_same)) hD ((found ++ more).map fun r => ((r.1, r.1 + r.2) : Run)) (stab_run (K := K)) ?_ ?_ (fun i v b H' hi hv hbi e Qe q => ?_) mg_n2 fun ov H9 oe oy oq => ?_⟩⟩
  · rw [List.append_nil, lmm]
    exact Nat.le_trans (Nat.le_of_lt l64) (by decide)
  · rw [List.length_map, List.append_nil, lmm]
  · rw [List.append_nil, lmm]
    omega
  · rw [List.append_nil] at hv
    obtain ⟨z, hz, ⟨c, rfl, hc⟩⟩ := paired_get hmm hv
    rw [List.getElem?_map, hz] at hbi
    obtain rfl := Option.some.inj hbi
    have hc := Same.seqT (Same.trans (Same.new hp9) e) hc
    refine ⟨c, _, rfl, hc, rfl, _, _, rfl, _, _, rfl, rfl, rfl, ?_⟩
    exact ⟨_, rfl, _, rfl, _, rfl, _, _, rfl, rfl, (by show (2 : Nat) ≤ sizeLine; decide), fun p hp => q _ _ (Same.new hp) ⟨p, rfl, .inl (.inl upd_same)⟩⟩
  · have hL : RunsL K H9 D ((found ++ more).map fun r => ((r.1, r.1 + r.2) : Run)) := ⟨by rw [List.length_map]; omega, ov, .of oy, oq⟩
    obtain ⟨vs0, b1, b2, b3, b4⟩ := srtP hL h9
    refine ⟨D, vs0, rfl, b1, b2, b3, fun ys2 p pm pw hp => ?_⟩
    obtain ⟨e10, ul, uv, uS, up⟩ := b4 ys2 p pm pw hp
    have e9 : Same H H9 := Same.trans (Same.trans e4 (Same.new hp9)) oe
    refine ⟨p, _, rfl, .inl ⟨uS, fun l hl => ⟨(by show (2 : Nat) ≤ sizeLine; decide), fun pz hpz => ?_⟩⟩⟩
    have e11 := Same.new (o := .tup uv) hl
    have e12 := Same.new (o := .tup [.int turn.total, .ref l]) hpz
    refine q _ _ (Same.trans (Same.trans (Same.trans e9 e10) e11) e12) (Same.none (Same.trans (Same.trans e9 e10) e11) hpz) ⟨l, ?_, ul, uv, .inl (.inl (e12 _ _ upd_same)), paired_imp up fun v z r => r.same (Same.trans e11 e12)⟩
    rw [h8]
    exact .inl (.inl upd_same)
end
end K32

/-! runs and tables as data: for == -/
namespace K32
open PySem PyProof.Rows L2
def dRun (r : Run) : PyData := .tuple [.int r.1, .int r.2]
def dTab (t : Tab) : PyData := .tuple [.int t.1, .tuple (t.2.map dRun)]
theorem dr_can : ∀ rs : List Run, PyData.canLayAll0 (rs.map dRun) = true
  | [] => by simp [PyData.canLayAll0]
  | r :: rs => by simp [PyData.canLayAll0, PyData.canLay0, dRun, dr_can rs]
theorem dr_dep : ∀ rs : List Run, PyData.depthAll (rs.map dRun) ≤ 1
  | [] => by simp [PyData.depthAll]
  | r :: rs => by
    have := dr_dep rs
    simp [PyData.depthAll, PyData.depth, dRun]
    exact Nat.max_le.mpr ⟨Nat.le_refl _, this⟩
theorem sh_list (rs : List Run) : SeqAt.shaped (.list (rs.map dRun)) = true := by
  unfold SeqAt.shaped
  have := dr_dep rs
  simp [PyData.canLay0, dr_can rs, PyData.depth]
  omega
theorem sh_tup (rs : List Run) : SeqAt.shaped (.tuple (rs.map dRun)) = true := by
  unfold SeqAt.shaped
  have := dr_dep rs
  simp [PyData.canLay0, dr_can rs, PyData.depth]
  omega
theorem sh_tab (t : Tab) : SeqAt.shaped (dTab t) = true := by
  unfold SeqAt.shaped dTab
  have := dr_dep t.2
  simp [PyData.canLay0, PyData.canLayAll0, dr_can t.2, PyData.depth, PyData.depthAll]
  omega
theorem ev_runs : ∀ rs us : List Run, PyData.eqvAll (rs.map dRun) (us.map dRun) = decide (rs = us)
  | [], [] => by simp [PyData.eqvAll]
  | [], u :: us => by simp [PyData.eqvAll]
  | r :: rs, [] => by simp [PyData.eqvAll]
  | r :: rs, u :: us => by
    obtain ⟨a, b⟩ := r
    obtain ⟨c, d⟩ := u
    simp [PyData.eqvAll, dRun, PyData.eqv, ev_runs rs us, Prod.ext_iff]
    rw [Bool.eq_iff_iff]
    simp [ev_runs rs us]
theorem ev_list (rs us : List Run) : PyData.eqv (.list (rs.map dRun)) (.list (us.map dRun)) = decide (rs = us) := by
  simp [PyData.eqv, ev_runs]
theorem ev_tab (t u : Tab) : PyData.eqv (dTab t) (dTab u) = decide (t = u) := by
  obtain ⟨a, b⟩ := t
  obtain ⟨c, d⟩ := u
  simp [dTab, PyData.eqv, PyData.eqvAll, ev_runs, Prod.ext_iff]
  rw [Bool.eq_iff_iff]
  simp
section
variable {K : PySem.W.Frag} {H : Hp}
theorem dp_run {v : V} {r : Run} (h : RunAt K H v r) : Dp K H v (dRun r) := by
  obtain ⟨a, rfl, h⟩ := h
  exact .tup h (.cons (.int _) (.cons (.int _) .nil))
theorem dp_all : ∀ {vs : List V} {rs : List Run}, Paired (RunAt K H) vs rs → DpAll K H vs (rs.map dRun)
  | _, _, .nil => .nil
  | _, _, .cons r t => .cons (dp_run r) (dp_all t)
theorem dp_list {a : Addr} {rs : List Run} (h : RunsL K H a rs) : Dp K H (.ref a) (.list (rs.map dRun)) := let ⟨_, _, t, p⟩ := h; .lst t (dp_all p)
theorem dp_tup {a : Addr} {rs : List Run} (h : RunsT K H a rs) : Dp K H (.ref a) (.tuple (rs.map dRun)) := let ⟨_, _, t, p⟩ := h; .tup t (dp_all p)
theorem dp_tab {a b : Addr} {t : Tab} (h : SqT K H a [.int t.1, .ref b]) (h' : RunsT K H b t.2) : Dp K H (.ref a) (dTab t) := .tup h (.cons (.int _) (.cons (dp_tup h') .nil))
end
end K32

/-! rings.py: maximal runs -/
namespace K32
open PySem PyProof.Rows L2
section
variable {P : Program} {w : World} {K : PySem.W.Frag} {mg : Str → Option Value} {base : Heap}
theorem melted_step (rs : List Run) (i : Nat) (r : Run) (h : rs[i]? = some r) : melted (rs.take (i + 1)) = meltStep (melted (rs.take i)) r := by
  unfold melted
  rw [List.take_add_one, h, List.foldl_append]
  rfl
theorem meltStep_len (acc : List Run) (r : Run) : (meltStep acc r).length ≤ acc.length + 1 := by
  unfold meltStep
  cases e : acc.getLast? with
  | none => simp
  | some l =>
    show (if r.1 ≤ l.2 + 1 then acc.dropLast ++ [(l.1, mx l.2 r.2)] else acc ++ [r]).length ≤ acc.length + 1
    split
    · simp
    · simp
theorem melted_len (rs : List Run) : ∀ acc : List Run, (rs.foldl meltStep acc).length ≤ acc.length + rs.length := by
  induction rs with
  | nil => intro acc; simp
  | cons r rs ih =>
    intro acc
    have h1 := ih (meltStep acc r)
    have h2 := meltStep_len acc r
    rw [List.foldl_cons, List.length_cons]
    omega
def spMelted (K : PySem.W.Frag) : Sp := fun vs H Q _ => ∃ a rs, vs = [.ref a] ∧ RunsL K H a rs ∧ ∀ p H', Same H H' → RunsL K H' p (melted rs) → Q (.ref p) H'
theorem c_melted (T : Top K mg) : C8.Cal P w K mg base 1 "melted" (spMelted K) [] := by
  refine calF T.melted (fun _ _ _ _ _ _ us hl => match us, hl with | [_], _ => rfl) sc_melted (by rintro vs H Q E ⟨a, rs, rfl, _⟩; rfl) (fun cdv A outer sh H vs Q E hr h => ?_)
  obtain ⟨a, rs, rfl, hA, q⟩ := h
  obtain ⟨hl, us, hU, pu⟩ := hA
  have el := pu.length
  refine ⟨_, (pss_cons (ps_set (i := 1) sc_melted.nd rfl (Or.inl rfl) (pe_lst pa_nil))
      (pss_cons (ps_for PassesOwn.never rfl (piL K rfl (pv 0)) (pg_name (i := 2) sc_melted.nd rfl (Or.inl rfl)) (pss_one (ps_if (PW.pt (pw_and (pt_cmpR (oNeD K rfl hr.units) (pv 1) (pe_lst pa_nil) (nomark _)) (pw_and1 (pt_cmpR op_le (pe_ix (ixT K rfl) (pv 2) pe_int (fun _ _ => rfl)) (pe_op op_add (pe_ix (ixT K rfl) (pe_ix (ixL K rfl) (pv 1) (pe_un un_neg pe_int) (fun _ _ => rfl)) pe_int (fun _ _ => rfl)) pe_int) (nomark _))))) (pss_one (ps_set (i := 1) sc_melted.nd rfl (Or.inl rfl) (pe_lst (starK K rfl (pe_slice (slL K rfl) (pv 1) po_none (po_some (pe_un un_neg pe_int))) (pa_cons (pe_tup (pa_cons (pe_ix (ixT K rfl) (pe_ix (ixL K rfl) (pv 1) (pe_un un_neg pe_int) (fun _ _ => rfl)) pe_int (fun _ _ => rfl)) (pa_cons (pe_callB (call_max2 rfl) (by rfl) T.f_max (by decide +kernel) (pa_cons (pe_callTy call_int1 (by rfl) T.f_int (by decide +kernel) (pa_cons (pe_ix (ixT K rfl) (pe_ix (ixL K rfl) (pv 1) (pe_un un_neg pe_int) (fun _ _ => rfl)) pe_int (fun _ _ => rfl)) pa_nil)) (pa_cons (pe_callTy call_int1 (by rfl) T.f_int (by decide +kernel) (pa_cons (pe_ix (ixT K rfl) (pv 2) pe_int (fun _ _ => rfl)) pa_nil)) pa_nil))) pa_nil))) pa_nil))))) (pss_one (ps_set (i := 1) sc_melted.nd rfl (Or.inl rfl) (pe_lst (starK K rfl (pv 1) (pa_cons (pv 2) pa_nil))))))))
      (pss_one (ps_ret (pv 1))))), ?_⟩
  refine ⟨(by decide), fun p hp => ?_⟩
  refine ⟨_, rfl, a, rfl, ⟨_, Same.seq (Same.new hp) hU⟩, for_list (K := K) (a := a) (xs := us) (fun i σ H' => Same H H' ∧ ∃ v p, σ = [some (.ref a), some (.ref p), v] ∧ RunsL K H' p (melted (rs.take i))) ⟨Same.new hp, none, p, rfl, Nat.zero_le _, [], .of upd_same, .nil⟩ (fun i σ H' _ q => Same.seq q.1 hU) ?_ ?_⟩
  · rintro i x σ H' hx ⟨e, v, p, rfl, hF⟩
    obtain ⟨r, hr1, ⟨b, rfl, hb⟩⟩ := paired_get pu hx
    have hb := Same.seqT e hb
    rw [melted_step rs i r hr1]
    have hbd : (meltStep (melted (rs.take i)) r).length ≤ 3000 := by
      rw [← melted_step rs i r hr1]
      have := melted_len (rs.take (i + 1)) []
      have h3 := List.length_take_le (i + 1) rs
      have h4 := List.length_take (i := i + 1) (l := rs)
      unfold melted
      simp only [List.length_nil] at this
      omega
    refine ⟨_, rfl, (by decide), fun p0 hp0 => ⟨_, .list [], dp_list (runsL_same (Same.new hp0) hF), .lst (.of upd_same) .nil, sh_list _, sh_list [], ?_⟩⟩
    have e0 : Same H' (upd H' p0 (.lst [])) := Same.new hp0
    obtain ⟨fl, fu, fS, fp⟩ := runsL_same e0 hF
    have hb0 := Same.seqT e0 hb
    rw [show PyData.list [] = .list (([] : List Run).map dRun) from rfl, ev_list]
    have plain : ∀ (D : Ends) (G : Hp), Same (upd H' p0 (.lst [])) G → (D.nx = fun σ H' => Same H H' ∧ ∃ v p, σ = [some (V.ref a), some (V.ref p), v] ∧ RunsL K H' p (meltStep (melted (rs.take i)) r)) → meltStep (melted (rs.take i)) r = melted (rs.take i) ++ [r] → tAsg (tLst (StX.tStar K (tVar 1) (tCons (tVar 2) tNil))) (gName 1) D [some (.ref a), some (.ref p), some (.ref b)] G := fun D G eG hD hm => by
      rw [hm] at hbd hD
      refine ⟨_, rfl, p, _, rfl, .inr (Same.seq eG fS), _, rfl, ?_, fun p2 hp2 => ?_⟩
      rotate_left
      · show D.nx _ _
        rw [hD]
        refine ⟨((e.trans e0).trans eG).trans (Same.new hp2), _, p2, rfl, hbd, _, .of upd_same, ?_⟩
        have e2 := Same.trans eG (Same.new (o := .lst (fu ++ [.ref b])) hp2)
        exact paired_app (paired_imp fp fun v z r => r.same e2) (.cons ⟨b, rfl, Same.seqT e2 hb0⟩ .nil)
      · rw [List.length_append, fp.length]
        rw [List.length_append] at hbd
        exact Nat.le_trans hbd (by decide)
    cases el2 : (melted (rs.take i)).getLast? with
    | none =>
      have hn := List.getLast?_eq_none_iff.mp el2
      rw [decide_eq_true hn]
      refine ⟨false, rfl, iteF (iteF (plain _ _ (Same.refl _) rfl ?_))⟩
      rw [hn]
      rfl
    | some l =>
      have hn : melted (rs.take i) ≠ [] := fun z => by rw [z] at el2; cases el2
      obtain ⟨lu, lv, rfl, lp, ⟨lb, rfl, hlb⟩⟩ := paired_last fp el2
      rw [decide_eq_false hn]
      have hms : meltStep (melted (rs.take i)) r = if r.1 ≤ l.2 + 1 then (melted (rs.take i)).dropLast ++ [(l.1, mx l.2 r.2)] else melted (rs.take i) ++ [r] := by
        unfold meltStep
        rw [el2]
      refine ⟨true, rfl, iteT ⟨_, rfl, b, _, _, _, rfl, rfl, hb0, rfl, _, rfl, _, rfl, p, _, _, _, rfl, rfl, fS, atI_last _ _, lb, _, _, _, rfl, rfl, hlb, rfl, _, _, rfl, rfl, _, _, rfl, rfl, _, rfl, ?_⟩⟩
      by_cases hc : r.1 ≤ l.2 + 1
      · rw [decide_eq_true hc]
        rw [if_pos hc] at hms
        have hx2 : cutV (lu ++ [V.ref lb]) none (some (-1)) = lu := by rw [cut_butlast, List.dropLast_concat]
        refine iteT ⟨_, rfl, _, rfl, _, rfl, p, _, rfl, fS, fun l1 hl1 => ?_⟩
        rw [show -(1 : Int) = -1 from rfl, hx2]
        refine ⟨l1, lu, rfl, .inr (.of upd_same), ?_⟩
        have e1 : Same (upd H' p0 (.lst [])) _ := Same.new (o := .lst lu) hl1
        have fS1 := Same.seq e1 fS
        have hl1b := Same.seqT e1 hlb
        refine ⟨_, rfl, _, rfl, p, _, _, _, rfl, rfl, fS1, atI_last _ _, lb, _, _, _, rfl, rfl, hl1b, rfl, ?_⟩
        refine ⟨_, rfl, _, rfl, p, _, _, _, rfl, rfl, fS1, atI_last _ _, lb, _, _, _, rfl, rfl, hl1b, rfl, .inl ⟨_, rfl, ?_⟩⟩
        refine ⟨_, rfl, b, _, _, _, rfl, rfl, Same.seqT e1 hb0, rfl, .inl ⟨_, rfl, _, _, rfl, (by show (2 : Nat) ≤ sizeLine; decide), fun p2 hp2 => ?_⟩⟩
        have e2 := Same.new (o := .tup [.int l.1, .int (mx l.2 r.2)]) hp2
        rw [hms] at hbd ⊢
        refine ⟨?_, fun p3 hp3 => ⟨((((e.trans e0).trans e1).trans e2).trans (Same.new hp3)), _, p3, rfl, hbd, _, .of upd_same, ?_⟩⟩
        · rw [List.length_append, lp.length]
          rw [List.length_append] at hbd
          exact Nat.le_trans hbd (by decide)
        · exact paired_app (paired_imp lp fun v z r => r.same ((e1.trans e2).trans (Same.new hp3))) (.cons ⟨p2, rfl, .inl (.inl (Same.new hp3 _ _ upd_same))⟩ .nil)
      · rw [decide_eq_false hc]
        rw [if_neg hc] at hms
        exact iteF (plain _ _ (Same.refl _) rfl hms)
  · rintro σ H' ⟨e, v, p, rfl, hF⟩
    rw [el, List.take_length] at hF
    exact ⟨_, rfl, q _ _ e hF⟩
def spClosed (K : PySem.W.Frag) : Sp := fun vs H Q _ => ∃ a p rs fs, vs = [.int p, .ref a] ∧ RunsL K H a rs ∧ closedO p rs = some fs ∧ ∀ l H', Same H H' → RunsL K H' l fs → Q (.ref l) H'
theorem c_closed_round (T : Top K mg) : C8.Cal P w K mg base 1 "closed_round" (spClosed K) [] := by
  refine calF T.closed_round (fun _ _ _ _ _ _ us hl => match us, hl with | [_, _], _ => rfl) sc_closed_round (by rintro vs H Q E ⟨a, p, rs, fs, rfl, _⟩; rfl) (fun cdv A outer sh H vs Q E hr h => ?_)
  obtain ⟨a, p, rs, fs, rfl, ⟨hl, us, hU, pu⟩, hf, q⟩ := h
  obtain ⟨last, res, h1, h2, rfl⟩ := closedO_eq hf
  obtain ⟨lu, lv, rfl, lp, ⟨lb, rfl, hlb⟩⟩ := paired_last pu h1
  have el := pu.length
  refine ⟨_, (pss_cons (ps_par (i := 2) (j := 3) (by rfl) sc_closed_round.nd rfl rfl (by decide) rfl rfl (pa_cons pe_int (pa_cons (pe_ix (ixT K rfl) (pe_ix (ixL K rfl) (pv 1) (pe_un un_neg pe_int) (fun _ _ => rfl)) pe_int (fun _ _ => rfl)) pa_nil)) (by rfl))
      (pss_cons (ps_while PassesOwn.never (PW.pt (pw_and (pt_cmpR op_lt (pv 2) (pe_op op_sub (pe_callB (clLen K rfl) (by rfl) T.f_len (by decide +kernel) (pa_cons (pv 1) pa_nil)) pe_int) (nomark _)) (pw_and1 (pt_cmpR op_le (pe_op op_add (pe_ix (ixT K rfl) (pe_ix (ixL K rfl) (pv 1) (pv 2) (fun _ _ => rfl)) pe_int (fun _ _ => rfl)) (pv 0)) (pe_op op_add (pv 3) pe_int) (nomark _))))) (pss_cons (ps_set (i := 3) sc_closed_round.nd rfl (Or.inl rfl) (pe_callB (call_max2 rfl) (by rfl) T.f_max (by decide +kernel) (pa_cons (pe_callTy call_int1 (by rfl) T.f_int (by decide +kernel) (pa_cons (pv 3) pa_nil)) (pa_cons (pe_callTy call_int1 (by rfl) T.f_int (by decide +kernel) (pa_cons (pe_op op_add (pe_ix (ixT K rfl) (pe_ix (ixL K rfl) (pv 1) (pv 2) (fun _ _ => rfl)) pe_int (fun _ _ => rfl)) (pv 0)) pa_nil)) pa_nil))))
      (pss_one (ps_set (i := 2) sc_closed_round.nd rfl (Or.inl rfl) (pe_op op_add (pv 2) pe_int)))))
      (pss_one (ps_ret (pe_lst (starK K rfl (pe_slice (slL K rfl) (pv 1) (po_some (pv 2)) (po_some (pe_un un_neg pe_int))) (pa_cons (pe_tup (pa_cons (pe_ix (ixT K rfl) (pe_ix (ixL K rfl) (pv 1) (pe_un un_neg pe_int) (fun _ _ => rfl)) pe_int (fun _ _ => rfl)) (pa_cons (pv 3) pa_nil))) pa_nil))))))), ?_⟩
  refine ⟨_, rfl, _, rfl, a, _, _, _, rfl, rfl, hU, atI_last _ _, lb, _, _, _, rfl, rfl, hlb, rfl, _, _, rfl, ?_⟩
  refine ⟨fun m σ H' => H' = H ∧ ∃ (many : Nat) (fin : Int), σ = [some (.int p), some (.ref a), some (.int many), some (.int fin)] ∧ closeF (m + 1) rs p many fin = some res, ⟨99, rfl, 0, last.2, rfl, h2⟩, ?_⟩
  rintro m σ H' ⟨rfl, many, fin, rfl, hm⟩
  have hrest : ∀ (many : Nat) (fin : Int), res = (many, fin) → tRet (tLst (StX.tStar K (tSl (rSlL K) (tVar 1) (tPart (tVar 2)) (tPart (tUn (rU fun i => V.int (-i)) (tC (V.int 1))))) (tCons (tTup (tCons (tOp (rIxT K) (tOp (rIxL K) (tVar 1) (tUn (rU fun i => V.int (-i)) (tC (V.int 1)))) (tC (V.int 0))) (tCons (tVar 3) tNil))) tNil))) { nx := fun _ H' => Q .non H', rt := Q } [some (.int p), some (.ref a), some (.int many), some (.int fin)] H' := by
    rintro many fin rfl
    refine ⟨_, rfl, _, rfl, _, rfl, _, rfl, _, rfl, a, _, rfl, hU, fun l1 hl1 => ?_⟩
    rw [show -(1 : Int) = -1 from rfl, cut_mid, List.dropLast_concat]
    refine ⟨l1, _, rfl, .inr (.of upd_same), ?_⟩
    have e1 : Same H' _ := Same.new (o := .lst (lu.drop many)) hl1
    refine ⟨_, rfl, _, rfl, a, _, _, _, rfl, rfl, Same.seq e1 hU, atI_last _ _, lb, _, _, _, rfl, rfl, Same.seqT e1 hlb, rfl, _, rfl, (by show (2 : Nat) ≤ sizeLine; decide), fun p2 hp2 => ?_⟩
    have e2 := Same.new (o := .tup [.int last.1, .int fin]) hp2
    have ll := lp.length
    have lr : rs.dropLast.length = rs.length - 1 := List.length_dropLast
    have l1' : 1 ≤ rs.length := by
      rw [← el, List.length_append]
      exact Nat.le_add_left _ _
    refine ⟨?_, fun p3 hp3 => q _ _ ((e1.trans e2).trans (Same.new hp3)) ⟨?_, _, .of upd_same, ?_⟩⟩
    · show (lu.drop many ++ [V.ref p2]).length ≤ sizeLine
      rw [List.length_append, List.length_drop, ll, lr]
      refine Nat.le_trans (m := 3000) ?_ (by decide)
      simp only [List.length_cons, List.length_nil]
      omega
    · rw [List.length_append, List.length_drop, lr]
      simp only [List.length_cons, List.length_nil]
      omega
    · exact paired_app (paired_imp (paired_drop _ lp) fun v z r => r.same ((e1.trans e2).trans (Same.new hp3))) (.cons ⟨p2, rfl, .inl (.inl (Same.new hp3 _ _ upd_same))⟩ .nil)
  refine ⟨_, rfl, _, rfl, a, _, rfl, .inl hU, _, _, rfl, rfl, _, _, rfl, rfl, _, rfl, ?_⟩
  rw [el]
  rcases closeF_eq hm with ⟨hc, r, hr1, hx⟩ | ⟨hc, hx⟩
  · rw [decide_eq_true (show (many : Int) < (rs.length : Int) - 1 by omega)]
    obtain ⟨v, hv, ⟨b, rfl, hb⟩⟩ := paired_getR pu hr1
    refine iteT ⟨_, rfl, _, rfl, a, _, _, _, rfl, rfl, hU, atI_nat hv, b, _, _, _, rfl, rfl, hb, rfl, _, rfl, _, _, rfl, rfl, _, rfl, _, _, rfl, rfl, _, _, rfl, rfl, _, rfl, ?_⟩
    rcases hx with ⟨hd, hm'⟩ | ⟨hd, hx⟩
    · rw [decide_eq_true hd]
      obtain ⟨m, rfl⟩ := closeF_pos hm'
      refine iteT ⟨fun σ' H2 => H2 = H' ∧ ∃ (many : Nat) (fin : Int), σ' = [some (.int p), some (.ref a), some (.int many), some (.int fin)] ∧ closeF (m + 1) rs p many fin = some res, fun σ' H2 q => ⟨m, Nat.lt_succ_self _, q⟩, ?_⟩
      exact ⟨_, rfl, .inl ⟨_, rfl, _, rfl, _, rfl, a, _, _, _, rfl, rfl, hU, atI_nat hv, b, _, _, _, rfl, rfl, hb, rfl, _, rfl, _, _, rfl, rfl, .inl ⟨_, rfl, _, _, rfl, _, rfl, _, _, rfl, rfl, rfl, many + 1, mx fin (r.2 + p), rfl, hm'⟩⟩⟩
    · rw [decide_eq_false hd]
      exact iteF (hrest _ _ hx)
  · rw [decide_eq_false (show ¬ (many : Int) < (rs.length : Int) - 1 by omega)]
    exact iteF (hrest _ _ hx)
def spMaximal (K : PySem.W.Frag) : Sp := fun vs H Q _ => ∃ a p rs fs, vs = [.int p, .ref a] ∧ RunsT K H a rs ∧ maximalO p rs = some fs ∧ ∀ l H', Same H H' → RunsL K H' l fs → Q (.ref l) H'
theorem c_maximal (T : Top K mg) : C8.Cal P w K mg base 2 "maximal" (spMaximal K) [] := by
  refine calF T.maximal (fun _ _ _ _ _ _ us hl => match us, hl with | [_, _], _ => rfl) sc_maximal (by rintro vs H Q E ⟨a, p, rs, fs, rfl, _⟩; rfl) (fun cdv A outer sh H vs Q E hr h => ?_)
  obtain ⟨a, p, rs, fs, rfl, hA, hf, q⟩ := h
  obtain ⟨hl, us, hU, pu⟩ := hA
  have el := pu.length
  refine ⟨_, (pss_cons (ps_if (pt_val (pe_callB (clAny K rfl rfl) (by rfl) T.f_any (by decide +kernel) (pa_cons (pe_lc (own := [("run", 2)]) rfl sc_maximal.nd (piT K rfl (pv 1)) (blkOk_by (own := [("run", 2)]) (N := N_maximal) (sc := defScope s_maximal) (by decide +kernel)) (fun _ _ _ _ _ => (pg_name (i := 2) sc_maximal.nd rfl (Or.inl rfl))) (fun _ _ _ _ _ => pts_nil) (fun _ _ _ _ _ => (pe_cmpR op_ge (C8.pe_c (c_length_of T) hr (by decide) rfl (pa_cons (pv 2) pa_nil)) (pv 0) (nomark _)))) pa_nil))) (pss_one (ps_ret (pe_lst (pa_cons (pe_tup (pa_cons pe_int (pa_cons (pe_op op_sub (pv 0) pe_int) pa_nil))) pa_nil)))) pss_nil)
      (C8.pss_cut (ps_set (i := 3) sc_maximal.nd rfl (Or.inl rfl) (pe_callB (clSortT K rfl (d := 2) (B := 1024) (by decide)) (by rfl) T.f_sorted (by decide +kernel) (pa_cons (pe_lc (own := [("run", 2)]) rfl sc_maximal.nd (piT K rfl (pv 1)) (blkOk_by (own := [("run", 2)]) (N := N_maximal) (sc := defScope s_maximal) (by decide +kernel)) (fun _ _ _ _ _ => (pg_name (i := 2) sc_maximal.nd rfl (Or.inl rfl))) (fun _ _ _ _ _ => pts_nil) (fun _ _ _ _ _ => (pe_tup (pa_cons (pe_callTy call_int1 (by rfl) T.f_int (by decide +kernel) (pa_cons (pe_op op_mod (pe_ix (ixT K rfl) (pv 2) pe_int (fun _ _ => rfl)) (pv 0)) pa_nil)) (pa_cons (pe_callTy call_int1 (by rfl) T.f_int (by decide +kernel) (pa_cons (pe_op op_sub (pe_op op_add (pe_op op_mod (pe_ix (ixT K rfl) (pv 2) pe_int (fun _ _ => rfl)) (pv 0)) (C8.pe_c (c_length_of T) hr (by decide) rfl (pa_cons (pv 2) pa_nil))) pe_int) pa_nil)) pa_nil))))) pa_nil)))
      (C8.pss_cut (ps_set (i := 4) sc_maximal.nd rfl (Or.inl rfl) (pe_ifExp (pt_cmpR (oNeD K rfl hr.units) (pv 3) (pe_lst pa_nil) (nomark _)) (C8.pe_c (c_closed_round T) hr (by decide) rfl (pa_cons (pv 0) (pa_cons (C8.pe_c (c_melted T) hr (by decide) rfl (pa_cons (pv 3) pa_nil)) pa_nil))) (pe_lst pa_nil)))
      (pss_one (ps_ret (pe_ifExp (PW.pt (pw_and (pt_cmpR (oNeD K rfl hr.units) (pv 4) (pe_lst pa_nil) (nomark _)) (pw_and1 (pt_cmpR op_ge (C8.pe_c (c_length_of T) hr (by decide) rfl (pa_cons (pe_ix (ixL K rfl) (pv 4) (pe_un un_neg pe_int) (fun _ _ => rfl)) pa_nil)) (pv 0) (nomark _))))) (pe_lst (pa_cons (pe_tup (pa_cons pe_int (pa_cons (pe_op op_sub (pv 0) pe_int) pa_nil))) pa_nil)) (pv 4))))))), ?_⟩
  refine ⟨_, rfl, a, rfl, ⟨_, hU⟩, fun D hD => lcA (its_tup hU) hD (rs.map fun r => decide (lenR r ≥ p)) stab_bl (by rw [List.length_map, el]) (by omega) (fun i y z H' hi hy hzi e Qe q => ?_) gname_mono fun ys H1 e1 hy py => ?_⟩
  · obtain ⟨r, hr1, ⟨b, rfl, hb⟩⟩ := paired_get pu hy
    rw [List.getElem?_map, hr1] at hzi
    obtain rfl := Option.some.inj hzi
    exact ⟨rfl, _, rfl, b, r, rfl, Same.seqT e hb, _, rfl, _, _, rfl, rfl, q _ _ (Same.refl _) rfl⟩
  rw [paired_bl py] at hy
  have one : ∀ (D : Ends) (σ : L2.St) (G : Hp), Same H G → fs = [(0, p - 1)] → σ[0]? = some (some (.int p)) → (D.rt = Q) → tRet (tLst (tCons (tTup (tCons (tC (V.int 0)) (tCons (tOp (rI0 fun i j => V.int (i - j)) (tVar 0) (tC (V.int 1))) tNil))) tNil)) D σ G := fun D σ G e hfs hσ hD => by
    refine ⟨_, hσ, _, _, rfl, rfl, (by show (2 : Nat) ≤ sizeLine; decide), fun p2 hp2 => ⟨(by show (1 : Nat) ≤ sizeLine; decide), fun p3 hp3 => ?_⟩⟩
    rw [hD]
    refine q _ _ ((e.trans (Same.new hp2)).trans (Same.new hp3)) ?_
    rw [hfs]
    exact ⟨(by decide : (1 : Nat) ≤ 3000), _, .of upd_same, .cons ⟨p2, rfl, .inl (.inl (Same.new hp3 _ _ upd_same))⟩ .nil⟩
  refine ⟨D, _, rfl, .of hy, _, rfl, ?_⟩
  rw [List.any_map]
  rcases maximalO_eq hf with ⟨hc, hx⟩ | ⟨hc, ms, moved, found, h1, h2, h3, h4⟩
  · rw [show (rs.any (id ∘ fun r => decide (lenR r ≥ p))) = true from hc]
    exact iteT (one _ _ _ e1 hx rfl rfl)
  rw [show (rs.any (id ∘ fun r => decide (lenR r ≥ p))) = false from hc]
  have hU1 := Same.seqT e1 hU
  refine iteF ⟨fun σ G => ∃ l, σ = [some (.int p), some (.ref a), none, some (.ref l), none] ∧ Same H G ∧ RunsL K G l moved, ?_, ?_⟩
  · refine ⟨_, rfl, a, rfl, ⟨_, hU1⟩, fun D hD => lcA (its_tup hU1) hD ms (stab_run (K := K)) ((mapO_eq h1).1.trans el.symm) (by omega) (fun i y z H' hi hy hzi e Qe q => ?_) gname_mono fun ys H2 e2 hy py => ?_⟩
    · obtain ⟨r, hr1, ⟨b, rfl, hb⟩⟩ := paired_get pu hy
      have hb := Same.seqT (e1.trans e) hb
      obtain ⟨hp, rfl⟩ := movedRun_eq (mapO_at h1 hr1 hzi)
      refine ⟨rfl, _, rfl, b, _, _, _, rfl, rfl, hb, rfl, _, rfl, _, _, rfl, rfl, hp, .inl ⟨_, rfl, ?_⟩⟩
      refine ⟨_, rfl, b, _, _, _, rfl, rfl, hb, rfl, _, rfl, _, _, rfl, rfl, hp, _, rfl, b, r, rfl, hb, _, _, rfl, rfl, _, _, rfl, rfl, .inl ⟨_, rfl, ?_⟩⟩
      exact ⟨(by show (2 : Nat) ≤ sizeLine; decide), fun p hp => q _ _ (Same.new hp) ⟨p, rfl, .inl (.inl upd_same)⟩⟩
    · have hL : RunsL K H2 D ms := ⟨by rw [(mapO_eq h1).1]; exact hl, ys, .of hy, py⟩
      obtain ⟨vs0, b1, b2, b3, b4⟩ := srtP hL h2
      refine ⟨D, vs0, rfl, b1, b2, b3, fun ys2 l pm pw hp => ?_⟩
      obtain ⟨e10, hM⟩ := b4 ys2 l pm pw hp
      exact ⟨l, rfl, (e1.trans e2).trans e10, hM⟩
  rintro σ G ⟨l, rfl, e2, hM⟩
  refine ⟨fun σ G => ∃ l f, σ = [some (.int p), some (.ref a), none, some (.ref l), some (.ref f)] ∧ Same H G ∧ RunsL K G f found, ?_, ?_⟩
  · refine ⟨_, rfl, (by decide), fun p0 hp0 => ⟨_, .list [], dp_list (runsL_same (Same.new hp0) hM), .lst (.of upd_same) .nil, sh_list _, sh_list [], ?_⟩⟩
    rw [show PyData.list [] = .list (([] : List Run).map dRun) from rfl, ev_list]
    have e0 : Same G (upd G p0 (.lst [])) := Same.new hp0
    rcases h3 with ⟨hd, h3⟩ | ⟨hd, rfl⟩
    · rw [decide_eq_false hd]
      refine ⟨true, rfl, iteT ⟨_, rfl, _, rfl, l, moved, rfl, runsL_same e0 hM, fun m G1 e3 hMl => ⟨m, p, melted moved, found, rfl, hMl, h3, fun f G2 e4 hF => ⟨l, f, rfl, ((e2.trans e0).trans e3).trans e4, hF⟩⟩⟩⟩
    · rw [decide_eq_true hd]
      exact ⟨false, rfl, iteF ⟨(by decide), fun p3 hp3 => ⟨l, p3, rfl, (e2.trans e0).trans (Same.new hp3), by decide, [], .of upd_same, .nil⟩⟩⟩
  rintro σ G ⟨l, f, rfl, e2, hF⟩
  refine ⟨_, rfl, (by decide), fun p0 hp0 => ⟨_, .list [], dp_list (runsL_same (Same.new hp0) hF), .lst (.of upd_same) .nil, sh_list _, sh_list [], ?_⟩⟩
  rw [show PyData.list [] = .list (([] : List Run).map dRun) from rfl, ev_list]
  have e0 : Same G (upd G p0 (.lst [])) := Same.new hp0
  have hF0 := runsL_same e0 hF
  rcases h4 with ⟨z, hz, hd, hx⟩ | ⟨⟨z, hz, hd⟩, rfl⟩ | ⟨rfl, rfl⟩
  · have hn : found ≠ [] := fun y => by rw [y] at hz; cases hz
    obtain ⟨fl, fu, fS, fp⟩ := hF0
    obtain ⟨lu, lv, rfl, lp, ⟨lb, rfl, hlb⟩⟩ := paired_last fp hz
    rw [decide_eq_false hn]
    refine ⟨true, rfl, iteT ⟨_, rfl, _, rfl, f, _, _, _, rfl, rfl, fS, atI_last _ _, lb, z, rfl, hlb, _, rfl, _, _, rfl, rfl, _, rfl, ?_⟩⟩
    rw [decide_eq_true hd]
    exact iteT (one { nx := fun _ H' => Q .non H', rt := Q } _ _ (e2.trans e0) hx rfl rfl)
  · have hn : fs ≠ [] := fun y => by rw [y] at hz; cases hz
    obtain ⟨fl, fu, fS, fp⟩ := hF0
    obtain ⟨lu, lv, rfl, lp, ⟨lb, rfl, hlb⟩⟩ := paired_last fp hz
    rw [decide_eq_false hn]
    refine ⟨true, rfl, iteT ⟨_, rfl, _, rfl, f, _, _, _, rfl, rfl, fS, atI_last _ _, lb, z, rfl, hlb, _, rfl, _, _, rfl, rfl, _, rfl, ?_⟩⟩
    rw [decide_eq_false hd]
    exact iteF ⟨_, rfl, q _ _ (e2.trans e0) ⟨fl, _, fS, fp⟩⟩
  · rw [decide_eq_true rfl]
    exact ⟨false, rfl, iteF (iteF ⟨_, rfl, q _ _ (e2.trans e0) hF0⟩)⟩
theorem turnsOf_pos {row : List Run} {m k : Nat} {ts : List Nat} (h : turnsOf row m = k :: ts) : 1 ≤ k ∧ k ≤ m := by
  have : k ∈ turnsOf row m := by rw [h]; exact List.mem_cons_self
  unfold turnsOf at this
  have h2 := (List.mem_filter.mp this).1
  have h3 := List.mem_range'_1.mp h2
  omega
end
end K32

/-! rings.py: the least form -/
namespace K32
open PySem PyProof.Rows L2
section
variable {P : Program} {w : World} {K : PySem.W.Frag} {mg : Str → Option Value} {base : Heap}
def turnB (row : List Run) (m t : Nat) : Bool := m % t == 0 && decide (row.drop t ++ row.take t = row)
theorem fm_filter (c : Nat → Bool) : ∀ l : List Nat, (l.map fun t => if c t = true then some ((t : Nat) : Int) else none).filterMap id = (l.filter c).map fun t => ((t : Nat) : Int)
  | [] => rfl
  | t :: l => by
    rw [List.map_cons, List.filter_cons]
    by_cases h : c t = true
    · rw [if_pos h, if_pos h, List.map_cons, ← fm_filter c l]
      rfl
    · rw [if_neg h, if_neg h, ← fm_filter c l]
      rfl
def spLeast (K : PySem.W.Frag) : Sp := fun vs H Q _ => ∃ a p rs t, vs = [.int p, .ref a] ∧ RunsL K H a rs ∧ rs.length ≤ 2000 ∧ leastO p rs = some t ∧ ∀ l H', Same H H' → TabP K H' l t → Q (.ref l) H'
theorem c_least_form (T : Top K mg) : C8.Cal P w K mg base 2 "least_form" (spLeast K) [] := by
  refine calF T.least_form (fun _ _ _ _ _ _ us hl => match us, hl with | [_, _], _ => rfl) sc_least_form (by rintro vs H Q E ⟨a, p, rs, t, rfl, _⟩; rfl) (fun cdv A outer sh H vs Q E hr h => ?_)
  obtain ⟨a, p, rs, t, rfl, ⟨hl, us, hU, pu⟩, h2, ht, q⟩ := h
  have el := pu.length
  refine ⟨_, (pss_cons (ps_if (pt_cmpR op_eq (pe_callB (clLen K rfl) (by rfl) T.f_len (by decide +kernel) (pa_cons (pv 1) pa_nil)) pe_int (nomark _)) (pss_one (ps_ret (pe_tup (pa_cons pe_int (pa_cons (pe_tup pa_nil) pa_nil))))) pss_nil)
      (pss_cons (ps_if (pt_cmpR op_ge (C8.pe_c (c_length_of T) hr (by decide) rfl (pa_cons (pe_ix (ixL K rfl) (pv 1) pe_int (fun _ _ => rfl)) pa_nil)) (pv 0) (nomark _)) (pss_one (ps_ret (pe_tup (pa_cons pe_int (pa_cons (pe_tup (pa_cons (pe_tup (pa_cons pe_int (pa_cons pe_int pa_nil))) pa_nil)) pa_nil))))) pss_nil)
      (C8.pss_cut (ps_set (i := 2) sc_least_form.nd rfl (Or.inr rfl) (pe_callB (clLen K rfl) (by rfl) T.f_len (by decide +kernel) (pa_cons (pv 1) pa_nil)))
      (C8.pss_cut (ps_set (i := 3) sc_least_form.nd rfl (Or.inl rfl) (pe_lst (starK K rfl (pe_slice (slL K rfl) (pv 1) (po_some pe_int) po_none) (pa_cons (pe_tup (pa_cons (pe_op op_add (pe_ix (ixT K rfl) (pe_ix (ixL K rfl) (pv 1) pe_int (fun _ _ => rfl)) pe_int (fun _ _ => rfl)) (pv 0)) (pa_cons pe_int pa_nil))) pa_nil))))
      (C8.pss_cut (ps_set (i := 4) sc_least_form.nd rfl (Or.inr rfl) (pe_lc (own := [("run", 5), ("later", 6)]) rfl sc_least_form.nd (piZ K rfl (by rfl) T.f_zip (pa_cons (pv 1) (pa_cons (pv 3) pa_nil))) (blkOk_by (own := [("run", 5), ("later", 6)]) (N := N_least_form) (sc := defScope s_least_form) (by decide +kernel)) (fun _ _ _ _ _ => (pgT K 2 rfl (by rfl) (pgs_cons (pg_name (i := 5) sc_least_form.nd rfl (Or.inl rfl)) (pgs_cons (pg_name (i := 6) sc_least_form.nd rfl (Or.inl rfl)) pgs_nil)))) (fun _ _ _ _ _ => pts_nil) (fun _ _ _ _ _ => (pe_tup (pa_cons (C8.pe_c (c_length_of T) hr (by decide) rfl (pa_cons (pv 5) pa_nil)) (pa_cons (pe_op op_sub (pe_ix (ixT K rfl) (pv 6) pe_int (fun _ _ => rfl)) (pe_ix (ixT K rfl) (pv 5) pe_int (fun _ _ => rfl))) pa_nil))))))
      (C8.pss_cut (ps_setLc (i := 7) (own := [("turn", 8)]) rfl sc_least_form.nd rfl rfl (sw_true rfl rfl rfl (by decide +kernel)) (pi_range2 rfl T.f_range (pa_cons pe_int (pa_cons (pe_op op_add (pv 2) pe_int) pa_nil))) (blkOk_by (own := [("turn", 8)]) (N := N_least_form) (sc := defScope s_least_form) (by decide +kernel)) (fun _ _ _ _ _ => (pg_name (i := 8) sc_least_form.nd rfl (Or.inl rfl))) (fun _ _ _ _ _ => (pts_one (PW.pt (pw_and (pt_cmpR op_eq (pe_op op_mod (pv 2) (pv 8)) pe_int (nomark _)) (pw_and1 (pt_cmpR (oEqD K rfl hr.units) (pe_lst (starK K rfl (pe_slice (slL K rfl) (pv 4) (po_some (pv 8)) po_none) (starK K rfl (pe_slice (slL K rfl) (pv 4) po_none (po_some (pv 8))) pa_nil))) (pv 4) (nomark _))))))) (fun _ _ _ _ _ => (pv 8)))
      (C8.pss_cut (ps_set (i := 9) sc_least_form.nd rfl (Or.inl rfl) (pe_slice (slL K rfl) (pv 1) po_none (po_some (pe_ix (ixL K rfl) (pv 7) pe_int (fun _ _ => rfl)))))
      (pss_one (ps_ret (pe_tup (pa_cons (pe_callB (clSum K rfl rfl) (by rfl) T.f_sum (by decide +kernel) (pa_cons (pe_lc (own := [("pair", 10)]) rfl sc_least_form.nd (piL K rfl (pe_slice (slL K rfl) (pv 4) po_none (po_some (pe_ix (ixL K rfl) (pv 7) pe_int (fun _ _ => rfl))))) (blkOk_by (own := [("pair", 10)]) (N := N_least_form) (sc := defScope s_least_form) (by decide +kernel)) (fun _ _ _ _ _ => (pg_name (i := 10) sc_least_form.nd rfl (Or.inl rfl))) (fun _ _ _ _ _ => pts_nil) (fun _ _ _ _ _ => (pe_ix (ixT K rfl) (pv 10) pe_int (fun _ _ => rfl)))) pa_nil)) (pa_cons (pe_callTy (clTup K rfl) (by rfl) T.f_tuple (by decide +kernel) (pa_cons (pv 9) pa_nil)) pa_nil)))))))))))), ?_⟩
  refine ⟨_, rfl, a, us, rfl, .inl hU, rfl, _, rfl, ?_⟩
  rw [el]
  rcases leastO_eq ht with ⟨rfl, rfl⟩ | ⟨r, rest, rfl, hx⟩
  · refine iteT ⟨(by decide), fun p1 hp1 => ⟨(by show (2 : Nat) ≤ sizeLine; decide), fun p2 hp2 => ?_⟩⟩
    exact q _ _ ((Same.new hp1).trans (Same.new hp2)) ⟨p1, .inl (.inl upd_same), (by decide), [], .inl (.inl (Same.new hp2 _ _ upd_same)), .nil⟩
  cases pu with
  | cons r0 prest =>
  rename_i u0 urest
  obtain ⟨b0, rfl, hb0⟩ := r0
  have pu : Paired (RunAt K H) (.ref b0 :: urest) (r :: rest) := .cons ⟨b0, rfl, hb0⟩ prest
  rw [decide_eq_false (fun z => by have := V.int.inj z; rw [List.length_cons] at this; omega : ¬ V.int ((r :: rest).length : Nat) = V.int 0)]
  refine iteF ⟨_, rfl, a, _, _, _, rfl, rfl, hU, atI_nat (j := 0) rfl, b0, r, rfl, hb0, _, rfl, _, _, rfl, rfl, _, rfl, ?_⟩
  rcases hx with ⟨hc, rfl⟩ | ⟨hc, k, ts, hk, rfl⟩
  · rw [decide_eq_true hc]
    refine iteT ⟨(by show (2 : Nat) ≤ sizeLine; decide), fun p1 hp1 => ⟨(by show (1 : Nat) ≤ sizeLine; decide), fun p2 hp2 => ⟨(by show (2 : Nat) ≤ sizeLine; decide), fun p3 hp3 => ?_⟩⟩⟩
    exact q _ _ (((Same.new hp1).trans (Same.new hp2)).trans (Same.new hp3)) ⟨p2, .inl (.inl upd_same), (by decide), _, .inl (.inl (Same.new hp3 _ _ upd_same)), .cons ⟨p1, rfl, .inl (.inl (Same.new hp3 _ _ (Same.new hp2 _ _ upd_same)))⟩ .nil⟩
  rw [decide_eq_false hc]
  obtain ⟨hk1, hk2⟩ := turnsOf_pos hk
  have ex : rowP p (r :: rest) = ((r :: rest).zip (rest ++ [(r.1 + p, 0)])).map fun q => (lenR q.1, q.2.1 - q.1.1) := rfl
  have lrow : (rowP p (r :: rest)).length = (r :: rest).length := by
    rw [ex, List.length_map, List.length_zip, List.length_append, List.length_cons]
    simp
  have lus : (V.ref b0 :: urest).length = (r :: rest).length := el
  refine iteF ⟨fun σ G => G = H ∧ σ = [some (.int p), some (.ref a), some (.int ((r :: rest).length : Nat)), none, none, none, none, none, none, none, none], ⟨_, rfl, a, _, rfl, .inl hU, rfl, by rw [el] <;> rfl⟩, ?_⟩
  rintro σ G ⟨rfl, rfl⟩
  refine ⟨fun σ G' => ∃ n, σ = [some (.int p), some (.ref a), some (.int ((r :: rest).length : Nat)), some (.ref n), none, none, none, none, none, none, none] ∧ Same G G' ∧ RunsL K G' n (rest ++ [(r.1 + p, 0)]), ?_, ?_⟩
  · refine ⟨_, rfl, _, rfl, a, _, rfl, hU, fun l1 hl1 => ?_⟩
    rw [show (1 : Int) = ((1 : Nat) : Int) from rfl, cut_from]
    refine ⟨l1, urest, rfl, .inr (.of upd_same), ?_⟩
    have e1 : Same G _ := Same.new (o := .lst urest) hl1
    refine ⟨_, rfl, a, _, _, _, rfl, rfl, Same.seq e1 hU, atI_nat (j := 0) rfl, b0, _, _, _, rfl, rfl, Same.seqT e1 hb0, rfl, _, rfl, _, _, rfl, rfl, (by show (2 : Nat) ≤ sizeLine; decide), fun p2 hp2 => ⟨?_, fun p3 hp3 => ⟨p3, rfl, (e1.trans (Same.new hp2)).trans (Same.new hp3), ?_, _, .of upd_same, ?_⟩⟩⟩
    · rw [List.length_append, prest.length]
      refine Nat.le_trans (m := 3000) ?_ (by decide)
      rw [List.length_cons] at h2
      simp only [List.length_cons, List.length_nil]
      omega
    · rw [List.length_append]
      rw [List.length_cons] at h2
      simp only [List.length_cons, List.length_nil]
      omega
    · exact paired_app (paired_imp prest fun v z r => r.same ((e1.trans (Same.new hp2)).trans (Same.new hp3))) (.cons ⟨p2, rfl, .inl (.inl (Same.new hp3 _ _ upd_same))⟩ .nil)
  rintro σ G1 ⟨n, rfl, e1, nl, nu, nS, np⟩
  have lnu : nu.length = (r :: rest).length := by
    rw [np.length, List.length_append, List.length_cons]
    simp
  refine ⟨fun σ G' => ∃ n w, σ = [some (.int p), some (.ref a), some (.int ((r :: rest).length : Nat)), some (.ref n), some (.ref w), none, none, none, none, none, none] ∧ Same G G' ∧ RunsL K G' w (rowP p (r :: rest)), ?_, ?_⟩
  · refine ⟨_, rfl, _, rfl, a, n, _, _, rfl, Same.seq e1 hU, nS, fun D hD => lcA (its_zip (Same.seq e1 hU) nS (by rw [lus, lnu])) hD (rowP p (r :: rest)) (stab_run (K := K)) (by rw [lrow, lus]) (by rw [lus]; omega) (fun i y z H' hi hy hzi e Qe q => ?_) mg_n2 fun ys G2 e2 hy py => ?_⟩
    · obtain ⟨T0, x1, x2, rfl, hT, hx1, hx2⟩ := hy
      obtain ⟨r1, hr1, ⟨c1, rfl, hc1⟩⟩ := paired_get pu hx1
      obtain ⟨r2, hr2, ⟨c2, rfl, hc2⟩⟩ := paired_get np hx2
      have hc1 := Same.seqT (e1.trans e) hc1
      have hc2 := Same.seqT e hc2
      have hz' : z = (lenR r1, r2.1 - r1.1) := by
        rw [ex, List.getElem?_map, List.getElem?_zip_eq_some (z := (r1, r2)) |>.mpr ⟨hr1, hr2⟩] at hzi
        exact (Option.some.inj hzi).symm
      subst hz'
      refine ⟨T0, _, rfl, .inl (.inl hT), rfl, _, _, rfl, _, _, rfl, rfl, rfl, ?_⟩
      exact ⟨_, rfl, c1, r1, rfl, hc1, _, rfl, c2, _, _, _, rfl, rfl, hc2, rfl, _, rfl, c1, _, _, _, rfl, rfl, hc1, rfl, _, _, rfl, rfl, (by show (2 : Nat) ≤ sizeLine; decide), fun p hp => q _ _ (Same.new hp) ⟨p, rfl, .inl (.inl upd_same)⟩⟩
    · exact ⟨n, D, rfl, e1.trans e2, by rw [lrow]; exact hl, ys, .of hy, py⟩
  clear nS np
  rintro σ G2 ⟨n, w, rfl, e2, hW⟩
  refine ⟨fun σ G' => ∃ n w u, σ = [some (.int p), some (.ref a), some (.int ((r :: rest).length : Nat)), some (.ref n), some (.ref w), none, none, some (.ref u), none, none, none] ∧ Same G G' ∧ RunsL K G' w (rowP p (r :: rest)) ∧ SqL K G' u (((k :: ts).map fun t => ((t : Nat) : Int)).map V.int), ?_, ?_⟩
  · obtain ⟨wl, wu, wS, wp⟩ := hW
    refine ⟨_, rfl, _, _, rfl, rfl, 1, ((r :: rest).length : Int) + 1, rfl, ⟨by decide, by decide, by omega, by omega⟩, fun D hD => lcG its_range hD ((List.range' 1 (r :: rest).length).map fun t => if turnB (rowP p (r :: rest)) (r :: rest).length t = true then some ((t : Nat) : Int) else none) stab_int (by rw [List.length_map, List.length_range']; omega) (by omega) (fun i y oz H' hi hy hzi e Qe Qn q1 q2 => ?_) fun ys G3 e3 hy py => ?_⟩
    · subst hy
      have hi' : i < (r :: rest).length := by omega
      rw [List.getElem?_map, List.getElem?_range' hi'] at hzi
      have hoz := Option.some.inj hzi
      rw [show 1 + 1 * i = i + 1 by omega] at hoz
      replace hoz : (if turnB (rowP p (r :: rest)) (r :: rest).length (i + 1) = true then some ((i + 1 : Nat) : Int) else none) = oz := hoz
      have et : (1 : Int) + (i : Nat) = ((i + 1 : Nat) : Int) := by omega
      rw [et]
      refine ⟨rfl, _, rfl, _, rfl, _, _, rfl, rfl, by omega, rfl, _, rfl, ?_⟩
      have em : decide (V.int (((r :: rest).length : Int) % ((i + 1 : Nat) : Int)) = V.int 0) = ((r :: rest).length % (i + 1) == 0) := by
        rw [← Int.natCast_emod]
        rw [Bool.eq_iff_iff]
        simp only [decide_eq_true_eq, beq_iff_eq, V.int.injEq]
        omega
      rw [em]
      cases hb : ((r :: rest).length % (i + 1) == 0) with
      | false =>
        refine iteF (iteF (q2 ?_ _ (Same.refl _)))
        rw [← hoz]
        unfold turnB
        rw [hb, Bool.false_and]
        rfl
      | true =>
        refine iteT ⟨_, rfl, _, rfl, _, rfl, w, _, rfl, Same.seq e wS, fun l1 hl1 => ⟨l1, _, rfl, .inr (.of upd_same), ?_⟩⟩
        have e1' := Same.new (o := .lst (cutV wu (some ((i + 1 : Nat) : Int)) none)) hl1
        refine ⟨_, rfl, _, rfl, _, rfl, w, _, rfl, Same.seq e1' (Same.seq e wS), fun l2 hl2 => ⟨l2, _, rfl, .inr (.of upd_same), ?_⟩⟩
        have e2' := Same.new (o := .lst (cutV wu none (some ((i + 1 : Nat) : Int)))) hl2
        have e0 := e.trans (e1'.trans e2')
        have pz : ∀ G4, Same G2 G4 → Paired (RunAt K G4) (cutV wu (some ((i + 1 : Nat) : Int)) none ++ (cutV wu none (some ((i + 1 : Nat) : Int)) ++ [])) ((rowP p (r :: rest)).drop (i + 1) ++ (rowP p (r :: rest)).take (i + 1)) := fun G4 e4 => by
          rw [cut_from, cut_to, List.append_nil]
          exact paired_imp (paired_app (paired_drop _ wp) (paired_take _ wp)) fun v z r => r.same e4
        have lz : ((rowP p (r :: rest)).drop (i + 1) ++ (rowP p (r :: rest)).take (i + 1)).length ≤ 3000 := by
          rw [List.length_append, List.length_drop, List.length_take]
          omega
        refine ⟨by rw [(pz G2 (Same.refl _)).length]; exact Nat.le_trans lz (by decide), fun p3 hp3 => ?_⟩
        have e3' := e0.trans (Same.new (o := .lst (cutV wu (some ((i + 1 : Nat) : Int)) none ++ (cutV wu none (some ((i + 1 : Nat) : Int)) ++ []))) hp3)
        refine ⟨_, rfl, _, _, dp_list (rs := (rowP p (r :: rest)).drop (i + 1) ++ (rowP p (r :: rest)).take (i + 1)) ⟨lz, _, .of upd_same, pz _ e3'⟩, dp_list (rs := rowP p (r :: rest)) ⟨wl, _, Same.seq e3' wS, paired_imp wp fun v z r => r.same e3'⟩, sh_list _, sh_list _, ?_⟩
        rw [ev_list]
        refine ⟨_, rfl, ?_⟩
        have ez : oz = if decide ((rowP p (r :: rest)).drop (i + 1) ++ (rowP p (r :: rest)).take (i + 1) = rowP p (r :: rest)) = true then some (((i + 1 : Nat)) : Int) else none := by
          rw [← hoz]
          unfold turnB
          rw [hb, Bool.true_and]
        have eq3 := (e1'.trans e2').trans (Same.new (o := .lst (cutV wu (some ((i + 1 : Nat) : Int)) none ++ (cutV wu none (some ((i + 1 : Nat) : Int)) ++ []))) hp3)
        cases hd : decide ((rowP p (r :: rest)).drop (i + 1) ++ (rowP p (r :: rest)).take (i + 1) = rowP p (r :: rest)) with
        | true =>
          rw [hd] at ez
          exact iteT ⟨_, rfl, q1 _ ez _ _ eq3 rfl⟩
        | false =>
          rw [hd] at ez
          exact iteF (q2 ez _ eq3)
    · rw [fm_filter] at py
      rw [paired_int py] at hy
      refine ⟨n, w, D, rfl, e2.trans e3, runsL_same e3 ⟨wl, wu, wS, wp⟩, ?_⟩
      rw [← hk]
      exact .of hy
  clear hW
  rintro σ G3 ⟨n, w, u, rfl, e3, hW, hU3⟩
  refine ⟨fun σ G' => ∃ n w u f, σ = [some (.int p), some (.ref a), some (.int ((r :: rest).length : Nat)), some (.ref n), some (.ref w), none, none, some (.ref u), none, some (.ref f), none] ∧ Same G G' ∧ RunsL K G' w (rowP p (r :: rest)) ∧ SqL K G' u (((k :: ts).map fun t => ((t : Nat) : Int)).map V.int) ∧ RunsL K G' f ((r :: rest).take k), ?_, ?_⟩
  · refine ⟨_, rfl, _, rfl, u, _, _, _, rfl, rfl, hU3, atI_nat (j := 0) rfl, _, rfl, a, _, rfl, Same.seq e3 hU, fun l1 hl1 => ⟨n, w, u, l1, rfl, e3.trans (Same.new hl1), runsL_same (Same.new hl1) hW, Same.seq (Same.new hl1) hU3, by rw [List.length_take]; omega, _, .of upd_same, ?_⟩⟩
    rw [cut_to]
    exact paired_imp (paired_take _ pu) fun v z r => r.same (e3.trans (Same.new hl1))
  clear hW hU3
  rintro σ G4 ⟨n, w, u, f, rfl, e4, ⟨wl, wu, wS, wp⟩, hU4, fl, fu, fS, fp⟩
  refine ⟨_, rfl, _, rfl, u, _, _, _, rfl, rfl, hU4, atI_nat (j := 0) rfl, _, rfl, w, _, rfl, wS, fun l1 hl1 => ?_⟩
  rw [cut_to]
  have e1' := Same.new (o := .lst (wu.take k)) hl1
  have wpk := paired_take k wp
  have lk := wpk.length
  refine ⟨l1, rfl, ⟨_, .of upd_same⟩, fun D hD => lcA (its_list (.of upd_same)) hD (((rowP p (r :: rest)).take k).map (·.2)) stab_int (by rw [List.length_map, lk]) (by rw [lk, List.length_take]; omega) (fun i y z H' hi hy hzi e Qe q => ?_) gname_mono fun ys G5 e5 hy py => ?_⟩
  · obtain ⟨r1, hr1, ⟨c1, rfl, hc1⟩⟩ := paired_get wpk hy
    rw [List.getElem?_map, hr1] at hzi
    obtain rfl := Option.some.inj hzi
    exact ⟨rfl, _, rfl, c1, _, _, _, rfl, rfl, Same.seqT (e1'.trans e) hc1, rfl, q _ _ (Same.refl _) rfl⟩
  · rw [paired_int py] at hy
    refine ⟨D, _, rfl, .of hy, ?_⟩
    have e45 := e1'.trans e5
    refine ⟨_, rfl, f, _, rfl, .inl ⟨Same.seq e45 fS, fun l2 hl2 => ⟨(by show (2 : Nat) ≤ sizeLine; decide), fun p3 hp3 => ?_⟩⟩⟩
    have e46 := (e45.trans (Same.new (o := .tup fu) hl2)).trans (Same.new (o := .tup [.int ((((rowP p (r :: rest)).take k).map (·.2)).sum), .ref l2]) hp3)
    exact q _ _ (e4.trans e46) ⟨l2, .inl (.inl upd_same), fl, fu, .inl (.inl (Same.new hp3 _ _ upd_same)), paired_imp fp fun v z r => r.same e46⟩
end
end K32

/-! lots.py -/
namespace K32
open PySem PyProof.Rows L2
section
variable {P : Program} {w : World} {K : PySem.W.Frag} {mg : Str → Option Value} {base : Heap}
theorem c_need_integer (T : Top K mg) : C8.Cal P w K mg base 2 "need_integer" spNeedI [] := by
  refine calF T.need_integer (fun _ _ _ _ _ _ us hl => match us, hl with | [_], _ => rfl) sc_need_integer (by rintro vs H Q E ⟨i, rfl, _⟩; rfl) (fun cdv A outer s H vs Q E hr h => ?_)
  obtain ⟨i, rfl, k⟩ := h
  refine ⟨_, (pss_one (ps_if (pt_not (pt_val (C8.pe_c (c_is_whole T) hr (by decide) rfl (pa_cons (pv 0) pa_nil)))) (pss_one (ps_never)) pss_nil)), ?_⟩
  exact ⟨_, rfl, i, rfl, true, rfl, iteF k⟩
def spFew : Sp := fun vs H Q _ => ∃ i, vs = [.int i] ∧ i ≤ 2000 ∧ Q .non H
theorem c_need_few (T : Top K mg) : C8.Cal P w K mg base 1 "need_few" spFew [] := by
  refine calF T.need_few (fun _ _ _ _ _ _ us hl => match us, hl with | [_], _ => rfl) sc_need_few (by rintro vs H Q E ⟨i, rfl, _⟩; rfl) (fun cdv A outer s H vs Q E hr h => ?_)
  obtain ⟨i, rfl, hi, k⟩ := h
  refine ⟨_, (pss_one (ps_if (pt_cmpR op_gt (pv 0) (C8.pe_gc (by rfl) (gI T.g_MOST_RUNS_lots)) (nomark _)) (pss_one (ps_never)) pss_nil)), ?_⟩
  refine ⟨_, rfl, _, _, rfl, rfl, _, rfl, ?_⟩
  rw [decide_eq_false (by omega)]
  exact iteF k
def LotAt (K : PySem.W.Frag) (t : Tab) (H : Hp) (a : Addr) : Prop := ∃ dx ra ba n, H a = some (.ins (ga K "Lot") dx [("period", .int t.1), ("runs", .ref ra), ("size", .int n), ("own_begins", .ref ba)]) ∧ RunsT K H ra t.2 ∧ SqL K H ba ((t.2.map (·.1)).map V.int)
theorem LotAt.same {t : Tab} {H H' : Hp} {a : Addr} (e : Same H H') (h : LotAt K t H a) : LotAt K t H' a := let ⟨dx, ra, ba, n, h1, h2, h3⟩ := h; ⟨dx, ra, ba, n, e _ _ h1, runsT_same e h2, e.seq h3⟩
/-- its list of begins is younger than G -/
def LotAtN (K : PySem.W.Frag) (t : Tab) (G H : Hp) (a : Addr) : Prop := ∃ dx ra ba n, H a = some (.ins (ga K "Lot") dx [("period", .int t.1), ("runs", .ref ra), ("size", .int n), ("own_begins", .ref ba)]) ∧ RunsT K H ra t.2 ∧ SqL K H ba ((t.2.map (·.1)).map V.int) ∧ G ba = none
theorem LotAtN.lot {t : Tab} {G H : Hp} {a : Addr} (h : LotAtN K t G H a) : LotAt K t H a := let ⟨dx, ra, ba, n, h1, h2, h3, _⟩ := h; ⟨dx, ra, ba, n, h1, h2, h3⟩
theorem LotAtN.old {t : Tab} {G G' H : Hp} {a : Addr} (e : Same G G') (h : LotAtN K t G' H a) : LotAtN K t G H a := let ⟨dx, ra, ba, n, h1, h2, h3, h4⟩ := h; ⟨dx, ra, ba, n, h1, h2, h3, Same.none e h4⟩
/-- Lot(p, run, ..) -/
def spLot (K : PySem.W.Frag) : Sp := fun vs H Q _ => ∃ x dx p rs' rs t, vs = .ref x :: .int p :: rs' ∧ H x = some (.ins (ga K "Lot") dx []) ∧ Paired (RunAt K (dropD H x)) rs' rs ∧ rs.length ≤ 3000 ∧ mkLot p rs = some t ∧ ∀ H', Same (dropD H x) H' → LotAtN K t (dropD H x) H' x → Q .non H'
def spLot1 (K : PySem.W.Frag) : Sp := InitSp (ga K "Lot") fun G ws Ob => ∃ p a rs t, ws = [.int p, .ref a] ∧ RunsT K G a rs ∧ mkLot p rs = some t ∧ Ob = LotAtN K t G
theorem mk_Lot (T : Top K mg) : MakR P w K mg base 4 "Lot" (ga K "Lot") (spLot K) := by
  refine ⟨_, T.mk_Lot, (fnRS (k := 3) (ps := ["self", "period"]) (pv := "runs") (sp := spLot1 K) T.Lot___init__ (fun kV doc pm an cdv ct => StX.bind_star2 (B := fun l => bindArgs (PySem.W.fnOf "__init__" "Lot.__init__" (defArgs s_Lot___init__) (defBody s_Lot___init__) (defScope s_Lot___init__) .none kV doc pm an cdv ct) ⟨l, []⟩) (fun _ _ => rfl) (fun _ _ _ _ => rfl)) sc_Lot___init__ (fun cdv A outer sh H vs Q E hr h => ?_)).imp (fun vs H Q E h => ?_), T.c_Lot⟩
  · obtain ⟨x, dx, ws, Ob, rfl, hx, ⟨p, a, rs, t, rfl, hA, ht, rfl⟩, q⟩ := h
    obtain ⟨⟨h1, h2⟩, found, h3, h4, h5⟩ := mkLot_eq ht
    refine ⟨_, (pss_cons (ps_if (PW.pt (pw_or (pt_not (pt_val (C8.pe_c (c_is_whole T) hr (by decide) rfl (pa_cons (pv 1) pa_nil)))) (pw_or1 (pt_cmpR op_lt (pv 1) pe_int (nomark _))))) (pss_one (ps_never)) pss_nil)
      (pss_cons (ps_if (pt_not (pt_val (pe_callB (clAll K rfl rfl) (by rfl) T.f_all (by decide +kernel) (pa_cons (pe_lc (own := [("run", 3)]) rfl sc_Lot___init__.nd (piT K rfl (pv 2)) (blkOk_by (own := [("run", 3)]) (N := N_Lot___init__) (sc := defScope s_Lot___init__) (by decide +kernel)) (fun _ _ _ _ _ => (pg_name (i := 3) sc_Lot___init__.nd rfl (Or.inl rfl))) (fun _ _ _ _ _ => pts_nil) (fun _ _ _ _ _ => (C8.pe_c (c_is_run T) hr (by decide) rfl (pa_cons (pv 3) pa_nil)))) pa_nil)))) (pss_one (ps_never)) pss_nil)
      (C8.pss_cut (ps_set (i := 4) sc_Lot___init__.nd rfl (Or.inl rfl) (C8.pe_c (c_maximal T) hr (by decide) rfl (pa_cons (pv 1) (pa_cons (pv 2) pa_nil))))
      (pss_cons (ps_expr (C8.pe_c (c_need_few T) hr (by decide) rfl (pa_cons (pe_callB (clLen K rfl) (by rfl) T.f_len (by decide +kernel) (pa_cons (pv 4) pa_nil)) pa_nil)))
      (C8.pss_cut (ps_set (i := 5) sc_Lot___init__.nd rfl (Or.inl rfl) (C8.pe_c (c_least_form T) hr (by decide) rfl (pa_cons (pv 1) (pa_cons (pv 4) pa_nil))))
      (pss_cons (sfldK K rfl (pv 0) (pe_ix (ixT K rfl) (pv 5) pe_int (fun _ _ => rfl)) rfl)
      (pss_cons (sfldK K rfl (pv 0) (pe_ix (ixT K rfl) (pv 5) pe_int (fun _ _ => rfl)) rfl)
      (C8.pss_cut (sfldK K rfl (pv 0) (pe_callB (clSum K rfl rfl) (by rfl) T.f_sum (by decide +kernel) (pa_cons (pe_lc (own := [("run", 3)]) rfl sc_Lot___init__.nd (piT K rfl (fldK K rfl (pv 0) rfl)) (blkOk_by (own := [("run", 3)]) (N := N_Lot___init__) (sc := defScope s_Lot___init__) (by decide +kernel)) (fun _ _ _ _ _ => (pg_name (i := 3) sc_Lot___init__.nd rfl (Or.inl rfl))) (fun _ _ _ _ _ => pts_nil) (fun _ _ _ _ _ => (C8.pe_c (c_length_of T) hr (by decide) rfl (pa_cons (pv 3) pa_nil)))) pa_nil)) rfl)
      (pss_one (sfldK K rfl (pv 0) (pe_lc (own := [("run", 3)]) rfl sc_Lot___init__.nd (piT K rfl (fldK K rfl (pv 0) rfl)) (blkOk_by (own := [("run", 3)]) (N := N_Lot___init__) (sc := defScope s_Lot___init__) (by decide +kernel)) (fun _ _ _ _ _ => (pg_name (i := 3) sc_Lot___init__.nd rfl (Or.inl rfl))) (fun _ _ _ _ _ => pts_nil) (fun _ _ _ _ _ => (pe_ix (ixT K rfl) (pv 3) pe_int (fun _ _ => rfl)))) rfl)))))))))), ?_⟩
    have g0 : Same (dropD H x) H := drop_same
    obtain ⟨hl, us, hU, pu⟩ := runsT_same g0 hA
    have el := pu.length
    refine ⟨_, rfl, _, rfl, true, rfl, iteF ⟨_, rfl, _, _, rfl, rfl, _, rfl, ?_⟩⟩
    rw [decide_eq_false (by omega)]
    refine iteF ?_
    refine ⟨_, rfl, a, rfl, ⟨_, hU⟩, fun D hD => lcA (its_tup hU) hD (rs.map fun r => decide (r.1 ≤ r.2)) stab_bl (by rw [List.length_map, el]) (by omega) (fun i y z H' hi hy hzi e Qe q => ?_) gname_mono fun ys H1 e1 hy py => ?_⟩
    · obtain ⟨r, hr1, ⟨b, rfl, hb⟩⟩ := paired_get pu hy
      rw [List.getElem?_map, hr1] at hzi
      obtain rfl := Option.some.inj hzi
      exact ⟨rfl, _, rfl, b, r, rfl, Same.seqT e hb, q _ _ (Same.refl _) rfl⟩
    rw [paired_bl py] at hy
    refine ⟨D, _, rfl, .of hy, ?_⟩
    rw [List.all_map]
    refine ⟨true, by rw [show (rs.all (id ∘ fun r => decide (r.1 ≤ r.2))) = true from h2] <;> rfl, iteF ?_⟩
    have hx1 := e1 _ _ hx
    have hA1 := runsT_same (Same.trans g0 e1) hA
    have g1 := Same.trans g0 e1
    refine ⟨fun σ G => ∃ f, σ = [some (.ref x), some (.int p), some (.ref a), none, some (.ref f), none] ∧ Same H1 G ∧ RunsL K G f found, ⟨_, rfl, _, rfl, a, p, rs, found, rfl, hA1, h3, fun l H2 e2 hF => ⟨l, rfl, e2, hF⟩⟩, ?_⟩
    rintro σ H2 ⟨f, rfl, e2, hF⟩
    have hF' := hF
    obtain ⟨fl, fu, fS, fp⟩ := hF'
    refine ⟨_, rfl, f, _, rfl, .inl fS, _, rfl, ?_, ?_⟩
    · rw [fp.length]
      omega
    refine ⟨fun σ G => ∃ f l, σ = [some (.ref x), some (.int p), some (.ref a), none, some (.ref f), some (.ref l)] ∧ Same H2 G ∧ TabP K G l t, ⟨_, rfl, _, rfl, f, p, found, t, rfl, hF, h4, h5, fun l H3 e3 hL => ⟨f, l, rfl, e3, hL⟩⟩, ?_⟩
    rintro σ H3 ⟨f, l, rfl, e3, b, hl1, hB⟩
    have hx3 := e3 _ _ (e2 _ _ hx1)
    have g3 := Same.trans (Same.trans g1 e2) e3
    refine ⟨_, rfl, l, _, _, _, rfl, rfl, hl1, rfl, _, rfl, x, _, _, _, rfl, hx3, T.k_Lot, T.n_Lot_period, few rfl, ?_⟩
    have k4 := Keep.upd (o := .ins (ga K "Lot") dx [("period", .int t.1)]) hx3
    refine ⟨_, rfl, l, _, _, _, rfl, rfl, k4.seqT hl1, rfl, _, rfl, x, _, _, _, rfl, upd_same, T.k_Lot, T.n_Lot_runs, few rfl, ?_⟩
    have k5 := k4.trans (Keep.upd (H := upd H3 x (.ins (ga K "Lot") dx [("period", .int t.1)])) (o := .ins (ga K "Lot") dx [("period", .int t.1), ("runs", .ref b)]) upd_same)
    have hB5 := runsT_keep k5 hB
    have g5 := Same.updX (o := .ins (ga K "Lot") dx [("period", .int t.1), ("runs", .ref b)]) dropD_at (Same.updX (o := .ins (ga K "Lot") dx [("period", .int t.1)]) dropD_at g3)
    have hx5 : (upd (upd H3 x (.ins (ga K "Lot") dx [("period", .int t.1)])) x (.ins (ga K "Lot") dx [("period", .int t.1), ("runs", .ref b)])) x = some (.ins (ga K "Lot") dx [("period", .int t.1), ("runs", .ref b)]) := upd_same
    refine ⟨fun σ G => ∃ n, σ = [some (.ref x), some (.int p), some (.ref a), none, some (.ref f), some (.ref l)] ∧ Same (dropD H x) G ∧ G x = some (.ins (ga K "Lot") dx [("period", .int t.1), ("runs", .ref b), ("size", .int n)]) ∧ RunsT K G b t.2, ?_, ?_⟩
    · show sFld K (tVar 0) _ _ _ _ (upd (upd H3 x (.ins (ga K "Lot") dx [("period", .int t.1)])) x (.ins (ga K "Lot") dx [("period", .int t.1), ("runs", .ref b)]))
      generalize upd (upd H3 x (.ins (ga K "Lot") dx [("period", .int t.1)])) x (.ins (ga K "Lot") dx [("period", .int t.1), ("runs", .ref b)]) = H5 at hB5 g5 hx5 ⊢
      obtain ⟨bl, bu, bS, bp⟩ := hB5
      refine ⟨_, rfl, x, _, _, _, _, rfl, hx5, T.k_Lot, T.n_Lot_runs, rfl, b, rfl, ⟨_, bS⟩, fun D hD => lcA (its_tup bS) hD (t.2.map lenR) stab_int (by rw [List.length_map, bp.length]) (by rw [bp.length]; omega) (fun i y z H' hi hy hzi e Qe q => ?_) gname_mono fun ys H6 e6 hy py => ?_⟩
      · obtain ⟨r, hr1, ⟨c, rfl, hc⟩⟩ := paired_get bp hy
        rw [List.getElem?_map, hr1] at hzi
        obtain rfl := Option.some.inj hzi
        exact ⟨rfl, _, rfl, c, r, rfl, Same.seqT e hc, q _ _ (Same.refl _) rfl⟩
      · rw [paired_int py] at hy
        have hx6 := e6 _ _ hx5
        refine ⟨D, _, rfl, .of hy, _, rfl, x, _, _, _, rfl, hx6, T.k_Lot, T.n_Lot_size, few rfl, ⟨_, rfl, Same.updX dropD_at (g5.trans e6), upd_same, runsT_keep (Keep.upd hx6) (runsT_same e6 ⟨bl, bu, bS, bp⟩)⟩⟩
    rintro σ H6 ⟨n, rfl, g6, hx6, hB6⟩
    obtain ⟨bl, bu, bS, bp⟩ := hB6
    refine ⟨_, rfl, x, _, _, _, _, rfl, hx6, T.k_Lot, T.n_Lot_runs, rfl, b, rfl, ⟨_, bS⟩, fun D hD => lcA (its_tup bS) hD (t.2.map (·.1)) stab_int (by rw [List.length_map, bp.length]) (by rw [bp.length]; omega) (fun i y z H' hi hy hzi e Qe q => ?_) gname_mono fun ys H7 e7 hy py => ?_⟩
    · obtain ⟨r, hr1, ⟨c, rfl, hc⟩⟩ := paired_get bp hy
      rw [List.getElem?_map, hr1] at hzi
      obtain rfl := Option.some.inj hzi
      exact ⟨rfl, _, rfl, c, _, _, _, rfl, rfl, Same.seqT e hc, rfl, q _ _ (Same.refl _) rfl⟩
    · rw [paired_int py] at hy
      have hx7 := e7 _ _ hx6
      have k7 := Keep.upd (o := .ins (ga K "Lot") dx [("period", .int t.1), ("runs", .ref b), ("size", .int n), ("own_begins", .ref D)]) hx7
      exact ⟨_, rfl, x, _, _, _, rfl, hx7, T.k_Lot, T.n_Lot_own_begins, few rfl, q _ (Same.updX dropD_at (g6.trans e7)) ⟨dx, b, D, n, upd_same, runsT_keep k7 (runsT_same e7 ⟨bl, bu, bS, bp⟩), k7.seqL (.of hy), Same.none g6 hD⟩⟩
  · obtain ⟨x, dx, p, rs', rs, t, rfl, hx, pr, hl, ht, q⟩ := h
    refine ⟨[.ref x, .int p], rs', rfl, rfl, by rw [pr.length]; exact Nat.le_trans hl (by decide), fun a ha => ?_⟩
    have hxa : x ≠ a := fun z => by rw [z, ha] at hx; cases hx
    have e : Same (dropD H x) (dropD (upd H a (.tup rs')) x) := fun b u hb => by
      obtain ⟨n, hb⟩ := dropD_some hb
      rw [dropD_ne n, upd_ne (ne_of_none hb ha)]
      exact hb
    refine ⟨x, dx, _, LotAtN K t _, rfl, by rw [upd_ne hxa]; exact hx, ⟨p, a, rs, t, rfl, ⟨hl, rs', .inl (.inl ?_), paired_imp pr fun v z r => r.same e⟩, ht, rfl⟩, fun H' e' o => q H' (e.trans e') (o.old e)⟩
    rw [dropD_ne (Ne.symm hxa)]
    exact upd_same
end
end K32

/-! lots.py: at_least -/
namespace K32
open PySem PyProof.Rows L2
section
variable {P : Program} {w : World} {K : PySem.W.Frag} {mg : Str → Option Value} {base : Heap}
def spAtLeast (K : PySem.W.Frag) : Sp := fun vs H Q _ => ∃ a t n d, vs = [.ref a, .int n] ∧ LotAt K t H a ∧ atLeastO t n = some d ∧ Q (.int d) H
theorem m_at_least (T : Top K mg) : C8.Met P w K mg base 3 (ga K "Lot") "at_least" (spAtLeast K) [] := by
  refine metF T.k_Lot T.m_Lot_at_least T.Lot_at_least (fun _ _ _ _ _ _ us hl => match us, hl with | [_, _], _ => rfl) sc_Lot_at_least (by rintro vs H Q E ⟨a, t, n, d, rfl, _⟩; rfl) (fun cdv A outer sh H vs Q E hr h => ?_)
  obtain ⟨a, t, n, d, rfl, ⟨dx, ra, ba, m, ha, hR, hB⟩, hd, q⟩ := h
  obtain ⟨h1, last, first, at_, near, h2, h3, h4, h5, h6⟩ := atLeastO_eq hd
  obtain ⟨rl, ru, rS, rp⟩ := hR
  have el := rp.length
  refine ⟨_, (pss_cons (ps_expr (C8.pe_c (c_need_integer T) hr (by decide) rfl (pa_cons (pv 1) pa_nil)))
      (pss_cons (ps_if (pt_cmpR op_eq (pe_callB (clLen K rfl) (by rfl) T.f_len (by decide +kernel) (pa_cons (fldK K rfl (pv 0) rfl) pa_nil)) pe_int (nomark _)) (pss_one (ps_never)) pss_nil)
      (pss_cons (ps_set (i := 2) sc_Lot_at_least.nd rfl (Or.inl rfl) (pe_op op_mod (pv 1) (fldK K rfl (pv 0) rfl)))
      (C8.pss_cut (ps_set (i := 3) sc_Lot_at_least.nd rfl (Or.inl rfl) (C8.pe_c (c_place_among T) hr (by decide) rfl (pa_cons (fldK K rfl (pv 0) rfl) (pa_cons (pe_op op_add (pv 2) pe_int) pa_nil))))
      (C8.pss_cut (ps_if (PW.pt (pw_or (PW.pt (pw_and (pt_cmpR op_gt (pv 3) pe_int (nomark _)) (pw_and1 (pt_cmpR op_le (pv 2) (pe_ix (ixT K rfl) (pe_ix (ixT K rfl) (fldK K rfl (pv 0) rfl) (pe_op op_sub (pv 3) pe_int) (fun _ _ => rfl)) pe_int (fun _ _ => rfl)) (nomark _))))) (pw_or1 (pt_cmpR op_le (pe_op op_add (pv 2) (fldK K rfl (pv 0) rfl)) (pe_ix (ixT K rfl) (pe_ix (ixT K rfl) (fldK K rfl (pv 0) rfl) (pe_un un_neg pe_int) (fun _ _ => rfl)) pe_int (fun _ _ => rfl)) (nomark _))))) (pss_one (ps_ret (pv 1))) pss_nil)
      (pss_cons (ps_if (pt_cmpR op_lt (pv 3) (pe_callB (clLen K rfl) (by rfl) T.f_len (by decide +kernel) (pa_cons (fldK K rfl (pv 0) rfl) pa_nil)) (nomark _)) (pss_one (ps_ret (pe_op op_add (pe_op op_sub (pv 1) (pv 2)) (pe_ix (ixL K rfl) (fldK K rfl (pv 0) rfl) (pv 3) (fun _ _ => rfl))))) pss_nil)
      (pss_one (ps_ret (pe_op op_add (pe_op op_add (pe_op op_sub (pv 1) (pv 2)) (fldK K rfl (pv 0) rfl)) (pe_ix (ixL K rfl) (fldK K rfl (pv 0) rfl) pe_int (fun _ _ => rfl))))))))))), ?_⟩
  refine ⟨_, rfl, n, rfl, ?_⟩
  refine ⟨_, rfl, a, _, _, _, _, rfl, ha, T.k_Lot, T.n_Lot_runs, rfl, ra, _, rfl, .inr rS, rfl, _, rfl, ?_⟩
  have hne : t.2 ≠ [] := fun z => by rw [z] at h2; cases h2
  have hlen : 0 < t.2.length := List.length_pos_iff.mpr hne
  rw [decide_eq_false (fun z => by have := V.int.inj z; omega : ¬ V.int (ru.length : Nat) = V.int 0)]
  refine iteF ⟨_, rfl, _, rfl, a, _, _, _, _, rfl, ha, T.k_Lot, T.n_Lot_period, rfl, _, _, rfl, rfl, h1, ?_⟩
  refine ⟨fun σ G => G = H ∧ σ = [some (.ref a), some (.int n), some (.int (n % t.1)), some (.int (at_ : Nat))], ?_, ?_⟩
  · exact ⟨_, rfl, a, _, _, _, _, rfl, ha, T.k_Lot, T.n_Lot_own_begins, rfl, _, rfl, _, _, rfl, rfl, ba, _, _, at_, rfl, hB, h4, rfl, rfl⟩
  rintro σ G ⟨rfl, rfl⟩
  have hret : d = n → tRet (tVar 1) { nx := fun _ H' => Q .non H', rt := Q } [some (.ref a), some (.int n), some (.int (n % t.1)), some (.int (at_ : Nat))] G := fun e => ⟨_, rfl, by rw [← e]; exact q⟩
  obtain ⟨lu, lv, eru, lp, ⟨lb, rfl, hlb⟩⟩ := paired_last rp h2
  refine ⟨fun σ G' => G' = G ∧ σ = [some (.ref a), some (.int n), some (.int (n % t.1)), some (.int (at_ : Nat))] ∧ ¬ (near = true ∨ n % t.1 + t.1 ≤ last.2), ?_, ?_⟩
  · have far : near = false → (tTest (tOp (rI0 fun i j => V.bl (decide (i ≤ j))) (tOp (rI0 fun i j => V.int (i + j)) (tVar 2) (tFld K (tVar 0) "period")) (tOp (rIxT K) (tOp (rIxT K) (tFld K (tVar 0) "runs") (tUn (rU fun i => V.int (-i)) (tC (V.int 1)))) (tC (V.int 1))))) [some (.ref a), some (.int n), some (.int (n % t.1)), some (.int (at_ : Nat))] G fun c G' => if c = true then tRet (tVar 1) { nx := fun _ H' => Q .non H', rt := Q } [some (.ref a), some (.int n), some (.int (n % t.1)), some (.int (at_ : Nat))] G' else (G' = G ∧ [some (V.ref a), some (.int n), some (.int (n % t.1)), some (.int (at_ : Nat))] = [some (.ref a), some (.int n), some (.int (n % t.1)), some (.int (at_ : Nat))] ∧ ¬ (near = true ∨ n % t.1 + t.1 ≤ last.2)) := fun hn => by
      refine ⟨_, rfl, _, rfl, a, _, _, _, _, rfl, ha, T.k_Lot, T.n_Lot_period, rfl, _, _, rfl, rfl, _, rfl, a, _, _, _, _, rfl, ha, T.k_Lot, T.n_Lot_runs, rfl, _, rfl, ra, _, _, _, rfl, rfl, rS, by rw [eru]; exact atI_last _ _, lb, _, _, _, rfl, rfl, hlb, rfl, _, _, rfl, rfl, _, rfl, ?_⟩
      by_cases hc : n % t.1 + t.1 ≤ last.2
      · rw [decide_eq_true hc]
        refine iteT (hret ?_)
        rcases h6 with ⟨_, e⟩ | ⟨z, _⟩
        · exact e
        · exact absurd (.inr hc) z
      · rw [decide_eq_false hc]
        exact iteF ⟨rfl, rfl, fun z => z.elim (fun y => by rw [hn] at y; cases y) hc⟩
    refine ⟨_, rfl, _, _, rfl, rfl, _, rfl, ?_⟩
    rcases h5 with ⟨hp, r, hr1, rfl⟩ | ⟨hp, rfl⟩
    · rw [decide_eq_true (show (0 : Int) < ((at_ : Nat) : Int) by omega)]
      obtain ⟨v, hv, ⟨b, rfl, hb⟩⟩ := paired_getR rp hr1
      have ei : ((at_ : Nat) : Int) - 1 = ((at_ - 1 : Nat) : Int) := by omega
      refine iteT ⟨_, rfl, _, rfl, a, _, _, _, _, rfl, ha, T.k_Lot, T.n_Lot_runs, rfl, _, rfl, _, _, rfl, rfl, ra, _, _, _, rfl, rfl, rS, by rw [ei]; exact atI_nat hv, b, _, _, _, rfl, rfl, hb, rfl, _, _, rfl, rfl, _, rfl, ?_⟩
      cases hc : decide (n % t.1 ≤ r.2) with
      | true =>
        refine iteT (iteT (hret ?_))
        rcases h6 with ⟨_, e⟩ | ⟨z, _⟩
        · exact e
        · exact absurd (.inl hc) z
      | false =>
        have := far hc
        rw [hc] at this
        exact iteF this
    · rw [decide_eq_false (show ¬ (0 : Int) < ((at_ : Nat) : Int) by omega)]
      exact iteF (iteF (far rfl))
  rintro σ G' ⟨rfl, rfl, hno⟩
  rcases h6 with ⟨z, _⟩ | ⟨_, h6⟩
  · exact absurd z hno
  refine ⟨_, rfl, _, rfl, a, _, _, _, _, rfl, ha, T.k_Lot, T.n_Lot_runs, rfl, ra, _, rfl, .inr rS, _, _, rfl, rfl, _, rfl, ?_⟩
  rw [el]
  rcases h6 with ⟨r, hr1, rfl⟩ | ⟨hn, rfl⟩
  · have hlt : at_ < t.2.length := (List.getElem?_eq_some_iff.mp hr1).1
    rw [decide_eq_true (show ((at_ : Nat) : Int) < (t.2.length : Nat) by omega)]
    refine iteT ⟨_, rfl, _, rfl, _, _, rfl, rfl, _, rfl, a, _, _, _, _, rfl, ha, T.k_Lot, T.n_Lot_own_begins, rfl, _, rfl, ba, _, _, _, rfl, rfl, hB, atI_nat (v := V.int r.1) ?_, _, _, rfl, rfl, q⟩
    rw [List.getElem?_map, List.getElem?_map, hr1]
    rfl
  · have hge : ¬ at_ < t.2.length := fun z => by rw [List.getElem?_eq_getElem z] at hn; cases hn
    rw [decide_eq_false (show ¬ ((at_ : Nat) : Int) < (t.2.length : Nat) by omega)]
    refine iteF ⟨_, rfl, _, rfl, _, _, rfl, rfl, _, rfl, a, _, _, _, _, rfl, ha, T.k_Lot, T.n_Lot_period, rfl, _, _, rfl, rfl, _, rfl, a, _, _, _, _, rfl, ha, T.k_Lot, T.n_Lot_own_begins, rfl, ba, _, _, _, rfl, rfl, hB, atI_nat (j := 0) (v := V.int first.1) ?_, _, _, rfl, rfl, q⟩
    rw [List.getElem?_map, List.getElem?_map, ← List.head?_eq_getElem?, h3]
    rfl
end
end K32

namespace K32
open PySem PyProof.Rows L2
theorem its_enum {K : PySem.W.Frag} {a : Addr} {vs : List V} {H1 : Hp} (h : SqT K H1 a vs) : ItsOk (ItE K a) H1 vs.length (fun i x H' => ∃ T y, x = .ref T ∧ SqT K H' T [.int (i : Nat), y] ∧ vs[i]? = some y) :=
  ⟨fun i H e hi => ⟨vs, vs[i], Same.seqT e h, List.getElem?_eq_getElem hi⟩, fun H e => ⟨vs, Same.seqT e h, Nat.le_refl _⟩, fun i H x H' y e _ => by
    obtain ⟨T, z, rfl, hT, rfl, y⟩ := y
    exact ⟨Same.new hT, T, z, rfl, .inl (.of upd_same), y vs (Same.seqT e h)⟩⟩
theorem for_enum {K : PySem.W.Frag} {a : Addr} {xs : List V} {g : TG} {tb : TS} {D : Ends} {σ : L2.St} {H : Hp} (Pv : Nat → L2.St → Hp → Prop) (h0 : Pv 0 σ H) (hl : ∀ i σ H, i ≤ xs.length → Pv i σ H → SqT K H a xs)
    (hs : ∀ i x T σ H, xs[i]? = some x → Pv i σ H → H T = none → g (.ref T) σ (upd H T (.tup [.int (i : Nat), x])) fun σ2 H2 => tb { D with nx := Pv (i + 1), ct := Pv (i + 1), bk := D.nx } σ2 H2) (hd : ∀ σ H, Pv xs.length σ H → D.nx σ H) :
    ∃ W : Nat → Nat → L2.St → Hp → Prop, (∃ m, W 0 m σ H) ∧ ∀ i m σ H, W i m σ H →
      ((ItE K a).stop i H ∧ D.nx σ H) ∨ ((ItE K a).go i H ∧ ∃ N : L2.St → Hp → Prop, (∀ σ' H', N σ' H' → ∃ m', m' < m ∧ W (i + 1) m' σ' H') ∧ ∀ x H', (ItE K a).yld i H x H' → g x σ H' fun σ2 H2 => tb { D with nx := N, ct := N, bk := D.nx } σ2 H2) := by
  refine ⟨fun i m σ H => m = xs.length - i ∧ i ≤ xs.length ∧ Pv i σ H, ⟨xs.length, by simp, Nat.zero_le _, h0⟩, ?_⟩
  rintro i m σ H ⟨rfl, hi, p⟩
  have q := hl i σ H hi p
  by_cases hlt : i < xs.length
  · refine .inr ⟨⟨xs, xs[i], q, by simp [hlt]⟩, Pv (i + 1), fun σ' H' p' => ⟨xs.length - (i + 1), by omega, rfl, hlt, p'⟩, fun x H' y => ?_⟩
    obtain ⟨T, z, rfl, hT, rfl, y⟩ := y
    exact hs i z T σ H (y xs q) p hT
  · have e : i = xs.length := by omega
    subst e
    exact .inl ⟨⟨xs, q, Nat.le_refl _⟩, hd σ H p⟩
end K32

/-! papers.py, joins.py -/
namespace K32
open PySem PyProof.Rows L2
section
variable {P : Program} {w : World} {K : PySem.W.Frag} {mg : Str → Option Value} {base : Heap}
def spPaper1 (K : PySem.W.Frag) : Sp := fun vs H Q _ => ∃ x C dx a, vs = [.ref x, .ref a] ∧ H x = some (.ins C dx []) ∧ Cls K C ∧ NoAttr K C "own_parts" ∧ Q .non (upd H x (.ins C dx [("own_parts", .ref a)]))
def spPaper (K : PySem.W.Frag) : Sp := fun vs H Q _ => ∃ x C dx rest, vs = .ref x :: rest ∧ H x = some (.ins C dx []) ∧ Cls K C ∧ NoAttr K C "own_parts" ∧ rest.length ≤ sizeLine ∧ ∀ p, H p = none → Q .non (upd (upd H p (.tup rest)) x (.ins C dx [("own_parts", .ref p)]))
theorem f_paper (T : Top K mg) : FnR P w K mg base CX0 1 (ma K (ga K "Paper") "__init__") (spPaper K) := by
  refine (fnRS (k := 0) (ps := ["self"]) (pv := "parts") (sp := spPaper1 K) T.Paper___init__ (fun kV doc pm an cdv ct => StX.bind_star1 (B := fun l => bindArgs (PySem.W.fnOf "__init__" "Paper.__init__" (defArgs s_Paper___init__) (defBody s_Paper___init__) (defScope s_Paper___init__) .none kV doc pm an cdv ct) ⟨l, []⟩) (fun _ => rfl) (fun _ _ _ => rfl)) sc_Paper___init__ (fun cdv A outer sh H vs Q E hr h => ?_)).imp (fun vs H Q E h => ?_)
  · obtain ⟨x, C, dx, a, rfl, hx, hc, hn, q⟩ := h
    refine ⟨_, (pss_one (sfldK K rfl (pv 0) (pv 1) rfl)), ?_⟩
    exact ⟨_, rfl, _, rfl, x, C, dx, _, rfl, hx, hc, hn, few rfl, q⟩
  · obtain ⟨x, C, dx, rest, rfl, hx, hc, hn, hl, q⟩ := h
    refine ⟨[.ref x], rest, rfl, rfl, hl, fun p hp => ⟨x, C, dx, p, rfl, ?_, hc, hn, q p hp⟩⟩
    rw [upd_ne (ne_of_none hx hp)]
    exact hx
/-- a class made by an __init__ that calls super().__init__ -/
theorem makS {x qual : Str} {C : Addr} {st : Stmt} {N ps : List Str} {k : Nat} {sp : Sp} {f c cc D : Addr} {fd : FuncData} (M : Mk K C f) (hm : mg x = some (.ref C)) (F : SupD K P.main.file "__init__" qual st f c cc D fd)
    (hb : ∀ (kV doc pm : Value) (an : Option Addr) (cdv ct : Value) (cl : List (Str × Addr)) (us : List Value), us.length = ps.length → bindArgs (PySem.W.fnX "__init__" qual (defArgs st) (defBody st) (defScope st) cl .none kV doc pm an cdv ct) ⟨us, []⟩ = pure (ps.zip us))
    (S : NdefX.NScope N ps ["__class__"] (defScope st)) (hloc : ∀ y ∈ ps, (defScope st).names.lookup y = some .local) (len : ∀ vs H Q E, sp vs H Q E → vs.length = ps.length)
    (hbody : ∀ (A : Around) (outer : List Env) (s : Shared) (H : Hp) (vs : List V) (Q : VK) (E : XK), Room k (A.deeper (NdefX.envF (nfOf qual st c cc) f s.heap.objs.size)) → sp vs H Q E →
      ∃ t, AtS (NdefX.ncx CX0 P w K mg base N (nfOf qual st c cc) f A outer s H E).nox (defBody st) (defBody st) t ∧ t { nx := fun _ H' => Q .non H', rt := Q } (NdefX.startF N vs [none]) H) : C8.Mak P w K mg base (k + 1) x C sp [] := by
  refine ⟨f, fd, ps, [], M, fnSup F S hloc len hbody, hm, ?_, .nil⟩
  obtain ⟨oc, kV, doc, pm, od, an, ct, osl, rfl, lk⟩ := F.ex
  exact .all fun us hl => hb _ _ _ _ _ _ _ us hl
def TabAt (K : PySem.W.Frag) (H : Hp) (v : V) (t : Tab) : Prop := ∃ a, v = .ref a ∧ TabP K H a t
theorem TabAt.same {H H' : Hp} {v : V} {t : Tab} (e : Same H H') (h : TabAt K H v t) : TabAt K H' v t := let ⟨a, ea, t⟩ := h; ⟨a, ea, t.same e⟩
/-- the tables in a tuple -/
def TabsT (K : PySem.W.Frag) (H : Hp) (a : Addr) (ts : List Tab) : Prop := ∃ us, SqT K H a us ∧ Paired (TabAt K H) us ts
theorem TabsT.same {H H' : Hp} {a : Addr} {ts : List Tab} (e : Same H H') (h : TabsT K H a ts) : TabsT K H' a ts := let ⟨us, h1, h2⟩ := h; ⟨us, Same.seqT e h1, paired_imp h2 fun _ _ r => r.same e⟩
def JoinAt (K : PySem.W.Frag) (ts : List Tab) (H : Hp) (a : Addr) : Prop := ∃ dx pa ta, H a = some (.ins (ga K "Join") dx [("own_parts", .ref pa), ("tables", .ref ta)]) ∧ TabsT K H ta ts
def spJoinI (K : PySem.W.Frag) : Sp := InitSp (ga K "Join") fun G ws Ob => ∃ a ts, ws = [.ref a] ∧ TabsT K G a ts ∧ Ob = JoinAt K ts
theorem mk_Join (T : Top K mg) (Fc : Facts P K mg) : C8.Mak P w K mg base 2 "Join" (ga K "Join") (spJoinI K) [] := by
  obtain ⟨c, cc, sd⟩ := Fc.sup_Join
  refine makS Fc.mk_Join T.c_Join sd (fun _ _ _ _ _ _ _ us hl => match us, hl with | [_, _], _ => rfl) scn_Join___init__ (by decide +kernel) (by rintro vs H Q E ⟨x, dx, ws, Ob, rfl, _, ⟨a, ts, rfl, _⟩, _⟩; rfl) (fun A outer sh H vs Q E hr h => ?_)
  obtain ⟨x, dx, ws, Ob, rfl, hx, ⟨a, ts, rfl, hA, rfl⟩, q⟩ := h
  refine ⟨_, at_super sd rfl rfl rfl rfl rfl T.f_super Fc.htop ⟨_, rfl, rfl⟩ rfl rfl (f_paper T) hr (pa_cons (pv 1) pa_nil) (atS_of (pss_one (sfldK K rfl (pv 0) (pv 1) rfl))), ?_⟩
  refine ⟨x, _, _, _, rfl, hx, Fc.so_Join, _, rfl, x, _, dx, [.ref a], rfl, hx, T.k_Join, T.n_Join_own_parts, (by show (1 : Nat) ≤ sizeLine; decide), fun p hp => ?_⟩
  refine ⟨_, rfl, _, rfl, x, _, dx, _, rfl, upd_same, T.k_Join, T.n_Join_tables, few rfl, ?_⟩
  have g := Same.updX (o := .ins (ga K "Join") dx [("own_parts", .ref p), ("tables", .ref a)]) dropD_at (Same.updX (o := .ins (ga K "Join") dx [("own_parts", .ref p)]) dropD_at ((drop_same (H := H) (D := x)).trans (Same.new (o := .tup [.ref a]) hp)))
  exact q _ g ⟨dx, p, a, upd_same, hA.same g⟩
def spNeedLots (K : PySem.W.Frag) : Sp := fun vs H Q _ => ∃ a us, vs = [.ref a] ∧ SqT K H a us ∧ us.length ≤ 100 ∧ (∀ v ∈ us, ∃ t b, v = .ref b ∧ LotAt K t H b) ∧ ∀ H', Same H H' → Q .non H'
theorem c_need_lots (T : Top K mg) (Fc : Facts P K mg) : C8.Cal P w K mg base 1 "need_lots" (spNeedLots K) [] := by
  refine calF T.need_lots (fun _ _ _ _ _ _ us hl => match us, hl with | [_], _ => rfl) sc_need_lots (by rintro vs H Q E ⟨a, us, rfl, _⟩; rfl) (fun cdv A outer sh H vs Q E hr h => ?_)
  obtain ⟨a, us, rfl, hA, hl, hu, q⟩ := h
  refine ⟨_, (pss_one (ps_for PassesOwn.never rfl (piEnumT K rfl rfl T.f_enumerate (pa_cons (pv 0) pa_nil)) (pgT K 2 rfl (by rfl) (pgs_cons (pg_name (i := 1) sc_need_lots.nd rfl (Or.inl rfl)) (pgs_cons (pg_name (i := 2) sc_need_lots.nd rfl (Or.inl rfl)) pgs_nil))) (pss_one (ps_if (pt_not (pt_val (pe_callB (clIsA K rfl) (by rfl) T.f_isinstance (by decide +kernel) (pa_cons (pv 2) (pa_cons (pe_glob (v := .ref (ga K "Lot")) (by rfl) T.c_Lot rfl) pa_nil))))) (pss_one (ps_never)) pss_nil)))), ?_⟩
  refine ⟨_, rfl, a, us, rfl, hA, for_enum (K := K) (a := a) (xs := us) (fun i σ H' => Same H H' ∧ ∃ v1 v2, σ = [some (.ref a), v1, v2]) ⟨Same.refl _, none, none, rfl⟩ ?_ ?_ ?_⟩
  · rintro i σ H' _ ⟨e, _⟩
    exact Same.seqT e hA
  · rintro i x T0 σ H' hx ⟨e, v1, v2, rfl⟩ hT
    obtain ⟨t, b, rfl, hb⟩ := hu x (List.mem_of_getElem? hx)
    have e2 := e.trans (Same.new (o := .tup [.int (i : Nat), .ref b]) hT)
    have hb := hb.same e2
    obtain ⟨dx, ra, ba, n, h1, _⟩ := hb
    refine ⟨T0, _, rfl, .inl (.of upd_same), rfl, _, _, rfl, _, _, rfl, rfl, ?_⟩
    refine ⟨_, rfl, b, _, _, dx, _, rfl, h1, Fc.isLot, true, rfl, ?_⟩
    exact iteF ⟨e2, _, _, rfl⟩
  · rintro σ H' ⟨e, _⟩
    exact q H' e
def LotRef (K : PySem.W.Frag) (H : Hp) (v : V) (t : Tab) : Prop := ∃ b, v = .ref b ∧ LotAt K t H b
theorem LotRef.same {H H' : Hp} {v : V} {t : Tab} (e : Same H H') (h : LotRef K H v t) : LotRef K H' v t := let ⟨b, eb, h⟩ := h; ⟨b, eb, h.same e⟩
def spTableOf (K : PySem.W.Frag) : Sp := fun vs H Q _ => ∃ b t, vs = [.ref b] ∧ LotAt K t H b ∧ ∀ p H', Same H H' → H p = none → TabP K H' p t → Q (.ref p) H'
theorem c_table_of (T : Top K mg) : C8.Cal P w K mg base 1 "table_of" (spTableOf K) [] := by
  refine calF T.table_of (fun _ _ _ _ _ _ us hl => match us, hl with | [_], _ => rfl) sc_table_of (by rintro vs H Q E ⟨a, us, rfl, _⟩; rfl) (fun cdv A outer sh H vs Q E hr h => ?_)
  obtain ⟨b, t, rfl, hB, q⟩ := h
  obtain ⟨dx, ra, ba, n, h1, h2, h3⟩ := hB
  refine ⟨_, (pss_one (ps_ret (pe_tup (pa_cons (fldK K rfl (pv 0) rfl) (pa_cons (fldK K rfl (pv 0) rfl) pa_nil))))), ?_⟩
  refine ⟨_, rfl, b, _, _, _, _, rfl, h1, T.k_Lot, T.n_Lot_period, rfl, _, rfl, b, _, _, _, _, rfl, h1, T.k_Lot, T.n_Lot_runs, rfl, (by show (2 : Nat) ≤ sizeLine; decide), fun p hp => ?_⟩
  exact q p _ (Same.new hp) hp ⟨ra, .inl (.of upd_same), runsT_same (Same.new hp) h2⟩
end
end K32

/-! joins.py: the join -/
namespace K32
open PySem PyProof.Rows L2
section
variable {P : Program} {w : World} {K : PySem.W.Frag} {mg : Str → Option Value} {base : Heap}
/-- all that is no list stays -/
def KL (H H' : Hp) : Prop := ∀ b u, (∀ xs, u ≠ HO.lst xs) → H b = some u → H' b = some u
theorem KL.of {H H' : Hp} (e : Same H H') : KL H H' := fun b u _ h => e b u h
theorem KL.trans {H H' H2 : Hp} (a : KL H H') (b : KL H' H2) : KL H H2 := fun c u n h => b c u n (a c u n h)
theorem KL.upd {H : Hp} {f : Addr} {xs : List V} {o : HO} (h : H f = some (.lst xs)) : KL H (upd H f o) := fun b u n hb => by
  have hne : b ≠ f := fun z => by rw [z, h] at hb; cases hb; exact n _ rfl
  rw [upd_ne hne]; exact hb
theorem KL.seqT {H H' : Hp} {a : Addr} {xs : List V} (e : KL H H') (h : SqT K H a xs) : SqT K H' a xs := by
  rcases h with (h | ⟨o, h⟩) | h
  · exact .inl (.inl (e _ _ (fun _ z => nomatch z) h))
  · exact .inl (.inr ⟨o, e _ _ (fun _ z => nomatch z) h⟩)
  · exact .inr h
theorem KL.runsT {H H' : Hp} {a : Addr} {rs : List Run} (e : KL H H') (h : RunsT K H a rs) : RunsT K H' a rs := let ⟨l, us, h1, h2⟩ := h; ⟨l, us, e.seqT h1, paired_imp h2 fun _ _ ⟨c, ec, r⟩ => ⟨c, ec, e.seqT r⟩⟩
theorem KL.tabP {H H' : Hp} {a : Addr} {t : Tab} (e : KL H H') (h : TabP K H a t) : TabP K H' a t := let ⟨b, h1, h2⟩ := h; ⟨b, e.seqT h1, e.runsT h2⟩
theorem KL.tabAt {H H' : Hp} {v : V} {t : Tab} (e : KL H H') (h : TabAt K H v t) : TabAt K H' v t := let ⟨a, ea, t⟩ := h; ⟨a, ea, e.tabP t⟩
def spNext (K : PySem.W.Frag) : Sp := fun vs H Q _ => ∃ a b t o u, vs = [.ref a, .ref b] ∧ TabP K H a t ∧ LotAt K o H b ∧ nextO t o = some u ∧ ∀ p H', Same H H' → TabP K H' p u → Q (.ref p) H'
theorem every_at {H : Hp} {ea eb ec : Addr} (h : ∀ H : Hp, SqT K H ea [.int 1, .ref eb] ∧ SqT K H eb [.ref ec] ∧ SqT K H ec [.int 0, .int 0]) : TabP K H ea every :=
  ⟨eb, (h H).1, by decide, [.ref ec], (h H).2.1, .cons ⟨ec, rfl, (h H).2.2⟩ .nil⟩
theorem c_next_table (T : Top K mg) (Fc : Facts P K mg) : C8.Cal P w K mg base 7 "next_table" (spNext K) [] := by
  obtain ⟨ea, eb, ec, hev, hkp, hE⟩ := Fc.every
  refine calF T.next_table (fun _ _ _ _ _ _ us hl => match us, hl with | [_, _], _ => rfl) sc_next_table (by rintro vs H Q E ⟨a, b, t, o, u, rfl, _⟩; rfl) (fun cdv A outer sh H vs Q E hr h => ?_)
  obtain ⟨a, b, t, o, u, rfl, hA, hB, hu, q⟩ := h
  refine ⟨_, (pss_cons (ps_set (i := 2) sc_next_table.nd rfl (Or.inl rfl) (C8.pe_c (c_table_of T) hr (by decide) rfl (pa_cons (pv 1) pa_nil)))
      (pss_cons (ps_if (pt_cmpR (oEqD K rfl hr.units) (pv 0) (pe_glob (v := .ref ea) (by rfl) hev rfl) (nomark _)) (pss_one (ps_ret (pv 2))) pss_nil)
      (pss_cons (ps_if (pt_cmpR (oEqD K rfl hr.units) (pv 2) (pe_glob (v := .ref ea) (by rfl) hev rfl) (nomark _)) (pss_one (ps_ret (pv 0))) pss_nil)
      (pss_cons (ps_if (pt_cmpR op_gt (C8.pe_c (c_meets T) hr (by decide) rfl (pa_cons (pv 0) (pa_cons (pv 2) pa_nil))) (C8.pe_gc (by rfl) (gI T.g_MOST_RUNS_joins)) (nomark _)) (pss_one (ps_never)) pss_nil)
      (pss_one (ps_ret (C8.pe_c (c_shared_runs T) hr (by decide) rfl (pa_cons (pv 0) (pa_cons (pv 2) pa_nil))))))))), ?_⟩
  refine ⟨_, rfl, b, o, rfl, hB, fun p H1 e1 hp hP => ?_⟩
  have hA1 := hA.same e1
  obtain ⟨a2, hA2, hA3⟩ := hA1
  obtain ⟨p2, hP2, hP3⟩ := id hP
  obtain ⟨q1, q2, q3⟩ := every_at (K := K) (H := H1) hE
  refine ⟨_, rfl, dTab t, dTab every, dp_tab hA2 hA3, dp_tab q2 q3, sh_tab t, sh_tab every, ?_⟩
  rw [ev_tab]
  rcases nextO_eq hu with ⟨c, rfl⟩ | ⟨c, d, rfl⟩ | ⟨c, d, m, hm, hm2, hs⟩
  · rw [decide_eq_true c]
    refine ⟨true, rfl, iteT ?_⟩
    exact ⟨_, rfl, q p H1 e1 hP⟩
  · rw [decide_eq_false c]
    refine ⟨false, rfl, iteF ⟨_, rfl, dTab o, dTab every, dp_tab hP2 hP3, dp_tab q2 q3, sh_tab o, sh_tab every, ?_⟩⟩
    rw [ev_tab, decide_eq_true d]
    refine ⟨true, rfl, iteT ?_⟩
    exact ⟨_, rfl, q a H1 e1 ⟨a2, hA2, hA3⟩⟩
  · rw [decide_eq_false c]
    refine ⟨false, rfl, iteF ⟨_, rfl, dTab o, dTab every, dp_tab hP2 hP3, dp_tab q2 q3, sh_tab o, sh_tab every, ?_⟩⟩
    rw [ev_tab, decide_eq_false d]
    refine ⟨false, rfl, iteF ?_⟩
    refine ⟨_, rfl, _, rfl, a, p, t, o, m, rfl, ⟨a2, hA2, hA3⟩, hP, hm, fun H2 e2 => ?_⟩
    refine ⟨_, _, rfl, rfl, _, rfl, ?_⟩
    rw [decide_eq_false (by omega)]
    refine iteF ?_
    exact ⟨_, rfl, _, rfl, a, p, t, o, u, rfl, TabP.same e2 ⟨a2, hA2, hA3⟩, hP.same e2, hs, fun r H3 e3 hr3 hR => q r H3 (e1.trans (e2.trans e3)) hR⟩
def spJoin (K : PySem.W.Frag) : Sp := fun vs H Q _ => ∃ lots ts, Paired (LotRef K H) vs lots ∧ vs.length ≤ 100 ∧ joinO lots = some ts ∧ ∀ p H', Same H H' → H p = none → JoinAt K ts H' p → Q (.ref p) H'
def spJoin1 (K : PySem.W.Frag) : Sp := fun vs H Q _ => ∃ a us lots ts, vs = [.ref a] ∧ SqT K H a us ∧ Paired (LotRef K H) us lots ∧ us.length ≤ 100 ∧ joinO lots = some ts ∧ ∀ p H', Same H H' → H p = none → JoinAt K ts H' p → Q (.ref p) H'
theorem joinF_len : ∀ {lots : List Tab} {t : Tab} {ts : List Tab}, joinF t lots = some ts → ts.length = lots.length
  | [], _, _, h => by cases h; rfl
  | l :: ls, t, ts, h => by
    obtain ⟨u, vs, _, h2, rfl⟩ := joinF_eq h
    rw [List.length_cons, List.length_cons, joinF_len h2]
/-- the table ahead of the i-th lot -/
def tabAt (t : Tab) (ts : List Tab) (i : Nat) : Tab := match i with
  | 0 => t
  | i + 1 => ts.getD i t
theorem joinF_at : ∀ {lots : List Tab} {t : Tab} {ts : List Tab}, joinF t lots = some ts → ∀ (i : Nat) (l u : Tab), lots[i]? = some l → ts[i]? = some u → nextO (tabAt t ts i) l = some u
  | [], _, _, h, i, l, u, hl, hu => by cases i <;> cases hl
  | x :: ls, t, ts, h, i, l, u, hl, hu => by
    obtain ⟨v, vs, h1, h2, rfl⟩ := joinF_eq h
    cases i with
    | zero =>
      cases hl
      cases hu
      exact h1
    | succ i =>
      have e := joinF_at h2 i l u (by simpa using hl) (by simpa using hu)
      cases i with
      | zero => exact e
      | succ i =>
        have hi : i + 1 < vs.length := (List.getElem?_eq_some_iff.mp (show vs[i + 1]? = some u by simpa using hu)).1
        have e2 : tabAt t (v :: vs) (i + 1 + 1) = tabAt v vs (i + 1) := by
          show (v :: vs).getD (i + 1) t = vs.getD i v
          rw [List.getD_cons_succ, List.getD_eq_getElem?_getD, List.getD_eq_getElem?_getD, List.getElem?_eq_getElem (by omega)]; rfl
        rw [e2]
        exact e
theorem c_join (T : Top K mg) (Fc : Facts P K mg) : CalR P w K mg base 8 "join" (spJoin K) := by
  obtain ⟨ea, eb, ec, hev, hkp, hE⟩ := Fc.every
  refine (calS (k := 7) (sp := spJoin1 K) T.join (fun _ _ _ _ _ _ => rfl) (fun _ _ _ _ _ _ _ _ => rfl) sc_join (fun cdv A outer sh H vs Q E hr h => ?_)).imp (fun vs H Q E h => ?_)
  · obtain ⟨a, us, lots, ts, rfl, hA, pu, hl, hj, q⟩ := h
    refine ⟨_, (pss_cons (ps_expr (C8.pe_c (c_need_lots T Fc) hr (by decide) rfl (pa_cons (pv 0) pa_nil)))
      (pss_cons (ps_par (i := 1) (j := 2) (by rfl) sc_join.nd rfl rfl (by decide) rfl rfl (pa_cons (pe_lst pa_nil) (pa_cons (pe_glob (v := .ref ea) (by rfl) hev rfl) pa_nil)) (by rfl))
      (pss_cons (ps_for PassesOwn.never rfl (piT K rfl (pv 0)) (pg_name (i := 3) sc_join.nd rfl (Or.inl rfl)) (pss_cons (ps_set (i := 2) sc_join.nd rfl (Or.inl rfl) (C8.pe_c (c_next_table T Fc) hr (by decide) rfl (pa_cons (pv 2) (pa_cons (pv 3) pa_nil))))
      (pss_one (ps_expr (bmK K rfl PySem.F.plainAttrs_list PySem.F.slot_list_append PySem.F.type_list_append mt_append (pv 1) (pa_cons (pv 2) pa_nil))))))
      (pss_one (ps_ret (C8.pe_mk (mk_Join T Fc) hr (by decide) rfl (pa_cons (pe_callTy (clTup K rfl) (by rfl) T.f_tuple (by decide +kernel) (pa_cons (pv 1) pa_nil)) pa_nil))))))), ?_⟩
    have el := pu.length
    refine ⟨_, rfl, a, us, rfl, hA, by omega, ?_, fun H1 e1 => ?_⟩
    · intro v hv
      obtain ⟨t, _, b, rfl, hb⟩ := paired_mem pu v hv
      exact ⟨t, b, rfl, hb⟩
    have htl := joinF_len hj
    refine ⟨(by decide), fun f hf => ⟨_, _, rfl, ?_⟩⟩
    have e2 : Same H (upd H1 f (.lst [])) := e1.trans (Same.new hf)
    refine ⟨_, rfl, a, rfl, ⟨_, Same.seqT e2 hA⟩, for_tup (K := K) (a := a) (xs := us) (fun i σ H' => Same H H' ∧ ∃ tb v vs, σ = [some (.ref a), some (.ref f), some (.ref tb), v] ∧ H' f = some (.lst vs) ∧ Paired (TabAt K H') vs (ts.take i) ∧ TabP K H' tb (tabAt every ts i))
      ⟨e2, ea, none, [], rfl, upd_same, by rw [List.take_zero]; exact .nil, every_at hE⟩ ?_ ?_ ?_⟩
    · rintro i σ H' _ ⟨e, _⟩
      exact Same.seqT e hA
    · rintro i x σ H' hx ⟨e, tb, v, vs, rfl, hfv, pv, hT⟩
      obtain ⟨l, hl1, ⟨b, rfl, hb⟩⟩ := paired_get pu hx
      have hi : i < ts.length := by
        rw [htl]
        exact (List.getElem?_eq_some_iff.mp hl1).1
      have hn := joinF_at hj i l ts[i] hl1 (List.getElem?_eq_getElem hi)
      have plen := pv.length
      refine ⟨_, rfl, _, rfl, tb, b, _, l, ts[i], rfl, hT, hb.same e, hn, fun p H2 e2 hP => ?_⟩
      have hf2 := e2 _ _ hfv
      refine ⟨_, rfl, ?_, _, rfl, f, vs, _, rfl, rfl, hf2, ?_, ?_⟩
      · exact .inl ⟨rfl, vs, .of hf2⟩
      · rw [plen, List.length_take]
        exact Nat.lt_of_le_of_lt (Nat.le_trans (Nat.min_le_right _ _) (by omega : ts.length ≤ 100)) (by decide)
      have k := KL.upd (o := .lst (vs ++ [.ref p])) hf2
      have hfH : H f = none := Same.none e1 hf
      refine ⟨Same.updX hfH (e.trans e2), p, _, _, rfl, upd_same, ?_, ?_⟩
      · rw [List.take_add_one, List.getElem?_eq_getElem hi]
        exact paired_app (paired_imp pv fun _ _ r => k.tabAt (r.same e2)) (.cons ⟨p, rfl, k.tabP hP⟩ .nil)
      · have e3 : tabAt every ts (i + 1) = ts[i] := by
          show ts.getD i every = ts[i]
          rw [List.getD_eq_getElem?_getD, List.getElem?_eq_getElem hi]
          rfl
        rw [e3]
        exact k.tabP hP
    · rintro σ H' ⟨e, tb, v, vs, rfl, hfv, pv, hT⟩
      rw [List.take_of_length_le (by omega)] at pv
      refine ⟨_, rfl, f, vs, rfl, .inl ⟨.inl (.of hfv), fun l hl => ?_⟩⟩
      have pv2 : TabsT K (upd H' l (.tup vs)) l ts := ⟨vs, .inl (.of upd_same), paired_imp pv fun _ _ r => r.same (Same.new hl)⟩
      have e5 := e.trans (Same.new (o := .tup vs) hl)
      refine rd_make (JoinAt K ts) (fun G eG => ⟨l, ts, rfl, pv2.same eG, rfl⟩) fun x H2 e2 hx hJ => q x H2 (e5.trans e2) (Same.none e5 hx) hJ
  · obtain ⟨lots, ts, pu, hl, hj, q⟩ := h
    refine ⟨Nat.le_trans hl (by decide), fun p hp => ⟨p, vs, lots, ts, rfl, .inl (.of upd_same), paired_imp pu fun _ _ r => r.same (Same.new hp), hl, hj, fun r H' e hr => q r H' ((Same.new hp).trans e) ?_⟩⟩
    by_cases z : r = p
    · subst z; exact hp
    · rw [upd_ne z] at hr; exact hr
def spTableLot (K : PySem.W.Frag) : Sp := fun vs H Q _ => ∃ a ts t, vs = [.ref a] ∧ TabsT K H a ts ∧ tableLotO ts = some t ∧ ∀ p H', Same H H' → H p = none → LotAt K t H' p → Q (.ref p) H'
theorem c_table_lot (T : Top K mg) (Fc : Facts P K mg) : C8.Cal P w K mg base 6 "table_lot" (spTableLot K) [] := by
  obtain ⟨ea, eb, ec, hev, hkp, hE⟩ := Fc.every
  refine calF T.table_lot (fun _ _ _ _ _ _ us hl => match us, hl with | [_], _ => rfl) sc_table_lot (by rintro vs H Q E ⟨a, ts, t, rfl, _⟩; rfl) (fun cdv A outer sh H vs Q E hr h => ?_)
  obtain ⟨a, ts, t, rfl, ⟨us, hA, pu⟩, ht, q⟩ := h
  refine ⟨_, (pss_cons (ps_asg (pe_ifExp (pt_cmpR op_gt (pe_callB (clLen K rfl) (by rfl) T.f_len (by decide +kernel) (pa_cons (pv 0) pa_nil)) pe_int (nomark _)) (pe_ix (ixT K rfl) (pv 0) (pe_un un_neg pe_int) (fun _ _ => rfl)) (pe_glob (v := .ref ea) (by rfl) hev rfl)) (pgT K 2 rfl (by rfl) (pgs_cons (pg_name (i := 1) sc_table_lot.nd rfl (Or.inl rfl)) (pgs_cons (pg_name (i := 2) sc_table_lot.nd rfl (Or.inl rfl)) pgs_nil))))
      (pss_one (ps_ret (pe_mkRS (mk_Lot T) hr (by decide) rfl (pa_cons (pv 1) (starK K rfl (pv 2) pa_nil)))))), ?_⟩
  have el := pu.length
  have fin : ∀ (b : Addr) (u : Tab), TabP K H b u → mkLot u.1 u.2 = some t → gTup K 2 (gCons (gName 1) (gCons (gName 2) gNil)) (.ref b) (L2.start N_table_lot [.ref a]) H fun σ2 H2 => tRet
      (StX.tMakeR (ga K "Lot") (spLot K) E0 (tCons (tVar 1) (StX.tStar K (tVar 2) tNil))) { nx := fun x H' => Q V.non H', rt := Q } σ2 H2 := fun b u hb hm => by
    obtain ⟨b2, hb1, hb2⟩ := hb
    refine ⟨b, _, rfl, hb1, rfl, _, _, rfl, _, _, rfl, rfl, ?_⟩
    obtain ⟨hl, rs, hR, pr⟩ := id hb2
    refine ⟨_, rfl, _, rfl, b2, rs, rfl, .inl hR, fun x dx hx hdx hne => ?_⟩
    rw [List.append_nil]
    refine ⟨x, dx, _, rs, u.2, t, rfl, upd_same, paired_imp pr fun _ _ r => r.same (made_same hx hdx), ?_, hm, fun H1 e1 hL => ⟨rfl, q x H1 (Same.trans (made_same hx hdx) e1) hx hL.lot⟩⟩
    exact hl
  refine ⟨_, rfl, a, us, rfl, .inr hA, _, _, rfl, rfl, _, rfl, ?_⟩
  rcases tableLotO_eq ht with ⟨u, hu, hm⟩ | ⟨hn, hm⟩
  · have hpos : 0 < us.length := by
      cases us with
      | nil => cases pu; cases hu
      | cons _ _ => exact Nat.succ_pos _
    rw [decide_eq_true (by omega)]
    obtain ⟨us', v, rfl, _, b, rfl, hb⟩ := paired_last pu hu
    exact iteT ⟨_, rfl, _, rfl, a, _, _, _, rfl, rfl, hA, atI_last _ _, fin b u hb hm⟩
  · subst hn
    cases pu
    exact iteF (fin ea every (every_at hE) hm)
def spAround (K : PySem.W.Frag) : Sp := fun vs H Q _ => ∃ p d t, vs = [.int p, .int d] ∧ 1 ≤ p ∧ nearO p d = some t ∧ ∀ r H', Same H H' → H r = none → LotAtN K t H H' r → Q (.ref r) H'
theorem f_around (T : Top K mg) (Fc : Facts P K mg) : FnOk P w K mg base CX0 6 (sa K (ga K "Lot") "around") (fdA K (sa K (ga K "Lot") "around")) ["period", "play"] (spAround K) := by
  refine fnF Fc.Lot_around sc_Lot_around (by rintro vs H Q E ⟨p, d, t, rfl, _⟩; rfl) (fun cdv A outer sh H vs Q E hr h => ?_)
  obtain ⟨p, d, t, rfl, hp, ht, q⟩ := h
  obtain ⟨h1, h2⟩ := nearO_eq ht
  refine ⟨_, (pss_cons (ps_if (PW.pt (pw_or (pt_not (pt_val (C8.pe_c (c_is_whole T) hr (by decide) rfl (pa_cons (pv 0) pa_nil)))) (pw_or1 (pt_cmpR op_lt (pv 0) pe_int (nomark _))))) (pss_one (ps_never)) pss_nil)
      (pss_cons (ps_if (PW.pt (pw_or (pt_not (pt_val (C8.pe_c (c_is_whole T) hr (by decide) rfl (pa_cons (pv 1) pa_nil)))) (pw_or1 (pt_cmpR op_lt (pv 1) pe_int (nomark _))))) (pss_one (ps_never)) pss_nil)
      (pss_one (ps_ret (pe_mkR (mk_Lot T) hr (by decide) rfl (pa_cons (pv 0) (pa_cons (pe_tup (pa_cons (pe_un un_neg (pv 1)) (pa_cons (pv 1) pa_nil))) pa_nil))))))), ?_⟩
  refine ⟨_, rfl, _, rfl, true, rfl, iteF ⟨_, rfl, _, _, rfl, rfl, _, rfl, ?_⟩⟩
  rw [decide_eq_false (by omega)]
  refine iteF ⟨_, rfl, _, rfl, true, rfl, iteF ⟨_, rfl, _, _, rfl, rfl, _, rfl, ?_⟩⟩
  rw [decide_eq_false (by omega)]
  refine iteF ⟨_, rfl, _, rfl, _, rfl, _, rfl, (by show (2 : Nat) ≤ sizeLine; decide), fun b hb => ?_⟩
  intro x dx hx hdx hne
  have hbx : x ≠ b := fun z => by rw [z, upd_same] at hx; cases hx
  have hbd : dx ≠ b := fun z => by rw [z, upd_same] at hdx; cases hdx
  have e0 : Same H (upd H b (.tup [.int (-d), .int d])) := Same.new hb
  refine ⟨x, dx, p, [.ref b], [(-d, d)], t, rfl, upd_same, .cons ⟨b, rfl, .inl (.of ?_)⟩ .nil, (by show (1 : Nat) ≤ 3000; decide), h2, fun H1 e1 hL => ⟨rfl, q x H1 (Same.trans (Same.trans e0 (made_same hx hdx)) e1) (Same.none e0 hx) (hL.old (Same.trans e0 (made_same hx hdx)))⟩⟩
  exact made_same hx hdx _ _ upd_same
end
end K32

/-! wheels.py -/
namespace K32
open PySem PyProof.Rows L2
section
variable {P : Program} {w : World} {K : PySem.W.Frag} {mg : Str → Option Value} {base : Heap}
def spNeedPart : Sp := fun vs H Q _ => ∃ (i l : Int) (x : Str), vs = [.int i, .int l, .str x] ∧ l ≤ i ∧ i ≤ 10 ^ 12 ∧ Q .non H
theorem c_need_part (T : Top K mg) : C8.Cal P w K mg base 2 "need_part" spNeedPart [] := by
  refine calF T.need_part (fun _ _ _ _ _ _ us hl => match us, hl with | [_, _, _], _ => rfl) sc_need_part (by rintro vs H Q E ⟨i, l, x, rfl, _⟩; rfl) (fun cdv A outer s H vs Q E hr h => ?_)
  obtain ⟨i, l, x, rfl, h1, h2, k⟩ := h
  refine ⟨_, (pss_one (ps_if (PW.pt (pw_or (pt_not (pt_val (C8.pe_c (c_is_whole T) hr (by decide) rfl (pa_cons (pv 0) pa_nil)))) (pw_or1 (pt_not (pt_chain op_le op_le (pv 1) (pv 0) (C8.pe_gc (by rfl) (gI T.g_MOST))))))) (pss_one (ps_never)) pss_nil)), ?_⟩
  refine ⟨_, rfl, i, rfl, true, rfl, iteF ?_⟩
  refine ⟨_, rfl, _, rfl, _, _, rfl, rfl, _, rfl, ?_⟩
  rw [decide_eq_true h1]
  refine iteT ⟨_, _, rfl, rfl, _, rfl, ?_⟩
  rw [decide_eq_true (show i ≤ 1000000000000 from h2)]
  exact iteF k
theorem c_need_value (T : Top K mg) : C8.Cal P w K mg base 2 "need_value" spNeedI [] := by
  refine calF T.need_value (fun _ _ _ _ _ _ us hl => match us, hl with | [_], _ => rfl) sc_need_value (by rintro vs H Q E ⟨i, rfl, _⟩; rfl) (fun cdv A outer s H vs Q E hr h => ?_)
  obtain ⟨i, rfl, k⟩ := h
  refine ⟨_, (pss_one (ps_if (pt_not (pt_val (C8.pe_c (c_is_whole T) hr (by decide) rfl (pa_cons (pv 0) pa_nil)))) (pss_one (ps_never)) pss_nil)), ?_⟩
  exact ⟨_, rfl, i, rfl, true, rfl, iteF k⟩
def spWheelI (K : PySem.W.Frag) : Sp := fun vs H Q _ => ∃ x C dx tr p b a, vs = [.ref x, .int p, .int b, .int a] ∧ H x = some (.ins C dx []) ∧ WhC K C tr ∧ 2 ≤ p ∧ p ≤ 10 ^ 12 ∧ 0 ≤ b ∧ b ≤ 10 ^ 12 ∧ 0 ≤ a ∧ a ≤ 10 ^ 12 ∧
  ∀ H', SameX x H H' → H' x = some (.ins C dx [("period", .int p), ("back", .int b), ("ahead", .int a)]) → Q .non H'
theorem f_wheel (T : Top K mg) : FnOk P w K mg base CX0 3 (ma K (ga K "Wheel") "__init__") (fdA K (ma K (ga K "Wheel") "__init__")) ["self", "period", "back", "ahead"] (spWheelI K) := by
  refine fnF T.Wheel___init__ sc_Wheel___init__ (by rintro vs H Q E ⟨x, C, dx, tr, p, b, a, rfl, _⟩; rfl) (fun cdv A outer sh H vs Q E hr h => ?_)
  obtain ⟨x, C, dx, tr, p, b, a, rfl, hx, c, p1, p2, b1, b2, a1, a2, q⟩ := h
  refine ⟨_, (pss_cons (ps_expr (C8.pe_c (c_need_part T) hr (by decide) rfl (pa_cons (pv 1) (pa_cons pe_int (pa_cons pe_str pa_nil)))))
      (pss_cons (ps_expr (C8.pe_c (c_need_part T) hr (by decide) rfl (pa_cons (pv 2) (pa_cons pe_int (pa_cons pe_str pa_nil)))))
      (pss_cons (ps_expr (C8.pe_c (c_need_part T) hr (by decide) rfl (pa_cons (pv 3) (pa_cons pe_int (pa_cons pe_str pa_nil)))))
      (pss_cons (sfldK K rfl (pv 0) (pv 1) rfl)
      (pss_cons (sfldK K rfl (pv 0) (pv 2) rfl)
      (pss_one (sfldK K rfl (pv 0) (pv 3) rfl))))))), ?_⟩
  refine ⟨_, rfl, p, 2, _, rfl, p1, p2, _, rfl, b, 0, _, rfl, b1, b2, _, rfl, a, 0, _, rfl, a1, a2, ?_⟩
  refine ⟨_, rfl, _, rfl, x, _, _, _, rfl, hx, c.cls, c.n_period, few rfl, ?_⟩
  refine ⟨_, rfl, _, rfl, x, _, _, _, rfl, upd_same, c.cls, c.n_back, few rfl, ?_⟩
  refine ⟨_, rfl, _, rfl, x, _, _, _, rfl, upd_same, c.cls, c.n_ahead, few rfl, ?_⟩
  exact q _ (SameX.upd.trans (SameX.upd.trans SameX.upd)) upd_same
/-- a wheel -/
def WheelAt (K : PySem.W.Frag) (p b a : Int) (tr : Bool) (H : Hp) (x : Addr) : Prop := ∃ C dx, H x = some (.ins C dx [("period", .int p), ("back", .int b), ("ahead", .int a)]) ∧ WhC K C tr
theorem WheelAt.same {p b a : Int} {tr : Bool} {H H' : Hp} {x : Addr} (e : Same H H') (h : WheelAt K p b a tr H x) : WheelAt K p b a tr H' x := let ⟨C, dx, h1, h2⟩ := h; ⟨C, dx, e _ _ h1, h2⟩
/-- C(..) gives a wheel; dec: the arguments' period, back, ahead -/
def spWhI (K : PySem.W.Frag) (C : Addr) (tr : Bool) (dec : List V → Int → Int → Int → Prop) : Sp := InitSp C fun G ws Ob => ∃ p b a, dec ws p b a ∧ 2 ≤ p ∧ p ≤ 10 ^ 12 ∧ 0 ≤ b ∧ b ≤ 10 ^ 12 ∧ 0 ≤ a ∧ a ≤ 10 ^ 12 ∧ Ob = WheelAt K p b a tr
theorem mk_Wheel (T : Top K mg) (Fc : Facts P K mg) : C8.Mak P w K mg base 3 "Wheel" (ga K "Wheel") (spWhI K (ga K "Wheel") false fun ws p b a => ws = [.int p, .int b, .int a]) [] := by
  refine ⟨_, _, _, [], T.mk_Wheel, (f_wheel T).imp (fun vs H Q E h => ?_), T.c_Wheel, T.Wheel___init__.bindsN (fun _ _ _ _ _ _ us hl => match us, hl with | [_, _, _, _], _ => rfl), .nil⟩
  obtain ⟨x, dx, ws, Ob, rfl, hx, ⟨p, b, a, rfl, p1, p2, b1, b2, a1, a2, rfl⟩, q⟩ := h
  exact ⟨x, _, dx, false, p, b, a, rfl, hx, Fc.w_Wheel, p1, p2, b1, b2, a1, a2, fun H' sx ho => q H' (fun c u hc => let ⟨n, h⟩ := dropD_some hc; sx c u n h) ⟨_, dx, ho, Fc.w_Wheel⟩⟩
theorem fr_wheel (T : Top K mg) : FnR P w K mg base CX0 3 (ma K (ga K "Wheel") "__init__") (spWheelI K) :=
  ((f_wheel T).raw (T.Wheel___init__.bindsN (fun _ _ _ _ _ _ us hl => match us, hl with | [_, _, _, _], _ => rfl)) .nil).imp fun vs H Q E h => by rw [List.append_nil]; exact h
theorem mk_Exact (T : Top K mg) (Fc : Facts P K mg) : C8.Mak P w K mg base 4 "Exact" (ga K "Exact") (spWhI K (ga K "Exact") false fun ws p b a => ws = [.int p] ∧ b = 0 ∧ a = 0) [] := by
  obtain ⟨c, cc, sd⟩ := Fc.sup_Exact
  refine makS Fc.mk_Exact T.c_Exact sd (fun _ _ _ _ _ _ _ us hl => match us, hl with | [_, _], _ => rfl) scn_Exact___init__ (by decide +kernel) (by rintro vs H Q E ⟨x, dx, ws, Ob, rfl, _, ⟨p, b, a, ⟨rfl, _⟩, _⟩, _⟩; rfl) (fun A outer sh H vs Q E hr h => ?_)
  obtain ⟨x, dx, ws, Ob, rfl, hx, ⟨p, b, a, ⟨rfl, rfl, rfl⟩, p1, p2, b1, b2, a1, a2, rfl⟩, q⟩ := h
  refine ⟨_, at_super sd rfl rfl rfl rfl rfl T.f_super Fc.htop ⟨_, rfl, rfl⟩ rfl rfl (fr_wheel T) hr (pa_cons (pv 1) (pa_cons pe_int (pa_cons pe_int pa_nil))) (atS_of pss_nil), ?_⟩
  exact ⟨x, _, _, _, rfl, hx, Fc.so_Exact, _, rfl, x, _, dx, false, p, 0, 0, rfl, hx, Fc.w_Exact, p1, p2, b1, b2, a1, a2, fun H' sx ho => q H' (fun c u hc => let ⟨n, h⟩ := dropD_some hc; sx c u n h) ⟨_, dx, ho, Fc.w_Exact⟩⟩
theorem mk_Grid (T : Top K mg) (Fc : Facts P K mg) : C8.Mak P w K mg base 4 "Grid" (ga K "Grid") (spWhI K (ga K "Grid") true fun ws p b a => ws = [.int p] ∧ b = 0 ∧ a = 0) [] := by
  obtain ⟨c, cc, sd⟩ := Fc.sup_Grid
  refine makS Fc.mk_Grid T.c_Grid sd (fun _ _ _ _ _ _ _ us hl => match us, hl with | [_, _], _ => rfl) scn_Grid___init__ (by decide +kernel) (by rintro vs H Q E ⟨x, dx, ws, Ob, rfl, _, ⟨p, b, a, ⟨rfl, _⟩, _⟩, _⟩; rfl) (fun A outer sh H vs Q E hr h => ?_)
  obtain ⟨x, dx, ws, Ob, rfl, hx, ⟨p, b, a, ⟨rfl, rfl, rfl⟩, p1, p2, b1, b2, a1, a2, rfl⟩, q⟩ := h
  refine ⟨_, at_super sd rfl rfl rfl rfl rfl T.f_super Fc.htop ⟨_, rfl, rfl⟩ rfl rfl (fr_wheel T) hr (pa_cons (pv 1) (pa_cons pe_int (pa_cons pe_int pa_nil))) (atS_of pss_nil), ?_⟩
  exact ⟨x, _, _, _, rfl, hx, Fc.so_Grid, _, rfl, x, _, dx, true, p, 0, 0, rfl, hx, Fc.w_Grid, p1, p2, b1, b2, a1, a2, fun H' sx ho => q H' (fun c u hc => let ⟨n, h⟩ := dropD_some hc; sx c u n h) ⟨_, dx, ho, Fc.w_Grid⟩⟩
theorem mk_Even (T : Top K mg) (Fc : Facts P K mg) : C8.Mak P w K mg base 4 "Even" (ga K "Even") (spWhI K (ga K "Even") false fun ws p b a => ws = [.int p, .int b] ∧ b = a) [] := by
  obtain ⟨c, cc, sd⟩ := Fc.sup_Even
  refine makS Fc.mk_Even T.c_Even sd (fun _ _ _ _ _ _ _ us hl => match us, hl with | [_, _, _], _ => rfl) scn_Even___init__ (by decide +kernel) (by rintro vs H Q E ⟨x, dx, ws, Ob, rfl, _, ⟨p, b, a, ⟨rfl, _⟩, _⟩, _⟩; rfl) (fun A outer sh H vs Q E hr h => ?_)
  obtain ⟨x, dx, ws, Ob, rfl, hx, ⟨p, b, a, ⟨rfl, rfl⟩, p1, p2, b1, b2, a1, a2, rfl⟩, q⟩ := h
  refine ⟨_, at_cons (ps_expr (C8.pe_c (c_need_part T) hr (by decide) rfl (pa_cons (pv 1) (pa_cons pe_int (pa_cons pe_str pa_nil))))) (at_cons (ps_expr (C8.pe_c (c_need_part T) hr (by decide) rfl (pa_cons (pv 2) (pa_cons pe_int (pa_cons pe_str pa_nil)))))
    (at_super sd rfl rfl rfl rfl rfl T.f_super Fc.htop ⟨_, rfl, rfl⟩ rfl rfl (fr_wheel T) hr (pa_cons (pv 1) (pa_cons (pv 2) (pa_cons (pv 2) pa_nil))) (atS_of pss_nil))), ?_⟩
  refine ⟨_, rfl, p, 2, _, rfl, p1, p2, _, rfl, b, 0, _, rfl, b1, b2, ?_⟩
  exact ⟨x, _, _, _, rfl, hx, Fc.so_Even, _, rfl, _, rfl, _, rfl, x, _, dx, false, p, b, b, rfl, hx, Fc.w_Even, p1, p2, b1, b2, b1, b2, fun H' sx ho => q H' (fun c u hc => let ⟨n, h⟩ := dropD_some hc; sx c u n h) ⟨_, dx, ho, Fc.w_Even⟩⟩
theorem mk_Lagging (T : Top K mg) (Fc : Facts P K mg) : C8.Mak P w K mg base 4 "Lagging" (ga K "Lagging") (spWhI K (ga K "Lagging") false fun ws p b a => ws = [.int p, .int b] ∧ a = 0) [] := by
  obtain ⟨c, cc, sd⟩ := Fc.sup_Lagging
  refine makS Fc.mk_Lagging T.c_Lagging sd (fun _ _ _ _ _ _ _ us hl => match us, hl with | [_, _, _], _ => rfl) scn_Lagging___init__ (by decide +kernel) (by rintro vs H Q E ⟨x, dx, ws, Ob, rfl, _, ⟨p, b, a, ⟨rfl, _⟩, _⟩, _⟩; rfl) (fun A outer sh H vs Q E hr h => ?_)
  obtain ⟨x, dx, ws, Ob, rfl, hx, ⟨p, b, a, ⟨rfl, rfl⟩, p1, p2, b1, b2, a1, a2, rfl⟩, q⟩ := h
  refine ⟨_, at_cons (ps_expr (C8.pe_c (c_need_part T) hr (by decide) rfl (pa_cons (pv 1) (pa_cons pe_int (pa_cons pe_str pa_nil))))) (at_cons (ps_expr (C8.pe_c (c_need_part T) hr (by decide) rfl (pa_cons (pv 2) (pa_cons pe_int (pa_cons pe_str pa_nil)))))
    (at_super sd rfl rfl rfl rfl rfl T.f_super Fc.htop ⟨_, rfl, rfl⟩ rfl rfl (fr_wheel T) hr (pa_cons (pv 1) (pa_cons (pv 2) (pa_cons pe_int pa_nil))) (atS_of pss_nil))), ?_⟩
  refine ⟨_, rfl, p, 2, _, rfl, p1, p2, _, rfl, b, 0, _, rfl, b1, b2, ?_⟩
  exact ⟨x, _, _, _, rfl, hx, Fc.so_Lagging, _, rfl, _, rfl, x, _, dx, false, p, b, 0, rfl, hx, Fc.w_Lagging, p1, p2, b1, b2, a1, a2, fun H' sx ho => q H' (fun c u hc => let ⟨n, h⟩ := dropD_some hc; sx c u n h) ⟨_, dx, ho, Fc.w_Lagging⟩⟩
end
end K32

/-! wheels.py: what a wheel tells -/
namespace K32
open PySem PyProof.Rows L2
section
variable {P : Program} {w : World} {K : PySem.W.Frag} {mg : Str → Option Value} {base : Heap}
def spTrusted (K : PySem.W.Frag) : Sp := fun vs H Q _ => ∃ x p b a tr, vs = [.ref x] ∧ WheelAt K p b a tr H x ∧ Q (.bl tr) H
theorem fr_trusted (T : Top K mg) (Fc : Facts P K mg) : FnR P w K mg base CX0 1 (pa K (ga K "Wheel") "trusted") (spTrusted K) := by
  refine ((fnF (k := 0) (sp := spTrusted K) Fc.Wheel_trusted sc_Wheel_trusted (by rintro vs H Q E ⟨x, p, b, a, tr, rfl, _⟩; rfl) (fun cdv A outer sh H vs Q E hr h => ?_)).raw (Fc.Wheel_trusted.bindsN (fun _ _ _ _ _ _ us hl => match us, hl with | [_], _ => rfl)) .nil).imp fun vs H Q E h => by rw [List.append_nil]; exact h
  obtain ⟨x, p, b, a, tr, rfl, ⟨C, dx, hx, c⟩, q⟩ := h
  refine ⟨_, (pss_one (ps_ret (pe_callTy call_bool1 (by rfl) T.f_bool (by decide +kernel) (pa_cons (conK K rfl (pv 0)) pa_nil)))), ?_⟩
  exact ⟨_, rfl, x, C, dx, _, _, _, rfl, hx, c.cls, c.con, rfl, .inr ⟨_, rfl, q⟩⟩
def spPlay (K : PySem.W.Frag) : Sp := fun vs H Q _ => ∃ x p b a tr, vs = [.ref x] ∧ WheelAt K p b a tr H x ∧ Q (.int (b + a)) H
theorem fr_play (T : Top K mg) (Fc : Facts P K mg) : FnR P w K mg base CX0 1 (pa K (ga K "Wheel") "play") (spPlay K) := by
  refine ((fnF (k := 0) (sp := spPlay K) Fc.Wheel_play sc_Wheel_play (by rintro vs H Q E ⟨x, p, b, a, tr, rfl, _⟩; rfl) (fun cdv A outer sh H vs Q E hr h => ?_)).raw (Fc.Wheel_play.bindsN (fun _ _ _ _ _ _ us hl => match us, hl with | [_], _ => rfl)) .nil).imp fun vs H Q E h => by rw [List.append_nil]; exact h
  obtain ⟨x, p, b, a, tr, rfl, ⟨C, dx, hx, c⟩, q⟩ := h
  refine ⟨_, (pss_one (ps_ret (pe_op op_add (fldK K rfl (pv 0) rfl) (fldK K rfl (pv 0) rfl)))), ?_⟩
  exact ⟨_, rfl, x, C, dx, _, _, rfl, hx, c.cls, c.n_back, rfl, _, rfl, x, C, dx, _, _, rfl, hx, c.cls, c.n_ahead, rfl, _, _, rfl, rfl, q⟩
def spNear (K : PySem.W.Frag) : Sp := fun vs H Q _ => ∃ x p b a tr t, vs = [.ref x] ∧ WheelAt K p b a tr H x ∧ 1 ≤ p ∧ nearO p (b + a) = some t ∧ ∀ r H', Same H H' → H r = none → LotAtN K t H H' r → Q (.ref r) H'
theorem fr_near (T : Top K mg) (Fc : Facts P K mg) : FnR P w K mg base CX0 7 (pa K (ga K "Wheel") "near") (spNear K) := by
  refine ((fnF (k := 6) (sp := spNear K) Fc.Wheel_near sc_Wheel_near (by rintro vs H Q E ⟨x, p, b, a, tr, t, rfl, _⟩; rfl) (fun cdv A outer sh H vs Q E hr h => ?_)).raw (Fc.Wheel_near.bindsN (fun _ _ _ _ _ _ us hl => match us, hl with | [_], _ => rfl)) .nil).imp fun vs H Q E h => by rw [List.append_nil]; exact h
  obtain ⟨x, p, b, a, tr, t, rfl, ⟨C, dx, hx, c⟩, hp, hn, q⟩ := h
  refine ⟨_, (pss_one (ps_ret (pe_smeth (pe_glob (v := .ref (ga K "Lot")) (by rfl) T.c_Lot rfl) Fc.sm_around (f_around T Fc) (Fc.Lot_around.bindsN (fun _ _ _ _ _ _ us hl => match us, hl with | [_, _], _ => rfl)) hr (by decide) (pa_cons (fldK K rfl (pv 0) rfl) (pa_cons (pe_op op_add (fldK K rfl (pv 0) rfl) (fldK K rfl (pv 0) rfl)) pa_nil))))), ?_⟩
  refine ⟨rfl, _, rfl, x, C, dx, _, _, rfl, hx, c.cls, c.n_period, rfl, _, rfl, x, C, dx, _, _, rfl, hx, c.cls, c.n_back, rfl, _, rfl, x, C, dx, _, _, rfl, hx, c.cls, c.n_ahead, rfl, _, _, rfl, rfl, ?_⟩
  exact ⟨p, b + a, t, rfl, hp, hn, q⟩
def spPart (K : PySem.W.Frag) : Sp := fun vs H Q _ => ∃ x p b a tr d, vs = [.ref x, .int d] ∧ WheelAt K p b a tr H x ∧ 1 ≤ p ∧ Q (.bl (decide (b + a < apartI d p))) H
theorem fr_part (T : Top K mg) (Fc : Facts P K mg) : FnR P w K mg base CX0 4 (ma K (ga K "Wheel") "does_part") (spPart K) := by
  refine ((fnF (k := 3) (sp := spPart K) T.Wheel_does_part sc_Wheel_does_part (by rintro vs H Q E ⟨x, p, b, a, tr, d, rfl, _⟩; rfl) (fun cdv A outer sh H vs Q E hr h => ?_)).raw (T.Wheel_does_part.bindsN (fun _ _ _ _ _ _ us hl => match us, hl with | [_, _], _ => rfl)) .nil).imp fun vs H Q E h => by rw [List.append_nil]; exact h
  obtain ⟨x, p, b, a, tr, d, rfl, ⟨C, dx, hx, c⟩, hp, q⟩ := h
  refine ⟨_, (pss_cons (ps_if (pt_not (pt_val (C8.pe_c (c_is_whole T) hr (by decide) rfl (pa_cons (pv 1) pa_nil)))) (pss_one (ps_never)) pss_nil)
      (pss_one (ps_ret (pe_cmpR op_gt (C8.pe_c (c_apart T) hr (by decide) rfl (pa_cons (pv 1) (pa_cons (fldK K rfl (pv 0) rfl) pa_nil))) (pe_propA K rfl (pv 0) (fr_play T Fc) hr (by decide)) (nomark _))))), ?_⟩
  refine ⟨_, rfl, d, rfl, true, rfl, iteF ?_⟩
  refine ⟨_, rfl, _, rfl, x, C, dx, _, _, rfl, hx, c.cls, c.n_period, rfl, d, p, rfl, hp, ?_⟩
  exact ⟨_, rfl, x, C, dx, _, _, rfl, hx, c.cls, c.p_play, x, p, b, a, tr, rfl, ⟨C, dx, hx, c⟩, _, _, rfl, rfl, q⟩
def spShow (K : PySem.W.Frag) : Sp := fun vs H Q _ => ∃ x p b a tr d, vs = [.ref x, .int d] ∧ WheelAt K p b a tr H x ∧ 1 ≤ p ∧ Q (.int (d % p)) H
theorem fr_show (T : Top K mg) : FnR P w K mg base CX0 3 (ma K (ga K "Wheel") "__call__") (spShow K) := by
  refine ((fnF (k := 2) (sp := spShow K) T.Wheel___call__ sc_Wheel___call__ (by rintro vs H Q E ⟨x, p, b, a, tr, d, rfl, _⟩; rfl) (fun cdv A outer sh H vs Q E hr h => ?_)).raw (T.Wheel___call__.bindsN (fun _ _ _ _ _ _ us hl => match us, hl with | [_, _], _ => rfl)) .nil).imp fun vs H Q E h => by rw [List.append_nil]; exact h
  obtain ⟨x, p, b, a, tr, d, rfl, ⟨C, dx, hx, c⟩, hp, q⟩ := h
  refine ⟨_, (pss_cons (ps_expr (C8.pe_c (c_need_value T) hr (by decide) rfl (pa_cons (pv 1) pa_nil)))
      (pss_one (ps_ret (pe_op op_mod (pv 1) (fldK K rfl (pv 0) rfl))))), ?_⟩
  refine ⟨_, rfl, d, rfl, ?_⟩
  exact ⟨_, rfl, _, rfl, x, C, dx, _, _, rfl, hx, c.cls, c.n_period, rfl, d, p, rfl, rfl, hp, q⟩
end
end K32

/-! meters, choices, readings as plain Lean functions, and the plain law -/
namespace K32
/-- period, back, ahead, trusted -/
abbrev Wl := Int × Int × Int × Bool
/-- wheels, off, more, lost -/
abbrev Mt := List Wl × Int × Int × Int
def partW (z : Wl) (d : Int) : Bool := decide (z.2.1 + z.2.2.1 < apartI d z.1)
def partO (ws : List Wl) (d : Int) : List (Option Int) := ws.mapIdx fun i z => if partW z d = true then some (i : Int) else none
def partI (ws : List Wl) (d : Int) : List Int := (partO ws d).filterMap id
theorem partI_len (ws : List Wl) (d : Int) : (partI ws d).length ≤ ws.length := by
  unfold partI partO
  exact Nat.le_trans (List.length_filterMap_le _ _) (by rw [List.length_mapIdx]; exact Nat.le_refl _)
theorem partI_at {ws : List Wl} {d k : Int} (h : k ∈ partI ws d) : ∃ (n : Nat) (z : Wl), k = n ∧ ws[n]? = some z ∧ partW z d = true := by
  unfold partI partO at h
  obtain ⟨o, ho, e⟩ := List.mem_filterMap.mp h
  obtain ⟨n, hn, rfl⟩ := List.mem_mapIdx.mp ho
  by_cases c : partW ws[n] d = true
  · rw [if_pos c] at e
    exact ⟨n, ws[n], (Option.some.inj e).symm, List.getElem?_eq_getElem hn, c⟩
  · rw [if_neg c] at e
    cases e
def trAt (ws : List Wl) (i : Int) : Bool := match ws[i.toNat]? with
  | some z => z.2.2.2
  | none => false
def blindW (m : Mt) (d : Int) : Bool := decide (((partI m.1 d).length : Int) ≤ 2 * m.2.1 + m.2.2.1 + m.2.2.2) && !((partI m.1 d).map (trAt m.1)).any id
def someOf : Nat → List Int → List (List Int)
  | 0, _ => [[]]
  | m + 1, ps => ((List.range ps.length).map fun i => (someOf m (ps.drop (i + 1))).map fun r => ps.getD i 0 :: r).flatten
def pickO (b : Bool) (ws : List Wl) : List (Option Int) := ws.mapIdx fun i z => if z.2.2.2 = b then some (i : Int) else none
def pickI (b : Bool) (ws : List Wl) : List Int := (pickO b ws).filterMap id
def spareM (m : Mt) : Int := 2 * m.2.1 + m.2.2.1 + m.2.2.2
def manyM (m : Mt) : Nat := (((pickI false m.1).length : Int) - spareM m).toNat
def choicesM (m : Mt) : List (List Int) := (someOf (manyM m) (pickI false m.1)).map fun s => sortI (pickI true m.1 ++ s)
def nearW (z : Wl) : Option Tab := nearO z.1 (z.2.1 + z.2.2.1)
def nearAt (ws : List Wl) (i : Int) : Option Tab := match ws[i.toNat]? with
  | some z => nearW z
  | none => none
def lotsAt (ws : List Wl) (c : List Int) : Option (List Tab) := mapO (nearAt ws) c
def leastC (ws : List Wl) (w : Int) (c : List Int) : Option Int := do
  let ls ← lotsAt ws c
  leastOf ls w
def minI : Int → List Int → Int
  | a, [] => a
  | a, b :: bs => minI (if b < a then b else a) bs
def leastM (m : Mt) (w : Int) : Option Int := do
  let ls ← mapO (leastC m.1 w) (choicesM m)
  match ls with
  | [] => none
  | l :: ls => some (minI l ls)

/-! ### the law's own defs -/
def marksOf (z : Wl) : List (Option Int) := (List.range z.1.toNat).map (fun (n : Nat) => some (n : Int)) ++ if z.2.2.2 = true then [] else [none]
def longer (found : List (List (Option Int))) (z : Wl) : List (List (Option Int)) := (found.map fun ms => (marksOf z).map fun k => ms ++ [k]).flatten
def readings (ws : List Wl) : List (List (Option Int)) := ws.foldl longer [[]]
def letsW (z : Wl) (v k : Int) : Bool := decide ((k - v + z.2.1) % z.1 ≤ z.2.1 + z.2.2.1)
def wrongW (v : Int) (p : Wl × Option Int) : Bool := match p.2 with
  | some k => !letsW p.1 v k
  | none => false
def offW (ws : List Wl) (ms : List (Option Int)) (v : Int) : List Wl := ((ws.zip ms).filter (wrongW v)).map (·.1)
def cameP (ws : List Wl) (ms : List (Option Int)) (n : Int) (v : Int) : Bool := (offW ws ms v).all (fun z => !z.2.2.2) && decide (((offW ws ms v).length : Int) ≤ n)
def cameL (ws : List Wl) (ms : List (Option Int)) (n : Int) (r : Nat) : List Int := ((List.range r).map fun (v : Nat) => (v : Int)).filter (cameP ws ms n)
def farB (w : Int) (came fits : List Int) : Bool := match came.head?, came.getLast?, fits.head?, fits.getLast? with
  | some c0, some c1, some f0, some f1 => decide (w < mx (c1 - f0) (f1 - c0))
  | _, _, _, _ => false
def badM (m : Mt) (r : Nat) (w : Int) (ms : List (Option Int)) : Bool :=
  decide (((ms.filter fun k => k.isNone).length : Int) ≤ m.2.2.2) && farB w (cameL m.1 ms (m.2.1 + m.2.2.1) r) (cameL m.1 ms m.2.1 r)
def lawSure (m : Mt) (r : Nat) (w : Int) : Bool := !(readings m.1).any (badM m r w)
end K32

/-! meters.py: making a meter -/
namespace K32
open PySem PyProof.Rows L2
section
variable {P : Program} {w : World} {K : PySem.W.Frag} {mg : Str → Option Value} {base : Heap}
def spNeedCount : Sp := fun vs H Q _ => ∃ (i : Int) (x : Str), vs = [.int i, .str x] ∧ 0 ≤ i ∧ i ≤ 8 ∧ Q .non H
theorem c_need_count (T : Top K mg) : C8.Cal P w K mg base 2 "need_count" spNeedCount [] := by
  refine calF T.need_count (fun _ _ _ _ _ _ us hl => match us, hl with | [_, _], _ => rfl) sc_need_count (by rintro vs H Q E ⟨i, x, rfl, _⟩; rfl) (fun cdv A outer s H vs Q E hr h => ?_)
  obtain ⟨i, x, rfl, h1, h2, k⟩ := h
  refine ⟨_, (pss_one (ps_if (PW.pt (pw_or (pt_not (pt_val (C8.pe_c (c_is_whole T) hr (by decide) rfl (pa_cons (pv 0) pa_nil)))) (pw_or1 (pt_not (pt_chain op_le op_le pe_int (pv 0) (C8.pe_gc (by rfl) (gI T.g_MOST_WHEELS))))))) (pss_one (ps_never)) pss_nil)), ?_⟩
  refine ⟨_, rfl, i, rfl, true, rfl, iteF ?_⟩
  refine ⟨_, rfl, _, _, rfl, rfl, _, rfl, ?_⟩
  rw [decide_eq_true h1]
  refine iteT ⟨_, _, rfl, rfl, _, rfl, ?_⟩
  rw [decide_eq_true h2]
  exact iteF k
def WhRef (K : PySem.W.Frag) (H : Hp) (v : V) (z : Wl) : Prop := ∃ x, v = .ref x ∧ WheelAt K z.1 z.2.1 z.2.2.1 z.2.2.2 H x
theorem WhRef.same {H H' : Hp} {v : V} {z : Wl} (e : Same H H') (h : WhRef K H v z) : WhRef K H' v z := let ⟨x, ex, h⟩ := h; ⟨x, ex, h.same e⟩
def MeterAt (K : PySem.W.Frag) (m : Mt) (H : Hp) (x : Addr) : Prop := ∃ dx ta us, H x = some (.ins (ga K "Meter") dx [("wheels", .ref ta), ("off", .int m.2.1), ("more", .int m.2.2.1), ("lost", .int m.2.2.2)]) ∧ SqT K H ta us ∧ Paired (WhRef K H) us m.1
theorem MeterAt.same {m : Mt} {H H' : Hp} {x : Addr} (e : Same H H') (h : MeterAt K m H x) : MeterAt K m H' x := let ⟨dx, ta, us, h1, h2, h3⟩ := h; ⟨dx, ta, us, e _ _ h1, Same.seqT e h2, paired_imp h3 fun _ _ r => r.same e⟩
def spMeter1 (K : PySem.W.Frag) : Sp := fun vs H Q _ => ∃ x dx a us m, vs = [.ref x, .int m.2.1, .int m.2.2.1, .int m.2.2.2, .ref a] ∧ H x = some (.ins (ga K "Meter") dx []) ∧ SqT K (dropD H x) a us ∧ Paired (WhRef K (dropD H x)) us m.1 ∧ 1 ≤ us.length ∧ us.length ≤ 8 ∧
  (0 ≤ m.2.1 ∧ m.2.1 ≤ 8) ∧ (0 ≤ m.2.2.1 ∧ m.2.2.1 ≤ 8) ∧ (0 ≤ m.2.2.2 ∧ m.2.2.2 ≤ 8) ∧ ∀ H', Same (dropD H x) H' → MeterAt K m H' x → Q .non H'
def spMeter (K : PySem.W.Frag) : SpK := fun vs zs H Q => ∃ x dx us m, vs = .ref x :: us ∧ zs = [.int m.2.1, .int m.2.2.1, .int m.2.2.2] ∧ H x = some (.ins (ga K "Meter") dx []) ∧ Paired (WhRef K (dropD H x)) us m.1 ∧ 1 ≤ us.length ∧ us.length ≤ 8 ∧
  (0 ≤ m.2.1 ∧ m.2.1 ≤ 8) ∧ (0 ≤ m.2.2.1 ∧ m.2.2.1 ≤ 8) ∧ (0 ≤ m.2.2.2 ∧ m.2.2.2 ≤ 8) ∧ ∀ H', Same (dropD H x) H' → MeterAt K m H' x → Q .non H'
theorem f_meter (T : Top K mg) (Fc : Facts P K mg) : FnRK P w K mg base 3 (ma K (ga K "Meter") "__init__") ["off", "more", "lost"] (spMeter K) := by
  refine (fn_starK (k := 2) (ps := ["self"]) (pv := "wheels") (sp := spMeter1 K) T.Meter___init__ (fun kV doc pm an cdv ct us rest ws h1 h2 => ?_) sc_Meter___init__ (fun cdv A outer sh H vs Q E hr h => ?_)).imp (fun vs zs H Q h => ?_)
  · match us, h1, ws, h2, rest with
    | [_], _, [_, _, _], _, [] => rfl
    | [_], _, [_, _, _], _, _ :: _ => rfl
  · obtain ⟨x, dx, a, us, m, rfl, hx, hA, pu, l1, l2, ⟨o1, o2⟩, ⟨r1, r2⟩, ⟨s1, s2⟩, q⟩ := h
    refine ⟨_, (pss_cons (ps_if (PW.pt (pw_or (pt_cmpR op_eq (pe_callB (clLen K rfl) (by rfl) T.f_len (by decide +kernel) (pa_cons (pv 4) pa_nil)) pe_int (nomark _)) (pw_or1 (pt_not (pt_val (pe_callB (clAll K rfl rfl) (by rfl) T.f_all (by decide +kernel) (pa_cons (pe_lc (own := [("wheel", 5)]) rfl sc_Meter___init__.nd (piT K rfl (pv 4)) (blkOk_by (own := [("wheel", 5)]) (N := N_Meter___init__) (sc := defScope s_Meter___init__) (by decide +kernel)) (fun _ _ _ _ _ => (pg_name (i := 5) sc_Meter___init__.nd rfl (Or.inl rfl))) (fun _ _ _ _ _ => pts_nil) (fun _ _ _ _ _ => (pe_callB (clIsA K rfl) (by rfl) T.f_isinstance (by decide +kernel) (pa_cons (pv 5) (pa_cons (pe_glob (v := .ref (ga K "Wheel")) (by rfl) T.c_Wheel rfl) pa_nil))))) pa_nil))))))) (pss_one (ps_never)) pss_nil)
      (pss_cons (ps_if (pt_cmpR op_gt (pe_callB (clLen K rfl) (by rfl) T.f_len (by decide +kernel) (pa_cons (pv 4) pa_nil)) (C8.pe_gc (by rfl) (gI T.g_MOST_WHEELS)) (nomark _)) (pss_one (ps_never)) pss_nil)
      (pss_cons (ps_expr (C8.pe_c (c_need_count T) hr (by decide) rfl (pa_cons (pv 1) (pa_cons pe_str pa_nil))))
      (pss_cons (ps_expr (C8.pe_c (c_need_count T) hr (by decide) rfl (pa_cons (pv 2) (pa_cons pe_str pa_nil))))
      (pss_cons (ps_expr (C8.pe_c (c_need_count T) hr (by decide) rfl (pa_cons (pv 3) (pa_cons pe_str pa_nil))))
      (pss_cons (sfldK K rfl (pv 0) (pv 4) rfl)
      (pss_cons (sfldK K rfl (pv 0) (pv 1) rfl)
      (pss_cons (sfldK K rfl (pv 0) (pv 2) rfl)
      (pss_one (sfldK K rfl (pv 0) (pv 3) rfl)))))))))), ?_⟩
    have e0 : Same (dropD H x) H := drop_same
    have hA0 := Same.seqT e0 hA
    refine ⟨_, rfl, a, us, rfl, .inr hA0, rfl, _, rfl, ?_⟩
    rw [decide_eq_false (fun z => by injection z with z; omega)]
    refine iteF ?_
    refine ⟨_, rfl, a, rfl, ⟨_, hA0⟩, fun D hD => lcA (its_tup hA0) hD (us.map fun _ => true) stab_bl (by rw [List.length_map]) (by omega) (fun i y z H' hi hy hzi e Qe q => ?_) gname_mono fun ys H1 e1 hy py => ?_⟩
    · obtain ⟨r, hr1, b, rfl, C, dxw, hw, cw⟩ := paired_get pu hy
      rw [List.getElem?_map, hy] at hzi
      obtain rfl := Option.some.inj hzi
      exact ⟨rfl, _, rfl, b, C, _, dxw, _, rfl, (e0.trans e) _ _ hw, cw.isA, q _ _ (Same.refl _) rfl⟩
    rw [paired_bl py] at hy
    have ht : (us.map fun _ => true).all id = true := by rw [List.all_map]; exact List.all_eq_true.mpr fun _ _ => rfl
    refine ⟨D, _, rfl, .of hy, ?_⟩
    rw [ht]
    refine ⟨true, rfl, iteF ?_⟩
    have hx1 := e1 _ _ hx
    have hA1 := Same.seqT e1 hA0
    refine ⟨_, rfl, a, us, rfl, .inr hA1, _, _, rfl, rfl, _, rfl, ?_⟩
    rw [decide_eq_false (by omega)]
    refine iteF ?_
    refine ⟨_, rfl, _, _, rfl, o1, o2, _, rfl, _, _, rfl, r1, r2, _, rfl, _, _, rfl, s1, s2, ?_⟩
    refine ⟨_, rfl, _, rfl, x, _, _, _, rfl, hx1, T.k_Meter, T.n_Meter_wheels, few rfl, ?_⟩
    refine ⟨_, rfl, _, rfl, x, _, _, _, rfl, upd_same, T.k_Meter, T.n_Meter_off, few rfl, ?_⟩
    refine ⟨_, rfl, _, rfl, x, _, _, _, rfl, upd_same, T.k_Meter, T.n_Meter_more, few rfl, ?_⟩
    refine ⟨_, rfl, _, rfl, x, _, _, _, rfl, upd_same, T.k_Meter, T.n_Meter_lost, few rfl, ?_⟩
    have g := Same.updX (o := .ins (ga K "Meter") dx [("wheels", .ref a), ("off", .int m.2.1), ("more", .int m.2.2.1), ("lost", .int m.2.2.2)]) dropD_at (Same.updX (o := .ins (ga K "Meter") dx [("wheels", .ref a), ("off", .int m.2.1), ("more", .int m.2.2.1)]) dropD_at
      (Same.updX (o := .ins (ga K "Meter") dx [("wheels", .ref a), ("off", .int m.2.1)]) dropD_at (Same.updX (o := .ins (ga K "Meter") dx [("wheels", .ref a)]) dropD_at (e0.trans e1))))
    exact q _ g ⟨dx, a, us, upd_same, Same.seqT g hA, paired_imp pu fun _ _ r => r.same g⟩
  · obtain ⟨x, dx, us, m, rfl, rfl, hx, pu, l1, l2, o, r, t, q⟩ := h
    refine ⟨[.ref x], us, rfl, rfl, Nat.le_trans l2 (by decide), fun p hp => ?_⟩
    have hxp : x ≠ p := fun z => by rw [z, hp] at hx; cases hx
    have e : Same (dropD H x) (dropD (upd H p (.tup us)) x) := fun b u hb => by
      obtain ⟨n, hb⟩ := dropD_some hb
      rw [dropD_ne n, upd_ne (ne_of_none hb hp)]
      exact hb
    refine ⟨x, dx, p, us, m, rfl, by rw [upd_ne hxp]; exact hx, .inl (.of ?_), paired_imp pu fun _ _ r => r.same e, l1, l2, o, r, t, fun H' e' hm => q H' (e.trans e') hm⟩
    rw [dropD_ne (Ne.symm hxp)]
    exact upd_same
end
end K32

/-! meters.py: what a meter tells -/
namespace K32
open PySem PyProof.Rows L2
section
variable {P : Program} {w : World} {K : PySem.W.Frag} {mg : Str → Option Value} {base : Heap}
theorem cmul2 {j : Int} (h1 : -100 ≤ j) (h2 : j ≤ 100) : CMul 2 j := .inl ⟨by decide, by decide⟩
def spSpare (K : PySem.W.Frag) : Sp := fun vs H Q _ => ∃ x m, vs = [.ref x] ∧ MeterAt K m H x ∧ (0 ≤ m.2.1 ∧ m.2.1 ≤ 8) ∧ Q (.int (2 * m.2.1 + m.2.2.1 + m.2.2.2)) H
theorem fr_spare (T : Top K mg) (Fc : Facts P K mg) : FnR P w K mg base CX0 1 (pa K (ga K "Meter") "spare") (spSpare K) := by
  refine ((fnF (k := 0) (sp := spSpare K) Fc.Meter_spare sc_Meter_spare (by rintro vs H Q E ⟨x, m, rfl, _⟩; rfl) (fun cdv A outer sh H vs Q E hr h => ?_)).raw (Fc.Meter_spare.bindsN (fun _ _ _ _ _ _ us hl => match us, hl with | [_], _ => rfl)) .nil).imp fun vs H Q E h => by rw [List.append_nil]; exact h
  obtain ⟨x, m, rfl, ⟨dx, ta, us, hx, hA, pu⟩, ⟨o1, o2⟩, q⟩ := h
  refine ⟨_, (pss_one (ps_ret (pe_op op_add (pe_op op_add (pe_op op_mul pe_int (fldK K rfl (pv 0) rfl)) (fldK K rfl (pv 0) rfl)) (fldK K rfl (pv 0) rfl)))), ?_⟩
  exact ⟨_, rfl, x, _, dx, _, _, rfl, hx, T.k_Meter, T.n_Meter_off, rfl, _, _, rfl, rfl, cmul2 (by omega) (by omega), _, rfl, x, _, dx, _, _, rfl, hx, T.k_Meter, T.n_Meter_more, rfl, _, _, rfl, rfl, _, rfl, x, _, dx, _, _, rfl, hx, T.k_Meter, T.n_Meter_lost, rfl, _, _, rfl, rfl, q⟩
def spGetI (K : PySem.W.Frag) : Sp := fun vs H Q _ => ∃ x m i v dx ta us o r l, vs = [.ref x, .int i] ∧ H x = some (.ins (ga K "Meter") dx [("wheels", .ref ta), ("off", o), ("more", r), ("lost", l)]) ∧ SqT K H ta us ∧ i = ((m : Nat) : Int) ∧ us[m]? = some v ∧ Q v H
theorem fr_getitem (T : Top K mg) (Fc : Facts P K mg) : FnR P w K mg base CX0 2 (ma K (ga K "Meter") "__getitem__") (spGetI K) := by
  refine ((fnF (k := 1) (sp := spGetI K) T.Meter___getitem__ sc_Meter___getitem__ (by rintro vs H Q E ⟨x, m, i, v, dx, ta, us, o, r, l, rfl, _⟩; rfl) (fun cdv A outer sh H vs Q E hr h => ?_)).raw (T.Meter___getitem__.bindsN (fun _ _ _ _ _ _ us hl => match us, hl with | [_, _], _ => rfl)) .nil).imp fun vs H Q E h => by rw [List.append_nil]; exact h
  obtain ⟨x, m, i, v, dx, ta, us, o, r, l, rfl, hx, hA, rfl, hv, q⟩ := h
  refine ⟨_, (pss_cons (ps_if (pt_not (pt_val (C8.pe_c (c_is_whole T) hr (by decide) rfl (pa_cons (pv 1) pa_nil)))) (pss_one (ps_never)) pss_nil)
      (pss_cons (ps_if (pt_not (pt_chain op_le op_lt pe_int (pv 1) (pe_callB (clLen K rfl) (by rfl) T.f_len (by decide +kernel) (pa_cons (fldK K rfl (pv 0) rfl) pa_nil)))) (pss_one (ps_never)) pss_nil)
      (pss_one (ps_ret (pe_ix (ixT K rfl) (fldK K rfl (pv 0) rfl) (pv 1) (fun _ _ => rfl)))))), ?_⟩
  refine ⟨_, rfl, _, rfl, true, rfl, iteF ?_⟩
  have hlt := (List.getElem?_eq_some_iff.mp hv).1
  refine ⟨_, rfl, _, _, rfl, rfl, _, rfl, ?_⟩
  rw [decide_eq_true (by omega)]
  refine iteT ⟨_, rfl, x, _, dx, _, _, rfl, hx, T.k_Meter, T.n_Meter_wheels, rfl, ta, us, rfl, .inr hA, _, _, rfl, rfl, _, rfl, ?_⟩
  rw [decide_eq_true (by omega)]
  refine iteF ⟨_, rfl, x, _, dx, _, _, rfl, hx, T.k_Meter, T.n_Meter_wheels, rfl, _, rfl, ta, _, _, _, rfl, rfl, hA, atI_nat (j := m) hv, q⟩
/-- iter(meter) -/
theorem fn_iter (T : Top K mg) (Fc : Facts P K mg) : FnI P w K mg base 2 (ma K (ga K "Meter") "__iter__") (fun H a tp => ∃ dx us o r l, H a = some (.ins (ga K "Meter") dx [("wheels", .ref tp), ("off", o), ("more", r), ("lost", l)]) ∧ SqT K H tp us) := by
  intro A outer s H a tp Q hr e0 ⟨dx, us, o, r, l, hx, hA⟩ q
  refine fnAt (k := 1) T.Meter___iter__ sc_Meter___iter__ (fun _ _ _ _ _ _ us hl => match us, hl with | [_], _ => rfl) hr e0 (us := [.ref a]) (vs := [.ref a]) (.cons rfl .nil) rfl fun cdv hr2 => ?_
  refine ⟨_, (pss_one (ps_ret (pe_callB call_iterT (by rfl) T.f_iter (by decide +kernel) (pa_cons (fldK K rfl (pv 0) rfl) pa_nil)))), ?_⟩
  exact ⟨_, rfl, a, _, dx, _, _, rfl, hx, T.k_Meter, T.n_Meter_wheels, rfl, tp, us, rfl, hA, fun it h1 h2 => q it h1 h2⟩
end
end K32

/-! meters.py: parting, is_blind -/
namespace K32
open PySem PyProof.Rows L2
section
variable {P : Program} {w : World} {K : PySem.W.Frag} {mg : Str → Option Value} {base : Heap}
def spParting (K : PySem.W.Frag) : Sp := fun vs H Q _ => ∃ x m d, vs = [.ref x, .int d] ∧ MeterAt K m H x ∧ (∀ z ∈ m.1, 1 ≤ z.1) ∧ m.1.length ≤ 8 ∧ ∀ p H', Same H H' → H p = none → SqT K H' p ((partI m.1 d).map V.int) → Q (.ref p) H'
theorem fr_parting (T : Top K mg) (Fc : Facts P K mg) : C8.Met P w K mg base 5 (ga K "Meter") "parting" (spParting K) [] := by
  refine metF T.k_Meter T.m_Meter_parting T.Meter_parting (fun _ _ _ _ _ _ us hl => match us, hl with | [_, _], _ => rfl) sc_Meter_parting (by rintro vs H Q E ⟨x, m, d, rfl, _⟩; rfl) (fun cdv A outer sh H vs Q E hr h => ?_)
  obtain ⟨x, m, d, rfl, ⟨dx, ta, us, hx, hA, pu⟩, hp, hl, q⟩ := h
  refine ⟨_, (pss_cons (ps_if (pt_not (pt_val (C8.pe_c (c_is_whole T) hr (by decide) rfl (pa_cons (pv 1) pa_nil)))) (pss_one (ps_never)) pss_nil)
      (pss_one (ps_ret (pe_callTy (clTup K rfl) (by rfl) T.f_tuple (by decide +kernel) (pa_cons (pe_lc (own := [("at", 2), ("wheel", 3)]) rfl sc_Meter_parting.nd (piEnumT K rfl rfl T.f_enumerate (pa_cons (fldK K rfl (pv 0) rfl) pa_nil)) (blkOk_by (own := [("at", 2), ("wheel", 3)]) (N := N_Meter_parting) (sc := defScope s_Meter_parting) (by decide +kernel)) (fun _ _ _ _ _ => (pgT K 2 rfl (by rfl) (pgs_cons (pg_name (i := 2) sc_Meter_parting.nd rfl (Or.inl rfl)) (pgs_cons (pg_name (i := 3) sc_Meter_parting.nd rfl (Or.inl rfl)) pgs_nil)))) (fun _ _ _ _ _ => (pts_one (pt_val (pe_mtA K rfl (pv 3) (fr_part T Fc) hr (by decide) (pa_cons (pv 1) pa_nil))))) (fun _ _ _ _ _ => (pv 2))) pa_nil))))), ?_⟩
  have el := pu.length
  refine ⟨_, rfl, d, rfl, true, rfl, iteF ?_⟩
  refine ⟨_, rfl, x, _, dx, _, _, rfl, hx, T.k_Meter, T.n_Meter_wheels, rfl, ta, us, rfl, hA, fun D hD => lcG (its_enum hA) hD (partO m.1 d) stab_int (by unfold partO; rw [List.length_mapIdx, el]) (by omega) (fun i y oz H' hi hy hzi e Qe Qn q1 q2 => ?_) fun ys H1 e1 hy py => ?_⟩
  · obtain ⟨T0, v, rfl, hT, hv⟩ := hy
    obtain ⟨z, hz1, b, rfl, C, dxw, hw, cw⟩ := paired_get pu hv
    unfold partO at hzi
    rw [List.getElem?_mapIdx, hz1] at hzi
    obtain rfl := Option.some.inj hzi
    have hzp := hp z (List.mem_of_getElem? hz1)
    refine ⟨T0, _, rfl, hT, rfl, _, _, rfl, _, _, rfl, rfl, rfl, ?_⟩
    refine ⟨_, rfl, b, C, dxw, _, rfl, e _ _ hw, cw.cls, cw.part, rfl, _, rfl, b, _, _, _, _, d, rfl, ⟨C, dxw, e _ _ hw, cw⟩, hzp, ?_⟩
    refine ⟨partW z d, rfl, ?_⟩
    by_cases hb : partW z d = true
    · rw [hb]
      exact iteT ⟨_, rfl, q1 i (if_pos hb) _ _ (Same.refl _) rfl⟩
    · rw [Bool.not_eq_true _ |>.mp hb]
      exact iteF (q2 (if_neg hb) _ (Same.refl _))
  · rw [paired_int py] at hy
    refine ⟨D, _, rfl, .inl ⟨.inl (.of hy), fun l hl => ?_⟩⟩
    exact q l _ (e1.trans (Same.new hl)) (Same.none e1 hl) (.inl (.of upd_same))
def spBlind (K : PySem.W.Frag) : Sp := fun vs H Q _ => ∃ x m d, vs = [.ref x, .int d] ∧ MeterAt K m H x ∧ (∀ z ∈ m.1, 1 ≤ z.1) ∧ m.1.length ≤ 8 ∧ (0 ≤ m.2.1 ∧ m.2.1 ≤ 8) ∧ ∀ H', Same H H' → Q (.bl (blindW m d)) H'
theorem fr_blind (T : Top K mg) (Fc : Facts P K mg) : C8.Met P w K mg base 6 (ga K "Meter") "is_blind" (spBlind K) [] := by
  refine metF T.k_Meter T.m_Meter_is_blind T.Meter_is_blind (fun _ _ _ _ _ _ us hl => match us, hl with | [_, _], _ => rfl) sc_Meter_is_blind (by rintro vs H Q E ⟨x, m, d, rfl, _⟩; rfl) (fun cdv A outer sh H vs Q E hr h => ?_)
  obtain ⟨x, m, d, rfl, hM, hp, hl, ho, q⟩ := h
  refine ⟨_, (pss_cons (ps_set (i := 2) sc_Meter_is_blind.nd rfl (Or.inl rfl) (C8.pe_mt (fr_parting T Fc) hr (by decide) (pv 0) (pa_cons (pv 1) pa_nil)))
      (pss_one (ps_ret (pe_and (pe_cmpR op_le (pe_callB (clLen K rfl) (by rfl) T.f_len (by decide +kernel) (pa_cons (pv 2) pa_nil)) (pe_propA K rfl (pv 0) (fr_spare T Fc) hr (by decide)) (nomark _)) (pe_one (pe_not (pe_callB (clAny K rfl rfl) (by rfl) T.f_any (by decide +kernel) (pa_cons (pe_lc (own := [("at", 3)]) rfl sc_Meter_is_blind.nd (piT K rfl (pv 2)) (blkOk_by (own := [("at", 3)]) (N := N_Meter_is_blind) (sc := defScope s_Meter_is_blind) (by decide +kernel)) (fun _ _ _ _ _ => (pg_name (i := 3) sc_Meter_is_blind.nd rfl (Or.inl rfl))) (fun _ _ _ _ _ => pts_nil) (fun _ _ _ _ _ => (pe_propA K rfl (pe_ix (ixT K rfl) (fldK K rfl (pv 0) rfl) (pv 3) (fun _ _ => rfl)) (fr_trusted T Fc) hr (by decide)))) pa_nil)))))))), ?_⟩
  obtain ⟨dx, ta, us, hx, hA, pu⟩ := id hM
  refine ⟨_, rfl, x, dx, _, rfl, hx, rfl, _, rfl, x, m, d, rfl, hM, hp, hl, fun p H1 e1 hp1 hP => ?_⟩
  have hM1 := hM.same e1
  obtain ⟨dx1, ta1, us1, hx1, hA1, pu1⟩ := id hM1
  refine ⟨_, rfl, p, _, rfl, .inr hP, _, rfl, x, _, dx1, _, _, rfl, hx1, T.k_Meter, Fc.p_spare, x, m, rfl, hM1, ho, _, _, rfl, rfl, _, rfl, ?_⟩
  rw [List.length_map]
  by_cases hc : ((partI m.1 d).length : Int) ≤ 2 * m.2.1 + m.2.2.1 + m.2.2.2
  · rw [decide_eq_true hc]
    have hpl : ((partI m.1 d).map V.int).length = (partI m.1 d).length := List.length_map ..
    refine iteT ⟨_, rfl, p, rfl, ⟨_, hP⟩, fun D hD => lcA (its_tup hP) hD ((partI m.1 d).map (trAt m.1)) stab_bl (by rw [List.length_map, List.length_map]) (by have := partI_len m.1 d; omega) (fun i y z H' hi hy hzi e Qe q => ?_) gname_mono fun ys H2 e2 hy py => ?_⟩
    · rw [List.getElem?_map] at hy hzi
      cases hk : (partI m.1 d)[i]? with
      | none => rw [hk] at hy; cases hy
      | some k =>
      rw [hk] at hy hzi
      obtain rfl := Option.some.inj hy
      obtain rfl := Option.some.inj hzi
      obtain ⟨n, zw, rfl, hz, _⟩ := partI_at (List.mem_of_getElem? hk)
      obtain ⟨v, hv, b, rfl, C, dxw, hw, cw⟩ := paired_getR pu1 hz
      have ht : trAt m.1 (n : Int) = zw.2.2.2 := by unfold trAt; rw [Int.toNat_natCast, hz]
      rw [ht] at q
      refine ⟨rfl, _, rfl, x, _, dx1, _, _, rfl, e _ _ hx1, T.k_Meter, T.n_Meter_wheels, rfl, _, rfl, ta1, _, _, _, rfl, rfl, Same.seqT e hA1, atI_nat (j := n) hv, b, C, dxw, _, _, rfl, e _ _ hw, cw.cls, cw.p_trusted, b, _, _, _, _, rfl, ⟨C, dxw, e _ _ hw, cw⟩, q _ _ (Same.refl _) rfl⟩
    · rw [paired_bl py] at hy
      refine ⟨D, _, rfl, .of hy, _, rfl, ?_⟩
      have hb : blindW m d = !((partI m.1 d).map (trAt m.1)).any id := by unfold blindW; rw [decide_eq_true hc, Bool.true_and]
      rw [← hb]
      exact q H2 (e1.trans e2)
  · rw [decide_eq_false hc]
    refine iteF ?_
    have hb : blindW m d = false := by unfold blindW; rw [decide_eq_false hc]; rfl
    rw [← hb]
    exact q H1 e1
end
end K32

/-! comprehensions whose items may be lists -/
namespace K32
open PySem PyProof.Rows L2
section
variable {γ : Type} {R : Hp → V → γ → Prop} {J : It} {H1 : Hp} {n : Nat} {PY : Nat → V → Hp → Prop} {σ : L2.St} {D : Addr} {vs : List Nat} {g : TG} {te : TE} {Qd : Hp → Prop}
theorem lcL (it : ItsOk J H1 n PY) (hD : H1 D = none) (zs : List γ) (st : ∀ acc H H' y z, H D = some (.lst acc) → (∀ b o, b ≠ D → H b = some o → H' b = some o) → R H y z → R H' y z) (hz : zs.length = n) (hn : n ≤ 100000)
    (turn : ∀ i x z H', i < n → PY i x H' → zs[i]? = some z → Same H1 H' → (∃ acc, H' D = some (.lst acc)) → ∀ (Qe : VK), (∀ y H4, Same H' H4 → R H4 y z → Qe y H4) →
      g x (wipe σ vs) H' fun σ2 H2 => wipe σ2 vs = wipe σ vs ∧ te σ2 H2 Qe)
    (mono : ∀ x σ' H' (Q Q' : L2.St → Hp → Prop), (∀ σ2 H2, Q σ2 H2 → Q' σ2 H2) → g x σ' H' Q → g x σ' H' Q')
    (done : ∀ ys H', Same H1 H' → H' D = some (.lst ys) → Paired (R H') ys zs → Qd H') :
    ∃ W : Nat → Nat → Hp → Prop, (∃ m, W 0 m (upd H1 D (.lst []))) ∧ ∀ i m H, W i m H →
      (J.stop i H ∧ Qd H) ∨ (J.go i H ∧ ∃ Nx : Hp → Prop, (∀ H', Nx H' → ∃ m', m' < m ∧ W (i + 1) m' H') ∧ ∀ x H', J.yld i H x H' → g x (wipe σ vs) H' fun σ2 H2 => wipe σ2 vs = wipe σ vs ∧ tYes σ2 H2 fun b H3 =>
        if b = true then te σ2 H3 fun y H4 => ∃ acc, H4 D = some (.lst acc) ∧ acc.length < sizeLine ∧ Nx (upd H4 D (.lst (acc ++ [y]))) else Nx H3) := by
  refine ⟨fun i m H => m = n - i ∧ i ≤ n ∧ Same H1 H ∧ ∃ ys, H D = some (.lst ys) ∧ Paired (R H) ys (zs.take i), ⟨n, rfl, Nat.zero_le _, Same.new hD, [], upd_same, .nil⟩, ?_⟩
  rintro i m H ⟨rfl, hi, e, ys, hy, p⟩
  by_cases hlt : i < n
  · refine .inr ⟨it.go i H e hlt, fun H' => i + 1 ≤ n ∧ Same H1 H' ∧ ∃ ys, H' D = some (.lst ys) ∧ Paired (R H') ys (zs.take (i + 1)), fun H' q => ⟨n - (i + 1), by omega, rfl, q⟩, fun x H' hyl => ?_⟩
    obtain ⟨e1, py⟩ := it.yld i H x H' hyl e hlt
    have hi' : i < zs.length := by omega
    have ez : zs[i]? = some zs[i] := List.getElem?_eq_getElem hi'
    have et : zs.take (i + 1) = zs.take i ++ [zs[i]] := by rw [List.take_add_one, ez] <;> rfl
    have hl := p.length
    have hlen : ys.length ≤ 100000 := by
      have q2 := List.length_take (i := i) (l := zs)
      omega
    refine mono _ _ _ _ _ (fun σ2 H2 z => ?_) (turn i x zs[i] H' hlt py ez (e.trans e1) ⟨ys, e1 _ _ hy⟩ (fun y H4 => ∃ acc, H4 D = some (.lst acc) ∧ acc.length < sizeLine ∧ (i + 1 ≤ n ∧ Same H1 (upd H4 D (.lst (acc ++ [y]))) ∧ ∃ ys, (upd H4 D (.lst (acc ++ [y]))) D = some (.lst ys) ∧ Paired (R (upd H4 D (.lst (acc ++ [y])))) ys (zs.take (i + 1)))) (fun y H4 e4 r => ?_))
    · exact ⟨z.1, yes_intro (A := fun H3 => te σ2 H3 _) z.2⟩
    · have hy4 : H4 D = some (.lst ys) := e4 _ _ (e1 _ _ hy)
      refine ⟨ys, hy4, Nat.lt_of_le_of_lt hlen (by decide), hlt, fun b o hb => ?_, _, upd_same, ?_⟩
      · rw [upd_ne (ne_of_none hb hD)]
        exact e4 _ _ (e1 _ _ (e _ _ hb))
      · rw [et]
        have keepR : ∀ v u, R H4 v u → R (upd H4 D (.lst (ys ++ [y]))) v u := fun v u q => st ys H4 _ v u hy4 (fun b o hb ho => by rw [upd_ne hb]; exact ho) q
        exact (paired_imp p fun v u q => keepR v u (st ys H H4 v u hy (fun b o _ ho => (e1.trans e4) b o ho) q)).snoc (keepR y _ r)
  · have hin : i = n := by omega
    subst hin
    refine .inl ⟨it.stop H e, done ys H e hy ?_⟩
    rw [← hz, List.take_length] at p
    exact p
end
theorem its_enumL {K : PySem.W.Frag} {a : Addr} {vs : List V} {H1 : Hp} (h : SqL K H1 a vs) : ItsOk (Ite K a) H1 vs.length (fun i x H' => ∃ T y, x = .ref T ∧ SqT K H' T [.int (i : Nat), y] ∧ vs[i]? = some y) :=
  ⟨fun i H e hi => ⟨vs, vs[i], e.seq h, List.getElem?_eq_getElem hi⟩, fun H e => ⟨vs, e.seq h, Nat.le_refl _⟩, fun i H x H' y e _ => by
    obtain ⟨T, z, rfl, hT, rfl, y⟩ := y
    exact ⟨Same.new hT, T, z, rfl, .inl (.of upd_same), y vs (e.seq h)⟩⟩
theorem for_enumL {K : PySem.W.Frag} {a : Addr} {xs : List V} {g : TG} {tb : TS} {D : Ends} {σ : L2.St} {H : Hp} (Pv : Nat → L2.St → Hp → Prop) (h0 : Pv 0 σ H) (hl : ∀ i σ H, i ≤ xs.length → Pv i σ H → SqL K H a xs)
    (hs : ∀ i x T σ H, xs[i]? = some x → Pv i σ H → H T = none → g (.ref T) σ (upd H T (.tup [.int (i : Nat), x])) fun σ2 H2 => tb { D with nx := Pv (i + 1), ct := Pv (i + 1), bk := D.nx } σ2 H2) (hd : ∀ σ H, Pv xs.length σ H → D.nx σ H) :
    ∃ W : Nat → Nat → L2.St → Hp → Prop, (∃ m, W 0 m σ H) ∧ ∀ i m σ H, W i m σ H →
      ((Ite K a).stop i H ∧ D.nx σ H) ∨ ((Ite K a).go i H ∧ ∃ N : L2.St → Hp → Prop, (∀ σ' H', N σ' H' → ∃ m', m' < m ∧ W (i + 1) m' σ' H') ∧ ∀ x H', (Ite K a).yld i H x H' → g x σ H' fun σ2 H2 => tb { D with nx := N, ct := N, bk := D.nx } σ2 H2) := by
  refine ⟨fun i m σ H => m = xs.length - i ∧ i ≤ xs.length ∧ Pv i σ H, ⟨xs.length, by simp, Nat.zero_le _, h0⟩, ?_⟩
  rintro i m σ H ⟨rfl, hi, p⟩
  have q := hl i σ H hi p
  by_cases hlt : i < xs.length
  · refine .inr ⟨⟨xs, xs[i], q, by simp [hlt]⟩, Pv (i + 1), fun σ' H' p' => ⟨xs.length - (i + 1), by omega, rfl, hlt, p'⟩, fun x H' y => ?_⟩
    obtain ⟨T, z, rfl, hT, rfl, y⟩ := y
    exact hs i z T σ H (y xs q) p hT
  · have e : i = xs.length := by omega
    subst e
    exact .inl ⟨⟨xs, q, Nat.le_refl _⟩, hd σ H p⟩
end K32

/-! plain law: the readings against the blind differences -/
namespace K32
/-- places of some wheels, from a number on -/
def idxF (p : Wl → Bool) (ws : List Wl) (k : Nat) : List Int := (ws.mapIdx fun i z => if p z = true then some ((k + i : Nat) : Int) else none).filterMap id
theorem idxF_cons (p : Wl → Bool) (z : Wl) (ws : List Wl) (k : Nat) : idxF p (z :: ws) k = (if p z = true then [(k : Int)] else []) ++ idxF p ws (k + 1) := by
  unfold idxF
  rw [List.mapIdx_cons]
  have e : (fun i (z : Wl) => if p z = true then some ((k + (i + 1) : Nat) : Int) else none) = fun i z => if p z = true then some ((k + 1 + i : Nat) : Int) else none := by
    funext i z
    rw [show k + (i + 1) = k + 1 + i by omega]
  rw [e]
  by_cases h : p z = true
  · simp [h]
  · simp [h]
theorem idxF_len (p : Wl → Bool) : ∀ (ws : List Wl) (k : Nat), (idxF p ws k).length = ws.countP p
  | [], k => rfl
  | z :: ws, k => by
    rw [idxF_cons, List.length_append, idxF_len p ws (k + 1), List.countP_cons]
    by_cases h : p z = true
    · simp [h]; omega
    · simp [h]
theorem idxF_mem {p : Wl → Bool} {a : Int} : ∀ {ws : List Wl} {k : Nat}, a ∈ idxF p ws k ↔ ∃ (i : Nat) (z : Wl), a = ((k + i : Nat) : Int) ∧ ws[i]? = some z ∧ p z = true := by
  intro ws k
  unfold idxF
  rw [List.mem_filterMap]
  constructor
  · rintro ⟨o, ho, e⟩
    obtain ⟨n, hn, rfl⟩ := List.mem_mapIdx.mp ho
    by_cases c : p ws[n] = true
    · rw [if_pos c] at e
      exact ⟨n, ws[n], (Option.some.inj e).symm, List.getElem?_eq_getElem hn, c⟩
    · rw [if_neg c] at e; cases e
  · rintro ⟨i, z, rfl, hz, hp⟩
    obtain ⟨hi, hz⟩ := List.getElem?_eq_some_iff.mp hz
    refine ⟨some ((k + i : Nat) : Int), List.mem_mapIdx.mpr ⟨i, hi, ?_⟩, rfl⟩
    rw [hz, if_pos hp]
theorem idxF_pw (p : Wl → Bool) : ∀ (ws : List Wl) (k : Nat), (idxF p ws k).Pairwise (· < ·)
  | [], k => .nil
  | z :: ws, k => by
    rw [idxF_cons, List.pairwise_append]
    refine ⟨?_, idxF_pw p ws (k + 1), fun a ha b hb => ?_⟩
    · by_cases h : p z = true
      · rw [if_pos h]; exact List.pairwise_singleton _ _
      · rw [if_neg h]; exact .nil
    · obtain ⟨i, _, rfl, _⟩ := idxF_mem.mp hb
      by_cases h : p z = true
      · rw [if_pos h] at ha
        rw [List.mem_singleton.mp ha]; omega
      · rw [if_neg h] at ha; cases ha
theorem partI_idx (ws : List Wl) (d : Int) : partI ws d = idxF (fun z => partW z d) ws 0 := by
  unfold partI partO idxF
  simp only [Nat.zero_add]
theorem pickI_idx (b : Bool) (ws : List Wl) : pickI b ws = idxF (fun z => decide (z.2.2.2 = b)) ws 0 := by
  unfold pickI pickO idxF
  simp only [Nat.zero_add, decide_eq_true_eq]
theorem pick_mem {b : Bool} {ws : List Wl} {a : Int} : a ∈ pickI b ws ↔ ∃ (i : Nat) (z : Wl), a = i ∧ ws[i]? = some z ∧ z.2.2.2 = b := by
  rw [pickI_idx, idxF_mem]
  constructor
  · rintro ⟨i, z, rfl, h, e⟩
    exact ⟨i, z, by rw [Nat.zero_add], h, of_decide_eq_true e⟩
  · rintro ⟨i, z, rfl, h, e⟩
    exact ⟨i, z, by rw [Nat.zero_add], h, decide_eq_true e⟩
theorem pick_len (ws : List Wl) : (pickI true ws).length + (pickI false ws).length = ws.length := by
  rw [pickI_idx, pickI_idx, idxF_len, idxF_len]
  have q := List.length_eq_countP_add_countP (fun z : Wl => decide (z.2.2.2 = true)) (l := ws)
  rw [q]
  congr 1
  refine List.countP_congr fun z hz => ?_
  cases z.2.2.2 <;> simp
/-- blind: no trusted wheel parts, and few -/
theorem blindW_iff {m : Mt} {d : Int} : blindW m d = true ↔ ((m.1.countP fun z => partW z d : Nat) : Int) ≤ spareM m ∧ ∀ z ∈ m.1, partW z d = true → z.2.2.2 = false := by
  unfold blindW spareM
  rw [Bool.and_eq_true, decide_eq_true_eq, partI_idx, idxF_len]
  refine and_congr_right fun _ => ?_
  rw [Bool.not_eq_true', List.any_eq_false]
  constructor
  · intro h z hz hp
    obtain ⟨i, hi, e⟩ := List.mem_iff_getElem.mp hz
    have q := h (trAt m.1 (i : Int)) (List.mem_map.mpr ⟨(i : Int), idxF_mem.mpr ⟨i, z, by simp, by rw [List.getElem?_eq_getElem hi, e], hp⟩, rfl⟩)
    have t : trAt m.1 (i : Int) = z.2.2.2 := by unfold trAt; rw [Int.toNat_natCast, List.getElem?_eq_getElem hi, e]
    rw [t] at q
    cases h2 : z.2.2.2 with
    | false => rfl
    | true => rw [h2] at q; exact absurd rfl q
  · intro h b hb
    obtain ⟨a, ha, rfl⟩ := List.mem_map.mp hb
    obtain ⟨i, z, rfl, hz, hp⟩ := idxF_mem.mp ha
    have t : trAt m.1 ((0 + i : Nat) : Int) = z.2.2.2 := by unfold trAt; rw [Int.toNat_natCast, Nat.zero_add, hz]
    rw [t, h z (List.mem_of_getElem? hz) hp]
    simp

/-! ### numbers of one wheel -/
theorem emod_le {x p : Int} (hx : 0 ≤ x) (hp : 0 < p) : x % p ≤ x := by
  have e := Int.emod_add_mul_ediv x p
  have q := Int.mul_nonneg (Int.le_of_lt hp) (Int.ediv_nonneg hx (Int.le_of_lt hp))
  omega
theorem apart_le {d p c : Int} (hp : 0 < p) : (c < apartI d p) ↔ (c < d % p ∧ c < p - d % p) := by
  unfold apartI mn
  constructor
  · intro h
    split at h <;> omega
  · intro h
    split <;> omega
theorem lets_near {z : Wl} {u v k : Int} (hp : 0 < z.1) (hu : letsW z u k = true) (hv : letsW z v k = true) : partW z (u - v) = false := by
  obtain ⟨p, b, a, t⟩ := z
  unfold letsW at hu hv
  unfold partW
  simp only [decide_eq_true_eq] at hu hv
  rw [decide_eq_false_iff_not, apart_le hp]
  have e1 := Int.emod_add_mul_ediv (k - u + b) p
  have e2 := Int.emod_add_mul_ediv (k - v + b) p
  have n1 := Int.emod_nonneg (k - u + b) (Int.ne_of_gt hp)
  have n2 := Int.emod_nonneg (k - v + b) (Int.ne_of_gt hp)
  have l1 := Int.emod_lt_of_pos (k - u + b) hp
  have l2 := Int.emod_lt_of_pos (k - v + b) hp
  generalize (k - u + b) % p = x at *
  generalize (k - v + b) % p = y at *
  generalize (k - u + b) / p = q1 at *
  generalize (k - v + b) / p = q2 at *
  by_cases c : x ≤ y
  · have : u - v = (y - x) + p * (q2 - q1) := by rw [Int.mul_sub]; omega
    rw [this, Int.add_mul_emod_self_left, Int.emod_eq_of_lt (by omega) (by omega)]
    simp only at *
    omega
  · have : u - v = (y - x + p) + p * (q2 - q1 - 1) := by rw [Int.mul_sub, Int.mul_sub]; omega
    rw [this, Int.add_mul_emod_self_left, Int.emod_eq_of_lt (by omega) (by omega)]
    simp only at *
    omega
/-- a mark that a wheel can show at 0 -/
theorem lets_0 {z : Wl} {v : Int} (hp : 0 < z.1) (hb : 0 ≤ z.2.1) (ha : 0 ≤ z.2.2.1) : letsW z v (v % z.1) = true := by
  obtain ⟨p, b, a, t⟩ := z
  unfold letsW
  rw [decide_eq_true_eq]
  simp only at *
  have e : v % p - v + b = b + p * (-(v / p)) := by
    have := Int.emod_add_mul_ediv v p
    rw [Int.mul_neg]; omega
  rw [e, Int.add_mul_emod_self_left]
  have := emod_le hb hp
  omega
def sharedK (z : Wl) (d : Int) : Int := if d % z.1 ≤ z.2.1 + z.2.2.1 then (d % z.1 - z.2.1) % z.1 else (- z.2.1) % z.1
theorem lets_mod {z : Wl} {v k x : Int} (hp : 0 < z.1) (e : ∃ q, k = x - z.2.1 + z.1 * q) (h0 : ∃ q, x - v = 0 + z.1 * q ∨ (∃ y, 0 ≤ y ∧ y ≤ z.2.1 + z.2.2.1 ∧ x - v = y + z.1 * q)) (hpl : 0 ≤ z.2.1 + z.2.2.1) : letsW z v k = true := by
  obtain ⟨p, b, a, t⟩ := z
  unfold letsW
  rw [decide_eq_true_eq]
  simp only at *
  obtain ⟨q, rfl⟩ := e
  obtain ⟨q2, h⟩ := h0
  rcases h with h | ⟨y, hy, hy2, h⟩
  · have : x - b + p * q - v + b = 0 + p * (q + q2) := by rw [Int.mul_add]; omega
    rw [this, Int.add_mul_emod_self_left]
    simpa using hpl
  · have : x - b + p * q - v + b = y + p * (q + q2) := by rw [Int.mul_add]; omega
    rw [this, Int.add_mul_emod_self_left]
    have := emod_le hy hp
    omega
theorem shared_lets {z : Wl} {d : Int} (hp : 0 < z.1) (hb : 0 ≤ z.2.1) (ha : 0 ≤ z.2.2.1) (h : partW z d = false) : letsW z 0 (sharedK z d) = true ∧ letsW z d (sharedK z d) = true := by
  unfold partW at h
  rw [decide_eq_false_iff_not, apart_le hp] at h
  have e := Int.emod_add_mul_ediv d z.1
  have n := Int.emod_nonneg d (Int.ne_of_gt hp)
  have l := Int.emod_lt_of_pos d hp
  unfold sharedK
  by_cases c : d % z.1 ≤ z.2.1 + z.2.2.1
  · rw [if_pos c]
    have em := Int.emod_add_mul_ediv (d % z.1 - z.2.1) z.1
    constructor
    · exact lets_mod (x := d % z.1) hp ⟨-((d % z.1 - z.2.1) / z.1), by rw [Int.mul_neg]; omega⟩ ⟨0, .inr ⟨d % z.1, n, c, by omega⟩⟩ (by omega)
    · exact lets_mod (x := d % z.1) hp ⟨-((d % z.1 - z.2.1) / z.1), by rw [Int.mul_neg]; omega⟩ ⟨-(d / z.1), .inl (by rw [Int.mul_neg]; omega)⟩ (by omega)
  · rw [if_neg c]
    have em := Int.emod_add_mul_ediv (-z.2.1) z.1
    constructor
    · exact lets_mod (x := 0) hp ⟨-((-z.2.1) / z.1), by rw [Int.mul_neg]; omega⟩ ⟨0, .inl (by omega)⟩ (by omega)
    · refine lets_mod (x := 0) hp ⟨-((-z.2.1) / z.1), by rw [Int.mul_neg]; omega⟩ ⟨-(d / z.1) - 1, .inr ⟨z.1 - d % z.1, by omega, by omega, ?_⟩⟩ (by omega)
      rw [Int.mul_sub, Int.mul_neg]; omega
theorem shared_rng {z : Wl} {d : Int} (hp : 0 < z.1) : 0 ≤ sharedK z d ∧ sharedK z d < z.1 := by
  unfold sharedK
  split
  · exact ⟨Int.emod_nonneg _ (Int.ne_of_gt hp), Int.emod_lt_of_pos _ hp⟩
  · exact ⟨Int.emod_nonneg _ (Int.ne_of_gt hp), Int.emod_lt_of_pos _ hp⟩

/-! ### all readings -/
theorem marks_some {z : Wl} {k : Int} (h0 : 0 ≤ k) (h1 : k < z.1) : some k ∈ marksOf z := by
  unfold marksOf
  refine List.mem_append_left _ (List.mem_map.mpr ⟨k.toNat, List.mem_range.mpr (by omega), ?_⟩)
  rw [Int.toNat_of_nonneg h0]
theorem marks_none {z : Wl} (h : z.2.2.2 = false) : none ∈ marksOf z := by
  unfold marksOf
  refine List.mem_append_right _ ?_
  rw [h]
  exact List.mem_singleton.mpr rfl
theorem marks_tr {z : Wl} (h : z.2.2.2 = true) : none ∉ marksOf z := by
  unfold marksOf
  rw [if_pos h, List.append_nil]
  intro q
  obtain ⟨n, _, e⟩ := List.mem_map.mp q
  cases e
inductive Fits : List Wl → List (Option Int) → Prop
  | nil : Fits [] []
  | cons {z k zs ks} : k ∈ marksOf z → Fits zs ks → Fits (z :: zs) (k :: ks)
theorem readings_from : ∀ {ws : List Wl} {found : List (List (Option Int))} {ms : List (Option Int)}, ms ∈ ws.foldl longer found ↔ ∃ pre ∈ found, ∃ suf, ms = pre ++ suf ∧ Fits ws suf
  | [], found, ms => by
    constructor
    · intro h
      exact ⟨ms, h, [], by rw [List.append_nil], .nil⟩
    · rintro ⟨pre, h, suf, rfl, f⟩
      cases f
      rwa [List.append_nil]
  | z :: ws, found, ms => by
    rw [List.foldl_cons, readings_from (ws := ws)]
    constructor
    · rintro ⟨pre, h, suf, rfl, f⟩
      unfold longer at h
      obtain ⟨l, hl, hp⟩ := List.mem_flatten.mp h
      obtain ⟨pr, hpr, rfl⟩ := List.mem_map.mp hl
      obtain ⟨k, hk, rfl⟩ := List.mem_map.mp hp
      exact ⟨pr, hpr, k :: suf, by rw [List.append_assoc]; rfl, .cons hk f⟩
    · rintro ⟨pre, h, suf, rfl, f⟩
      cases f with
      | cons hk f =>
        rename_i k ks
        refine ⟨pre ++ [k], ?_, ks, by rw [List.append_assoc]; rfl, f⟩
        unfold longer
        exact List.mem_flatten.mpr ⟨_, List.mem_map.mpr ⟨pre, h, rfl⟩, List.mem_map.mpr ⟨k, hk, rfl⟩⟩
theorem readings_iff {ws : List Wl} {ms : List (Option Int)} : ms ∈ readings ws ↔ Fits ws ms := by
  unfold readings
  rw [readings_from]
  constructor
  · rintro ⟨pre, h, suf, rfl, f⟩
    rw [List.mem_singleton.mp h]
    exact f
  · intro f
    exact ⟨[], List.mem_singleton.mpr rfl, ms, rfl, f⟩
/-! ### counting -/
def wrongN (ws : List Wl) (ms : List (Option Int)) (v : Int) : Nat := (ws.zip ms).countP (wrongW v)
theorem offW_len (ws : List Wl) (ms : List (Option Int)) (v : Int) : (offW ws ms v).length = wrongN ws ms v := by
  unfold offW wrongN
  rw [List.length_map, List.countP_eq_length_filter]
def lostN (ms : List (Option Int)) : Nat := (ms.filter fun k => k.isNone).length
theorem part_le {d u v : Int} (hd : d = u - v ∨ d = v - u) : ∀ {ws : List Wl} {ms : List (Option Int)}, (∀ z ∈ ws, 0 < z.1) → Fits ws ms → ws.countP (fun z => partW z d) ≤ lostN ms + wrongN ws ms u + wrongN ws ms v := by
  intro ws ms hp f
  induction f with
  | nil => exact Nat.zero_le _
  | cons hk f ih =>
    rename_i z k zs ks
    have q := ih fun z hz => hp z (List.mem_cons_of_mem _ hz)
    have hz := hp z List.mem_cons_self
    unfold lostN wrongN at *
    rw [List.zip_cons_cons, List.countP_cons, List.countP_cons, List.countP_cons, List.filter_cons]
    cases k with
    | none => 
      simp only [Option.isNone_none, if_true, List.length_cons]
      split <;> omega
    | some k =>
      simp only [Option.isNone_some, wrongW]
      by_cases h1 : letsW z u k = true
      · by_cases h2 : letsW z v k = true
        · have : partW z d = false := by
            rcases hd with rfl | rfl
            · exact lets_near hz h1 h2
            · exact lets_near hz h2 h1
          simp [this]; omega
        · simp [h2]; split <;> omega
      · simp [h1]; split <;> omega
theorem part_tr {d u v : Int} (hd : d = u - v ∨ d = v - u) {ws : List Wl} {ms : List (Option Int)} (hp : ∀ z ∈ ws, 0 < z.1) (f : Fits ws ms) (hu : (offW ws ms u).all (fun z => !z.2.2.2) = true) (hv : (offW ws ms v).all (fun z => !z.2.2.2) = true) : ∀ z ∈ ws, partW z d = true → z.2.2.2 = false := by
  induction f with
  | nil => intro z hz; cases hz
  | cons hk f ih =>
    rename_i z k zs ks
    have hz := hp z List.mem_cons_self
    unfold offW at *
    rw [List.zip_cons_cons, List.filter_cons] at hu hv
    have hu' : (List.map (fun x => x.fst) (List.filter (wrongW u) (zs.zip ks))).all (fun z => !z.2.2.2) = true := by
      split at hu
      · rw [List.map_cons, List.all_cons, Bool.and_eq_true] at hu; exact hu.2
      · exact hu
    have hv' : (List.map (fun x => x.fst) (List.filter (wrongW v) (zs.zip ks))).all (fun z => !z.2.2.2) = true := by
      split at hv
      · rw [List.map_cons, List.all_cons, Bool.and_eq_true] at hv; exact hv.2
      · exact hv
    intro y hy hpy
    rcases List.mem_cons.mp hy with rfl | hy
    · cases hb : y.2.2.2 with
      | false => rfl
      | true =>
      cases k with
      | none => exact absurd hk (marks_tr hb)
      | some k =>
        have wu : wrongW u (y, some k) = false := by
          cases h : wrongW u (y, some k) with
          | false => rfl
          | true => rw [if_pos h, List.map_cons, List.all_cons, hb] at hu; simp at hu
        have wv : wrongW v (y, some k) = false := by
          cases h : wrongW v (y, some k) with
          | false => rfl
          | true => rw [if_pos h, List.map_cons, List.all_cons, hb] at hv; simp at hv
        have h1 : letsW y u k = true := by simpa [wrongW] using wu
        have h2 : letsW y v k = true := by simpa [wrongW] using wv
        have : partW y d = false := by
          rcases hd with rfl | rfl
          · exact lets_near hz h1 h2
          · exact lets_near hz h2 h1
        rw [this] at hpy; cases hpy
    · exact ih (fun z hz => hp z (List.mem_cons_of_mem _ hz)) hu' hv' y hy hpy
/-- a reading of 0 and of a blind difference -/
def madeMs (d : Int) : List Wl → Nat → Nat → List (Option Int)
  | [], _, _ => []
  | z :: zs, l, o => if partW z d = true then (match l, o with
      | l + 1, o => none :: madeMs d zs l o
      | 0, o + 1 => some (0 % z.1) :: madeMs d zs 0 o
      | 0, 0 => some (d % z.1) :: madeMs d zs 0 0) else some (sharedK z d) :: madeMs d zs l o
structure MadeOk (d : Int) (ws : List Wl) (l o : Nat) (ms : List (Option Int)) : Prop where
  fits : Fits ws ms
  lost : lostN ms ≤ l
  low : wrongN ws ms 0 ≤ ws.countP (fun z => partW z d) - l - o
  high : wrongN ws ms d ≤ o
  tl : ∀ z ∈ offW ws ms 0, z.2.2.2 = false
  th : ∀ z ∈ offW ws ms d, z.2.2.2 = false
theorem made_ok {d : Int} : ∀ (ws : List Wl) (l o : Nat), (∀ z ∈ ws, 0 < z.1 ∧ 0 ≤ z.2.1 ∧ 0 ≤ z.2.2.1) → (∀ z ∈ ws, partW z d = true → z.2.2.2 = false) → MadeOk d ws l o (madeMs d ws l o)
  | [], l, o, _, _ => ⟨Fits.nil, Nat.zero_le _, Nat.zero_le _, Nat.zero_le _, (fun z (hz : z ∈ []) => by cases hz), (fun z (hz : z ∈ []) => by cases hz)⟩
  | z :: zs, l, o, hg, ht => by
    have ih := fun l o => made_ok (d := d) zs l o (fun y hy => hg y (List.mem_cons_of_mem _ hy)) fun y hy => ht y (List.mem_cons_of_mem _ hy)
    obtain ⟨hp, hb, ha⟩ := hg z List.mem_cons_self
    have htz := ht z List.mem_cons_self
    unfold madeMs
    by_cases c : partW z d = true
    · rw [if_pos c]
      have tz := htz c
      match l, o with
      | l + 1, o =>
        obtain ⟨f, h1, h2, h3, h4, h5⟩ := ih l o
        refine ⟨.cons (marks_none tz) f, ?_, ?_, ?_, ?_, ?_⟩
        · unfold lostN at *; rw [List.filter_cons]; simp; exact h1
        · unfold wrongN at *; rw [List.zip_cons_cons, List.countP_cons, List.countP_cons]; simp [wrongW, c]; omega
        · unfold wrongN at *; rw [List.zip_cons_cons, List.countP_cons]; simp [wrongW]; omega
        · unfold offW at *; rw [List.zip_cons_cons, List.filter_cons]; simpa [wrongW] using h4
        · unfold offW at *; rw [List.zip_cons_cons, List.filter_cons]; simpa [wrongW] using h5
      | 0, o + 1 =>
        obtain ⟨f, h1, h2, h3, h4, h5⟩ := ih 0 o
        have l0 : letsW z 0 (0 % z.1) = true := lets_0 hp hb ha
        refine ⟨.cons (marks_some (Int.emod_nonneg _ (Int.ne_of_gt hp)) (Int.emod_lt_of_pos _ hp)) f, ?_, ?_, ?_, ?_, ?_⟩
        · unfold lostN at *; rw [List.filter_cons]; simpa using h1
        · unfold wrongN at *; rw [List.zip_cons_cons, List.countP_cons, List.countP_cons]; simp only [wrongW, c, l0]; simp; omega
        · unfold wrongN at *; rw [List.zip_cons_cons, List.countP_cons]; split <;> omega
        · unfold offW at *; rw [List.zip_cons_cons, List.filter_cons]; simp only [wrongW, l0]; exact h4
        · unfold offW at *; rw [List.zip_cons_cons, List.filter_cons]; split
          · rw [List.map_cons]
            intro y hy
            rcases List.mem_cons.mp hy with rfl | hy
            · exact tz
            · exact h5 y hy
          · exact h5
      | 0, 0 =>
        obtain ⟨f, h1, h2, h3, h4, h5⟩ := ih 0 0
        have l0 : letsW z d (d % z.1) = true := lets_0 hp hb ha
        refine ⟨.cons (marks_some (Int.emod_nonneg _ (Int.ne_of_gt hp)) (Int.emod_lt_of_pos _ hp)) f, ?_, ?_, ?_, ?_, ?_⟩
        · unfold lostN at *; rw [List.filter_cons]; simpa using h1
        · unfold wrongN at *; rw [List.zip_cons_cons, List.countP_cons, List.countP_cons_of_pos (p := fun z => partW z d) c]; split <;> omega
        · unfold wrongN at *; rw [List.zip_cons_cons, List.countP_cons_of_neg (by simp [wrongW, l0])]; exact h3
        · unfold offW at *; rw [List.zip_cons_cons, List.filter_cons]; split
          · rw [List.map_cons]
            intro y hy
            rcases List.mem_cons.mp hy with rfl | hy
            · exact tz
            · exact h4 y hy
          · exact h4
        · unfold offW at *; rw [List.zip_cons_cons, List.filter_cons]; simp only [wrongW, l0]; exact h5
    · rw [if_neg c]
      obtain ⟨f, h1, h2, h3, h4, h5⟩ := ih l o
      have c' : partW z d = false := by simpa using c
      obtain ⟨s0, sd⟩ := shared_lets hp hb ha c'
      obtain ⟨r0, r1⟩ := shared_rng (z := z) (d := d) hp
      refine ⟨.cons (marks_some r0 r1) f, ?_, ?_, ?_, ?_, ?_⟩
      · unfold lostN at *; rw [List.filter_cons]; simpa using h1
      · unfold wrongN at *; rw [List.zip_cons_cons, List.countP_cons, List.countP_cons]; simp only [wrongW, s0, c']; simp; omega
      · unfold wrongN at *; rw [List.zip_cons_cons, List.countP_cons]; simp only [wrongW, sd]; simp; omega
      · unfold offW at *; rw [List.zip_cons_cons, List.filter_cons]; simp only [wrongW, s0]; exact h4
      · unfold offW at *; rw [List.zip_cons_cons, List.filter_cons]; simp only [wrongW, sd]; exact h5
end K32

/-! plain law: sure against the readings -/
namespace K32
theorem cameL_mem {ws : List Wl} {ms : List (Option Int)} {n : Int} {r : Nat} {x : Int} : x ∈ cameL ws ms n r ↔ 0 ≤ x ∧ x < r ∧ cameP ws ms n x = true := by
  unfold cameL
  rw [List.mem_filter, List.mem_map]
  constructor
  · rintro ⟨⟨v, hv, rfl⟩, h⟩
    have := List.mem_range.mp hv
    exact ⟨by omega, by omega, h⟩
  · rintro ⟨h0, h1, h⟩
    exact ⟨⟨x.toNat, List.mem_range.mpr (by omega), by omega⟩, h⟩
theorem cameL_pw (ws : List Wl) (ms : List (Option Int)) (n : Int) (r : Nat) : (cameL ws ms n r).Pairwise (· < ·) := by
  unfold cameL
  refine List.Pairwise.filter _ (List.pairwise_map.mpr ?_)
  exact List.pairwise_lt_range.imp fun h => by omega
theorem pw_head {l : List Int} {a x : Int} (h : l.Pairwise (· < ·)) (e : l.head? = some a) (hx : x ∈ l) : a ≤ x := by
  cases l with
  | nil => cases hx
  | cons b l =>
    cases e
    rcases List.mem_cons.mp hx with rfl | hx
    · exact Int.le_refl _
    · exact Int.le_of_lt ((List.pairwise_cons.mp h).1 x hx)
theorem pw_last {l : List Int} {a x : Int} (h : l.Pairwise (· < ·)) (e : l.getLast? = some a) (hx : x ∈ l) : x ≤ a := by
  obtain ⟨ys, rfl⟩ := List.getLast?_eq_some_iff.mp e
  rcases List.mem_append.mp hx with hx | hx
  · exact Int.le_of_lt ((List.pairwise_append.mp h).2.2 x hx a (List.mem_singleton.mpr rfl))
  · rw [List.mem_singleton.mp hx]; exact Int.le_refl _
theorem farB_iff {w : Int} {A B : List Int} (ha : A.Pairwise (· < ·)) (hb : B.Pairwise (· < ·)) : farB w A B = true ↔ ∃ u ∈ A, ∃ v ∈ B, w < u - v ∨ w < v - u := by
  unfold farB
  cases e1 : A.head? with
  | none =>
    rw [List.head?_eq_none_iff.mp e1]
    simp
  | some c0 =>
  cases e2 : A.getLast? with
  | none =>
    rw [List.getLast?_eq_none_iff.mp e2]
    simp
  | some c1 =>
  cases e3 : B.head? with
  | none =>
    rw [List.head?_eq_none_iff.mp e3]
    simp
  | some f0 =>
  cases e4 : B.getLast? with
  | none =>
    rw [List.getLast?_eq_none_iff.mp e4]
    simp
  | some f1 =>
  show decide (w < mx (c1 - f0) (f1 - c0)) = true ↔ _
  rw [decide_eq_true_eq]
  have m0 := List.mem_of_head? e1
  have m1 := List.mem_of_getLast? e2
  have m2 := List.mem_of_head? e3
  have m3 := List.mem_of_getLast? e4
  unfold mx
  constructor
  · intro h
    split at h
    · exact ⟨c0, m0, f1, m3, .inr h⟩
    · exact ⟨c1, m1, f0, m2, .inl h⟩
  · rintro ⟨u, hu, v, hv, h⟩
    have q1 := pw_head ha e1 hu
    have q2 := pw_last ha e2 hu
    have q3 := pw_head hb e3 hv
    have q4 := pw_last hb e4 hv
    split <;> rcases h with h | h <;> omega
theorem cameP_iff {ws : List Wl} {ms : List (Option Int)} {n v : Int} : cameP ws ms n v = true ↔ (∀ z ∈ offW ws ms v, z.2.2.2 = false) ∧ (wrongN ws ms v : Int) ≤ n := by
  unfold cameP
  rw [Bool.and_eq_true, decide_eq_true_eq, offW_len, List.all_eq_true]
  refine and_congr_left fun _ => ?_
  constructor
  · intro h z hz; simpa using h z hz
  · intro h z hz; simpa using h z hz
/-- what a meter of the law is like -/
structure GoodM (m : Mt) : Prop where
  few : m.1.length ≤ 3
  pos : 1 ≤ m.1.length
  wheels : ∀ z ∈ m.1, (2 ≤ z.1 ∧ z.1 ≤ 5) ∧ (0 ≤ z.2.1 ∧ z.2.1 ≤ 2) ∧ (0 ≤ z.2.2.1 ∧ z.2.2.1 ≤ 2)
  off : 0 ≤ m.2.1 ∧ m.2.1 ≤ 2
  more : 0 ≤ m.2.2.1 ∧ m.2.2.1 ≤ 2
  lost : 0 ≤ m.2.2.2 ∧ m.2.2.2 ≤ 2
theorem GoodM.ppos {m : Mt} (g : GoodM m) : ∀ z ∈ m.1, 0 < z.1 := fun z hz => by have := (g.wheels z hz).1.1; omega
theorem lawSure_iff {m : Mt} (g : GoodM m) {r : Nat} {w : Int} (hw : 0 ≤ w) : lawSure m r w = true ↔ ∀ d, w < d → d < r → blindW m d = false := by
  unfold lawSure
  rw [Bool.not_eq_true', List.any_eq_false]
  constructor
  · intro h d h1 h2
    cases hb : blindW m d with
    | false => rfl
    | true =>
      exfalso
      obtain ⟨cnt, tr⟩ := blindW_iff.mp hb
      have ok := made_ok (d := d) m.1 m.2.2.2.toNat m.2.1.toNat (fun z hz => by have := g.wheels z hz; omega) tr
      refine h _ (readings_iff.mpr ok.fits) ?_
      unfold badM
      have go := g.off; have gm := g.more; have gl := g.lost
      have o1 := ok.lost
      have o2 := ok.low
      have o3 := ok.high
      unfold lostN at o1
      unfold spareM at cnt
      rw [Bool.and_eq_true, decide_eq_true_eq, farB_iff (cameL_pw ..) (cameL_pw ..)]
      refine ⟨by omega, 0, cameL_mem.mpr ⟨by omega, by omega, cameP_iff.mpr ⟨ok.tl, by omega⟩⟩, d, cameL_mem.mpr ⟨by omega, by omega, cameP_iff.mpr ⟨ok.th, by omega⟩⟩, .inr (by omega)⟩
  · intro h ms hms hb
    have f := readings_iff.mp hms
    unfold badM at hb
    rw [Bool.and_eq_true, decide_eq_true_eq, farB_iff (cameL_pw ..) (cameL_pw ..)] at hb
    obtain ⟨hl, u, hu, v, hv, hd⟩ := hb
    obtain ⟨u0, u1, cu⟩ := cameL_mem.mp hu
    obtain ⟨v0, v1, cv⟩ := cameL_mem.mp hv
    obtain ⟨tu, nu⟩ := cameP_iff.mp cu
    obtain ⟨tv, nv⟩ := cameP_iff.mp cv
    have au : (offW m.1 ms u).all (fun z => !z.2.2.2) = true := List.all_eq_true.mpr fun z hz => by simpa using tu z hz
    have av : (offW m.1 ms v).all (fun z => !z.2.2.2) = true := List.all_eq_true.mpr fun z hz => by simpa using tv z hz
    have go := g.off; have gm := g.more; have gl := g.lost
    have key : ∀ d, (d = u - v ∨ d = v - u) → w < d → False := fun d e hd => by
      have c := part_le e g.ppos f
      have t := part_tr e g.ppos f au av
      have q := h d hd (by omega)
      have : blindW m d = true := blindW_iff.mpr ⟨by unfold lostN at c; unfold spareM; omega, t⟩
      rw [this] at q; cases q
    rcases hd with hd | hd
    · exact key _ (.inl rfl) hd
    · exact key _ (.inr rfl) hd
/-! ### choices -/
theorem someOf_cons (m : Nat) (p : Int) (ps : List Int) : someOf (m + 1) (p :: ps) = (someOf m ps).map (fun r => p :: r) ++ someOf (m + 1) ps := by
  rw [someOf, List.length_cons, List.range_succ_eq_map, List.map_cons, List.flatten_cons, List.map_map]
  rfl
theorem someOf_mem : ∀ {ps : List Int} {m : Nat} {s : List Int}, s ∈ someOf m ps ↔ s.Sublist ps ∧ s.length = m
  | ps, 0, s => by
    rw [someOf, List.mem_singleton]
    constructor
    · rintro rfl; exact ⟨List.nil_sublist _, rfl⟩
    · rintro ⟨_, h⟩; exact List.length_eq_zero_iff.mp h
  | [], m + 1, s => by
    constructor
    · intro h; cases h
    · rintro ⟨h, l⟩
      rw [List.sublist_nil.mp h] at l; cases l
  | p :: ps, m + 1, s => by
    rw [someOf_cons, List.mem_append, List.mem_map, someOf_mem (ps := ps) (m := m + 1)]
    constructor
    · rintro (⟨t, ht, rfl⟩ | ⟨h, l⟩)
      · obtain ⟨h, l⟩ := someOf_mem.mp ht
        exact ⟨h.cons_cons p, by rw [List.length_cons, l]⟩
      · exact ⟨h.cons p, l⟩
    · rintro ⟨h, l⟩
      cases h with
      | cons _ h => exact .inr ⟨h, l⟩
      | cons_cons _ h =>
        rename_i t
        exact .inl ⟨t, someOf_mem.mpr ⟨h, by rw [List.length_cons] at l; omega⟩, rfl⟩
end K32

/-! meters.py: some_of -/
namespace K32
open PySem PyProof.Rows L2
theorem some_one {m : Nat} {ps : List Int} {s : List Int} (h : s ∈ someOf m ps) : s.length ≤ ps.length := (someOf_mem.mp h).1.length_le
theorem some_len : ∀ (ps : List Int) (m : Nat), (someOf m ps).length ≤ 2 ^ ps.length
  | ps, 0 => by rw [someOf]; exact Nat.one_le_two_pow
  | [], m + 1 => Nat.zero_le _
  | p :: ps, m + 1 => by
    rw [someOf_cons, List.length_append, List.length_map, List.length_cons, Nat.pow_succ]
    have h1 := some_len ps m
    have h2 := some_len ps (m + 1)
    omega
theorem some_8 {ps : List Int} {m : Nat} (h : ps.length ≤ 3) : (someOf m ps).length ≤ 8 := Nat.le_trans (some_len ps m) (Nat.pow_le_pow_right (by decide) h)
def rowI (m : Nat) (ps : List Int) (i : Nat) : List (List Int) := (someOf m (ps.drop (i + 1))).map fun r => ps.getD i 0 :: r
theorem rows_len {m : Nat} {ps : List Int} (h : ps.length ≤ 3) : ∀ i, (((List.range i).map (rowI m ps)).flatten).length ≤ 8 * i
  | 0 => Nat.le_refl _
  | i + 1 => by
    rw [List.range_succ, List.map_append, List.flatten_append, List.length_append]
    have := rows_len (m := m) h i
    have q : (someOf m (ps.drop (i + 1))).length ≤ 8 := some_8 (by rw [List.length_drop]; omega)
    have e : ([i].map (rowI m ps)).flatten.length = (someOf m (ps.drop (i + 1))).length := by
      rw [List.map_cons, List.map_nil, List.flatten_cons, List.flatten_nil, List.append_nil, rowI, List.length_map]
    rw [e]
    omega
section
variable {P : Program} {w : World} {K : PySem.W.Frag} {mg : Str → Option Value} {base : Heap}
/-- a row of places, younger than H0 -/
def RowS (H0 H : Hp) (v : V) (zs : List Int) : Prop := ∃ b, v = .ref b ∧ H0 b = none ∧ H b = some (.lst (zs.map V.int))
def spSome (K : PySem.W.Frag) (m : Nat) : Sp := fun vs H Q _ => ∃ a ps, vs = [.ref a, .int (m : Nat)] ∧ SqL K H a (ps.map V.int) ∧ ps.length ≤ 3 ∧ ∀ p H' us, Same H H' → H p = none → H' p = some (.lst us) → Paired (RowS H H') us (someOf m ps) → Q (.ref p) H'
theorem c_some_of (T : Top K mg) : ∀ m : Nat, C8.Cal P w K mg base (m + 1) "some_of" (spSome K m) [] := by
  intro m
  induction m with
  | zero =>
    refine calF T.some_of (fun _ _ _ _ _ _ us hl => match us, hl with | [_, _], _ => rfl) sc_some_of (by rintro vs H Q E ⟨a, ps, rfl, _⟩; rfl) (fun cdv A outer sh H vs Q E hr h => ?_)
    obtain ⟨a, ps, rfl, hA, hl, q⟩ := h
    refine ⟨_, (pss_cons (ps_if (pt_cmpR op_eq (pv 1) pe_int (nomark _)) (pss_one (ps_ret (pe_lst (pa_cons (pe_lst pa_nil) pa_nil)))) pss_nil) (pss_cons ps_never (pss_cons ps_never (pss_one ps_never)))), ?_⟩
    refine ⟨_, rfl, rfl, _, rfl, ?_⟩
    rw [decide_eq_true (show V.int ((0 : Nat) : Int) = V.int 0 from rfl)]
    refine iteT ⟨(by show (0 : Nat) ≤ sizeLine; decide), fun b hb => ⟨(by show (1 : Nat) ≤ sizeLine; decide), fun p hp => ?_⟩⟩
    exact q p _ _ ((Same.new hb).trans (Same.new hp)) (Same.none (Same.new hb) hp) upd_same (.cons ⟨b, rfl, hb, Same.new hp _ _ upd_same⟩ .nil)
  | succ m ih =>
    refine calF T.some_of (fun _ _ _ _ _ _ us hl => match us, hl with | [_, _], _ => rfl) sc_some_of (by rintro vs H Q E ⟨a, ps, rfl, _⟩; rfl) (fun cdv A outer sh H vs Q E hr h => ?_)
    obtain ⟨a, ps, rfl, hA, hl, q⟩ := h
    refine ⟨_, (pss_cons (ps_if (pt_cmpR op_eq (pv 1) pe_int (nomark _)) (pss_one (ps_ret (pe_lst (pa_cons (pe_lst pa_nil) pa_nil)))) pss_nil)
      (pss_cons (ps_set (i := 2) sc_some_of.nd rfl (Or.inl rfl) (pe_lst pa_nil))
      (pss_cons (ps_for PassesOwn.never rfl (piE K rfl (by rfl) T.f_enumerate (pa_cons (pv 0) pa_nil)) (pgT K 2 rfl (by rfl) (pgs_cons (pg_name (i := 3) sc_some_of.nd rfl (Or.inl rfl)) (pgs_cons (pg_name (i := 4) sc_some_of.nd rfl (Or.inr rfl)) pgs_nil))) (pss_one (ps_expr (bmK K rfl PySem.F.plainAttrs_list PySem.F.slot_list_extend PySem.F.type_list_extend mt_extend (pv 2) (pa_cons (pe_lc (own := [("rest", 5)]) rfl sc_some_of.nd (piL K rfl (C8.pe_c ih hr (Nat.le_refl _) rfl (pa_cons (pe_slice (slL K rfl) (pv 0) (po_some (pe_op op_add (pv 3) pe_int)) po_none) (pa_cons (pe_op op_sub (pv 1) pe_int) pa_nil)))) (blkOk_by (own := [("rest", 5)]) (N := N_some_of) (sc := defScope s_some_of) (by decide +kernel)) (fun _ _ _ _ _ => (pg_name (i := 5) sc_some_of.nd rfl (Or.inl rfl))) (fun _ _ _ _ _ => pts_nil) (fun _ _ _ _ _ => (pe_lst (pa_cons (pv 4) (starK K rfl (pv 5) pa_nil))))) pa_nil)))))
      (pss_one (ps_ret (pv 2)))))), ?_⟩
    refine ⟨_, rfl, rfl, _, rfl, ?_⟩
    rw [decide_eq_false (fun z => by injection z with z; omega)]
    refine iteF ⟨(by decide), fun f hf => ?_⟩
    have e0 : Same H (upd H f (.lst [])) := Same.new hf
    have lp : (ps.map V.int).length = ps.length := List.length_map ..
    refine ⟨_, rfl, a, _, rfl, Same.seq e0 hA, for_enumL (K := K) (a := a) (xs := ps.map V.int) (fun i σ H' => Same H H' ∧ ∃ us v3 v4 v5, σ = [some (.ref a), some (.int ((m + 1 : Nat) : Int)), some (.ref f), v3, v4, v5] ∧ H' f = some (.lst us) ∧ Paired (fun v z => ∃ b, v = .ref b ∧ b ≠ f ∧ H b = none ∧ H' b = some (.lst (z.map V.int))) us ((List.range i).map (rowI m ps)).flatten)
      ⟨e0, [], none, none, none, rfl, upd_same, .nil⟩ (fun i σ H' _ h => Same.seq h.1 hA) ?_ ?_⟩
    · rintro i x T0 σ H' hx ⟨e, us, v3, v4, v5, rfl, hfu, pu⟩ hT0
      have hi : i < ps.length := by have := (List.getElem?_eq_some_iff.mp hx).1; omega
      rw [List.getElem?_map, List.getElem?_eq_getElem hi] at hx
      obtain rfl := Option.some.inj hx
      refine ⟨T0, _, rfl, .inl (.of upd_same), rfl, _, _, rfl, _, _, rfl, rfl, ?_⟩
      have eT : Same H' (upd H' T0 (.tup [.int (i : Nat), .int ps[i]])) := Same.new hT0
      have e1 := e.trans eT
      have hfu1 := eT _ _ hfu
      have ei : (i : Int) + 1 = ((i + 1 : Nat) : Int) := by omega
      have em : ((m + 1 : Nat) : Int) - 1 = ((m : Nat) : Int) := by omega
      refine ⟨_, rfl, .inl ⟨rfl, us, .of hfu1⟩, _, rfl, _, rfl, _, _, rfl, rfl, _, rfl, a, _, rfl, Same.seq e1 hA, fun s hs => ⟨_, rfl, _, _, rfl, rfl, ?_⟩⟩
      have hcut : cutV (ps.map V.int) (some ((i : Int) + 1)) none = (ps.drop (i + 1)).map V.int := by rw [ei, cut_from, List.map_drop]
      have eS := Same.new (o := .lst (cutV (ps.map V.int) (some ((i : Int) + 1)) none)) hs
      refine ⟨s, ps.drop (i + 1), congrArg (fun k => [V.ref s, V.int k]) em, .of (by rw [← hcut]; exact upd_same), by rw [List.length_drop]; omega, fun g H1 gs eg hg hgs pg => ⟨g, rfl, ⟨gs, .of hgs⟩, fun D hD => ?_⟩⟩
      have e2 := e1.trans (eS.trans eg)
      have hfu2 := eg _ _ (eS _ _ hfu1)
      have hfD : D ≠ f := fun z => by subst z; rw [hfu2] at hD; cases hD
      refine lcL (its_list (.of hgs)) hD (R := fun G v z => ∃ b, v = .ref b ∧ b ≠ D ∧ H1 b = none ∧ G b = some (.lst (z.map V.int))) (rowI m ps i) ?_ (by unfold rowI; rw [List.length_map]; exact pg.length.symm) (by rw [pg.length]; exact Nat.le_trans (some_8 (by rw [List.length_drop]; omega)) (by decide)) (fun j x z H2 hj hx hz e3 hacc Qe qe => ?_) gname_mono fun ys H2 e3 hy py => ?_
      · rintro acc G G' y z hG hs ⟨b, h1, h2, h3, h4⟩
        exact ⟨b, h1, h2, h3, hs b _ h2 h4⟩
      · obtain ⟨r, hr1, b, rfl, hb0, hb⟩ := paired_get pg hx
        unfold rowI at hz
        rw [List.getElem?_map, hr1] at hz
        have hz := Option.some.inj hz
        have hg : ps.getD i 0 = ps[i] := by rw [List.getD_eq_getElem?_getD, List.getElem?_eq_getElem hi]; rfl
        rw [hg] at hz
        have hrl := some_one (List.mem_of_getElem? hr1)
        rw [List.length_drop] at hrl
        obtain ⟨acc, hacc⟩ := hacc
        refine ⟨rfl, _, rfl, _, rfl, b, r.map V.int, rfl, .inr (.of (e3 _ _ hb)), ?_, fun p hp => qe _ _ (Same.new hp) ⟨p, rfl, fun zz => ?_, Same.none e3 hp, ?_⟩⟩
        · rw [List.append_nil, List.length_cons, List.length_map]
          exact Nat.le_trans (by omega : _ ≤ 4) (by decide)
        · subst zz; rw [hacc] at hp; cases hp
        · rw [upd_same, List.append_nil, ← hz]; rfl
      · have hfu3 := e3 _ _ hfu2
        have lus := pu.length
        have lrow : (rowI m ps i).length ≤ 8 := by unfold rowI; rw [List.length_map]; exact some_8 (by rw [List.length_drop]; omega)
        have lr := rows_len (m := m) hl i
        refine ⟨f, D, us, ys, rfl, rfl, hfu3, hy, ?_, Same.updX hf (e2.trans e3), _, _, _, _, rfl, upd_same, ?_⟩
        · rw [lus, py.length]
          exact Nat.le_trans (by omega : _ ≤ 100) (by decide)
        · rw [List.range_succ, List.map_append, List.flatten_append]
          refine paired_app (paired_imp pu fun v z ⟨b, h1, h2, h3, h4⟩ => ⟨b, h1, h2, h3, ?_⟩) ?_
          · rw [upd_ne h2]
            exact (eT.trans (eS.trans (eg.trans e3))) _ _ h4
          · rw [List.map_cons, List.map_nil, List.flatten_cons, List.flatten_nil, List.append_nil]
            refine paired_imp py fun v z ⟨b, h1, h2, h3, h4⟩ => ⟨b, h1, ?_, Same.none e2 h3, ?_⟩
            · intro zz; subst zz; rw [hfu2] at h3; cases h3
            · rw [upd_ne (fun zz => by subst zz; rw [hfu2] at h3; cases h3)]
              exact h4
    · rintro σ H' ⟨e, us, v3, v4, v5, rfl, hfu, pu⟩
      refine ⟨_, rfl, q f H' us e hf hfu ?_⟩
      rw [lp] at pu
      exact paired_imp pu fun v z ⟨b, h1, _, h2, h3⟩ => ⟨b, h1, h2, h3⟩
end
end K32

/-! a run does not touch what sleeps: suspended generators that are not woken stand as they are -/
namespace K32
open PySem
def noK : Resume → Sem Fin := fun _ => .unsupported ""
def noR : Result → Sem Fin := fun _ => .unsupported ""
/-- what is never woken -/
def poison : GenState → GenState
  | .suspended _ l c p fs cl => .suspended noK l c p (fs.map fun F => .ret noR none false [] F.where_.1 F.where_.2 []) cl
  | x => x
def isP (st : GenState) : Prop := ∃ l c p fs cl, st = .suspended noK l c p fs cl
def plainF : Frame → Prop
  | .ret .. => True
  | .gen .. => False
def plainSt : GenState → Prop
  | .suspended _ _ _ _ fs _ => ∀ F ∈ fs, plainF F
  | _ => True
def plainE : End → Prop
  | .susp _ _ _ _ _ _ fs => ∀ F ∈ fs, plainF F
  | .ret _ => True
theorem poison_seen (x : GenState) : (poison x).seen = x.seen := by
  cases x with
  | suspended k l c p fs cl =>
    show ((GenStatus.suspended, some ((c, p) :: (fs.map fun F => Frame.ret noR none false [] F.where_.1 F.where_.2 []).map Frame.where_)) : GenStatus × Option (List (Code × Pos))) = (.suspended, some ((c, p) :: fs.map Frame.where_))
    rw [List.map_map]
    rfl
  | _ => rfl
theorem poison_plain (x : GenState) : plainSt (poison x) := by
  cases x with
  | suspended k l c p fs cl =>
    intro F hF
    obtain ⟨G, _, rfl⟩ := List.mem_map.mp hF
    exact trivial
  | _ => trivial
theorem poison_bare (x : GenState) : (poison x).bare = x.bare := by cases x <;> rfl
/-- ps: gs, some that sleep being poisoned -/
structure Lf (gs ps : Array GenState) : Prop where
  size : gs.size = ps.size
  at_ : ∀ (i : Nat) (st : GenState), ps[i]? = some st → plainSt st ∧ ∃ st', gs[i]? = some st' ∧ (st' = st ∨ st = poison st')
/-- what is poisoned stands -/
def KeepP (ps gs ps' gs' : Array GenState) : Prop := ∀ (i : Nat) (st : GenState), ps[i]? = some st → isP st → ps'[i]? = some st ∧ gs'[i]? = gs[i]?
theorem KeepP.refl {ps gs : Array GenState} : KeepP ps gs ps gs := fun _ _ h _ => ⟨h, rfl⟩
theorem KeepP.trans {a b a1 b1 a2 b2 : Array GenState} (x : KeepP a b a1 b1) (y : KeepP a1 b1 a2 b2) : KeepP a b a2 b2 := fun i st h p =>
  let ⟨h1, h2⟩ := x i st h p
  let ⟨h3, h4⟩ := y i st h1 p
  ⟨h3, h4.trans h2⟩
theorem Lf.poisonAll {gs : Array GenState} : Lf gs (gs.map poison) := by
  refine ⟨by simp, fun i st h => ?_⟩
  rw [Array.getElem?_map] at h
  cases e : gs[i]? with
  | none => rw [e] at h; cases h
  | some x =>
    rw [e] at h
    obtain rfl := Option.some.inj h
    exact ⟨poison_plain x, x, rfl, .inr rfl⟩
/-- an entry that is not poison stands in both -/
theorem Lf.real {gs ps : Array GenState} (L : Lf gs ps) {i : Nat} {st : GenState} (h : ps[i]? = some st) : gs[i]? = some st ∨ isP st := by
  obtain ⟨_, st', h1, h2⟩ := L.at_ i st h
  rcases h2 with rfl | rfl
  · exact .inl h1
  · cases st' with
    | suspended k l c p fs cl => exact .inr ⟨_, _, _, _, _, rfl⟩
    | _ => exact .inl h1
theorem Lf.set {gs ps : Array GenState} (L : Lf gs ps) (i : Nat) {x : GenState} (hx : plainSt x) : Lf (gs.setIfInBounds i x) (ps.setIfInBounds i x) := by
  refine ⟨by simpa using L.size, fun j st h => ?_⟩
  by_cases hj : j = i
  · subst hj
    by_cases hb : j < ps.size
    · have e : (ps.setIfInBounds j x)[j]? = some x := by simp [hb]
      rw [e] at h
      obtain rfl := Option.some.inj h
      exact ⟨hx, x, by simp [L.size, hb], .inl rfl⟩
    · have e : (ps.setIfInBounds j x)[j]? = none := by simp [hb]
      rw [e] at h
      cases h
  · rw [Array.getElem?_setIfInBounds_ne (Ne.symm hj)] at h
    rw [Array.getElem?_setIfInBounds_ne (Ne.symm hj)]
    exact L.at_ j st h
theorem Lf.push {gs ps : Array GenState} (L : Lf gs ps) {x : GenState} (hx : plainSt x) : Lf (gs.push x) (ps.push x) := by
  refine ⟨by simp [L.size], fun j st h => ?_⟩
  by_cases hj : j = ps.size
  · subst hj
    rw [Array.getElem?_push_size] at h
    obtain rfl := Option.some.inj h
    refine ⟨hx, x, ?_, .inl rfl⟩
    rw [← L.size, Array.getElem?_push_size]
  · have hlt : j < ps.size := by
      have := (Array.getElem?_eq_some_iff.mp h).1
      rw [Array.size_push] at this
      omega
    have e1 : (ps.push x)[j]? = ps[j]? := by
      rw [Array.getElem?_push, if_neg hj]
    have e2 : (gs.push x)[j]? = gs[j]? := by
      rw [Array.getElem?_push, if_neg (by rw [L.size]; exact hj)]
    rw [e1] at h
    rw [e2]
    exact L.at_ j st h
theorem KeepP.push {ps gs : Array GenState} (L : Lf gs ps) {x : GenState} : KeepP ps gs (ps.push x) (gs.push x) := fun i st h _ => by
  have hlt := (Array.getElem?_eq_some_iff.mp h).1
  constructor
  · rw [Array.getElem?_push, if_neg (by omega)]
    exact h
  · rw [Array.getElem?_push, if_neg (by rw [L.size]; omega)]
theorem KeepP.set {ps gs : Array GenState} {g : Nat} {x : GenState} (h : ∀ st, ps[g]? = some st → ¬ isP st) : KeepP ps gs (ps.setIfInBounds g x) (gs.setIfInBounds g x) := fun i st hi hp => by
  have hne : g ≠ i := fun z => h st (z ▸ hi) hp
  rw [Array.getElem?_setIfInBounds_ne hne, Array.getElem?_setIfInBounds_ne hne]
  exact ⟨hi, rfl⟩
theorem no_runs {M : Model} {Γ : PySem.Ctx} {p : Pos} {t : Sem Fin} {fs : List Frame} {s s' : Shared} {e : End} (h : Runs M Γ p t fs s e s') : t ≠ .unsupported "" := by
  induction h <;> intro z <;> first | exact absurd z (by assumption) | cases z
theorem plain_split {fs : List Frame} (h : ∀ F ∈ fs, plainF F) : splitAtGen fs = none := by
  induction fs with
  | nil => rfl
  | cons F fs ih =>
    have h1 := h F List.mem_cons_self
    have h2 := ih fun G hG => h G (List.mem_cons_of_mem _ hG)
    cases F with
    | ret k hh g l c p kp =>
      show (splitAtGen fs).map _ = none
      rw [h2]
      rfl
    | gen => exact h1.elim
theorem plain_of_split {fs : List Frame} (h : splitAtGen fs = none) : ∀ F ∈ fs, plainF F := by
  induction fs with
  | nil => exact fun F hF => nomatch hF
  | cons F fs ih =>
    cases F with
    | ret k hh g l c p kp =>
      have h2 : (splitAtGen fs).map (fun (fs, b, r) => (Frame.ret k hh g l c p kp :: fs, b, r)) = none := h
      have h3 : splitAtGen fs = none := by
        cases e : splitAtGen fs with
        | none => rfl
        | some x => rw [e] at h2; cases h2
      intro G hG
      rcases List.mem_cons.mp hG with rfl | hG
      · exact trivial
      · exact ih h3 G hG
    | gen g k l c p => cases h
theorem genState_plain {e : End} (h : plainE e) : plainSt e.genState := by
  cases e with
  | ret r => trivial
  | susp v g l k c p fs => exact h
/-- THE LIFT -/
theorem lift {M : Model} {Γ : PySem.Ctx} {p : Pos} {t : Sem Fin} {fs : List Frame} {s s' : Shared} {e : End} (h : Runs M Γ p t fs s e s') : (∀ F ∈ fs, plainF F) → ∀ gs, Lf gs s.gens →
    ∃ gs', Runs M Γ p t fs { s with gens := gs } e { s' with gens := gs' } ∧ Lf gs' s'.gens ∧ plainE e ∧ KeepP s.gens gs s'.gens gs' := by
  induction h with
  | done => exact fun _ gs L => ⟨gs, .done, L, trivial, .refl⟩
  | raise => exact fun _ gs L => ⟨gs, .raise, L, trivial, .refl⟩
  | again q _ ih => exact fun hf gs L => let ⟨gs', r, a, b, c⟩ := ih (fun _ z => nomatch z) gs L; ⟨gs', .again q r, a, b, c⟩
  | rule _ ih => exact fun hf gs L => let ⟨gs', r, a, b, c⟩ := ih (fun _ z => nomatch z) gs L; ⟨gs', .rule r, a, b, c⟩
  | «at» _ ih => exact fun hf gs L => let ⟨gs', r, a, b, c⟩ := ih (fun _ z => nomatch z) gs L; ⟨gs', .at r, a, b, c⟩
  | load q _ ih => exact fun hf gs L => let ⟨gs', r, a, b, c⟩ := ih (fun _ z => nomatch z) gs L; ⟨gs', .load q r, a, b, c⟩
  | update q _ ih => exact fun hf gs L => let ⟨gs', r, a, b, c⟩ := ih (fun _ z => nomatch z) gs L; ⟨gs', .update q r, a, b, c⟩
  | loadIfAlive _ ih => exact fun hf gs L => let ⟨gs', r, a, b, c⟩ := ih (fun _ z => nomatch z) gs L; ⟨gs', .loadIfAlive r, a, b, c⟩
  | point _ ih => exact fun hf gs L => let ⟨gs', r, a, b, c⟩ := ih (fun _ z => nomatch z) gs L; ⟨gs', .point r, a, b, c⟩
  | alloc _ ih => exact fun hf gs L => let ⟨gs', r, a, b, c⟩ := ih (fun _ z => nomatch z) gs L; ⟨gs', .alloc r, a, b, c⟩
  | fresh _ ih => exact fun hf gs L => let ⟨gs', r, a, b, c⟩ := ih (fun _ z => nomatch z) gs L; ⟨gs', .fresh r, a, b, c⟩
  | ask _ ih => exact fun hf gs L => let ⟨gs', r, a, b, c⟩ := ih (fun _ z => nomatch z) gs L; ⟨gs', .ask r, a, b, c⟩
  | choose q _ ih => exact fun hf gs L => let ⟨gs', r, a, b, c⟩ := ih (fun _ z => nomatch z) gs L; ⟨gs', .choose q r, a, b, c⟩
  | os _ ih => exact fun hf gs L => let ⟨gs', r, a, b, c⟩ := ih (fun _ z => nomatch z) gs L; ⟨gs', .os r, a, b, c⟩
  | handled _ ih => exact fun hf gs L => let ⟨gs', r, a, b, c⟩ := ih (fun _ z => nomatch z) gs L; ⟨gs', .handled r, a, b, c⟩
  | genState q _ ih =>
    intro hf gs L
    obtain ⟨gs', r, a, b, c⟩ := ih (fun _ z => nomatch z) gs L
    obtain ⟨_, st', h1, h2⟩ := L.at_ _ _ q
    refine ⟨gs', .genState (st := st') h1 ?_, a, b, c⟩
    rcases h2 with rfl | rfl
    · exact r
    · rw [poison_seen] at r
      exact r
  | stack _ ih => exact fun hf gs L => let ⟨gs', r, a, b, c⟩ := ih (fun _ z => nomatch z) gs L; ⟨gs', .stack r, a, b, c⟩
  | thread _ ih => exact fun hf gs L => let ⟨gs', r, a, b, c⟩ := ih (fun _ z => nomatch z) gs L; ⟨gs', .thread r, a, b, c⟩
  | newGen _ ih =>
    intro hf gs L
    obtain ⟨gs', r, a, b, c⟩ := ih (fun _ z => nomatch z) (gs.push (.fresh _)) (L.push trivial)
    exact ⟨gs', .newGen (by rw [← L.size] at r; exact r), a, b, KeepP.trans (KeepP.push L) c⟩
  | call _ _ ih1 ih2 =>
    intro hf gs L
    obtain ⟨g1, r1, a1, b1, c1⟩ := ih1 (fun _ z => nomatch z) gs L
    obtain ⟨g2, r2, a2, b2, c2⟩ := ih2 (fun _ z => nomatch z) g1 a1
    exact ⟨g2, .call r1 r2, a2, b2, c1.trans c2⟩
  | callSusp _ ih =>
    intro hf gs L
    obtain ⟨g1, r1, a1, b1, c1⟩ := ih (fun _ z => nomatch z) gs L
    refine ⟨g1, .callSusp r1, a1, fun F hF => ?_, c1⟩
    rcases List.mem_append.mp hF with hF | hF
    · exact b1 F hF
    · rw [List.mem_singleton.mp hF]
      trivial
  | yield => exact fun _ gs L => ⟨gs, .yield, L, (fun _ z => nomatch z), .refl⟩
  | @resumeFresh Γ p g l k s c e₁ s₁ e s' q _ hq _ ih1 ih2 =>
    intro hf gs L
    have nP : ∀ st, s.gens[g]? = some st → ¬ isP st := fun st h ⟨_, _, _, _, _, z⟩ => by rw [q] at h; cases h; cases z
    have hq' : gs[g]? = some (.fresh c) := (L.real q).resolve_right (nP _ q)
    obtain ⟨g1, r1, a1, b1, c1⟩ := ih1 (fun _ z => nomatch z) (gs.setIfInBounds g .running) (L.set g trivial)
    have k0 : KeepP s.gens gs (s.setGen g .running).gens (gs.setIfInBounds g .running) := KeepP.set nP
    have k1 := k0.trans c1
    obtain ⟨g2, r2, a2, b2, c2⟩ := ih2 (fun _ z => nomatch z) (g1.setIfInBounds g e₁.genState) (a1.set g (genState_plain b1))
    refine ⟨g2, .resumeFresh (s := { s with gens := gs }) (s₁ := { s₁ with gens := g1 }) hq' r1 hq r2, a2, b2, fun i st hi hp => ?_⟩
    obtain ⟨x1, x2⟩ := k1 i st hi hp
    have hne : g ≠ i := fun z => nP st (z ▸ hi) hp
    have y1 : (s₁.setGen g e₁.genState).gens[i]? = some st := by
      show (s₁.gens.setIfInBounds g e₁.genState)[i]? = some st
      rw [Array.getElem?_setIfInBounds_ne hne]
      exact x1
    obtain ⟨z1, z2⟩ := c2 i st y1 hp
    exact ⟨z1, z2.trans ((Array.getElem?_setIfInBounds_ne hne).trans x2)⟩
  | @resumeSuspended Γ p g r l k s k₀ l₀ c₀ p₀ fs cl e₁ s₁ e s' q h1 hq _ ih1 ih2 =>
    intro hf gs L
    have nP : ∀ st, s.gens[g]? = some st → ¬ isP st := fun st h ⟨_, _, _, _, _, z⟩ => by
      rw [q] at h
      cases h
      injection z with z1
      exact no_runs h1 (by rw [z1]; rfl)
    have hq' : gs[g]? = some (.suspended k₀ l₀ c₀ p₀ fs cl) := (L.real q).resolve_right (nP _ q)
    obtain ⟨g1, r1, a1, b1, c1⟩ := ih1 (L.at_ g _ q).1 (gs.setIfInBounds g .running) (L.set g trivial)
    have k0 : KeepP s.gens gs (s.setGen g .running).gens (gs.setIfInBounds g .running) := KeepP.set nP
    have k1 := k0.trans c1
    obtain ⟨g2, r2, a2, b2, c2⟩ := ih2 (fun _ z => nomatch z) (g1.setIfInBounds g e₁.genState) (a1.set g (genState_plain b1))
    refine ⟨g2, .resumeSuspended (s := { s with gens := gs }) (s₁ := { s₁ with gens := g1 }) hq' r1 hq r2, a2, b2, fun i st hi hp => ?_⟩
    obtain ⟨x1, x2⟩ := k1 i st hi hp
    have hne : g ≠ i := fun z => nP st (z ▸ hi) hp
    have y1 : (s₁.setGen g e₁.genState).gens[i]? = some st := by
      show (s₁.gens.setIfInBounds g e₁.genState)[i]? = some st
      rw [Array.getElem?_setIfInBounds_ne hne]
      exact x1
    obtain ⟨z1, z2⟩ := c2 i st y1 hp
    exact ⟨z1, z2.trans ((Array.getElem?_setIfInBounds_ne hne).trans x2)⟩
  | resumeJustStarted q hv _ ih =>
    intro hf gs L
    have hq' := (L.real q).resolve_right (fun ⟨_, _, _, _, _, z⟩ => by cases z)
    obtain ⟨g1, r1, a1, b1, c1⟩ := ih (fun _ z => nomatch z) gs L
    exact ⟨g1, .resumeJustStarted hq' hv r1, a1, b1, c1⟩
  | resumeThrowFresh q _ ih =>
    intro hf gs L
    have hq' := (L.real q).resolve_right (fun ⟨_, _, _, _, _, z⟩ => by cases z)
    obtain ⟨g1, r1, a1, b1, c1⟩ := ih (fun _ z => nomatch z) (gs.setIfInBounds _ .finished) (L.set _ trivial)
    exact ⟨g1, .resumeThrowFresh hq' r1, a1, b1, (KeepP.set fun st h ⟨_, _, _, _, _, z⟩ => by rw [q] at h; cases h; cases z).trans c1⟩
  | resumeRunning q _ ih =>
    intro hf gs L
    have hq' := (L.real q).resolve_right (fun ⟨_, _, _, _, _, z⟩ => by cases z)
    obtain ⟨g1, r1, a1, b1, c1⟩ := ih (fun _ z => nomatch z) gs L
    exact ⟨g1, .resumeRunning hq' r1, a1, b1, c1⟩
  | resumeFinished q _ ih =>
    intro hf gs L
    have hq' := (L.real q).resolve_right (fun ⟨_, _, _, _, _, z⟩ => by cases z)
    obtain ⟨g1, r1, a1, b1, c1⟩ := ih (fun _ z => nomatch z) gs L
    exact ⟨g1, .resumeFinished hq' r1, a1, b1, c1⟩
  | segRet _ _ ih1 ih2 =>
    intro hf gs L
    obtain ⟨g1, r1, a1, b1, c1⟩ := ih1 (fun _ z => nomatch z) gs L
    obtain ⟨g2, r2, a2, b2, c2⟩ := ih2 (fun F hF => hf F (List.mem_cons_of_mem _ hF)) g1 a1
    exact ⟨g2, .segRet r1 r2, a2, b2, c1.trans c2⟩
  | segGen _ _ _ _ => exact fun hf => (hf _ List.mem_cons_self).elim
  | segSuspOut hs _ ih =>
    intro hf gs L
    obtain ⟨g1, r1, a1, b1, c1⟩ := ih (fun _ z => nomatch z) gs L
    refine ⟨g1, .segSuspOut hs r1, a1, fun F hF => ?_, c1⟩
    rcases List.mem_append.mp hF with hF | hF
    · exact b1 F hF
    · exact plain_of_split hs F hF
  | segSuspGen hs _ _ _ _ _ =>
    intro hf
    rw [plain_split hf] at hs
    cases hs
/-- a post that may be read off the poisoned run -/
def LfQ {α : Type} (ps gs : Array GenState) (Q : α → Shared → Prop) (a : α) (s1 : Shared) : Prop := ∃ ps1, Q a { s1 with gens := ps1 } ∧ Lf s1.gens ps1 ∧ KeepP ps gs ps1 s1.gens
theorem lift_wp {α : Type} {M : Model} {Γ : PySem.Ctx} : ∀ (t : Sem α) (p : Pos) (s : Shared) (Q : α → Shared → Prop) (E : Value → Shared → Prop), Sem.wp M Γ t (fun a _ s' => Q a s') (fun e _ s' => E e s') p s → ∀ gs, Lf gs s.gens →
    ∀ ps0 gs0, KeepP ps0 gs0 s.gens gs → Sem.wp M Γ t (fun a _ s' => LfQ ps0 gs0 Q a s') (fun e _ s' => LfQ ps0 gs0 E e s') p { s with gens := gs } := by
  intro t
  induction t with
  | pure a => exact fun p s Q E h gs L ps0 gs0 k => ⟨s.gens, h, L, k⟩
  | raise a => exact fun p s Q E h gs L ps0 gs0 k => ⟨s.gens, h, L, k⟩
  | unsupported => exact fun p s Q E h => h.elim
  | finish => exact fun p s Q E h => h.elim
  | rule tag k ih => exact fun p s Q E h gs L ps0 gs0 kp => ih () p s Q E h gs L ps0 gs0 kp
  | «at» p' k ih => exact fun p s Q E h gs L ps0 gs0 kp => ih () p' s Q E h gs L ps0 gs0 kp
  | load a part k ih =>
    intro p s Q E h gs L ps0 gs0 kp
    obtain ⟨o, ho, h⟩ := h
    exact ⟨o, ho, ih o p s Q E h gs L ps0 gs0 kp⟩
  | update a part f k ih => exact fun p s Q E h gs L ps0 gs0 kp => ⟨h.1, ih () p _ Q E h.2 gs L ps0 gs0 kp⟩
  | alloc o k ih => exact fun p s Q E h gs L ps0 gs0 kp => ih _ p _ Q E h gs L ps0 gs0 kp
  | loadIfAlive a k ih => exact fun p s Q E h gs L ps0 gs0 kp => ih _ p s Q E h gs L ps0 gs0 kp
  | point l k ih => exact fun p s Q E h gs L ps0 gs0 kp => ih () p s Q E h gs L ps0 gs0 kp
  | register => exact fun p s Q E h => h.elim
  | fresh k ih => exact fun p s Q E h gs L ps0 gs0 kp => ih _ p _ Q E h gs L ps0 gs0 kp
  | ask k ih => exact fun p s Q E h gs L ps0 gs0 kp => ih _ p s Q E h gs L ps0 gs0 kp
  | choose src n k ih => exact fun p s Q E h gs L ps0 gs0 kp => ⟨h.1, ih _ p _ Q E h.2 gs L ps0 gs0 kp⟩
  | os q l k ih => exact fun p s Q E h gs L ps0 gs0 kp => ih _ p _ Q E h gs L ps0 gs0 kp
  | call c hh g l k ih =>
    intro p s Q E h gs L ps0 gs0 kp
    obtain ⟨r, s1, hr, h⟩ := h
    obtain ⟨g1, r1, a1, _, c1⟩ := lift hr (fun _ z => nomatch z) gs L
    exact ⟨r, _, r1, ih r p s1 Q E h g1 a1 ps0 gs0 (kp.trans c1)⟩
  | handled own k ih => exact fun p s Q E h gs L ps0 gs0 kp => ih _ p s Q E h gs L ps0 gs0 kp
  | newGen c k ih =>
    intro p s Q E h gs L ps0 gs0 kp
    have := ih s.gens.size p _ Q E h (gs.push (.fresh c)) (L.push trivial) ps0 gs0 (kp.trans (KeepP.push L))
    rw [← L.size] at this
    exact this
  | genState g k ih =>
    intro p s Q E h gs L ps0 gs0 kp
    obtain ⟨st, hs, h⟩ := h
    obtain ⟨_, st', h1, h2⟩ := L.at_ _ _ hs
    refine ⟨st', h1, ?_⟩
    have e : st'.seen = st.seen := by
      rcases h2 with rfl | rfl
      · rfl
      · exact (poison_seen st').symm
    rw [e]
    exact ih _ p s Q E h gs L ps0 gs0 kp
  | resume g r l k ih =>
    intro p s Q E h gs L ps0 gs0 kp
    obtain ⟨res, s1, hw, h⟩ := h
    have main : ∃ g1, Wakes M Γ p g r { s with gens := gs } res { s1 with gens := g1 } ∧ Lf g1 s1.gens ∧ KeepP s.gens gs s1.gens g1 := by
      unfold Wakes at hw
      cases eg : s.gens[g]? with
      | none => rw [eg] at hw; exact hw.elim
      | some st =>
        rw [eg] at hw
        cases st with
        | fresh c =>
          have hg : gs[g]? = some (.fresh c) := (L.real eg).resolve_right (fun ⟨_, _, _, _, _, z⟩ => by cases z)
          have nP : ∀ st, s.gens[g]? = some st → ¬ isP st := fun st h ⟨_, _, _, _, _, z⟩ => by rw [eg] at h; cases h; cases z
          cases r with
          | send v =>
            cases v with
            | none =>
              obtain ⟨e1, s2, hr, hq, rfl, rfl⟩ := hw
              obtain ⟨g1, r1, a1, b1, c1⟩ := lift hr (fun _ z => nomatch z) (gs.setIfInBounds g .running) (L.set g trivial)
              refine ⟨g1.setIfInBounds g e1.genState, ?_, a1.set g (genState_plain b1), fun i st hi hp => ?_⟩
              · unfold Wakes
                show (match gs[g]? with | _ => _)
                rw [hg]
                exact ⟨e1, { s2 with gens := g1 }, r1, hq, rfl, rfl⟩
              · obtain ⟨x1, x2⟩ := (KeepP.set nP).trans c1 i st hi hp
                have hne : g ≠ i := fun z => nP st (z ▸ hi) hp
                refine ⟨?_, ?_⟩
                · show (s2.gens.setIfInBounds g e1.genState)[i]? = some st
                  rw [Array.getElem?_setIfInBounds_ne hne]
                  exact x1
                · rw [Array.getElem?_setIfInBounds_ne hne]
                  exact x2
            | _ =>
              obtain ⟨rfl, rfl⟩ := hw
              refine ⟨gs, ?_, L, .refl⟩
              unfold Wakes
              show (match gs[g]? with | _ => _)
              rw [hg]
              exact ⟨rfl, rfl⟩
          | throw x =>
            obtain ⟨rfl, rfl⟩ := hw
            refine ⟨gs.setIfInBounds g .finished, ?_, L.set g trivial, KeepP.set nP⟩
            unfold Wakes
            show (match gs[g]? with | _ => _)
            rw [hg]
            exact ⟨rfl, rfl⟩
        | suspended k₀ l₀ c₀ p₀ fs cl =>
          obtain ⟨e1, s2, hr, hq, rfl, rfl⟩ := hw
          have nP : ∀ st, s.gens[g]? = some st → ¬ isP st := fun st h ⟨_, _, _, _, _, z⟩ => by
            rw [eg] at h
            cases h
            injection z with z1
            exact no_runs hr (by rw [z1]; rfl)
          have hg : gs[g]? = some (.suspended k₀ l₀ c₀ p₀ fs cl) := (L.real eg).resolve_right (nP _ eg)
          obtain ⟨g1, r1, a1, b1, c1⟩ := lift hr (L.at_ g _ eg).1 (gs.setIfInBounds g .running) (L.set g trivial)
          refine ⟨g1.setIfInBounds g e1.genState, ?_, a1.set g (genState_plain b1), fun i st hi hp => ?_⟩
          · unfold Wakes
            show (match gs[g]? with | _ => _)
            rw [hg]
            exact ⟨e1, { s2 with gens := g1 }, r1, hq, rfl, rfl⟩
          · obtain ⟨x1, x2⟩ := (KeepP.set nP).trans c1 i st hi hp
            have hne : g ≠ i := fun z => nP st (z ▸ hi) hp
            refine ⟨?_, ?_⟩
            · show (s2.gens.setIfInBounds g e1.genState)[i]? = some st
              rw [Array.getElem?_setIfInBounds_ne hne]
              exact x1
            · rw [Array.getElem?_setIfInBounds_ne hne]
              exact x2
        | running =>
          obtain ⟨rfl, rfl⟩ := hw
          have hg : gs[g]? = some .running := (L.real eg).resolve_right (fun ⟨_, _, _, _, _, z⟩ => by cases z)
          refine ⟨gs, ?_, L, .refl⟩
          unfold Wakes
          show (match gs[g]? with | _ => _)
          rw [hg]
          exact ⟨rfl, rfl⟩
        | finished =>
          obtain ⟨rfl, rfl⟩ := hw
          have hg : gs[g]? = some .finished := (L.real eg).resolve_right (fun ⟨_, _, _, _, _, z⟩ => by cases z)
          refine ⟨gs, ?_, L, .refl⟩
          unfold Wakes
          show (match gs[g]? with | _ => _)
          rw [hg]
          exact ⟨rfl, rfl⟩
    obtain ⟨g1, w1, L1, k1⟩ := main
    exact ⟨res, _, w1, ih res p s1 Q E h g1 L1 ps0 gs0 (kp.trans k1)⟩
  | yield => exact fun p s Q E h => h.elim
  | stack k ih => exact fun p s Q E h gs L ps0 gs0 kp => ih _ p s Q E h gs L ps0 gs0 kp
  | fork => exact fun p s Q E h => h.elim
  | thread k ih => exact fun p s Q E h gs L ps0 gs0 kp => ih _ p s Q E h gs L ps0 gs0 kp
  | await => exact fun p s Q E h => h.elim
/-- what runs while all that sleeps is poisoned runs, and what slept stands -/
theorem lift_any {α : Type} {M : Model} {A : Around} {t : Sem α} {Q : α → Shared → Prop} {E : Value → Shared → Prop} {s : Shared} {gs : Array GenState} (h : wpAny M A t Q E { s with gens := gs.map poison }) :
    wpAny M A t (LfQ (gs.map poison) gs Q) (LfQ (gs.map poison) gs E) { s with gens := gs } := fun Γ p hΓ =>
  lift_wp t p { s with gens := gs.map poison } Q E (h Γ p hΓ) gs Lf.poisonAll _ _ .refl
end K32

/-! a generator's run up to its next yield, the new state in hand -/
namespace K32
open PySem PyProof.Rows
abbrev YP := Value → Shared → GenState → Prop
abbrev RP := Result → Shared → Prop
def StepEnd (R : RP) (Y : YP) (e : End) (s' : Shared) : Prop :=
  match e with
  | .ret r => R r s'
  | .susp v g l k c p fs => (End.susp v g l k c p fs).quiet = true ∧ Y v s' (End.susp v g l k c p fs).genState
def Go (M : Model) (A : Around) (R : RP) (Y : YP) (c : Code) (t : Sem Fin) (fs : List Frame) (s : Shared) : Prop :=
  ∀ (Γ : PySem.Ctx) (p : Pos), Γ.code = c → Γ.Woken A → ∃ e s', Runs M Γ p t fs s e s' ∧ StepEnd R Y e s'
section
variable {M : Model} {A : Around} {R : RP} {Y : YP} {c : Code} {fs : List Frame} {s : Shared}
theorem go_wrap {α : Type} {m : Sem α} {K : α → Sem Fin} {H : Value → Sem Fin} {gd : Bool → Bool} {lv : List Value → List Value} (h : wpAny M (A.over c fs) m (fun a s' => Go M A R Y c (K a) fs s') (fun x s' => Go M A R Y c (H x) fs s') s) :
    Go M A R Y c (m.wrap K H gd lv) fs s := by
  rintro Γ p rfl hΓ
  exact runs_wrap_of_wp K H gd lv m (h (Γ.over fs) p (hΓ.over fs)) (fun a p' s' h' => h' Γ p' rfl hΓ) (fun x p' s' h' => h' Γ p' rfl hΓ)
theorem go_bind {α : Type} {m : Sem α} {K : α → Sem Fin} (h : wpAny M (A.over c fs) m (fun a s' => Go M A R Y c (K a) fs s') (fun x s' => Go M A R Y c (.raise x) fs s') s) : Go M A R Y c (m >>= K) fs s := by
  rw [Sem.bind_eq_wrap']; exact go_wrap h
theorem go_at {p' : Pos} {k : Unit → Sem Fin} (h : Go M A R Y c (k ()) fs s) : Go M A R Y c (.at p' k) fs s :=
  go_wrap (m := standAt p') (K := k) (H := .raise) (gd := id) (lv := id) (wpAny_standAt h)
theorem go_point {l : List Value} {k : Unit → Sem Fin} (h : Go M A R Y c (k ()) fs s) : Go M A R Y c (.point l k) fs s :=
  go_wrap (m := point) (K := k) (H := .raise) (gd := id) (lv := fun _ => l) (wpAny_point h)
theorem go_call {c' : Code} {h : Option Value} {g : Bool} {l : List Value} {k : Result → Sem Fin} (hc : ∀ p, Go M A R Y c' (M.den c') (.ret k h g l c p [] :: fs) s) : Go M A R Y c (.call c' h g l k) fs s := by
  rintro Γ p rfl hΓ
  obtain ⟨e, s', hr, he⟩ := hc p (Γ.goto c') p rfl (hΓ.goto c')
  exact ⟨e, s', runs_call_seg hr, he⟩
theorem go_leaf {k : Result → Sem Fin} {h : Option Value} {g : Bool} {l : List Value} {c₁ : Code} {p₁ : Pos} {kp : List Value} (r : Result) (hk : Go M A R Y c₁ (k r) fs s) : Go M A R Y c (leafOf r) (.ret k h g l c₁ p₁ kp :: fs) s := by
  rintro Γ p rfl hΓ
  obtain ⟨e, s', hr, he⟩ := hk (Γ.goto c₁) p₁ rfl (hΓ.goto c₁)
  exact ⟨e, s', Runs.pop r hr, he⟩
theorem go_again {c' : Code} (hq : c'.quiet = true) (hc : Go M A R Y c' (M.den c') fs s) : Go M A R Y c (.pure (.again c')) fs s := by
  rintro Γ p rfl hΓ
  obtain ⟨e, s', hr, he⟩ := hc (Γ.goto c') p rfl (hΓ.goto c')
  exact ⟨e, s', Runs.head (c₁ := c') (fun _ _ x => .again hq x) hr, he⟩
theorem go_end (r : Result) (h : R r s) : Go M A R Y c (leafOf r) [] s := by
  rintro Γ p rfl _
  exact ⟨.ret r, s, Runs.leaf r, h⟩
theorem go_yield {v : Value} {g : Bool} {l : List Value} {k : Resume → Sem Fin} (hfs : splitAtGen fs = none) (hg : g = false) (hfg : fs.any Frame.guarded = false) (h : ∀ p, Y v s (.suspended k l c p fs false)) : Go M A R Y c (.yield v g l k) fs s := by
  rintro Γ p rfl _
  refine ⟨_, s, Runs.yield' fs hfs, by simp [End.quiet, hg, hfg], ?_⟩
  show Y v s (.suspended k l Γ.code p fs (g || fs.any Frame.guarded))
  rw [hg, hfg]
  exact h p
theorem go_execs_nil {env : Env} {K : Flow → Sem Fin} {H : Value → Sem Fin} {gd : Bool → Bool} {lv : List Value → List Value} (h : Go M A R Y c (K .next) fs s) : Go M A R Y c ((execs [] env).wrap K H gd lv) fs s := h
theorem go_execs_cons {env : Env} {K : Flow → Sem Fin} {H : Value → Sem Fin} {gd : Bool → Bool} {lv : List Value → List Value} {st : Stmt} {rest : List Stmt}
    (h : Go M A R Y c ((exec st env).wrap (fun f => match f with | .next => (execs rest env).wrap K H gd lv | f => K f) H gd lv) fs s) : Go M A R Y c ((execs (st :: rest) env).wrap K H gd lv) fs s := by rw [execs_cons_wrap]; exact h
/-- yield e -/
theorem go_Yield {env : Env} {K : Flow → Sem Fin} {H : Value → Sem Fin} {gd : Bool → Bool} {lv : List Value → List Value} {e : Expr} {ypos pos : Pos} (hfs : splitAtGen fs = none) (hgd : gd false = false) (hfg : fs.any Frame.guarded = false)
    (h : wpAny M (A.over c fs) (eval e env) (fun v s' => ∀ (gs : GenState), gs.bare = true → (∃ k l p, gs = .suspended k l c p fs false ∧ ∀ (A' : Around) (R' : RP) (Y' : YP) (s'' : Shared), Go M A' R' Y' c (K .next) fs s'' → Go M A' R' Y' c (k (.send .none)) fs s'') → Y v s' gs)
      (fun x s' => Go M A R Y c (H x) fs s') s) (hco : env.scope.isCoroutine = false := by rfl) (hi : interactive env = false := by rfl) :
    Go M A R Y c ((exec (.Expr (.Yield (some e) ypos) pos) env).wrap K H gd lv) fs s := by
  rw [exec_Expr env _ pos hi rfl]
  show Go M A R Y c (.at pos fun _ => ((eval e env >>= fun v => (standAt ypos >>= fun _ => yieldOut env v)) >>= fun x =>
    dropValue (.Yield (some e) ypos) pos x).wrap K H gd lv) fs s
  have hy : ∀ v, yieldOut env v = yieldValue v := fun v => by simp only [yieldOut, hco, Bool.false_eq_true, if_false]
  simp only [hy]
  refine go_at ?_
  rw [Sem.bind_eq_wrap', Sem.bind_eq_wrap', Sem.wrap_wrap, Sem.wrap_wrap]
  refine go_wrap (wpAny_mono h (fun v s' h' => ?_) fun _ _ x => x)
  refine go_at (go_yield hfs hgd hfg fun p => ?_)
  exact h' _ rfl ⟨_, _, p, rfl, fun A' R' Y' s'' hx => hx⟩
/-- for .. -/
theorem go_For {env : Env} {K : Flow → Sem Fin} {H : Value → Sem Fin} {gd : Bool → Bool} {lv : List Value → List Value} {tg iter : Expr} {body orelse : List Stmt} {pos : Pos}
    (h : wpAny M (A.over c fs) (eval iter env) (fun x s1 => wpAny M (A.over c fs) (pyIter x) (fun itv s2 => ∀ (l' : List Value) (p : Pos), Go M A R Y (.forLoop tg itv body orelse env) (M.den (.forLoop tg itv body orelse env))
      (.ret (fun r => ((match r with | .ok f => (.pure f : Sem Flow) | .error e => .raise e).onRaise fun (x : Value) => do
        if (← field x 1) == Value.none then unsupported "frame.own-activation:exception-without-traceback"
        setFlight x env.frame).wrap K H gd lv) none (gd false) l' c p [] :: fs) s2) (fun x s' => Go M A R Y c (H x) fs s') s1) (fun x s' => Go M A R Y c (H x) fs s') s)
    (hs : ∀ x, foldedSetIterable iter env x = pure x := by intro _; rfl) :
    Go M A R Y c ((exec (.For tg iter body orelse pos) env).wrap K H gd lv) fs s := by
  rw [exec_For]
  refine go_at ?_
  show Go M A R Y c ((eval iter env >>= fun a => foldedSetIterable iter env a >>= fun x => standAt iter.pos >>= fun _ => holding [x] (pyIter x) >>= fun it => runOwn (.forLoop tg it body orelse env) env).wrap K H gd lv) fs s
  rw [Sem.bind_eq_wrap', Sem.wrap_wrap]
  refine go_wrap (wpAny_mono h (fun x s1 h1 => ?_) fun _ _ z => z)
  rw [hs x]
  refine go_at ?_
  show Go M A R Y c (((holding [x] (pyIter x)) >>= fun it => runOwn (.forLoop tg it body orelse env) env).wrap K H _ _) fs s1
  rw [Sem.bind_eq_wrap', Sem.wrap_wrap]
  refine go_wrap (wpAny_holding (wpAny_mono h1 (fun itv s2 h2 => ?_) fun _ _ z => z))
  exact go_call fun p => h2 _ p
end
section
variable {prog : Program} {w : World} {A : Around} {R : RP} {Y : YP} {fs : List Frame} {s : Shared} {env : Env}
theorem go_func {body : List Stmt}
    (h : Go (model prog w) A R Y (.func body env) ((execs body env).wrap (fun f => .pure (.done (.ret (match f with | .ret v => v | _ => .none)))) (fun e => (leaving env e).wrap (fun _ => .raise e) .raise id id) id id) fs s) :
    Go (model prog w) A R Y (.func body env) ((model prog w).den (.func body env)) fs s := by
  show Go _ A R Y _ (.point [] fun _ => ((execs body env).onRaise (leaving env)) >>= _) fs s
  refine go_point ?_
  rw [Sem.onRaise_eq_wrap, Sem.bind_eq_wrap', Sem.wrap_wrap]
  rw [Sem.wrap_congr (execs body env) _ _ (K' := fun f => .pure (.done (.ret (match f with | .ret v => v | _ => .none))))
    (H' := fun e => (leaving env e).wrap (fun _ => .raise e) .raise id id) (fun f => by cases f <;> rfl)
    (fun e => by rw [Sem.bind_eq_wrap, Sem.wrap_wrap]; rfl)]
  exact h
/-- a turn of the loop: nothing is raised -/
theorem go_forLoop {tg : Expr} {itv : Value} {body : List Stmt}
    (h : wpAny (model prog w) (A.over (.forLoop tg itv body [] env) fs) (pyNext itv) (fun r s1 => match r with
      | none => Go (model prog w) A R Y (.forLoop tg itv body [] env) (.pure (.again (.block [] env))) fs s1
      | some v => wpAny (model prog w) (A.over (.forLoop tg itv body [] env) fs) (letOwnedTupleGo tg itv v) (fun _ s2 => wpAny (model prog w) (A.over (.forLoop tg itv body [] env) fs) (assign tg env v) (fun _ s3 =>
          ∀ (J : Value → Sem Fin) (K : Flow → Sem Fin), K .next = .pure (.again (.forLoop tg itv body [] env)) → Go (model prog w) A R Y (.forLoop tg itv body [] env) ((execs body env).wrap K J id id) fs s3) (fun _ _ => False) s2) (fun _ _ => False) s1) (fun _ _ => False) s) :
    Go (model prog w) A R Y (.forLoop tg itv body [] env) ((model prog w).den (.forLoop tg itv body [] env)) fs s := by
  show Go _ A R Y _ ((forTurn tg itv body [] env).onRaise (fun x => do noteFrame x env; theTreesLotGoes x)) fs s
  unfold forTurn
  rw [Sem.onRaise_eq_wrap]
  refine go_at ?_
  show Go _ A R Y _ ((((pyNext itv).onRaise fun _ => standAt { tg.pos with line := 0 }) >>= _).wrap _ _ _ _) fs s
  rw [Sem.bind_eq_wrap', Sem.wrap_wrap]
  refine go_wrap (wpAny_onRaise (wpAny_mono h (fun r s1 h1 => ?_) fun _ _ z => z.elim))
  cases r with
  | none => exact h1
  | some v =>
    show Go _ A R Y _ (((letOwnedTupleGo tg itv v) >>= fun _ => assign tg env v >>= fun _ => execs body env >>= _).wrap _ _ _ _) fs s1
    rw [Sem.bind_eq_wrap', Sem.wrap_wrap]
    refine go_wrap (wpAny_mono h1 (fun _ s2 h2 => ?_) fun _ _ z => z.elim)
    rw [Sem.bind_eq_wrap', Sem.wrap_wrap]
    refine go_wrap (wpAny_mono h2 (fun _ s3 h3 => ?_) fun _ _ z => z.elim)
    rw [Sem.bind_eq_wrap', Sem.wrap_wrap]
    exact h3 _ _ rfl
end
/-- resumed by next: what comes -/
def Goes1 (M : Model) (A : Around) (R : RP) (Y : YP) (gs : GenState) (s : Shared) : Prop :=
  match gs with
  | .fresh c => Go M A R Y c (M.den c) [] s
  | .suspended k _ c _ fs _ => Go M A R Y c (k (.send .none)) fs s
  | _ => False
theorem resume1 {M : Model} {A : Around} {R : RP} {Y : YP} {E : Value → Shared → Prop} {s : Shared} {g : Nat} {gs : GenState} {l : List Value} {α : Type} {k : GenResult → Sem α} {Q : α → Shared → Prop} (hg : s.gens[g]? = some gs)
    (hgo : Goes1 M A R Y gs (s.setGen g .running))
    (hR : ∀ x s₁, R x s₁ → wpAny M A (k (End.ret x).result) Q E (s₁.setGen g .finished))
    (hY : ∀ v s₁ gs', gs'.bare = true → Y v s₁ gs' → wpAny M A (k (.yielded v)) Q E (s₁.setGen g gs')) :
    wpAny M A (.resume g (.send .none) l k) Q E s := by
  intro Γ p hΓ
  rw [Sem.wp_resume]
  have hB : ∀ c, (Γ.wake c p).Woken A := fun c => hΓ.wake c p
  have fin : ∀ e₁ s₁, StepEnd R Y e₁ s₁ → Sem.wp M Γ (k e₁.result) (fun a _ s' => Q a s') (fun e _ s' => E e s') p (s₁.setGen g e₁.genState) := by
    intro e₁ s₁ he
    cases e₁ with
    | ret x => exact hR x s₁ he Γ p hΓ
    | susp v g₀ l₀ k₀ c₀ p₀ fs₀ => exact hY v s₁ _ (End.bare_of_quiet he.1) he.2 Γ p hΓ
  have hqt : ∀ e₁ s₁, StepEnd R Y e₁ s₁ → e₁.quiet = true := by
    intro e₁ s₁ he
    cases e₁ with
    | ret x => rfl
    | susp v g₀ l₀ k₀ c₀ p₀ fs₀ => exact he.1
  cases gs with
  | fresh c =>
    obtain ⟨e₁, s₁, hr, he⟩ := hgo (Γ.wake c p) p rfl (hB c)
    exact ⟨_, _, by unfold Wakes; rw [hg]; exact ⟨e₁, s₁, hr, hqt e₁ s₁ he, rfl, rfl⟩, fin e₁ s₁ he⟩
  | suspended k₀ l₀ c₀ p₀ fs₀ cl =>
    obtain ⟨e₁, s₁, hr, he⟩ := hgo (Γ.wake c₀ p) p₀ rfl (hB c₀)
    exact ⟨_, _, by unfold Wakes; rw [hg]; exact ⟨e₁, s₁, hr, hqt e₁ s₁ he, rfl, rfl⟩, fin e₁ s₁ he⟩
  | running => exact hgo.elim
  | finished => exact hgo.elim
theorem next1 {P : Program} {w : World} {A : Around} {E : Value → Shared → Prop} {s : Shared} {a : Addr} {g : Nat} {gs : GenState} {F : Shared → Prop} {Y : YP} {Q : Option Value → Shared → Prop} (hh : A.handled = none)
    (hl : s.heap.NoLimit) (hroom : A.depth < recursionLimit) (hg : s.heap.IsGen a g) (hgs : s.gens[g]? = some gs)
    (hgo : Goes1 (model P w) A.in1 (fun r s₁ => (r = .ok (.ret .none) ∨ r = .ok .next) ∧ F s₁) Y gs (s.setGen g .running))
    (hY : ∀ v s₁ gs', gs'.bare = true → Y v s₁ gs' → Q (some v) (s₁.setGen g gs'))
    (hP : ∀ s₁, F s₁ → ∀ h', (∀ b o, s₁.heap.get? b = some o → h'.get? b = some o) → Q none { s₁.setGen g .finished with heap := h' }) :
    wpAny (model P w) A (pyNext (.ref a)) Q E s := by
  unfold pyNext
  refine wpAny_bind (wpAny_attempt (wpAny_callSpecial?_slot (name := Str.ofString "__next__") hg.typeIs slot_gen_next
    (wpAny_call_entry slot_gen_next hg.typeIs entry_gen_next ?_ (args_gen_next _))))
  show wpAny _ A.in1 (Builtin.Generator.genWake (.ref a) (.send .none)) _ _ s
  unfold Builtin.Generator.genWake
  refine wpAny_bind (wpAny_holding (wpAny_genNumber hg (wpAny_bind (wpAny_genState hgs ?_))))
  cases gs with
  | running => exact hgo.elim
  | finished => exact hgo.elim
  | _ =>
    refine wpAny_bind (wpAny_roomToWake hl hroom ?_)
    show wpAny _ A.in1 (.resume g (.send .none) [] _) _ _ s
    refine resume1 hgs hgo (fun x s₁ hx => ?_) (fun v s₁ gs' hb hv => ?_)
    · obtain ⟨hr, hp⟩ := hx
      have hres : End.result (.ret x) = .returned .none := by
        rcases hr with hr | hr <;> rw [hr] <;> rfl
      first | rw [hres] | simp only [hres]
      show wpAny _ A.in1 (newExc (.type "StopIteration") [] >>= _) _ _ _
      refine wpAny_bind ?_
      simp only [newExc, newTuple]
      refine wpAny_bind (wpAny_newObj_type ?_ (by size_fits))
      refine wpAny_bind (m := firstArgMember _ _) (wpAny_of_eq (a := Value.none) (by first | rfl | (simp only [firstArgMember]; rfl)) ?_)
      refine wpAny_newObj_type ?_ (by size_fits)
      simp only [raiseNew]
      refine wpAny_bind (wpAny_bind (wpAny_handled ?_))
      first | rw [show A.in1.handled = none from hh] | rw [hh]
      refine wpAny_throw ?_
      refine wpAny_bind (wpAny_isInstance (T := "StopIteration") (b := true) ⟨_, Heap.get?_push_size _ rfl, rfl⟩ isSubtype_stop ?_)
      exact wpAny_pure (hP s₁ hp _ fun b o hb => Heap.get?_push_of_some _ (Heap.get?_push_of_some _ hb))
    · exact wpAny_pure ⟨v, rfl, wpAny_pure (hY v s₁ gs' hb hv)⟩
end K32

/-! a generator def whose body ends in a loop of one yield; it sleeps while its consumer works -/
namespace K32
open PySem PySem.Spec PyProof.Rows L2 GenW
def cutHp (h : Heap) (n : Nat) : Heap := ⟨h.objs.extract 0 n, h.life⟩
theorem cut_lt {h : Heap} {n b : Nat} (hb : b < n) : (cutHp h n).get? b = h.get? b := by
  have e : (h.objs.extract 0 n)[b]? = h.objs[b]? := by
    rw [Array.getElem?_extract]
    have hm : (b < min n h.objs.size - 0) ↔ b < h.objs.size := by
      rw [Nat.sub_zero, Nat.lt_min]
      exact ⟨fun z => z.2, fun z => ⟨hb, z⟩⟩
    by_cases hs : b < h.objs.size
    · rw [if_pos (hm.mpr hs), Nat.zero_add]
    · rw [Array.getElem?_eq_none (Nat.le_of_not_lt hs), if_neg fun z => hs (hm.mp z)]
  show (match (h.objs.extract 0 n)[b]? with | some ⟨_, _, .freed, _⟩ => none | o => o) = (match h.objs[b]? with | some ⟨_, _, .freed, _⟩ => none | o => o)
  rw [e]
theorem cut_ge {h : Heap} {n b : Nat} (hb : n ≤ b) : (cutHp h n).get? b = none := by
  cases q : (cutHp h n).get? b with
  | none => rfl
  | some o =>
    have h1 := Heap.lt_size q
    have h2 : (cutHp h n).objs.size = min n h.objs.size - 0 := Array.size_extract
    rw [h2, Nat.sub_zero, Nat.lt_min] at h1
    exact absurd h1.1 (Nat.not_lt.mpr hb)
theorem cut_size {h : Heap} {n : Nat} (hn : n ≤ h.objs.size) : (cutHp h n).objs.size = n := by
  have h2 : (cutHp h n).objs.size = min n h.objs.size - 0 := Array.size_extract
  rw [h2, Nat.sub_zero, Nat.min_eq_left hn]
theorem of_cut {h : Heap} {n b : Nat} {o : Obj} (e : (cutHp h n).get? b = some o) : b < n ∧ h.get? b = some o := by
  by_cases hb : b < n
  · exact ⟨hb, by rw [cut_lt hb] at e; exact e⟩
  · rw [cut_ge (by omega)] at e; cases e
/-- a generator def's call -/
structure GD where
  prog : Program
  w : World
  K : PySem.W.Frag
  mg : Str → Option Value
  base : Heap
  N : List Str
  qual : Str
  scope : Scope
  f : Addr
  cd : Value
  A : Around
  outer : List Env
  n0 : Nat
abbrev GD.env (G : GD) : Env := envOfC G.qual G.scope G.n0 G.f G.cd
/-- woken at s -/
def GD.cx (G : GD) (s : Shared) (H : Hp) : Cx where
  prog := G.prog
  w := G.w
  K := G.K
  mg := G.mg
  base := G.base
  A := G.A.deeper G.env
  N := G.N
  s_0 := { s with heap := cutHp s.heap G.n0 }
  H_0 := H
  env := G.env
  outer := G.outer
  stack := G.env :: G.outer
  ex := []
  calm := true
  fn := fun _ => true
  pn := []
  xe := fun _ _ => False
structure GD.Ok (G : GD) : Prop where
  hd : G.A.handled = none
  kind : G.scope.kind = .function
  nocell : ∀ y ∈ G.scope.names, y.2 ≠ .cell ∧ y.2 ≠ .free
  cells : cellsFrom (G.n0 + 1) G.scope.names [] = []
  bsz : G.base.objs.size ≤ G.n0
  frlt : ∀ b ∈ frs G.outer, b < G.n0
/-- the frame's names -/
def Loc0 (G : GD) (σ : L2.St) (h : Heap) : Prop := ∃ m, h.Ns G.n0 m ∧ ∀ (i : Nat) (x : Str) (v : V), G.N[i]? = some x → σ[i]? = some (some v) → Vis G.env.scope x → ∃ u, RelV v u ∧ Look G.env h m x u
/-- as it is woken; fp: its own objects -/
structure Wk (G : GD) (fp : List Addr) (σ : L2.St) (s : Shared) (H : Hp) : Prop where
  e0 : Env0 G.prog G.w G.K G.mg G.base G.A G.outer s H
  loc : Loc0 G σ s.heap
  len : σ.length = G.N.length
  mem : G.n0 ∈ fp
  own : ∀ b ∈ fp, H b = none ∧ G.n0 ≤ b ∧ ∃ o, s.heap.get? b = some o ∧ ∀ v, o.data ≠ .cell v
def noCell (h : Heap) (b : Addr) : Bool := match h.get? b with
  | some ⟨_, _, .cell _, _⟩ => false
  | some _ => true
  | none => false
theorem noCell_of {h : Heap} {b : Addr} (x : noCell h b = true) : ∀ o, h.get? b = some o → ∀ v, o.data ≠ .cell v := fun o e v z => by
  unfold noCell at x
  rw [e] at x
  obtain ⟨c, d, dd, sl⟩ := o
  cases z
  cases x
theorem cell_of {h : Heap} {b : Addr} {o : Obj} (e : h.get? b = some o) (x : ¬ noCell h b = true) : ∃ v, h.IsCell b v := by
  unfold noCell at x
  rw [e] at x
  obtain ⟨c, d, dd, sl⟩ := o
  cases dd with
  | cell v => exact ⟨v, _, e, rfl⟩
  | _ => exact absurd rfl x
/-- what is not the generator's own and not tracked, younger than its call -/
def others (G : GD) (fp : List Addr) (H : Hp) (h : Heap) : List Addr := (List.range h.objs.size).filter fun b => decide (G.n0 ≤ b) && !(fp.contains b) && (H b).isNone && noCell h b
theorem mem_others {G : GD} {fp : List Addr} {H : Hp} {h : Heap} {b : Addr} : b ∈ others G fp H h ↔ b < h.objs.size ∧ G.n0 ≤ b ∧ b ∉ fp ∧ H b = none ∧ noCell h b = true := by
  unfold others
  rw [List.mem_filter, List.mem_range]
  simp only [Bool.and_eq_true, decide_eq_true_eq, Bool.not_eq_true', List.contains_eq_mem, decide_eq_false_iff_not, Option.isNone_iff_eq_none]
  constructor
  · rintro ⟨a, ⟨⟨b, c⟩, d⟩, e⟩; exact ⟨a, b, c, d, e⟩
  · rintro ⟨a, b, c, d, e⟩; exact ⟨a, ⟨⟨b, c⟩, d⟩, e⟩
theorem inv_wake {G : GD} (O : G.Ok) {fp : List Addr} {σ : L2.St} {s : Shared} {H : Hp} (W : Wk G fp σ s H) : Inv (G.cx s H) (pinsAt (others G fp H s.heap) s.heap) σ H s := by
  obtain ⟨e0, loc, len, mem, own⟩ := W
  obtain ⟨on, _, o0, h0, d0⟩ := own _ mem
  have nsz : G.n0 ≤ s.heap.objs.size := Nat.le_of_lt (Heap.lt_size h0)
  have noc : ∀ x c, G.env.cells.lookup x = some c → False := fun x c h => by
    have h : (cellsFrom (G.n0 + 1) G.scope.names []).lookup x = some c := h
    rw [O.cells] at h
    cases h
  refine ⟨⟨e0.mod, O.kind, rfl, rfl, ?_, fun y z c h1 h2 => (noc _ _ h1).elim, fun y hy => ?_, fun y c _ h => (noc _ _ h).elim, fun _ => O.hd, Around.frames_deeper e0.frames, .inr ⟨rfl, rfl⟩, fun b z => (by cases z), fun b o e => ?_, ?_, fun b _ _ z => (by cases z), fun b z => (by cases z), ?_, e0.frf⟩,
    rfl, e0.bare, ?_, loc, fun y c h => (noc _ _ h).elim, on, fun y c h => (noc _ _ h).elim, fun p hp => ?_, e0.hok, len⟩
  · show (cutHp s.heap G.n0).objs.size ≤ G.n0
    rw [cut_size nsz]
    exact Nat.le_refl _
  · have hy : G.scope.names.lookup y = some .cell ∨ G.scope.names.lookup y = some .free := hy
    rcases hy with hy | hy
    · exact absurd rfl (O.nocell _ (PySem.mem_of_lookup hy)).1
    · exact absurd rfl (O.nocell _ (PySem.mem_of_lookup hy)).2
  · obtain ⟨q1, q2⟩ := e0.bs b o e
    exact ⟨by show (cutHp s.heap G.n0).get? b = some o; rw [cut_lt (Nat.lt_of_lt_of_le (Heap.lt_size e) O.bsz)]; exact q1, q2⟩
  · show G.base.objs.size ≤ (cutHp s.heap G.n0).objs.size
    rw [cut_size nsz]
    exact O.bsz
  · have all : ∀ (l : List Env), (∀ b ∈ frs l, b < G.n0) → s.heap.FunFrames G.base l → (cutHp s.heap G.n0).FunFrames G.base l := by
      intro l
      induction l with
      | nil => intro _ _; trivial
      | cons env r ih =>
        intro q z
        obtain ⟨hk, ⟨L, o, hf, hn, ho, hd⟩, hr⟩ := z
        have hl : L ∈ frs (env :: r) := List.mem_filterMap.mpr ⟨env, List.mem_cons_self, hf⟩
        refine ⟨hk, ⟨L, o, hf, hn, by rw [cut_lt (q _ hl)]; exact ho, hd⟩, ih (fun b hb => q b ?_) hr⟩
        obtain ⟨e1, m1, m2⟩ := List.mem_filterMap.mp hb
        exact List.mem_filterMap.mpr ⟨e1, List.mem_cons_of_mem _ m1, m2⟩
    exact all _ O.frlt e0.funs
  · refine ⟨fun b o e _ _ _ => (of_cut e).2, fun b o e _ _ _ => ⟨o.slots, (of_cut e).2⟩, fun b o e n _ => n, fun b o e _ => ⟨o, (of_cut e).2⟩, fun _ _ q => q, fun _ _ _ q => q, fun _ ps q => ⟨#[], by rw [show H _ = _ from q]; simp⟩⟩
  · have hp : p ∈ pinsAt (others G fp H s.heap) s.heap := hp
    obtain ⟨hb, e⟩ := of_pinsAt hp
    obtain ⟨_, h2, h3, h4, h5⟩ := mem_others.mp hb
    refine ⟨e, h4, fun z => h3 (by rw [show p.1 = G.n0 from z]; exact mem), fun z => absurd (O.frlt _ z) (Nat.not_lt.mpr h2), noCell_of h5 _ e⟩
/-- what a step of it changed -/
structure Post (G : GD) (fp : List Addr) (s : Shared) (H : Hp) (s' : Shared) (H' : Hp) : Prop where
  os : s'.os = s.os
  bare : AllBare s'.gens
  hok : HOk G.prog G.w H' s'.heap
  un : ∃ ch, (∀ b ∈ ch, b ∈ fp ∨ (G.n0 ≤ b ∧ H b = none ∧ ∃ v, s.heap.IsCell b v)) ∧ Un (frs G.outer) ch H H' s.heap s'.heap
theorem ok_at {P : Program} {w : World} {H : Hp} {h : Heap} {a : Addr} {o : HO} (x : ObjOk P w H h a o) : ∃ u, h.get? a = some u := by
  cases o with
  | lst xs => obtain ⟨_, _, _, _, e⟩ := x; exact ⟨_, e⟩
  | tup xs => obtain ⟨_, _, _, u, e, _⟩ := x; exact ⟨u, e⟩
  | dK kvs => obtain ⟨_, _, _, _, o, _, _, e, _⟩ := x; exact ⟨_, e⟩
  | dT kvs => obtain ⟨_, _, _, _, o, _, _, e, _⟩ := x; exact ⟨_, e⟩
  | set S n => obtain ⟨o, _, _, _, e, _⟩ := x; exact ⟨_, e⟩
  | ins C dx fs => obtain ⟨_, _, _, e, _⟩ := x; exact ⟨_, e⟩
  | own y => exact x
  | xd fs => obtain ⟨_, ⟨_, _, _, e, _⟩, _⟩ := x; exact ⟨_, e⟩
  | rng lo hi => obtain ⟨_, _, _, e⟩ := x; exact ⟨_, e⟩
  | frz ob u => exact ⟨_, x.1⟩
  | tbl ps => exact ⟨_, x⟩
  | met f y => exact ⟨_, x⟩
  | ext φ => exact x.2.1
theorem post_of {G : GD} (O : G.Ok) {fp : List Addr} {σ σ' : L2.St} {s s' : Shared} {H H' : Hp} (W : Wk G fp σ s H) (I : Inv (G.cx s H) (pinsAt (others G fp H s.heap) s.heap) σ' H' s') (sm : Same H H') : Post G fp s H s' H' := by
  have hpin : ∀ b o, s.heap.get? b = some o → H b = none → G.n0 ≤ b → b ∉ fp → noCell s.heap b = true → s'.heap.get? b = some o ∧ H' b = none := fun b o e n h1 h2 h3 => by
    have hm : (b, o) ∈ pinsAt (others G fp H s.heap) s.heap := mem_pinsAt (mem_others.mpr ⟨Heap.lt_size e, h1, h2, n, h3⟩) e
    obtain ⟨q1, q2, _⟩ := I.pin (b, o) (List.mem_append_right _ hm)
    exact ⟨q1, q2⟩
  have hch : ∀ b o, s.heap.get? b = some o → H b = none → G.n0 ≤ b → b ∉ fp → b ∉ ((List.range s.heap.objs.size).filter fun b => decide (G.n0 ≤ b) && (H b).isNone && (s.heap.get? b).isSome && !(noCell s.heap b)) → noCell s.heap b = true := fun b o e n h1 h2 h3 => by
    cases q : noCell s.heap b with
    | true => rfl
    | false => exact absurd (List.mem_filter.mpr ⟨List.mem_range.mpr (Heap.lt_size e), by simp [h1, n, q, e]⟩) h3
  have hlow : ∀ b o, s.heap.get? b = some o → b < G.n0 → (cutHp s.heap G.n0).get? b = some o := fun b o e hb => by rw [cut_lt hb]; exact e
  have nx : ∀ b : Addr, b ∉ (G.cx s H).ex := fun b z => by cases z
  refine ⟨I.os, I.bare, I.hok, fp ++ ((List.range s.heap.objs.size).filter fun b => decide (G.n0 ≤ b) && (H b).isNone && (s.heap.get? b).isSome && !(noCell s.heap b)), fun b hb => ?_, ⟨fun b o e n hf hc => ?_, fun b o e n hf hc => ?_, fun b o e n hc => ?_, fun b o e hc => ?_, fun b xs q => sm b _ q, fun b o u q => sm b _ q, fun b ps q => ⟨#[], by rw [sm b _ q, Array.append_empty]⟩⟩⟩
  · rcases List.mem_append.mp hb with hb | hb
    · exact .inl hb
    · obtain ⟨h1, h2⟩ := List.mem_filter.mp hb
      simp only [Bool.and_eq_true, decide_eq_true_eq, Bool.not_eq_true', Option.isNone_iff_eq_none] at h2
      obtain ⟨⟨⟨h2, h3⟩, h5⟩, h4⟩ := h2
      cases e : s.heap.get? b with
      | none => rw [e] at h5; cases h5
      | some o => exact .inr ⟨h2, h3, cell_of e (by rw [h4]; exact Bool.false_ne_true)⟩
  · by_cases hb : b < G.n0
    · exact I.base.keep b o (hlow b o e hb) n hf (nx b)
    · have hb := Nat.le_of_not_lt hb
      have hc1 : b ∉ fp := fun z => hc (List.mem_append_left _ z)
      exact (hpin b o e n hb hc1 (hch b o e n hb hc1 fun z => hc (List.mem_append_right _ z))).1
  · have hb : b < G.n0 := O.frlt b hf
    exact I.base.slot b o (hlow b o e hb) n hf (nx b)
  · by_cases hb : b < G.n0
    · exact I.base.free b o (hlow b o e hb) n (nx b)
    · have hb := Nat.le_of_not_lt hb
      have hc1 : b ∉ fp := fun z => hc (List.mem_append_left _ z)
      exact (hpin b o e n hb hc1 (hch b o e n hb hc1 fun z => hc (List.mem_append_right _ z))).2
  · cases q : H b with
    | some u =>
      exact ok_at (I.hok b u (sm b u q))
    | none =>
      by_cases hb : b < G.n0
      · exact I.base.there b o (hlow b o e hb) (nx b)
      · have hb := Nat.le_of_not_lt hb
        have hc1 : b ∉ fp := fun z => hc (List.mem_append_left _ z)
        exact ⟨o, (hpin b o e q hb hc1 (hch b o e q hb hc1 fun z => hc (List.mem_append_right _ z))).1⟩
/-- its own objects behind a step -/
def Own (G : GD) (fp1 fp : List Addr) (s s1 : Shared) (H1 : Hp) : Prop :=
  ∀ b ∈ fp1, (b ∈ fp ∨ (G.n0 ≤ b ∧ (s.heap.get? b = none ∨ ∃ v, s.heap.IsCell b v))) ∧ H1 b = none ∧ ∃ o, s1.heap.get? b = some o ∧ ∀ v, o.data ≠ .cell v
/-- it slept from s1 to s2 -/
structure Back (G : GD) (fp : List Addr) (s1 s2 : Shared) (H2 : Hp) : Prop where
  e0 : Env0 G.prog G.w G.K G.mg G.base G.A G.outer s2 H2
  same : ∀ b ∈ fp, ∀ o, s1.heap.get? b = some o → s2.heap.get? b = some o
  non : ∀ b ∈ fp, H2 b = none
section
variable {α : Type}
def Rf (G : GD) (fp : List Addr) : List α → Shared → Hp → Shared → Prop
  | [], s, H => fun s1 => ∃ H1, Post G fp s H s1 H1 ∧ Same H H1
  | _ :: _, _, _ => fun _ => False
abbrev Rn (G : GD) (fp : List Addr) (zs : List α) (s : Shared) (H : Hp) : RP := fun r s1 => (r = .ok (.ret .none) ∨ r = .ok .next) ∧ Rf G fp zs s H s1
/-- what it hands out; F: what its consumer changes while it sleeps -/
def Yn (G : GD) (F : Addr) (Item : α → V → Hp → Prop) : List α → List Addr → Shared → Hp → YP
  | [], _, _, _ => fun _ _ _ => False
  | z :: zs, fp, s, H => fun v s1 gs => ∃ x H1 fp1, RelV x v ∧ Post G fp s H s1 H1 ∧ Same H H1 ∧ Item z x H1 ∧ Own G fp1 fp s s1 H1 ∧ (∃ k l c p fs, gs = .suspended k l c p fs false) ∧
      ∀ s2 H2, Back G fp1 s1 s2 H2 → SameX F H1 H2 → Goes1 (model G.prog G.w) G.A (Rn G fp1 zs s2 H2) (Yn G F Item zs fp1 s2 H2) gs s2
theorem own_fp {G : GD} (O : G.Ok) {fp : List Addr} {σ : L2.St} {s : Shared} {H H1 : Hp} (W : Wk G fp σ s H) (sm : Same H H1) {b : Addr} (f : FpOk (G.cx s H) (pinsAt (others G fp H s.heap) s.heap) H1 b) :
    b ∈ fp ∨ (G.n0 ≤ b ∧ (s.heap.get? b = none ∨ ∃ v, s.heap.IsCell b v)) := by
  obtain ⟨f0, f1, f2, f3, f4, f5⟩ := f
  have hn : G.n0 ≤ b := by
    rcases f3 with z | z
    · cases z
    · have z : (cutHp s.heap G.n0).objs.size ≤ b := z
      obtain ⟨_, _, o0, h0, _⟩ := W.own _ W.mem
      rwa [cut_size (Nat.le_of_lt (Heap.lt_size h0))] at z
  by_cases hb : b ∈ fp
  · exact .inl hb
  · refine .inr ⟨hn, ?_⟩
    cases e : s.heap.get? b with
    | none => exact .inl rfl
    | some o =>
      by_cases hc : noCell s.heap b = true
      · have hH : H b = none := by
          cases q : H b with
          | none => rfl
          | some u => rw [sm b u q] at f0; cases f0
        exact absurd rfl (f5 (b, o) (List.mem_append_right _ (mem_pinsAt (mem_others.mpr ⟨Heap.lt_size e, hn, hb, hH, hc⟩) e)))
      · exact .inr (cell_of e hc)
variable {G : GD} {F : Addr} {Item : α → V → Hp → Prop} {tg e : Expr} {yp ep : Pos} {J : It} {itx : Addr} {fpi : List Addr} {tn : Nat → Heap → Prop} {g : TG} {te : TE} {fs : List Frame} {Wz : List α → Nat → L2.St → Hp → Prop}
theorem loop_steps (O : G.Ok) (T : Turn G.prog G.w G.K tg J fpi itx tn) (hg : ∀ s H, PG (G.cx s H) tg g) (he : ∀ s H, PE (G.cx s H) e te) (hW0 : ∀ i σ H, Wz [] i σ H → J.stop i H)
    (hW1 : ∀ z zs i σ H, Wz (z :: zs) i σ H → J.go i H ∧ ∀ x H', J.yld i H x H' → g x σ H' fun σ2 H2 => te σ2 H2 fun v H3 => Same H H3 ∧ Item z v H3 ∧ ∀ H4, SameX F H3 H4 → Wz zs (i + 1) σ2 H4)
    (hov : G.A.over (.forLoop tg (.ref itx) [.Expr (.Yield (some e) yp) ep] [] G.env) fs = G.A.deeper G.env) (hsp : splitAtGen fs = none) (hgd : fs.any Frame.guarded = false)
    (hend : ∀ (R : RP) (Y : YP) (s : Shared), R (.ok (.ret .none)) s → Go (model G.prog G.w) G.A R Y (.block [] G.env) ((model G.prog G.w).den (.block [] G.env)) fs s)
    (hco : G.env.scope.isCoroutine = false) (hi : interactive G.env = false) (hn0 : G.n0 ∉ fpi) :
    ∀ (zs : List α) (i : Nat) (fp0 : List Addr) (σ0 σ : L2.St) (s0 s : Shared) (H0 H : Hp), Wk G fp0 σ0 s0 H0 → Inv (G.cx s0 H0) (pinsAt (others G fp0 H0 s0.heap) s0.heap) σ H s → Same H0 H →
      (∀ b ∈ fpi, FpOk (G.cx s0 H0) (pinsAt (others G fp0 H0 s0.heap) s0.heap) H b) → tn i s.heap → Wz zs i σ H →
      Go (model G.prog G.w) G.A (Rn G fp0 zs s0 H0) (Yn G F Item zs fp0 s0 H0) (.forLoop tg (.ref itx) [.Expr (.Yield (some e) yp) ep] [] G.env) ((model G.prog G.w).den (.forLoop tg (.ref itx) [.Expr (.Yield (some e) yp) ep] [] G.env)) fs s := by
  intro zs
  induction zs with
  | nil =>
    intro i fp0 σ0 σ s0 s H0 H W I sm hf st hw
    refine go_forLoop ?_
    rw [hov]
    refine thn (T.done (G.cx s0 H0) rfl rfl rfl rfl i _ s σ H _ I hf st (hW0 i σ H hw)) fun r s4 ⟨hr, I4⟩ => ?_
    subst hr
    exact go_again rfl (hend _ _ _ ⟨.inl rfl, H, post_of O W I4 sm, sm⟩)
  | cons z zs ih =>
    intro i fp0 σ0 σ s0 s H0 H W I sm hf st hw
    obtain ⟨go, step⟩ := hW1 z zs i σ H hw
    refine go_forLoop ?_
    rw [hov]
    have stat : ∀ {H' : Hp}, (∀ b ∈ fpi, H' b = none) → ∀ b ∈ fpi, FpOk (G.cx s0 H0) (pinsAt (others G fp0 H0 s0.heap) s0.heap) H' b := fun hn b hb => ⟨hn b hb, (hf b hb).2⟩
    refine thn (T.item (G.cx s0 H0) rfl rfl rfl rfl i _ s σ H _ I hf st go) fun r s4 ⟨u, hr, h4⟩ => ?_
    subst hr
    refine thn h4 fun _ s5 ⟨x, H5, I5, r5, y5, st5, fr5⟩ => ?_
    have I5' := I5.pinned (stat fr5) (T.obj _ _ st5)
    refine thn ((hg s0 H0).run _ s5 σ H5 x u _ I5' r5 (step x H5 y5)) fun _ s6 ⟨σ6, H6, I6, q6⟩ => ?_
    intro JJ KK hK
    refine go_execs_cons ?_
    refine go_Yield hsp rfl hgd ?_ hco hi
    rw [hov]
    refine wpAny_mono ((he s0 H0).run _ s6 σ6 H6 _ I6 q6) (fun v s7 ⟨x7, H7, I7, r7, sm7, it7, st7⟩ => ?_) fun _ _ q => q.elim
    intro gs hbare hgs
    have sm' : Same H0 H7 := sm.trans sm7
    have I7u : Inv (G.cx s0 H0) (pinsAt (others G fp0 H0 s0.heap) s0.heap) σ6 H7 s7 := I7.unpinned
    have hpin : ∀ b ∈ fpi, ∀ o, s5.heap.get? b = some o → s7.heap.get? b = some o ∧ H7 b = none := fun b hb o eo => by
      obtain ⟨q1, q2, _⟩ := I7.pin (b, o) (List.mem_append_right _ (List.mem_append_right _ (mem_pinsAt hb eo)))
      exact ⟨q1, q2⟩
    have tn7 : tn (i + 1) s7.heap := T.keep _ _ _ st5 fun b hb o eo => (hpin b hb o eo).1
    have fr7 : ∀ b ∈ fpi, H7 b = none := fun b hb => by
      obtain ⟨o, eo, _⟩ := T.obj _ _ st5 b hb
      exact (hpin b hb o eo).2
    have own7 : ∀ b ∈ G.n0 :: fpi, H7 b = none ∧ G.n0 ≤ b ∧ ∃ o, s7.heap.get? b = some o ∧ ∀ v, o.data ≠ .cell v := fun b hb => by
      rcases List.mem_cons.mp hb with rfl | hb
      · obtain ⟨m, ⟨o, es, epp, ho, hd, _⟩, _⟩ := I7.loc
        exact ⟨I7.free, Nat.le_refl _, o, ho, fun v q => by rw [hd] at q; cases q⟩
      · refine ⟨fr7 b hb, ?_, T.obj _ _ tn7 b hb⟩
        obtain ⟨_, _, _, f3, _⟩ := hf b hb
        rcases f3 with q | q
        · cases q
        · have q : (cutHp s0.heap G.n0).objs.size ≤ b := q
          obtain ⟨_, _, o0, h0, _⟩ := W.own _ W.mem
          rwa [cut_size (Nat.le_of_lt (Heap.lt_size h0))] at q
    obtain ⟨k, l, p, rfl, hgo⟩ := hgs
    refine ⟨x7, H7, G.n0 :: fpi, r7, post_of O W I7u sm', sm', it7, fun b hb => ⟨?_, (own7 b hb).1, (own7 b hb).2.2⟩, ⟨_, _, _, _, _, rfl⟩, fun s2 H2 B SX => ?_⟩
    · rcases List.mem_cons.mp hb with rfl | hb
      · exact .inl W.mem
      · exact own_fp O W sm (hf b hb)
    · refine hgo _ _ _ s2 (go_execs_nil ?_)
      rw [hK]
      have W2 : Wk G (G.n0 :: fpi) σ6 s2 H2 := by
        refine ⟨B.e0, ?_, I7.len, List.mem_cons_self, fun b hb => ?_⟩
        · obtain ⟨m, ⟨o, es, epp, ho, hd, hr1⟩, hl⟩ := I7.loc
          refine ⟨m, ⟨o, es, epp, B.same _ List.mem_cons_self o ho, hd, hr1⟩, fun j y v h1 h2 h3 => ?_⟩
          obtain ⟨u', ru, lk⟩ := hl j y v h1 h2 h3
          refine ⟨u', ru, lk.elim .inl fun ⟨_, c, hc, _⟩ => ?_⟩
          have hc : (cellsFrom (G.n0 + 1) G.scope.names []).lookup y = some c := hc
          rw [O.cells] at hc
          cases hc
        · obtain ⟨_, q2, o, q3, q4⟩ := own7 b hb
          exact ⟨B.non b hb, q2, o, B.same b hb o q3, q4⟩
      refine go_again rfl (ih (i + 1) (G.n0 :: fpi) σ6 σ6 s2 s2 H2 H2 W2 (inv_wake O W2) (Same.refl _) (fun b hb => ?_) (T.keep _ _ _ tn7 fun b hb o eo => B.same b (List.mem_cons_of_mem _ hb) o eo) (st7 H2 SX))
      obtain ⟨_, q2, o, q3, q4⟩ := own7 b (List.mem_cons_of_mem _ hb)
      refine ⟨B.non b (List.mem_cons_of_mem _ hb), fun z => hn0 (by rw [← show b = G.n0 from z]; exact hb), fun z => absurd (O.frlt _ z) (Nat.not_lt.mpr q2), .inr ?_, fun y c hc => ?_, fun pp hp z => ?_⟩
      · show (cutHp s2.heap G.n0).objs.size ≤ b
        obtain ⟨_, _, o0, h0, _⟩ := W2.own _ W2.mem
        rw [cut_size (Nat.le_of_lt (Heap.lt_size h0))]
        exact q2
      · have hc : (cellsFrom (G.n0 + 1) G.scope.names []).lookup y = some c := hc
        rw [O.cells] at hc
        cases hc
      · have hp : pp ∈ pinsAt (others G (G.n0 :: fpi) H2 s2.heap) s2.heap := hp
        obtain ⟨hm, _⟩ := of_pinsAt hp
        obtain ⟨_, _, h3, _⟩ := mem_others.mp hm
        exact h3 (by rw [z]; exact List.mem_cons_of_mem _ hb)
/-- it begins: two statements, then the loop -/
theorem gen_fresh (O : G.Ok) {st1 st2 : Stmt} {t1 t2 : TS} {iter : Expr} {wi : TI} {lp : Pos} (h1 : ∀ s H, PS (G.cx s H) st1 t1) (h2 : ∀ s H, PS (G.cx s H) st2 t2) (hit : ∀ s H, PI (G.cx s H) tg iter wi) (hg : ∀ s H, PG (G.cx s H) tg g) (he : ∀ s H, PE (G.cx s H) e te)
    (hco : G.env.scope.isCoroutine = false) (hi : interactive G.env = false) (hfs : ∀ x, foldedSetIterable iter G.env x = pure x)
    {fp : List Addr} {σ : L2.St} {s : Shared} {H : Hp} (W : Wk G fp σ s H) {zs : List α}
    (hq : t1 { nx := fun σ1 H1 => t2 { nx := fun σ2 H2 => wi σ2 H2 fun J H3 => Same H H3 ∧ ∃ Wz : List α → Nat → L2.St → Hp → Prop, (∀ i σ H, Wz [] i σ H → J.stop i H) ∧
        (∀ z zs i σ H, Wz (z :: zs) i σ H → J.go i H ∧ ∀ x H', J.yld i H x H' → g x σ H' fun σ2 H2 => te σ2 H2 fun v H3 => Same H H3 ∧ Item z v H3 ∧ ∀ H4, SameX F H3 H4 → Wz zs (i + 1) σ2 H4) ∧ Wz zs 0 σ2 H3, rt := fun _ _ => False } σ1 H1, rt := fun _ _ => False } σ H) :
    Goes1 (model G.prog G.w) G.A (Rn G fp zs s H) (Yn G F Item zs fp s H) (.fresh (.func [st1, st2, .For tg iter [.Expr (.Yield (some e) yp) ep] [] lp] G.env)) s := by
  show Go _ _ _ _ _ _ [] s
  refine go_func ?_
  refine go_execs_cons ?_
  refine go_wrap ?_
  rw [over_func]
  refine wpAny_mono ((h1 s H).run _ s σ H _ (inv_wake O W) hq) (fun f1 s1 q1 => ?_) fun _ _ z => z.elim
  cases f1 with
  | brk => obtain ⟨_, _, _, q⟩ := q1; exact False.elim q
  | cont => obtain ⟨_, _, _, q⟩ := q1; exact False.elim q
  | ret u => obtain ⟨_, _, _, _, _, q⟩ := q1; exact False.elim q
  | next =>
  obtain ⟨σ1, H1, I1, q1⟩ := q1
  refine go_execs_cons ?_
  refine go_wrap ?_
  rw [over_func]
  refine wpAny_mono ((h2 s H).run _ s1 σ1 H1 _ I1 q1) (fun f2 s2 q2 => ?_) fun _ _ z => z.elim
  cases f2 with
  | brk => obtain ⟨_, _, _, q⟩ := q2; exact False.elim q
  | cont => obtain ⟨_, _, _, q⟩ := q2; exact False.elim q
  | ret u => obtain ⟨_, _, _, _, _, q⟩ := q2; exact False.elim q
  | next =>
  obtain ⟨σ2, H2, I2, q2⟩ := q2
  refine go_execs_cons ?_
  refine go_For ?_ hfs
  rw [over_func]
  refine wpAny_mono ((hit s H).run _ s2 σ2 H2 _ I2 q2) (fun v s3 q3 => ?_) fun _ _ z => z.elim
  refine wpAny_mono q3 (fun itv s4 q4 => ?_) fun _ _ z => z.elim
  obtain ⟨it, fpi, tn, J, H3, rfl, I3, T, st, ff, sm, Wz, w0, w1, w⟩ := q4
  intro l' p
  refine loop_steps O T hg he w0 w1 ((over_loop rfl rfl).trans over_func) rfl rfl (fun R Y s' hR => ?_) hco hi (fun z => ?_) zs 0 fp σ σ2 s s4 H H3 W I3 sm ff st w
  · show Go _ _ _ _ _ (leafOf (.ok .next)) _ _
    refine go_leaf (.ok .next) ?_
    exact go_end (.ok (.ret .none)) hR
  · obtain ⟨_, f1, _⟩ := ff _ z
    exact f1 rfl
end
end K32

/-! the call of such a def, and the loop over what it gives -/
namespace K32
open PySem PySem.Spec PyProof.Rows L2 GenW
section
variable {α : Type}
/-- a generator that has not begun -/
def MadeG (P : Program) (w : World) (K : PySem.W.Frag) (mg : Str → Option Value) (base : Heap) (k : Nat) (outer : List Env) (s : Shared) (H : Hp) (zs : List α) (F : Addr) (Item : α → V → Hp → Prop) (u : Value) (s' : Shared) : Prop :=
  ∃ (a : Addr) (g : Nat) (c : Code), u = .ref a ∧ s.heap.objs.size < a ∧ s'.heap.IsGen a g ∧ s'.gens[g]? = some (.fresh c) ∧ s'.os = s.os ∧ AllBare s'.gens ∧ (∀ b o, s.heap.get? b = some o → s'.heap.get? b = some o) ∧
    (∃ o, s'.heap.get? s.heap.objs.size = some o ∧ ∀ v, o.data ≠ .cell v) ∧
    ∀ A', Room k A' → ∃ G : GD, G.Ok ∧ G.prog = P ∧ G.w = w ∧ G.K = K ∧ G.mg = mg ∧ G.base = base ∧ G.outer = outer ∧ G.A = A' ∧ G.n0 = s.heap.objs.size ∧
      ∀ s2, Back G [G.n0] s' s2 H → Goes1 (model P w) A' (Rn G [G.n0] zs s2 H) (Yn G F Item zs [G.n0] s2 H) (.fresh c) s2
def GenM (P : Program) (w : World) (K : PySem.W.Frag) (mg : Str → Option Value) (base : Heap) (k : Nat) (f : Addr) (pre : Hp → List V → List α → Addr → Prop) (Item : α → V → Hp → Prop) : Prop :=
  ∀ (A : Around) (outer : List Env) (s : Shared) (H : Hp) (us : List Value) (vs : List V) (zs : List α) (F : Addr), Room k A → Env0 P w K mg base A outer s H → Vals vs us → pre H vs zs F →
    codeAny (model P w) A (.call (.ref f) ⟨us, []⟩) (fun r s' => match r with | .ok (.ret u) => MadeG P w K mg base k outer s H zs F Item u s' | _ => False) s
theorem genM_of {P : Program} {w : World} {K : PySem.W.Frag} {mg : Str → Option Value} {base : Heap} {k : Nat} {f : Addr} {m qual : Str} {st : Stmt} {fd : FuncData} {kws : List (Str × V)} {N ps : List Str} {pre : Hp → List V → List α → Addr → Prop} {Item : α → V → Hp → Prop}
    (Fd : FunD K m qual (defArgs st) (defBody st) (defScope st) [] kws f fd) (S : GScope N ps (defScope st)) (hb : ∀ (kV doc pm : Value) (an : Option Addr) (cdv ct : Value) (us : List Value), us.length = ps.length → bindArgs (PySem.W.fnOf m qual (defArgs st) (defBody st) (defScope st) .none kV doc pm an cdv ct) ⟨us, []⟩ = pure (ps.zip us))
    (nocell : ∀ y ∈ (defScope st).names, y.2 ≠ .cell ∧ y.2 ≠ .free) (cells : ∀ n, cellsFrom n (defScope st).names [] = []) (hlen : ∀ H vs zs F, pre H vs zs F → vs.length = ps.length)
    (hbody : ∀ (cdv : Value) (A : Around) (outer : List Env) (n0 : Nat) (s : Shared) (H : Hp) (vs : List V) (zs : List α) (F : Addr), GD.Ok ⟨P, w, K, mg, base, N, qual, defScope st, f, cdv, A, outer, n0⟩ → Room k (A.deeper (envOfC qual (defScope st) n0 f cdv)) →
      Wk ⟨P, w, K, mg, base, N, qual, defScope st, f, cdv, A, outer, n0⟩ [n0] (start N vs) s H → pre H vs zs F →
      Goes1 (model P w) A (Rn ⟨P, w, K, mg, base, N, qual, defScope st, f, cdv, A, outer, n0⟩ [n0] zs s H) (Yn ⟨P, w, K, mg, base, N, qual, defScope st, f, cdv, A, outer, n0⟩ F Item zs [n0] s H) (.fresh (.func (defBody st) (envOfC qual (defScope st) n0 f cdv))) s) :
    GenM P w K mg base (k + 1) f pre Item := by
  intro A outer s H us vs zs F hr e0 r hp
  obtain ⟨oc, od, dV, kV, doc, pm, an, cdv, ct, osl, rfl, lk, hcd, hD, _⟩ := Fd.ex
  have hdn : dV = .none := by
    rcases hD with ⟨_, e⟩ | ⟨z, _⟩
    · exact e
    · exact absurd rfl z
  subst hdn
  have KX : K.In s.heap := e0.mod.kin.keeps fun b o e => (e0.bs b o e).1
  have lim : s.heap.NoLimit := e0.mod.nolimit.keeps fun b o e => (e0.bs b o e).1
  have hl := hlen _ _ _ _ hp
  have hkind : ∀ y ∈ ps.zip us, (defScope st).names.lookup y.1 = some .local ∨ ((defScope st).names.lookup y.1 = some .cell ∧ ((cellsFrom (s.heap.objs.size + 1) (defScope st).names []).lookup y.1).isSome = true) := fun ⟨n, v⟩ hy => by
    rcases S.par n (List.of_mem_zip hy).1 with q | q
    · exact .inl q
    · exact .inr ⟨q, PySem.W.cellsFrom_some _ _ _ (.inl q)⟩
  refine codeAny_call_generator hr.depth (KX _ _ lk) rfl S.co S.gen rfl (PySem.W.codeRec_of KX hcd) ?_
  rw [hb kV doc pm an cdv ct us (by rw [← r.length]; exact hl)]
  refine wpAny_pure (wpAny_newFunctionEnv_cells S.kind hkind fun env he s1 x => ?_)
  subst he
  have lim1 : s1.heap.NoLimit := lim.keeps x.toInCall.keep
  refine ⟨lim1, ?_⟩
  obtain ⟨h1, tk, es1, hk1⟩ := x.done
  have os1 : s1.os = s.os := by rw [es1]
  have gen1 : s1.gens = s.gens := by rw [es1]
  have kp1 : ∀ b o, s.heap.get? b = some o → s1.heap.get? b = some o := x.toInCall.keep
  obtain ⟨of, es, ep, hof, hfd, hfr⟩ := x.toInCall.ns
  have hlt : s.heap.objs.size < s1.heap.objs.size := Heap.lt_size hof
  refine ⟨s1.heap.objs.size, s1.gens.size, _, rfl, hlt, ⟨_, _, _, Heap.get?_push_size _ rfl, rfl, rfl, rfl⟩, Array.getElem?_push_size .., os1, AllBare.push (by rw [gen1]; exact e0.bare) rfl, fun b o e => Heap.get?_push_of_some _ (kp1 b o e),
    ⟨of, Heap.get?_push_of_some _ hof, fun v q => by rw [hfd] at q; cases q⟩, fun A' hr' => ⟨⟨P, w, K, mg, base, N, qual, defScope st, f, cdv, A', outer, s.heap.objs.size⟩, ?_, rfl, rfl, rfl, rfl, rfl, rfl, rfl, rfl, fun s2 B => ?_⟩⟩
  · exact ⟨hr'.hd, S.kind, nocell, cells _, e0.bsz, fun b hb => let ⟨_, o, ho, _⟩ := e0.funs.mem hb; Heap.lt_size ho⟩
  · have O : GD.Ok ⟨P, w, K, mg, base, N, qual, defScope st, f, cdv, A', outer, s.heap.objs.size⟩ := ⟨hr'.hd, S.kind, nocell, cells _, e0.bsz, fun b hb => let ⟨_, o, ho, _⟩ := e0.funs.mem hb; Heap.lt_size ho⟩
    refine hbody cdv A' outer s.heap.objs.size s2 H vs zs F O (hr'.deeper _) ⟨B.e0, ?_, ?_, List.mem_singleton.mpr rfl, fun b hb => ?_⟩ hp
    · have hof2 : s2.heap.get? s.heap.objs.size = some of := B.same _ (List.mem_singleton.mpr rfl) of (Heap.get?_push_of_some _ hof)
      refine ⟨_, ⟨of, es, ep, hof2, hfd, hfr⟩, fun i y v h1 h2 h3 => ?_⟩
      have hi : i < vs.length := by
        unfold L2.start at h2
        by_cases hi : i < vs.length
        · exact hi
        · rw [List.getElem?_append_right (by simpa using hi)] at h2
          rw [List.getElem?_replicate] at h2
          split at h2 <;> cases h2
      have ha : vs[i]? = some v := by
        unfold L2.start at h2
        rw [List.getElem?_append_left (by simpa using hi), List.getElem?_map] at h2
        cases e : vs[i]? with
        | none => rw [e] at h2; cases h2
        | some a => rw [e] at h2; cases h2; rfl
      obtain ⟨u, hu, rv⟩ := r.get ha
      have hpp : ps[i]? = some y := by
        rw [← S.pre, List.getElem?_take_of_lt (by omega)]; exact h1
      have ndP : ps.Nodup := by rw [← S.pre]; exact S.nd.sublist (List.take_sublist _ _)
      refine ⟨u, rv, ?_⟩
      rcases S.par y (List.mem_of_getElem? hpp) with q | q
      · exact .inl ⟨q, bindL_get ndP hpp hu q⟩
      · exact absurd rfl (nocell _ (PySem.mem_of_lookup q)).1
    · have hpl : ps.length ≤ N.length := by have := congrArg List.length S.pre; rw [List.length_take] at this; omega
      unfold L2.start
      show _ = N.length
      rw [List.length_append, List.length_map, List.length_replicate]
      omega
    · have hb : b = s.heap.objs.size := List.mem_singleton.mp hb
      subst hb
      exact ⟨B.non _ (List.mem_singleton.mpr rfl), Nat.le_refl _, of, B.same _ (List.mem_singleton.mpr rfl) of (Heap.get?_push_of_some _ hof), fun v q => by rw [hfd] at q; cases q⟩
end
/-! ### the consumer -/
theorem bare_of_lf {gs ps : Array GenState} (L : Lf gs ps) (h : AllBare ps) : AllBare gs := fun x hx => by
  obtain ⟨i, hi, rfl⟩ := Array.mem_iff_getElem.mp hx
  have hs : i < ps.size := by rw [← L.size]; exact hi
  obtain ⟨_, st', h1, h2⟩ := L.at_ i ps[i] (Array.getElem?_eq_getElem hs)
  rw [Array.getElem?_eq_getElem hi] at h1
  cases h1
  have hb := h ps[i] (Array.getElem_mem hs)
  rcases h2 with e | e
  · rw [e]; exact hb
  · rw [e, poison_bare] at hb; exact hb
theorem bare_poison {gs : Array GenState} (h : AllBare gs) : AllBare (gs.map poison) := fun x hx => by
  obtain ⟨y, hy, rfl⟩ := Array.mem_map.mp hx
  rw [poison_bare]
  exact h y hy
section
variable {X : Cx} {pins : List (Addr × Obj)} {σ : L2.St} {H H1 : Hp} {s s1 : Shared}
theorem _root_.L2.Inv.gens' {gs : Array GenState} (I : Inv X pins σ H s) (hb : AllBare gs) : Inv X pins σ H { s with gens := gs } :=
  ⟨I.ok, I.os, hb, I.base, I.loc, I.cell, I.free, I.freeC, I.pin, I.hok, I.len⟩
/-- what runs while the generator sleeps -/
theorem lifted {β : Type} {M : Model} {A : Around} {t : Sem β} {Q : β → Shared → Prop} {E E' : Value → Shared → Prop} {g : Nat} {st : GenState} (hg : s.gens[g]? = some st) (hs : ∃ k l c p fs cl, st = .suspended k l c p fs cl) (hE : ∀ e s, E e s → False)
    (h : wpAny M A t Q E { s with gens := s.gens.map poison }) : wpAny M A t (fun a s' => ∃ ps, Q a { s' with gens := ps } ∧ (AllBare ps → AllBare s'.gens) ∧ s'.gens[g]? = some st) E' s := by
  have h2 : wpAny M A t (LfQ (s.gens.map poison) s.gens Q) (LfQ (s.gens.map poison) s.gens E) { s with gens := s.gens } := lift_any h
  refine wpAny_mono h2 (fun a s' ⟨ps, q, L, kp⟩ => ⟨ps, q, bare_of_lf L, ?_⟩) fun e s' ⟨_, q, _⟩ => (hE _ _ q).elim
  obtain ⟨k, l, c, p, fs, cl, rfl⟩ := hs
  have e1 : (s.gens.map poison)[g]? = some (poison (.suspended k l c p fs cl)) := by rw [Array.getElem?_map, hg]; rfl
  exact (kp g _ e1 ⟨_, _, _, _, _, rfl⟩).2.trans hg
/-- behind a step of the generator -/
theorem post_inv {G : GD} {fp : List Addr} (I : Inv X pins σ H s) (p : Post G fp s H s1 H1) (hP : G.prog = X.prog) (hw : G.w = X.w) (ho : G.outer = X.stack) (hL : X.env.locals < G.n0) (hc : ∀ x c, X.env.cells.lookup x = some c → c < G.n0) (hf : ∀ b ∈ fp, FpOk X pins H b) :
    Inv X pins σ H1 s1 := by
  obtain ⟨os, bare, hok, ch, hch, un⟩ := p
  rw [ho] at un
  rw [hP, hw] at hok
  refine I.call' (ch := ch) os un hok bare fun b hb => ?_
  rcases hch b hb with q | ⟨q1, q2, v, oc, hoc, hcd⟩
  · obtain ⟨_, f1, _, f3, f4, f5⟩ := hf b q
    exact ⟨f3, f1, f4, f5⟩
  · refine ⟨.inr (Nat.le_trans I.ok.above (Nat.le_trans (Nat.le_of_lt hL) q1)), Nat.ne_of_gt (Nat.lt_of_lt_of_le hL q1), fun x c e => Nat.ne_of_lt (Nat.lt_of_lt_of_le (hc x c e) q1), fun pp hp z => ?_⟩
    obtain ⟨e1, _, _, _, e5⟩ := I.pin pp hp
    rw [z, hoc] at e1
    cases e1
    exact e5 v hcd
theorem own_ok {G : GD} {fp fp1 : List Addr} (I : Inv X pins σ H s) (O : Own G fp1 fp s s1 H1) (hL : X.env.locals < G.n0) (hc : ∀ x c, X.env.cells.lookup x = some c → c < G.n0) (hf : ∀ b ∈ fp, FpOk X pins H b) : ∀ b ∈ fp1, FpOk X pins H1 b := fun b hb => by
  obtain ⟨h1, h2, _⟩ := O b hb
  rcases h1 with q | ⟨q1, q2⟩
  · exact ⟨h2, (hf b q).2⟩
  · have hx : X.s_0.heap.objs.size ≤ b := Nat.le_trans I.ok.above (Nat.le_trans (Nat.le_of_lt hL) q1)
    refine ⟨h2, Nat.ne_of_gt (Nat.lt_of_lt_of_le hL q1), fun z => ?_, .inr hx, fun x c e => Nat.ne_of_lt (Nat.lt_of_lt_of_le (hc x c e) q1), fun pp hp z => ?_⟩
    · obtain ⟨_, o, ho, _⟩ := I.ok.funs.mem z
      exact absurd (Heap.lt_size ho) (Nat.not_lt.mpr hx)
    · obtain ⟨e1, _, _, _, e5⟩ := I.pin pp hp
      rw [z] at e1
      rcases q2 with q2 | ⟨v, oc, hoc, hcd⟩
      · rw [q2] at e1; cases e1
      · rw [hoc] at e1
        cases e1
        exact e5 v hcd
end
section
variable {α : Type}
def tForGen (C : Addr) (m : Str) (pre : Hp → List V → List α → Addr → Prop) (Item : α → V → Hp → Prop) (ta : TE) (g : TG) (tb : TS) : TS := fun D σ H => ta σ H fun x H1 => ∃ a dx fs zs F, x = .ref a ∧ H1 a = some (.ins C dx fs) ∧ fs.lookup m = none ∧ pre H1 [x] zs F ∧
  ∃ Wc : List α → L2.St → Hp → Prop, Wc zs σ H1 ∧ (∀ z zs σ H, Wc (z :: zs) σ H → ∀ y H', Same H H' → Item z y H' → g y σ H' fun σ2 H2 => tb { nx := fun σ' H'' => Wc zs σ' H'' ∧ SameX F H' H'', ct := fun σ' H'' => Wc zs σ' H'' ∧ SameX F H' H'', rt := D.rt } σ2 H2) ∧
    ∀ σ H, Wc [] σ H → ∀ H', Same H H' → D.nx σ H'
theorem ps_forGen {X : Cx} {k : Nat} {f C : Addr} {m : Str} {pos pos' apos : Pos} {o tg : Expr} {body : List Stmt} {pre : Hp → List V → List α → Addr → Prop} {Item : α → V → Hp → Prop} {ta : TE} {g : TG} {tb : TS} {pl : Sem Bool}
    (hx : ∀ e s, X.xe e s → False) (hc : X.calm = true) (he : PE X o ta) (c : Cls X.K C) (hm : Meth X.K C m f) (Gm : GenM X.prog X.w X.K X.mg X.base k f pre Item) (hr : Room (k + 1) X.A) (hg : PG X tg g) (hb : PSs X body tb)
    (ht : eval (.Call (.Attribute o m apos) [] [] pos') X.env = (do
      let ov ← eval o X.env
      standAt apos.atName
      let (f, first) ← holding [ov] (getMethod ov m pl)
      callWith pos' f first (backTo pos' (starEach [] X.env)) (backToKw pos' (keywordEach [] X.env))) := by rfl)
    (hs : ∀ x, foldedSetIterable (.Call (.Attribute o m apos) [] [] pos') X.env x = pure x := by intro _; rfl) :
    PS X (.For tg (.Call (.Attribute o m apos) [] [] pos') body [] pos) (tForGen C m pre Item ta g tb) := by
  refine ⟨fun pins s σ H D I h => ?_⟩
  have hp : PassesOwn (model X.prog X.w) X.A X.env X.xe := fun e s q => (hx e s q).elim
  refine wpAny_For (PySem.W.methodCall_KW (pl := pl) (thn (he.run pins s σ H _ I h) fun u s1 ⟨x, H1, I1, rx, a, dx, fs, zs, F, ex, ea, l, hpre, Wc, w0, w1, w2⟩ => ?_) ht) hs
  subst ex
  obtain rfl : u = Value.ref a := rx
  refine getmeth_ok I1 ea c hm l ?_
  refine PySem.W.callWith_K0 (first := [.ref a]) I1.kIn hm.kp ?_
  refine wpAny_call (codeAny_mono (Gm X.A X.stack s1 H1 [.ref a] [.ref a] zs F (hr.mono (Nat.le_succ k)) I1.env0 (.cons rfl .nil) hpre) fun r s2 hq => ?_)
  cases r with
  | error e => exact hq.elim
  | ok fl =>
  cases fl with
  | next => exact hq.elim
  | brk => exact hq.elim
  | cont => exact hq.elim
  | ret u2 =>
  obtain ⟨ga, gi, gc, rfl, hlt, hgen, hgs, os2, bare2, kp2, ⟨of, hof, hofc⟩, mk⟩ := hq
  obtain ⟨G, O, e1, e2, e3, e4, e5, e6, e7, e8, hgo⟩ := mk X.A.in1 hr.in1
  refine wpAny_pyIter_gen hgen ?_
  obtain ⟨go, nm, qn, hgo1, hgo2, hgo3, hgo4⟩ := id hgen
  have hgd : ∀ v, go.data ≠ .cell v := fun v q => by rw [hgo3] at q; cases q
  have I2 : Inv X pins σ H1 s2 := I1.call' (ch := []) os2 (Un.kept kp2) (I1.hok.kept kp2) bare2 fun b z => by cases z
  have hL : X.env.locals < G.n0 := by rw [e8]; exact I1.lt
  have hcl : ∀ x c, X.env.cells.lookup x = some c → c < G.n0 := fun x c e => by
    obtain ⟨v, oc, hoc, _⟩ := I1.cell x c e
    rw [e8]; exact Heap.lt_size hoc
  have fpa : FpOk X pins H1 ga := I1.fpOk (Nat.le_of_lt hlt) (I1.hok.fresh (Nat.le_of_lt hlt))
  have fpn : FpOk X pins H1 G.n0 := by rw [e8]; exact I1.fpOk (Nat.le_refl _) (I1.hok.fresh (Nat.le_refl _))
  have hne : ga ≠ G.n0 := by rw [e8]; exact Nat.ne_of_gt hlt
  have I3 : Inv X (pins ++ [(ga, go)]) σ H1 s2 := I2.pins_of fun p hp => by
    rcases List.mem_append.mp hp with z | z
    · exact I2.pin p (List.mem_append_right _ z)
    · rw [List.mem_singleton.mp z]
      exact ⟨hgo1, fpa.1, fpa.2.1, fpa.2.2.1, hgd⟩
  have fpn' : ∀ b ∈ [G.n0], FpOk X (pins ++ [(ga, go)]) H1 b := fun b hb => by
    rw [List.mem_singleton.mp hb]
    obtain ⟨f0, f1, f2, f3, f4, f5⟩ := fpn
    refine ⟨f0, f1, f2, f3, f4, fun p hp => ?_⟩
    rcases List.mem_append.mp hp with z | z
    · exact f5 p (List.mem_append_left _ z)
    · rcases List.mem_append.mp z with z | z
      · exact f5 p (List.mem_append_right _ z)
      · rw [List.mem_singleton.mp z]; exact hne
  -- the loop
  refine codeAny_forLoop_any (fun n s' => ∃ (zs : List α) (σ' : L2.St) (H' : Hp) (fp : List Addr) (gs : GenState), n = zs.length ∧ Inv X (pins ++ [(ga, go)]) σ' H' s' ∧ (∀ b ∈ fp, FpOk X (pins ++ [(ga, go)]) H' b) ∧ s'.gens[gi]? = some gs ∧ Wc zs σ' H' ∧
    ∀ s3, s3.heap = s'.heap → Env0 G.prog G.w G.K G.mg G.base G.A G.outer s3 H' → Goes1 (model X.prog X.w) X.A.in1 (Rn G fp zs s3 H') (Yn G F Item zs fp s3 H') gs s3) ?_ zs.length ⟨zs, σ, H1, [G.n0], _, rfl, I3, fpn', hgs, w0, fun s3 hs3 e0 => ?_⟩
  rotate_left
  · exact hgo s3 ⟨e0, fun b hb o ho => by rw [hs3]; exact ho, fun b hb => (fpn' b hb).1⟩
  rintro n s4 ⟨zs4, σ4, H4, fp, gs, rfl, I4, f4, hg4, w4, go4⟩
  have hgen4 : s4.heap.IsGen ga gi := ⟨go, nm, qn, (I4.pin (ga, go) (List.mem_append_right _ (List.mem_append_right _ (List.mem_singleton.mpr rfl)))).1, hgo2, hgo3, hgo4⟩
  have hlt4 : gi < s4.gens.size := (Array.getElem?_eq_some_iff.mp hg4).1
  have e0r : Env0 G.prog G.w G.K G.mg G.base G.A G.outer (s4.setGen gi .running) H4 := by
    rw [e1, e2, e3, e4, e5, e6, e7]
    have q := I4.env0.in1
    exact ⟨q.frames, q.mod, q.bs, q.bsz, q.funs, q.frf, q.hok, allBare_setGen q.bare rfl⟩
  have run := go4 (s4.setGen gi .running) rfl e0r
  have I4r : Inv X (pins ++ [(ga, go)]) σ4 H4 (s4.setGen gi .running) := I4.gens' (allBare_setGen I4.bare rfl)
  refine wpAny_gsz (n := s4.gens.size) (Nat.le_refl _) ?_
  refine next1 (Y := Yn G F Item zs4 fp (s4.setGen gi .running) H4) (F := Rf G fp zs4 (s4.setGen gi .running) H4) (I4.ok.hd hc) I4.nolimit hr.depth hgen4 hg4 run (fun v s5 gs' hbg hy => ?_) (fun s5 hf h' hk => ?_)
  · intro hsz
    cases zs4 with
    | nil => exact hy.elim
    | cons z zs5 =>
    obtain ⟨x, H5, fp1, r5, post, sm, item, own, ⟨kk, ll, cc, pp, ff, rfl⟩, nxt⟩ := hy
    have I5 : Inv X (pins ++ [(ga, go)]) σ4 H5 s5 := post_inv I4r post e1 e2 e6 hL hcl f4
    have f5 := own_ok I4r own hL hcl f4
    have I6 := I5.pinned f5 fun b hb => (own b hb).2.2
    have ga5 : s5.heap.get? ga = some go := (I5.pin (ga, go) (List.mem_append_right _ (List.mem_append_right _ (List.mem_singleton.mpr rfl)))).1
    have hg5 : (s5.setGen gi (.suspended kk ll cc pp ff false)).gens[gi]? = some (.suspended kk ll cc pp ff false) := setGen_at (by
      rw [show (s5.setGen gi (.suspended kk ll cc pp ff false)).gens.size = s5.gens.size from setGen_size _ _ _] at hsz
      omega)
    have I7 : Inv X (pins ++ [(ga, go)] ++ pinsAt fp1 s5.heap) σ4 H5 (s5.setGen gi (.suspended kk ll cc pp ff false)) := I6.gens' (allBare_setGen I6.bare hbg)
    show wpAny _ _ (letOwnedTupleGo tg (.ref ga) v) _ _ _
    refine go_of (n := "generator") ga5 hgo2 hgo3 (by decide) ?_
    refine wpAny_mono (lifted (E' := fun _ _ => False) hg5 ⟨_, _, _, _, _, _, rfl⟩ hx (hg.run _ _ σ4 H5 x v _ (I7.gens' (bare_poison I7.bare)) r5 (w1 z zs5 σ4 H4 w4 x H5 sm item))) (fun _ s8 q8 => ?_) fun _ _ q => q.elim
    obtain ⟨ps, ⟨σ8, H8, I8, q8⟩, bb, hg8⟩ := q8
    have I8' : Inv X (pins ++ [(ga, go)] ++ pinsAt fp1 s5.heap) σ8 H8 s8 := L2.Inv.gens' (s := { s8 with gens := ps }) I8 (bb I8.bare)
    refine wpAny_mono (lifted (E' := fun _ _ => False) hg8 ⟨_, _, _, _, _, _, rfl⟩ hx (hb.run _ _ σ8 H8 _ (I8'.gens' (bare_poison I8'.bare)) q8)) (fun fl s9 q9 => ?_) fun _ _ q => q.elim
    obtain ⟨ps9, q9, bb9, hg9⟩ := q9
    have again : ∀ {σ9 : L2.St} {H9 : Hp}, Inv X (pins ++ [(ga, go)] ++ pinsAt fp1 s5.heap) σ9 H9 { s9 with gens := ps9 } → Wc zs5 σ9 H9 ∧ SameX F H5 H9 → ∃ m, m < (z :: zs5).length ∧ ∃ (zs : List α) (σ' : L2.St) (H' : Hp) (fp : List Addr) (gs : GenState), m = zs.length ∧ Inv X (pins ++ [(ga, go)]) σ' H' s9 ∧ (∀ b ∈ fp, FpOk X (pins ++ [(ga, go)]) H' b) ∧ s9.gens[gi]? = some gs ∧ Wc zs σ' H' ∧
        ∀ s3, s3.heap = s9.heap → Env0 G.prog G.w G.K G.mg G.base G.A G.outer s3 H' → Goes1 (model X.prog X.w) X.A.in1 (Rn G fp zs s3 H') (Yn G F Item zs fp s3 H') gs s3 := fun {σ9 H9} I9 ⟨w9, sx⟩ => by
      have I9' : Inv X (pins ++ [(ga, go)] ++ pinsAt fp1 s5.heap) σ9 H9 s9 := L2.Inv.gens' (s := { s9 with gens := ps9 }) I9 (bb9 I9.bare)
      have fr9 : ∀ b ∈ fp1, H9 b = none ∧ ∀ o, s5.heap.get? b = some o → s9.heap.get? b = some o := fun b hb => by
        obtain ⟨_, _, o, ho, _⟩ := own b hb
        refine ⟨(I9'.pin (b, o) (List.mem_append_right _ (List.mem_append_right _ (mem_pinsAt hb ho)))).2.1, fun o' ho' => (I9'.pin (b, o') (List.mem_append_right _ (List.mem_append_right _ (mem_pinsAt hb ho')))).1⟩
      refine ⟨zs5.length, Nat.lt_succ_self _, zs5, σ9, H9, fp1, _, rfl, I9'.unpinned, fun b hb => ⟨(fr9 b hb).1, (f5 b hb).2⟩, hg9, w9, fun s3 hs3 e0 => ?_⟩
      have q := nxt s3 H9 ⟨e0, fun b hb o ho => by rw [hs3]; exact (fr9 b hb).2 o ho, fun b hb => (fr9 b hb).1⟩ sx
      rw [e1, e2, e7] at q
      exact q
    cases fl with
    | next => obtain ⟨σ9, H9, I9, n9⟩ := q9; exact again I9 n9
    | cont => obtain ⟨σ9, H9, I9, n9⟩ := q9; exact again I9 n9
    | brk => obtain ⟨σ9, H9, I9, n9⟩ := q9; exact n9.elim
    | ret v => 
      obtain ⟨x9, σ9, H9, I9, r9, n9⟩ := q9
      exact ⟨x9, σ9, H9, (L2.Inv.gens' (s := { s9 with gens := ps9 }) I9 (bb9 I9.bare)).unpinned.unpinned, r9, n9⟩
  · intro hsz
    cases zs4 with
    | cons z zs5 => exact hf.elim
    | nil =>
    obtain ⟨H5, post, sm⟩ := hf
    have I5 : Inv X (pins ++ [(ga, go)]) σ4 H5 s5 := post_inv I4r post e1 e2 e6 hL hcl f4
    have I6 : Inv X pins σ4 H5 { s5.setGen gi .finished with heap := h' } := (I5.unpinned.kept (t' := s5.toks) hk).gens' (allBare_setGen I5.bare rfl)
    exact wpAny_execs_nil ⟨σ4, H5, I6, w2 σ4 H4 w4 H5 sm⟩
end
end K32

/-! meters.py: choices, a generator -/
namespace K32
open PySem PyProof.Rows L2
section
variable {P : Program} {w : World} {K : PySem.W.Frag} {mg : Str → Option Value} {base : Heap}
def ItemCh (K : PySem.W.Frag) : List Int → V → Hp → Prop := fun z v H => ∃ a, v = .ref a ∧ SqT K H a (z.map V.int)
def preCh (K : PySem.W.Frag) : Hp → List V → List (List Int) → Addr → Prop := fun H vs zs F => ∃ x m, vs = [.ref x] ∧ MeterAt K m H x ∧ m.1.length ≤ 3 ∧ (0 ≤ m.2.1 ∧ m.2.1 ≤ 8) ∧ 0 ≤ spareM m ∧ zs = choicesM m ∧ ∃ o, H F = some o
theorem gen_choices (T : Top K mg) (Fc : Facts P K mg) : GenM P w K mg base 6 (ma K (ga K "Meter") "choices") (preCh K) (ItemCh K) := by
  refine genM_of (k := 5) T.Meter_choices sc_Meter_choices (fun kV doc pm an cdv ct us hl => match us, hl with | [_], _ => rfl) (by decide +kernel) (fun n => rfl) (by rintro H vs zs F ⟨x, m, rfl, _⟩; rfl) (fun cdv A outer n0 s H vs zs F O hr W hp => ?_)
  obtain ⟨x, m, rfl, hM, hl, ho, hsp, rfl, o, hF⟩ := hp
  have hmm4 : manyM m + 1 ≤ 5 := by
    have := pick_len m.1
    unfold manyM; omega
  generalize hmm : manyM m = mm at hmm4
  refine gen_fresh O (fun s H => ps_setLc (i := 1) (own := [("at", 2), ("wheel", 3)]) rfl sc_Meter_choices.nd rfl rfl (sw_true rfl rfl rfl (by decide +kernel)) (piEnumT K rfl rfl T.f_enumerate (pa_cons (fldK K rfl (pv 0) rfl) pa_nil)) (blkOk_by (own := [("at", 2), ("wheel", 3)]) (N := N_Meter_choices) (sc := defScope s_Meter_choices) (by decide +kernel)) (fun _ _ _ _ _ => (pgT K 2 rfl (by rfl) (pgs_cons (pg_name (i := 2) sc_Meter_choices.nd rfl (Or.inl rfl)) (pgs_cons (pg_name (i := 3) sc_Meter_choices.nd rfl (Or.inl rfl)) pgs_nil)))) (fun _ _ _ _ _ => (pts_one (pt_val (pe_propA K rfl (pv 3) (fr_trusted T Fc) hr (by decide))))) (fun _ _ _ _ _ => (pv 2))) (fun s H => ps_setLc (i := 4) (own := [("at", 2), ("wheel", 3)]) rfl sc_Meter_choices.nd rfl rfl (sw_true rfl rfl rfl (by decide +kernel)) (piEnumT K rfl rfl T.f_enumerate (pa_cons (fldK K rfl (pv 0) rfl) pa_nil)) (blkOk_by (own := [("at", 2), ("wheel", 3)]) (N := N_Meter_choices) (sc := defScope s_Meter_choices) (by decide +kernel)) (fun _ _ _ _ _ => (pgT K 2 rfl (by rfl) (pgs_cons (pg_name (i := 2) sc_Meter_choices.nd rfl (Or.inl rfl)) (pgs_cons (pg_name (i := 3) sc_Meter_choices.nd rfl (Or.inl rfl)) pgs_nil)))) (fun _ _ _ _ _ => (pts_one (pt_not (pt_val (pe_propA K rfl (pv 3) (fr_trusted T Fc) hr (by decide)))))) (fun _ _ _ _ _ => (pv 2))) (fun s H => (piL K rfl (C8.pe_c (c_some_of T mm) hr (by omega) rfl (pa_cons (pv 4) (pa_cons (pe_callB (call_max2 rfl) (by rfl) T.f_max (by decide +kernel) (pa_cons pe_int (pa_cons (pe_callTy call_int1 (by rfl) T.f_int (by decide +kernel) (pa_cons (pe_op op_sub (pe_callB (clLen K rfl) (by rfl) T.f_len (by decide +kernel) (pa_cons (pv 4) pa_nil)) (pe_propA K rfl (pv 0) (fr_spare T Fc) hr (by decide))) pa_nil)) pa_nil))) pa_nil))))) (fun s H => (pg_name (i := 5) sc_Meter_choices.nd rfl (Or.inl rfl))) (fun s H => (pe_callTy (clTup K rfl) (by rfl) T.f_tuple (by decide +kernel) (pa_cons (pe_callB (clSortI K rfl) (by rfl) T.f_sorted (by decide +kernel) (pa_cons (pe_lc (own := [("at", 2)]) rfl sc_Meter_choices.nd (piL K rfl (pe_lst (starK K rfl (pv 1) (starK K rfl (pv 5) pa_nil)))) (blkOk_by (own := [("at", 2)]) (N := N_Meter_choices) (sc := defScope s_Meter_choices) (by decide +kernel)) (fun _ _ _ _ _ => (pg_name (i := 2) sc_Meter_choices.nd rfl (Or.inl rfl))) (fun _ _ _ _ _ => pts_nil) (fun _ _ _ _ _ => (pe_callTy call_int1 (by rfl) T.f_int (by decide +kernel) (pa_cons (pv 2) pa_nil)))) pa_nil)) pa_nil))) rfl rfl (fun _ => rfl) W ?_
  obtain ⟨dx, ta, us, hx, hA, pu⟩ := id hM
  have el := pu.length
  refine ⟨_, rfl, x, _, dx, _, _, rfl, hx, T.k_Meter, T.n_Meter_wheels, rfl, ta, us, rfl, hA, fun D hD => lcG (its_enum hA) hD (pickO true m.1) stab_int (by unfold pickO; rw [List.length_mapIdx, el]) (by omega) (fun i y oz H' hi hy hzi e Qe Qn q1 q2 => ?_) fun ys H1 e1 hy py => ?_⟩
  · obtain ⟨T0, v, rfl, hT, hv⟩ := hy
    obtain ⟨z, hz1, b, rfl, C, dxw, hw, cw⟩ := paired_get pu hv
    unfold pickO at hzi
    rw [List.getElem?_mapIdx, hz1] at hzi
    obtain rfl := Option.some.inj hzi
    refine ⟨T0, _, rfl, hT, rfl, _, _, rfl, _, _, rfl, rfl, rfl, ?_⟩
    refine ⟨_, rfl, b, C, dxw, _, _, rfl, e _ _ hw, cw.cls, cw.p_trusted, b, _, _, _, _, rfl, ⟨C, dxw, e _ _ hw, cw⟩, _, rfl, ?_⟩
    by_cases hb : z.2.2.2 = true
    · rw [hb]
      exact iteT ⟨_, rfl, q1 i (if_pos hb) _ _ (Same.refl _) rfl⟩
    · rw [Bool.not_eq_true _ |>.mp hb]
      exact iteF (q2 (if_neg hb) _ (Same.refl _))
  · rw [paired_int py] at hy
    have hp1 : H1 D = some (.lst ((pickI true m.1).map V.int)) := hy
    have hM1 := hM.same e1
    obtain ⟨dx1, ta1, us1, hx1, hA1, pu1⟩ := id hM1
    have el1 := pu1.length
    refine ⟨_, rfl, x, _, dx1, _, _, rfl, hx1, T.k_Meter, T.n_Meter_wheels, rfl, ta1, us1, rfl, hA1, fun D2 hD2 => lcG (its_enum hA1) hD2 (pickO false m.1) stab_int (by unfold pickO; rw [List.length_mapIdx, el1]) (by omega) (fun i y oz H' hi hy hzi e Qe Qn q1 q2 => ?_) fun ys2 H2 e2 hy2 py2 => ?_⟩
    · obtain ⟨T0, v, rfl, hT, hv⟩ := hy
      obtain ⟨z, hz1, b, rfl, C, dxw, hw, cw⟩ := paired_get pu1 hv
      unfold pickO at hzi
      rw [List.getElem?_mapIdx, hz1] at hzi
      obtain rfl := Option.some.inj hzi
      refine ⟨T0, _, rfl, hT, rfl, _, _, rfl, _, _, rfl, rfl, rfl, ?_⟩
      refine ⟨_, rfl, b, C, dxw, _, _, rfl, e _ _ hw, cw.cls, cw.p_trusted, b, _, _, _, _, rfl, ⟨C, dxw, e _ _ hw, cw⟩, _, rfl, ?_⟩
      by_cases hb : z.2.2.2 = false
      · rw [hb]
        exact iteT ⟨_, rfl, q1 i (if_pos hb) _ _ (Same.refl _) rfl⟩
      · rw [Bool.not_eq_false _ |>.mp hb]
        exact iteF (q2 (if_neg hb) _ (Same.refl _))
    · rw [paired_int py2] at hy2
      have hp2 : H2 D2 = some (.lst ((pickI false m.1).map V.int)) := hy2
      have hp1 := e2 _ _ hp1
      have e12 := e1.trans e2
      have hM2 := hM.same e12
      obtain ⟨dx2, ta2, us2, hx2, hA2, pu2⟩ := id hM2
      have hmax : (if (((pickI false m.1).map V.int).length : Int) - (2 * m.2.1 + m.2.2.1 + m.2.2.2) > 0 then (((pickI false m.1).map V.int).length : Int) - (2 * m.2.1 + m.2.2.1 + m.2.2.2) else 0) = ((mm : Nat) : Int) := by
        rw [List.length_map, ← hmm]
        unfold manyM spareM
        split <;> omega
      have hol : (pickI false m.1).length ≤ 3 := by have := pick_len m.1; omega
      refine ⟨_, rfl, _, rfl, D2, _, rfl, .inl (.of hp2), _, rfl, x, _, dx2, _, _, rfl, hx2, T.k_Meter, Fc.p_spare, x, m, rfl, hM2, ho, _, _, rfl, rfl, .inl ⟨_, rfl, _, _, rfl, D2, pickI false m.1, congrArg (fun k => [V.ref D2, V.int k]) hmax, .of hp2, hol, fun g H3 us3 e3 hg hgs pg => ⟨g, rfl, ⟨_, .of hgs⟩, e12.trans e3, ?_⟩⟩⟩
      have hDF : D ≠ F := fun zz => by subst zz; rw [hF] at hD; cases hD
      have hgF : g ≠ F := fun zz => by subst zz; rw [e12 _ _ hF] at hg; cases hg
      have hp1 := e3 _ _ hp1
      have ec : choicesM m = (someOf mm (pickI false m.1)).map fun s => sortI (pickI true m.1 ++ s) := by unfold choicesM; rw [hmm]
      have eln := pg.length
      refine ⟨fun zs i σ H' => ∃ v2 v3 v5, σ = [some (.ref x), some (.ref D), v2, v3, some (.ref D2), v5] ∧ zs = (choicesM m).drop i ∧ H' D = some (.lst ((pickI true m.1).map V.int)) ∧ H' g = some (.lst us3) ∧ Paired (fun v s => ∃ b, v = .ref b ∧ b ≠ F ∧ H' b = some (.lst (s.map V.int))) us3 (someOf mm (pickI false m.1)),
        fun i σ H' ⟨_, _, _, _, ez, _, hg', _⟩ => ⟨us3, .of hg', ?_⟩, fun z zs i σ H' ⟨v2, v3, v5, es, ez, hd', hg', pg'⟩ => ?_, none, none, none, rfl, by rw [List.drop_zero], hp1, hgs, paired_imp pg fun v s ⟨b, h1, h2, h3⟩ => ⟨b, h1, (fun zz => by subst zz; rw [e12 _ _ hF] at h2; cases h2), h3⟩⟩
      · have := List.drop_eq_nil_iff.mp ez.symm
        rw [ec, List.length_map] at this
        omega
      · have hi : i < (choicesM m).length := by
          rcases Nat.lt_or_ge i (choicesM m).length with q | q
          · exact q
          · rw [List.drop_eq_nil_of_le q] at ez; cases ez
        have hi3 : i < us3.length := by rw [ec, List.length_map] at hi; omega
        rw [List.drop_eq_getElem_cons hi] at ez
        injection ez with ez1 ez2
        refine ⟨⟨us3, _, .of hg', List.getElem?_eq_getElem hi3⟩, fun y H4 hy => ?_⟩
        obtain ⟨rfl, hy⟩ := hy
        have hy := hy us3 (.of hg')
        obtain ⟨ss, hss, b, rfl, hbF, hb⟩ := paired_get pg' hy
        subst es
        have hzs : z = sortI (pickI true m.1 ++ ss) := by
          rw [ez1]
          have q : (choicesM m)[i]? = some (sortI (pickI true m.1 ++ ss)) := by rw [ec, List.getElem?_map, hss]; rfl
          rw [List.getElem?_eq_getElem hi] at q
          exact Option.some.inj q
        have hlen : (pickI true m.1 ++ ss).length ≤ 3 := by
          have q := some_one (List.mem_of_getElem? hss)
          have q2 := pick_len m.1
          rw [List.length_append]; omega
        have hall : (pickI true m.1).map V.int ++ (ss.map V.int ++ []) = (pickI true m.1 ++ ss).map V.int := by rw [List.append_nil, List.map_append]
        refine ⟨_, rfl, D, _, rfl, .inr (.of hd'), _, rfl, b, _, rfl, .inr (.of hb), ?_, fun l hl => ⟨l, rfl, ⟨_, .of upd_same⟩, fun D5 hD5 => lcA (its_list (.of upd_same)) hD5 (pickI true m.1 ++ ss) stab_int ?_ ?_ (fun j x z H' hj hx hz e Qe q => ?_) gname_mono fun ys H5 e5 hy5 py5 => ?_⟩⟩
        · rw [hall, List.length_map]
          exact Nat.le_trans hlen (by decide)
        · rw [hall, List.length_map]
        · rw [hall, List.length_map]; omega
        · rw [hall, List.getElem?_map, hz] at hx
          obtain rfl := Option.some.inj hx
          exact ⟨rfl, _, rfl, .inl ⟨_, rfl, q _ _ (Same.refl _) rfl⟩⟩
        · rw [paired_int py5] at hy5
          refine ⟨D5, _, rfl, .of hy5, fun ns p hperm hpw hp => ⟨p, _, rfl, .inl ⟨.of upd_same, fun r hr => ?_⟩⟩⟩
          have ens : ns = z := by rw [hzs]; exact sortI_uniq hperm hpw
          subst ens
          have e6 : Same H4 _ := (Same.new hl).trans (e5.trans ((Same.new (o := .lst (ns.map V.int)) hp).trans (Same.new (o := .tup (ns.map V.int)) hr)))
          refine ⟨e6, ⟨r, rfl, .inl (.of upd_same)⟩, fun H7 sx => ⟨v2, v3, _, rfl, ez2, sx _ _ hDF (e6 _ _ hd'), sx _ _ hgF (e6 _ _ hg'), paired_imp pg' fun v s ⟨b, h1, h2, h3⟩ => ⟨b, h1, h2, sx _ _ h2 (e6 _ _ h3)⟩⟩⟩
end
end K32

/-! plain law: the least member of a join of near lots, at every meter of the law (a finite look) -/
namespace K32
def repsL : List (Int × Int) := [(2, 1), (2, 0), (3, 0), (4, 0), (4, 1), (5, 0), (5, 1)]
def partC (d : Int) (c : Int × Int) : Bool := decide (c.2 < apartI d c.1)
def chkC (cs : List (Int × Int)) (w : Nat) : Bool := match mapO (fun c : Int × Int => nearO c.1 c.2) cs with
  | none => false
  | some ls => match leastOf ls w with
    | none => false
    | some l => decide ((w : Int) < l) && (decide (l ≤ 200) && (cs.all (fun c => !partC l c) && (List.range (l - w - 1).toNat).all fun i => cs.any (partC ((w : Int) + 1 + (i : Nat)))))
def seqsL : List (List (Int × Int)) := [] :: (repsL.map fun a => [a]) ++ (repsL.flatMap fun a => repsL.map fun b => [a, b]) ++ (repsL.flatMap fun a => repsL.flatMap fun b => repsL.map fun c => [a, b, c])
theorem chk_all : (seqsL.all fun cs => (List.range 5).all fun w => chkC cs w) = true := by decide +kernel
end K32

/-! plain law: what sure looks for is the least blind difference above the window -/
namespace K32
def repC (p q : Int) : Int × Int := if p ≤ 2 * q + 1 then (2, 1) else (p, q)
theorem repC_all : (([2, 3, 4, 5] : List Int).all fun p => ([0, 1, 2, 3, 4] : List Int).all fun q => decide (nearO p q = nearO (repC p q).1 (repC p q).2) && repsL.contains (repC p q)) = true := by decide +kernel
theorem repC_ok {p q : Int} (hp : 2 ≤ p ∧ p ≤ 5) (hq : 0 ≤ q ∧ q ≤ 4) : nearO p q = nearO (repC p q).1 (repC p q).2 ∧ repC p q ∈ repsL := by
  have h1 : p ∈ ([2, 3, 4, 5] : List Int) := by simp only [List.mem_cons, List.not_mem_nil, or_false]; omega
  have h2 : q ∈ ([0, 1, 2, 3, 4] : List Int) := by simp only [List.mem_cons, List.not_mem_nil, or_false]; omega
  have h := List.all_eq_true.mp (List.all_eq_true.mp repC_all p h1) q h2
  rw [Bool.and_eq_true, decide_eq_true_eq] at h
  exact ⟨h.1, by simpa using h.2⟩
theorem repC_part {p q d : Int} (hp : 0 < p) : partC d (repC p q) = decide (q < apartI d p) := by
  unfold repC
  by_cases c : p ≤ 2 * q + 1
  · rw [if_pos c]
    have a : partC d ((2, 1) : Int × Int) = false := by
      unfold partC
      rw [decide_eq_false_iff_not, apart_le (by decide)]
      have := Int.emod_lt_of_pos d (show (0 : Int) < 2 by decide)
      simp only
      omega
    rw [a, Eq.comm, decide_eq_false_iff_not, apart_le hp]
    omega
  · rw [if_neg c]; rfl
theorem mapO_map {α β γ : Type} {f : α → Option γ} {g : β → Option γ} {h : α → β} : ∀ {xs : List α}, (∀ x ∈ xs, f x = g (h x)) → mapO f xs = mapO g (xs.map h)
  | [], _ => rfl
  | x :: xs, e => by
    rw [List.map_cons, mapO, mapO, e x List.mem_cons_self, mapO_map fun y hy => e y (List.mem_cons_of_mem _ hy)]
theorem seqs_mem {cs : List (Int × Int)} (h : ∀ c ∈ cs, c ∈ repsL) (l : cs.length ≤ 3) : cs ∈ seqsL := by
  unfold seqsL
  match cs, h, l with
  | [], _, _ => simp
  | [a], h, _ =>
    have ha := h a (by simp)
    simp [ha]
  | [a, b], h, _ =>
    have ha := h a (by simp)
    have hb := h b (by simp)
    simp [ha, hb]
  | [a, b, c], h, _ =>
    have ha := h a (by simp)
    have hb := h b (by simp)
    have hc := h c (by simp)
    simp only [List.mem_append, List.mem_flatMap, List.mem_map]
    exact .inr ⟨a, ha, b, hb, c, hc, rfl⟩
  | a :: b :: c :: d :: t, _, l => simp at l
def zAt (ws : List Wl) (i : Int) : Wl := ws.getD i.toNat (2, 0, 0, false)
theorem zAt_nat {ws : List Wl} {i : Nat} {z : Wl} (h : ws[i]? = some z) : zAt ws (i : Int) = z := by
  unfold zAt
  rw [Int.toNat_natCast, List.getD_eq_getElem?_getD, h]; rfl
def IsPl (ws : List Wl) (i : Int) : Prop := ∃ (n : Nat) (z : Wl), i = n ∧ ws[n]? = some z
theorem leastC_ok {m : Mt} (g : GoodM m) {w : Nat} (hw : w ≤ 4) {c : List Int} (hc : ∀ i ∈ c, IsPl m.1 i) (hl : c.length ≤ 3) : ∃ l : Int, leastC m.1 w c = some l ∧ (w : Int) < l ∧ l ≤ 200 ∧ (∀ i ∈ c, partW (zAt m.1 i) l = false) ∧ ∀ d, (w : Int) < d → d < l → ∃ i ∈ c, partW (zAt m.1 i) d = true := by
  let h := fun i => repC (zAt m.1 i).1 ((zAt m.1 i).2.1 + (zAt m.1 i).2.2.1)
  have hz : ∀ i ∈ c, (2 ≤ (zAt m.1 i).1 ∧ (zAt m.1 i).1 ≤ 5) ∧ (0 ≤ (zAt m.1 i).2.1 + (zAt m.1 i).2.2.1 ∧ (zAt m.1 i).2.1 + (zAt m.1 i).2.2.1 ≤ 4) := fun i hi => by
    obtain ⟨n, z, rfl, e⟩ := hc i hi
    rw [zAt_nat e]
    have := g.wheels z (List.mem_of_getElem? e)
    omega
  have e : lotsAt m.1 c = mapO (fun c : Int × Int => nearO c.1 c.2) (c.map h) := mapO_map fun i hi => by
    have q := (repC_ok (hz i hi).1 (hz i hi).2).1
    obtain ⟨n, z, rfl, e⟩ := hc i hi
    have ez := zAt_nat e
    show nearAt m.1 (n : Int) = nearO (repC (zAt m.1 (n : Int)).1 _).1 _
    rw [← q, ez]
    unfold nearAt nearW
    rw [Int.toNat_natCast, e]
  have hs : c.map h ∈ seqsL := seqs_mem (fun x hx => by
    obtain ⟨i, hi, rfl⟩ := List.mem_map.mp hx
    exact (repC_ok (hz i hi).1 (hz i hi).2).2) (by rw [List.length_map]; exact hl)
  have ck := List.all_eq_true.mp (List.all_eq_true.mp chk_all _ hs) w (List.mem_range.mpr (by omega))
  have hp : ∀ d, ∀ i ∈ c, partC d (h i) = partW (zAt m.1 i) d := fun d i hi => by
    show partC d (repC _ _) = _
    rw [repC_part (by have := (hz i hi).1.1; omega)]
    rfl
  unfold chkC at ck
  unfold leastC
  rw [e]
  cases e1 : mapO (fun c : Int × Int => nearO c.1 c.2) (c.map h) with
  | none => rw [e1] at ck; cases ck
  | some ls =>
  rw [e1] at ck
  simp only at ck
  cases e2 : leastOf ls w with
  | none => rw [e2] at ck; cases ck
  | some l =>
  rw [e2] at ck
  simp only [Bool.and_eq_true, decide_eq_true_eq, List.all_eq_true, List.mem_range, List.any_eq_true] at ck
  obtain ⟨k1, k2, k3, k4⟩ := ck
  refine ⟨l, e2, k1, k2, fun i hi => ?_, fun d h1 h2 => ?_⟩
  · have := k3 (h i) (List.mem_map.mpr ⟨i, hi, rfl⟩)
    rw [hp l i hi] at this
    simpa using this
  · obtain ⟨x, hx, px⟩ := k4 (d - w - 1).toNat (by omega)
    obtain ⟨i, hi, rfl⟩ := List.mem_map.mp hx
    have ed : (w : Int) + 1 + ((d - w - 1).toNat : Nat) = d := by omega
    rw [ed, hp d i hi] at px
    exact ⟨i, hi, px⟩
theorem idxF_count {p h : Wl → Bool} {g : Int → Bool} : ∀ {ws : List Wl} {k : Nat}, (∀ (i : Nat) z, ws[i]? = some z → g ((k + i : Nat) : Int) = h z) → (idxF p ws k).countP g = ws.countP fun z => p z && h z
  | [], k, _ => rfl
  | z :: ws, k, e => by
    have ih := idxF_count (p := p) (h := h) (g := g) (ws := ws) (k := k + 1) fun i y hy => by
      have := e (i + 1) y (by simpa using hy)
      rw [show k + 1 + i = k + (i + 1) by omega]; exact this
    have ez : g (k : Int) = h z := by simpa using e 0 z rfl
    rw [idxF_cons, List.countP_append, ih, List.countP_cons]
    by_cases c : p z = true
    · rw [if_pos c, List.countP_singleton, ez, c, Bool.true_and]; omega
    · rw [if_neg c]
      have c' : p z = false := by simpa using c
      rw [c']; simp
def pAt (ws : List Wl) (d : Int) (i : Int) : Bool := partW (zAt ws i) d
theorem count_other {ws : List Wl} {d : Int} (h : ∀ z ∈ ws, partW z d = true → z.2.2.2 = false) : (pickI false ws).countP (pAt ws d) = ws.countP fun z => partW z d := by
  rw [pickI_idx, idxF_count (h := fun z => partW z d) fun i z hz => by unfold pAt; rw [Nat.zero_add, zAt_nat hz]]
  refine List.countP_congr fun z hz => ?_
  rw [Bool.and_eq_true, decide_eq_true_eq]
  exact ⟨fun q => q.2, fun q => ⟨h z hz q, q⟩⟩
structure ChoiceOk (m : Mt) (c : List Int) : Prop where
  pl : ∀ i ∈ c, IsPl m.1 i
  few : c.length ≤ 3
  mem : ∃ s, c = sortI (pickI true m.1 ++ s) ∧ s.Sublist (pickI false m.1) ∧ s.length = manyM m
theorem choice_ok {m : Mt} (g : GoodM m) {c : List Int} (h : c ∈ choicesM m) : ChoiceOk m c := by
  unfold choicesM at h
  obtain ⟨s, hs, rfl⟩ := List.mem_map.mp h
  obtain ⟨sub, len⟩ := someOf_mem.mp hs
  refine ⟨fun i hi => ?_, ?_, s, rfl, sub, len⟩
  · rcases List.mem_append.mp (sortK_perm.mem_iff.mp hi) with q | q
    · obtain ⟨n, z, e, hz, _⟩ := pick_mem.mp q
      exact ⟨n, z, e, hz⟩
    · obtain ⟨n, z, e, hz, _⟩ := pick_mem.mp (sub.subset q)
      exact ⟨n, z, e, hz⟩
  · have e := (sortK_perm (key := fun n : Int => n) (l := pickI true m.1 ++ s)).length_eq
    rw [show (sortI (pickI true m.1 ++ s)).length = _ from e, List.length_append]
    have q := pick_len m.1
    have q2 := sub.length_le
    have q3 := g.few
    omega
theorem choice_blind {m : Mt} {c : List Int} (h : ChoiceOk m c) (hw : 0 ≤ spareM m) {d : Int} (hd : ∀ i ∈ c, partW (zAt m.1 i) d = false) : blindW m d = true := by
  obtain ⟨s, rfl, sub, len⟩ := h.mem
  have hin : ∀ i, i ∈ pickI true m.1 ∨ i ∈ s → pAt m.1 d i = false := fun i hi => hd i (sortK_perm.mem_iff.mpr (List.mem_append.mpr hi))
  have tr : ∀ z ∈ m.1, partW z d = true → z.2.2.2 = false := fun z hz hp => by
    cases e : z.2.2.2 with
    | false => rfl
    | true =>
      obtain ⟨n, hn, rfl⟩ := List.mem_iff_getElem.mp hz
      have ez := List.getElem?_eq_getElem hn
      have q := hin n (.inl (pick_mem.mpr ⟨n, _, rfl, ez, e⟩))
      unfold pAt at q
      rw [zAt_nat ez, hp] at q
      cases q
  refine blindW_iff.mpr ⟨?_, tr⟩
  have hs : s.countP (fun i => !pAt m.1 d i) = s.length := List.countP_eq_length.mpr fun i hi => by rw [hin i (.inr hi)]; rfl
  have a := sub.countP_le (p := fun i => !pAt m.1 d i)
  have b := List.length_eq_countP_add_countP (pAt m.1 d) (l := pickI false m.1)
  have b2 : List.countP (fun i => decide ¬pAt m.1 d i = true) (pickI false m.1) = List.countP (fun i => !pAt m.1 d i) (pickI false m.1) := List.countP_congr fun i _ => by simp
  rw [b2] at b
  have e := count_other tr
  unfold manyM at len
  omega
theorem blind_choice {m : Mt} {d : Int} (h : blindW m d = true) (hw : 0 ≤ spareM m) : ∃ c ∈ choicesM m, ∀ i ∈ c, partW (zAt m.1 i) d = false := by
  obtain ⟨cnt, tr⟩ := blindW_iff.mp h
  have e := count_other tr
  have b := List.length_eq_countP_add_countP (pAt m.1 d) (l := pickI false m.1)
  have b2 : List.countP (fun i => decide ¬pAt m.1 d i = true) (pickI false m.1) = ((pickI false m.1).filter fun i => !pAt m.1 d i).length := by
    rw [← List.countP_eq_length_filter]
    exact List.countP_congr fun i _ => by simp
  rw [b2] at b
  have sub : ((((pickI false m.1).filter fun i => !pAt m.1 d i)).take (manyM m)).Sublist (pickI false m.1) := (List.take_sublist _ _).trans List.filter_sublist
  refine ⟨sortI (pickI true m.1 ++ (((pickI false m.1).filter fun i => !pAt m.1 d i)).take (manyM m)), ?_, fun i hi => ?_⟩
  · unfold choicesM
    refine List.mem_map.mpr ⟨_, someOf_mem.mpr ⟨sub, ?_⟩, rfl⟩
    rw [List.length_take]
    unfold manyM
    omega
  · rcases List.mem_append.mp (sortK_perm.mem_iff.mp hi) with q | q
    · obtain ⟨n, z, rfl, hz, ht⟩ := pick_mem.mp q
      rw [zAt_nat hz]
      cases hp : partW z d with
      | false => rfl
      | true =>
        have := tr z (List.mem_of_getElem? hz) hp
        rw [ht] at this; cases this
    · have := (List.mem_filter.mp ((List.take_sublist _ _).subset q)).2
      simpa [pAt] using this
theorem minI_le : ∀ (l : List Int) (a : Int), minI a l ≤ a ∧ ∀ x ∈ l, minI a l ≤ x
  | [], a => ⟨Int.le_refl _, fun x hx => by cases hx⟩
  | b :: l, a => by
    unfold minI
    obtain ⟨h1, h2⟩ := minI_le l (if b < a then b else a)
    have hh : (if b < a then b else a) ≤ a ∧ (if b < a then b else a) ≤ b := by split <;> omega
    refine ⟨by omega, fun x hx => ?_⟩
    rcases List.mem_cons.mp hx with rfl | hx
    · omega
    · exact h2 x hx
theorem minI_mem : ∀ (l : List Int) (a : Int), minI a l = a ∨ minI a l ∈ l
  | [], a => .inl rfl
  | b :: l, a => by
    unfold minI
    rcases minI_mem l (if b < a then b else a) with h | h
    · rw [h]
      by_cases c : b < a
      · rw [if_pos c]; exact .inr List.mem_cons_self
      · rw [if_neg c]; exact .inl rfl
    · exact .inr (List.mem_cons_of_mem _ h)
theorem mapO_some {α β : Type} {f : α → Option β} : ∀ {xs : List α}, (∀ x ∈ xs, ∃ y, f x = some y) → ∃ ys, mapO f xs = some ys
  | [], _ => ⟨[], rfl⟩
  | x :: xs, h => by
    obtain ⟨y, hy⟩ := h x List.mem_cons_self
    obtain ⟨ys, hys⟩ := mapO_some fun z hz => h z (List.mem_cons_of_mem _ hz)
    exact ⟨y :: ys, by rw [mapO, hy, hys]; rfl⟩
theorem mapO_mem {α β : Type} {f : α → Option β} : ∀ {xs : List α} {ys : List β}, mapO f xs = some ys → (∀ x ∈ xs, ∃ y ∈ ys, f x = some y) ∧ ∀ y ∈ ys, ∃ x ∈ xs, f x = some y
  | [], ys, h => by cases h; exact ⟨(fun x (hx : x ∈ []) => by cases hx), (fun x (hx : x ∈ []) => by cases hx)⟩
  | x :: xs, ys, h => by
    obtain ⟨y, h1, h⟩ := ob h
    obtain ⟨zs, h2, h⟩ := ob h
    cases h
    obtain ⟨a, b⟩ := mapO_mem h2
    refine ⟨fun u hu => ?_, fun u hu => ?_⟩
    · rcases List.mem_cons.mp hu with rfl | hu
      · exact ⟨y, List.mem_cons_self, h1⟩
      · obtain ⟨v, hv, e⟩ := a u hu
        exact ⟨v, List.mem_cons_of_mem _ hv, e⟩
    · rcases List.mem_cons.mp hu with rfl | hu
      · exact ⟨x, List.mem_cons_self, h1⟩
      · obtain ⟨v, hv, e⟩ := b u hu
        exact ⟨v, List.mem_cons_of_mem _ hv, e⟩
theorem GoodM.spare {m : Mt} (g : GoodM m) : 0 ≤ spareM m := by
  have go := g.off; have gm := g.more; have gl := g.lost
  unfold spareM; omega
theorem choices_ne {m : Mt} (g : GoodM m) : choicesM m ≠ [] := by
  have sub : ((pickI false m.1).take (manyM m)).Sublist (pickI false m.1) := List.take_sublist _ _
  have hm : (pickI false m.1).take (manyM m) ∈ someOf (manyM m) (pickI false m.1) := someOf_mem.mpr ⟨sub, by
    have := g.spare
    rw [List.length_take]; unfold manyM; omega⟩
  unfold choicesM
  intro q
  rw [List.map_eq_nil_iff.mp q] at hm
  cases hm
theorem leastM_ok {m : Mt} (g : GoodM m) {w : Nat} (hw : w ≤ 4) : ∃ l : Int, leastM m w = some l ∧ (w : Int) < l ∧ l ≤ 200 ∧ blindW m l = true ∧ ∀ d, (w : Int) < d → d < l → blindW m d = false := by
  have each : ∀ c ∈ choicesM m, ∃ y, leastC m.1 w c = some y := fun c hc => by
    obtain ⟨l, h, _⟩ := leastC_ok g hw (choice_ok g hc).pl (choice_ok g hc).few
    exact ⟨l, h⟩
  obtain ⟨ls, hls⟩ := mapO_some each
  obtain ⟨m1, m2⟩ := mapO_mem hls
  have ne : ls ≠ [] := fun q => by
    subst q
    cases hc : choicesM m with
    | nil => exact choices_ne g hc
    | cons c cs =>
      obtain ⟨y, hy, _⟩ := m1 c (by rw [hc]; exact List.mem_cons_self)
      cases hy
  cases ls with
  | nil => exact absurd rfl ne
  | cons a ls =>
  refine ⟨minI a ls, by unfold leastM; rw [hls]; rfl, ?_⟩
  have mem : minI a ls ∈ a :: ls := by
    rcases minI_mem ls a with h | h
    · rw [h]; exact List.mem_cons_self
    · exact List.mem_cons_of_mem _ h
  have le : ∀ x ∈ a :: ls, minI a ls ≤ x := fun x hx => by
    rcases List.mem_cons.mp hx with rfl | hx
    · exact (minI_le ls x).1
    · exact (minI_le ls a).2 x hx
  obtain ⟨c, hc, ec⟩ := m2 _ mem
  obtain ⟨l, h1, h2, h3, h4, h5⟩ := leastC_ok g hw (choice_ok g hc).pl (choice_ok g hc).few
  rw [ec] at h1
  obtain rfl := Option.some.inj h1
  refine ⟨h2, h3, choice_blind (choice_ok g hc) g.spare h4, fun d d1 d2 => ?_⟩
  cases hb : blindW m d with
  | false => rfl
  | true =>
    obtain ⟨c', hc', np⟩ := blind_choice hb g.spare
    obtain ⟨l', k1, k2, k3, k4, k5⟩ := leastC_ok g hw (choice_ok g hc').pl (choice_ok g hc').few
    obtain ⟨y, hy, ey⟩ := m1 c' hc'
    rw [k1] at ey
    obtain rfl := Option.some.inj ey
    have := le _ hy
    obtain ⟨i, hi, pi⟩ := k5 d d1 (by omega)
    rw [np i hi] at pi; cases pi
theorem sure_law {m : Mt} (g : GoodM m) {r w : Nat} (hw : w ≤ 4) : ∃ l : Int, leastM m w = some l ∧ (w : Int) < l ∧ l ≤ 200 ∧ blindW m l = true ∧ decide ((r : Int) ≤ l) = lawSure m r w := by
  obtain ⟨l, h1, h2, h3, h4, h5⟩ := leastM_ok g hw
  refine ⟨l, h1, h2, h3, h4, ?_⟩
  rw [Bool.eq_iff_iff, decide_eq_true_eq, lawSure_iff g (by omega)]
  constructor
  · intro h d d1 d2
    exact h5 d d1 (by omega)
  · intro h
    rcases Int.lt_or_le l r with q | q
    · rw [h l h2 q] at h4; cases h4
    · exact q
end K32

/-! papers.py: bool; reaches.py: making papers, near lots, tables -/
namespace K32
open PySem PyProof.Rows L2
section
variable {P : Program} {w : World} {K : PySem.W.Frag} {mg : Str → Option Value} {base : Heap}
def spBool (K : PySem.W.Frag) : Sp := fun vs H Q _ => ∃ x C dx fs b, vs = [.ref x] ∧ H x = some (.ins C dx fs) ∧ Cls K C ∧ Con K C "IS_TRUE" (.bl b) (.bool b) ∧ fs.lookup ("IS_TRUE" : Str) = none ∧ Q (.bl b) H
theorem fr_bool (T : Top K mg) (Fc : Facts P K mg) : FnR P w K mg base CX0 1 (ma K (ga K "Paper") "__bool__") (spBool K) := by
  refine ((fnF (k := 0) (sp := spBool K) T.Paper___bool__ sc_Paper___bool__ (by rintro vs H Q E ⟨x, C, dx, fs, b, rfl, _⟩; rfl) (fun cdv A outer sh H vs Q E hr h => ?_)).raw (T.Paper___bool__.bindsN (fun _ _ _ _ _ _ us hl => match us, hl with | [_], _ => rfl)) .nil).imp fun vs H Q E h => by rw [List.append_nil]; exact h
  obtain ⟨x, C, dx, fs, b, rfl, hx, hc, hn, hl, q⟩ := h
  refine ⟨_, (pss_one (ps_ret (pe_callTy call_bool1 (by rfl) T.f_bool (by decide +kernel) (pa_cons (conK K rfl (pv 0)) pa_nil)))), ?_⟩
  exact ⟨_, rfl, x, C, dx, _, _, _, rfl, hx, hc, hn, hl, .inr ⟨_, rfl, q⟩⟩
/-- a paper that tells b -/
def PapAt (b : Bool) (K : PySem.W.Frag) (H : Hp) (x : Addr) : Prop := ∃ C dx fs, H x = some (.ins C dx fs) ∧ Cls K C ∧ Con K C "IS_TRUE" (.bl b) (.bool b) ∧ fs.lookup ("IS_TRUE" : Str) = none ∧ OwnB K C (ma K (ga K "Paper") "__bool__")
def spSureI (K : PySem.W.Frag) : Sp := InitSp (ga K "Sure") fun G ws Ob => ∃ a, ws = [.ref a] ∧ Ob = PapAt true K
theorem mk_Sure (T : Top K mg) (Fc : Facts P K mg) : C8.Mak P w K mg base 2 "Sure" (ga K "Sure") (spSureI K) [] := by
  obtain ⟨c, cc, sd⟩ := Fc.sup_Sure
  refine makS Fc.mk_Sure T.c_Sure sd (fun _ _ _ _ _ _ _ us hl => match us, hl with | [_, _], _ => rfl) scn_Sure___init__ (by decide +kernel) (by rintro vs H Q E ⟨x, dx, ws, Ob, rfl, _, ⟨a, rfl, _⟩, _⟩; rfl) (fun A outer sh H vs Q E hr h => ?_)
  obtain ⟨x, dx, ws, Ob, rfl, hx, ⟨a, rfl, rfl⟩, q⟩ := h
  refine ⟨_, at_super sd rfl rfl rfl rfl rfl T.f_super Fc.htop ⟨_, rfl, rfl⟩ rfl rfl (f_paper T) hr (pa_cons (pv 1) pa_nil) (atS_of (pss_one (sfldK K rfl (pv 0) (pv 1) rfl))), ?_⟩
  refine ⟨x, _, _, _, rfl, hx, Fc.so_Sure, _, rfl, x, _, dx, [.ref a], rfl, hx, T.k_Sure, T.n_Sure_own_parts, (by show (1 : Nat) ≤ sizeLine; decide), fun p hp => ?_⟩
  refine ⟨_, rfl, _, rfl, x, _, dx, _, rfl, upd_same, T.k_Sure, T.n_Sure_tables, few rfl, ?_⟩
  have g := Same.updX (o := .ins (ga K "Sure") dx [("own_parts", .ref p), ("tables", .ref a)]) dropD_at (Same.updX (o := .ins (ga K "Sure") dx [("own_parts", .ref p)]) dropD_at ((drop_same (H := H) (D := x)).trans (Same.new (o := .tup [.ref a]) hp)))
  exact q _ g ⟨_, dx, _, upd_same, T.k_Sure, Fc.con_Sure, rfl, Fc.ownB_Sure⟩
def spUnsureI (K : PySem.W.Frag) : Sp := InitSp (ga K "Unsure") fun G ws Ob => ∃ a b c d e, ws = [a, b, c, d, e] ∧ Ob = PapAt false K
theorem mk_Unsure (T : Top K mg) (Fc : Facts P K mg) : C8.Mak P w K mg base 2 "Unsure" (ga K "Unsure") (spUnsureI K) [] := by
  obtain ⟨c, cc, sd⟩ := Fc.sup_Unsure
  refine makS Fc.mk_Unsure T.c_Unsure sd (fun _ _ _ _ _ _ _ us hl => match us, hl with | [_, _, _, _, _, _], _ => rfl) scn_Unsure___init__ (by decide +kernel) (by rintro vs H Q E ⟨x, dx, ws, Ob, rfl, _, ⟨a, b, c, d, e, rfl, _⟩, _⟩; rfl) (fun A outer sh H vs Q E hr h => ?_)
  obtain ⟨x, dx, ws, Ob, rfl, hx, ⟨a1, a2, a3, a4, a5, rfl, rfl⟩, q⟩ := h
  refine ⟨_, at_super sd rfl rfl rfl rfl rfl T.f_super Fc.htop ⟨_, rfl, rfl⟩ rfl rfl (f_paper T) hr (pa_cons (pv 1) (pa_cons (pv 2) (pa_cons (pv 3) (pa_cons (pv 4) (pa_cons (pv 5) pa_nil))))) (atS_of (pss_cons (sfldK K rfl (pv 0) (pv 1) rfl) (pss_cons (sfldK K rfl (pv 0) (pv 2) rfl) (pss_cons (sfldK K rfl (pv 0) (pv 3) rfl) (pss_cons (sfldK K rfl (pv 0) (pv 4) rfl) (pss_one (sfldK K rfl (pv 0) (pv 5) rfl))))))), ?_⟩
  refine ⟨x, _, _, _, rfl, hx, Fc.so_Unsure, _, rfl, _, rfl, _, rfl, _, rfl, _, rfl, x, _, dx, [a1, a2, a3, a4, a5], rfl, hx, T.k_Unsure, T.n_Unsure_own_parts, (by show (5 : Nat) ≤ sizeLine; decide), fun p hp => ?_⟩
  refine ⟨_, rfl, _, rfl, x, _, dx, _, rfl, upd_same, T.k_Unsure, T.n_Unsure_low, few rfl, ?_⟩
  refine ⟨_, rfl, _, rfl, x, _, dx, _, rfl, upd_same, T.k_Unsure, T.n_Unsure_high, few rfl, ?_⟩
  refine ⟨_, rfl, _, rfl, x, _, dx, _, rfl, upd_same, T.k_Unsure, T.n_Unsure_marks, few rfl, ?_⟩
  refine ⟨_, rfl, _, rfl, x, _, dx, _, rfl, upd_same, T.k_Unsure, T.n_Unsure_low_off, few rfl, ?_⟩
  refine ⟨_, rfl, _, rfl, x, _, dx, _, rfl, upd_same, T.k_Unsure, T.n_Unsure_high_off, few rfl, ?_⟩
  have g := (drop_same (H := H) (D := x)).trans (Same.new (o := .tup [a1, a2, a3, a4, a5]) hp)
  refine q _ (Same.updX dropD_at (Same.updX dropD_at (Same.updX dropD_at (Same.updX dropD_at (Same.updX dropD_at (Same.updX dropD_at g)))))) ⟨_, dx, _, upd_same, T.k_Unsure, Fc.con_Unsure, rfl, Fc.ownB_Unsure⟩
def spNeedMeter (K : PySem.W.Frag) : Sp := fun vs H Q _ => ∃ x dx fs, vs = [.ref x] ∧ H x = some (.ins (ga K "Meter") dx fs) ∧ Q .non H
theorem c_need_meter (T : Top K mg) (Fc : Facts P K mg) : C8.Cal P w K mg base 1 "need_meter" (spNeedMeter K) [] := by
  refine calF T.need_meter (fun _ _ _ _ _ _ us hl => match us, hl with | [_], _ => rfl) sc_need_meter (by rintro vs H Q E ⟨x, dx, fs, rfl, _⟩; rfl) (fun cdv A outer sh H vs Q E hr h => ?_)
  obtain ⟨x, dx, fs, rfl, hx, q⟩ := h
  refine ⟨_, (pss_one (ps_if (pt_not (pt_val (pe_callB (clIsA K rfl) (by rfl) T.f_isinstance (by decide +kernel) (pa_cons (pv 0) (pa_cons (pe_glob (v := .ref (ga K "Meter")) (by rfl) T.c_Meter rfl) pa_nil))))) (pss_one (ps_never)) pss_nil)), ?_⟩
  exact ⟨_, rfl, x, _, _, dx, _, rfl, hx, Fc.isMeter, true, rfl, iteF q⟩
def spNumR : Sp := fun vs H Q _ => ∃ v l h, vs = [.int v, .int l, .int h] ∧ l ≤ v ∧ v ≤ h ∧ Q .non H
theorem c_need_number_reaches (T : Top K mg) : C8.Cal P w K mg base 2 "need_number_reaches" spNumR [] := by
  refine calF T.need_number_reaches (fun _ _ _ _ _ _ us hl => match us, hl with | [_, _, _], _ => rfl) sc_need_number_reaches (by rintro vs H Q E ⟨v, l, h, rfl, _⟩; rfl) (fun cdv A outer sh H vs Q E hr h => ?_)
  obtain ⟨v, l, hh, rfl, h1, h2, q⟩ := h
  refine ⟨_, (pss_one (ps_if (PW.pt (pw_or (pt_not (pt_val (C8.pe_c (c_is_whole T) hr (by decide) rfl (pa_cons (pv 0) pa_nil)))) (pw_or1 (pt_not (pt_chain op_le op_le (pv 1) (pv 0) (pv 2)))))) (pss_one (ps_never)) pss_nil)), ?_⟩
  refine ⟨_, rfl, v, rfl, true, rfl, iteF ?_⟩
  refine ⟨_, rfl, _, rfl, _, _, rfl, rfl, _, rfl, ?_⟩
  rw [decide_eq_true h1]
  refine iteT ⟨_, rfl, _, _, rfl, rfl, _, rfl, ?_⟩
  rw [decide_eq_true h2]
  exact iteF q
def spNearLots (K : PySem.W.Frag) : Sp := fun vs H Q _ => ∃ x a m c ls, vs = [.ref x, .ref a] ∧ MeterAt K m H x ∧ SqT K H a (c.map V.int) ∧ c.length ≤ 3 ∧ (∀ z ∈ m.1, 1 ≤ z.1) ∧ (∀ i ∈ c, 0 ≤ i) ∧ lotsAt m.1 c = some ls ∧ ∀ p H' us, Same H H' → H p = none → H' p = some (.lst us) → Paired (LotRef K H') us ls → Q (.ref p) H'
theorem c_near_lots (T : Top K mg) (Fc : Facts P K mg) : C8.Cal P w K mg base 9 "near_lots" (spNearLots K) [] := by
  refine calF T.near_lots (fun _ _ _ _ _ _ us hl => match us, hl with | [_, _], _ => rfl) sc_near_lots (by rintro vs H Q E ⟨x, a, m, c, ls, rfl, _⟩; rfl) (fun cdv A outer sh H vs Q E hr h => ?_)
  obtain ⟨x, a, m, c, ls, rfl, hM, hA, hl, hp, hc, hls, q⟩ := h
  refine ⟨_, (pss_one (ps_ret (pe_lc (own := [("at", 2)]) rfl sc_near_lots.nd (piT K rfl (pv 1)) (blkOk_by (own := [("at", 2)]) (N := N_near_lots) (sc := defScope s_near_lots) (by decide +kernel)) (fun _ _ _ _ _ => (pg_name (i := 2) sc_near_lots.nd rfl (Or.inl rfl))) (fun _ _ _ _ _ => pts_nil) (fun _ _ _ _ _ => (pe_propA K rfl (pe_ixO K rfl (fr_getitem T Fc) (hr.mono (by decide)) (pv 0) (pv 2) (fun _ _ => rfl)) (fr_near T Fc) hr (by decide)))))), ?_⟩
  obtain ⟨dx, ta, us, hx, hT, pu⟩ := id hM
  have el := (mapO_eq hls).1
  refine ⟨_, rfl, a, rfl, ⟨_, hA⟩, fun D hD => lcL (its_tup hA) hD (R := fun G v t => ∃ b dx ra ba n, v = .ref b ∧ b ≠ D ∧ ba ≠ D ∧ G b = some (.ins (ga K "Lot") dx [("period", .int t.1), ("runs", .ref ra), ("size", .int n), ("own_begins", .ref ba)]) ∧ RunsT K G ra t.2 ∧ SqL K G ba ((t.2.map (·.1)).map V.int)) ls ?_ (by rw [List.length_map]; exact el) (by rw [List.length_map]; omega) (fun i y z H' hi hy hz e hacc Qe qe => ?_) gname_mono fun ys H1 e1 hy py => ?_⟩
  · rintro acc G G' y t hG hs ⟨b, dx, ra, ba, n, rfl, h1, h2, h3, h4, h5⟩
    obtain ⟨l4, u4, s4, p4⟩ := h4
    refine ⟨b, dx, ra, ba, n, rfl, h1, h2, hs b _ h1 h3, ⟨l4, u4, stabT hG hs s4, paired_imp p4 fun v z r => stab_run D acc G G' v z hG hs r⟩, ?_⟩
    rcases h5 with (h5 | ⟨o, h5⟩) | h5
    · exact .inl (.inl (hs _ _ h2 h5))
    · exact .inl (.inr ⟨o, hs _ _ h2 h5⟩)
    · exact .inr h5
  · have hic : i < c.length := by rw [List.length_map] at hi; exact hi
    rw [List.getElem?_map, List.getElem?_eq_getElem hic] at hy
    obtain rfl := Option.some.inj hy
    have hn := mapO_at hls (List.getElem?_eq_getElem hic) hz
    have h0 := hc _ (List.getElem_mem hic)
    unfold nearAt at hn
    cases hw : m.1[c[i].toNat]? with
    | none => rw [hw] at hn; cases hn
    | some zw =>
    rw [hw] at hn
    obtain ⟨acc, hacc⟩ := hacc
    obtain ⟨v, hv, b, rfl, C, dxw, hwx, cw⟩ := paired_getR pu hw
    refine ⟨rfl, _, rfl, _, rfl, x, _, dx, _, rfl, e _ _ hx, Fc.ownG, ?_⟩
    refine ⟨x, c[i].toNat, _, _, dx, ta, us, _, _, _, rfl, e _ _ hx, Same.seqT e hT, by omega, hv, b, C, dxw, _, _, rfl, e _ _ hwx, cw.cls, cw.p_near, ?_⟩
    refine ⟨b, _, _, _, _, z, rfl, ⟨C, dxw, e _ _ hwx, cw⟩, hp _ (List.mem_of_getElem? hw), hn, fun r H2 e2 hr0 hL => qe _ _ e2 ?_⟩
    obtain ⟨dx2, ra, ba, n, h1, h2, h3, h4⟩ := hL
    exact ⟨r, dx2, ra, ba, n, rfl, (fun zz => by subst zz; rw [hacc] at hr0; cases hr0), (fun zz => by subst zz; rw [hacc] at h4; cases h4), h1, h2, h3⟩
  · exact q D H1 ys e1 hD hy (paired_imp py fun v t ⟨b, dx, ra, ba, n, h0, _, _, h1, h2, h3⟩ => ⟨b, h0, dx, ra, ba, n, h1, h2, h3⟩)
end
end K32

/-! reaches.py: tables by choice -/
namespace K32
open PySem PyProof.Rows L2
theorem mapO_bind {α β γ : Type} {f : α → Option β} {g : β → Option γ} : ∀ {xs : List α} {zs : List γ}, mapO (fun x => f x >>= g) xs = some zs → ∃ ys, mapO f xs = some ys ∧ mapO g ys = some zs
  | [], zs, h => ⟨[], rfl, h⟩
  | x :: xs, zs, h => by
    obtain ⟨z, h1, h⟩ := ob h
    obtain ⟨zs', h2, h⟩ := ob h
    cases h
    obtain ⟨y, h3, h4⟩ := ob h1
    obtain ⟨ys, h5, h6⟩ := mapO_bind h2
    refine ⟨y :: ys, ?_, ?_⟩
    · rw [mapO, h3, h5]; rfl
    · rw [mapO, h4, h6]; rfl
def tablesC (ws : List Wl) (c : List Int) : Option (List Tab) := do
  let ls ← lotsAt ws c
  joinO ls
def leastT (w : Int) (ts : List Tab) : Option Int := do
  let l ← tableLotO ts
  atLeastO l (w + 1)
theorem leastC_split (ws : List Wl) (w : Int) : leastC ws w = fun c => tablesC ws c >>= leastT w := by
  funext c
  unfold leastC tablesC leastOf leastT
  cases lotsAt ws c <;> rfl
section
variable {P : Program} {w : World} {K : PySem.W.Frag} {mg : Str → Option Value} {base : Heap}
def TabsR (K : PySem.W.Frag) (H : Hp) (v : V) (ts : List Tab) : Prop := ∃ a, v = .ref a ∧ TabsT K H a ts
theorem TabsR.same {H H' : Hp} {v : V} {ts : List Tab} (e : Same H H') (h : TabsR K H v ts) : TabsR K H' v ts := let ⟨a, ea, t⟩ := h; ⟨a, ea, t.same e⟩
theorem KL.tabsR {H H' : Hp} {v : V} {ts : List Tab} (e : KL H H') (h : TabsR K H v ts) : TabsR K H' v ts := let ⟨a, ea, us, h1, h2⟩ := h; ⟨a, ea, us, e.seqT h1, paired_imp h2 fun _ _ r => e.tabAt r⟩
def spTables (K : PySem.W.Frag) : Sp := fun vs H Q _ => ∃ x m tss, vs = [.ref x] ∧ MeterAt K m H x ∧ GoodM m ∧ mapO (tablesC m.1) (choicesM m) = some tss ∧ (choicesM m).length ≤ 100 ∧ ∀ p H' us, Same H H' → SqT K H' p us → Paired (TabsR K H') us tss → Q (.ref p) H'
theorem c_tables_by_choice (T : Top K mg) (Fc : Facts P K mg) : C8.Cal P w K mg base 10 "tables_by_choice" (spTables K) [] := by
  refine calF T.tables_by_choice (fun _ _ _ _ _ _ us hl => match us, hl with | [_], _ => rfl) sc_tables_by_choice (by rintro vs H Q E ⟨x, m, tss, rfl, _⟩; rfl) (fun cdv A outer sh H vs Q E hr h => ?_)
  obtain ⟨x, m, tss, rfl, hM, g, ht, hcl, q⟩ := h
  refine ⟨_, (pss_cons (ps_set (i := 1) sc_tables_by_choice.nd rfl (Or.inl rfl) (pe_lst pa_nil))
      (pss_cons (ps_forGen (fun _ _ z => z) rfl (pv 0) T.k_Meter T.m_Meter_choices (gen_choices T Fc) (hr.mono (by decide)) (pg_name (i := 2) sc_tables_by_choice.nd rfl (Or.inl rfl)) (pss_cons (ps_set (i := 3) sc_tables_by_choice.nd rfl (Or.inl rfl) (C8.pe_c (c_near_lots T Fc) hr (by decide) rfl (pa_cons (pv 0) (pa_cons (pv 2) pa_nil))))
      (pss_one (ps_expr (bmK K rfl PySem.F.plainAttrs_list PySem.F.slot_list_append PySem.F.type_list_append mt_append (pv 1) (pa_cons (fldK K rfl (pe_cRS (c_join T Fc) hr (by decide) rfl (pv 3)) rfl) pa_nil))))))
      (pss_one (ps_ret (pe_callTy (clTup K rfl) (by rfl) T.f_tuple (by decide +kernel) (pa_cons (pv 1) pa_nil)))))), ?_⟩
  have tl := (mapO_eq ht).1
  obtain ⟨dx, ta, us0, hx, hT, pu0⟩ := id hM
  refine ⟨(by decide), fun F hF => ?_⟩
  have e0 : Same H (upd H F (.lst [])) := Same.new hF
  refine ⟨_, rfl, x, dx, _, choicesM m, F, rfl, e0 _ _ hx, rfl, ⟨x, m, rfl, hM.same e0, g.few, ⟨g.off.1, by have := g.off.2; omega⟩, g.spare, rfl, _, upd_same⟩,
    fun zs σ H' => ∃ n us v2 v3, σ = [some (.ref x), some (.ref F), v2, v3] ∧ n ≤ (choicesM m).length ∧ zs = (choicesM m).drop n ∧ Same H H' ∧ H' F = some (.lst us) ∧ Paired (TabsR K H') us (tss.take n),
    ⟨0, [], none, none, rfl, Nat.zero_le _, by rw [List.drop_zero], e0, upd_same, by rw [List.take_zero]; exact .nil⟩, ?_, ?_⟩
  · rintro z zs σ H1 ⟨n, us, v2, v3, rfl, hn, ez, e1, hf, pu⟩ y H2 e2 ⟨ay, rfl, hay⟩
    have hi : n < (choicesM m).length := by
      rcases Nat.lt_or_ge n (choicesM m).length with q | q
      · exact q
      · rw [List.drop_eq_nil_of_le q] at ez; cases ez
    rw [List.drop_eq_getElem_cons hi] at ez
    injection ez with ez1 ez2
    have hi2 : n < tss.length := by omega
    have hc : tablesC m.1 z = some tss[n] := by rw [ez1]; exact mapO_at ht (List.getElem?_eq_getElem hi) (List.getElem?_eq_getElem hi2)
    obtain ⟨ls, hls, hj⟩ := ob hc
    have ok := choice_ok g (c := z) (by rw [ez1]; exact List.getElem_mem hi)
    have e12 := e1.trans e2
    refine ⟨_, rfl, _, rfl, x, ay, m, z, ls, rfl, hM.same e12, hay, ok.few, fun z hz => by have := (g.wheels z hz).1.1; omega, fun i hi => by obtain ⟨k, _, rfl, _⟩ := ok.pl i hi; omega, hls, fun p H3 us3 e3 hp hus3 pl => ?_⟩
    have lls := (mapO_eq hls).1
    have hf3 := e3 _ _ (e2 _ _ hf)
    refine ⟨_, rfl, .inl ⟨rfl, us, .of hf3⟩, _, rfl, p, us3, rfl, .inr (.of hus3), ls, tss[n], pl, by rw [pl.length, lls]; have := ok.few; omega, hj, fun pj H4 e4 hpj hJ => ?_⟩
    obtain ⟨dxj, pa, ta4, hj4, hT4⟩ := hJ
    have hf4 := e4 _ _ hf3
    refine ⟨pj, _, dxj, _, _, rfl, hj4, T.k_Join, T.n_Join_tables, rfl, F, us, _, rfl, rfl, hf4, ?_, ?_⟩
    · rw [pu.length, List.length_take]
      exact Nat.lt_of_le_of_lt (Nat.le_trans (Nat.min_le_right _ _) (by omega : tss.length ≤ 100)) (by decide)
    have k := KL.upd (o := .lst (us ++ [.ref ta4])) hf4
    have e14 := e12.trans (e3.trans e4)
    refine ⟨⟨n + 1, _, _, _, rfl, by omega, ez2, Same.updX hF e14, upd_same, ?_⟩, ?_⟩
    · rw [List.take_add_one, List.getElem?_eq_getElem hi2]
      exact paired_app (paired_imp pu fun _ _ r => k.tabsR (r.same (e2.trans (e3.trans e4)))) (.cons ⟨ta4, rfl, (k.tabsR ⟨ta4, rfl, hT4⟩).elim fun _ q => by obtain ⟨q1, q2⟩ := q; cases q1; exact q2⟩ .nil)
    · exact SameX.trans (Same.x (e3.trans e4)) SameX.upd
  · rintro σ H1 ⟨n, us, v2, v3, rfl, hn, ez, e1, hf, pu⟩ H2 e2
    have hn2 : (choicesM m).length ≤ n := List.drop_eq_nil_iff.mp ez.symm
    rw [List.take_of_length_le (by omega)] at pu
    refine ⟨_, rfl, F, us, rfl, .inl ⟨.inl (.of (e2 _ _ hf)), fun l hl => ?_⟩⟩
    exact q l _ us ((e1.trans e2).trans (Same.new hl)) (.inl (.of upd_same)) (paired_imp pu fun _ _ r => r.same (e2.trans (Same.new hl)))
end
end K32

/-! t[lo:hi] of a tuple, the whole of it too -/
namespace HT
open PySem PySem.Spec PyProof.Rows L2
variable {prog : Program} {w : World} {A : Around} {s : Shared} {E : Value → Shared → Prop}
theorem getItem_tuple_all {t sl : Addr} {items : Array Value} {vl vu : Value} {lo hi : Option Int} {Q : Value → Shared → Prop} (ht : IsTup s.heap t items) (hs : s.heap.IsSliceOf sl vl vu .none) (pl : IsPart vl lo) (pu : IsPart vu hi)
    (hw : sIx items.size 0 lo = 0 ∧ sIx items.size items.size hi = items.size) (h : Q (.ref t) s) : wpAny (model prog w) A (getItem (.ref t) (.ref sl)) Q E s := by
  obtain ⟨os, hos, hcs, hds⟩ := id hs
  have hTs : s.TypeIs (.ref sl) "slice" := ⟨os, hos, hcs⟩
  unfold getItem
  try with_reducible refine wpAny_holding ?_
  first | refine wpAny_bind (wpAny_pure ?_) | skip
  refine wpAny_bind (wpAny_sequenceKey ht.typeIs (by decide) ?_)
  refine wpAny_bind (wpAny_callSpecial?_slot (name := Str.ofString "__getitem__") ht.typeIs PyProof.Rows.slot_tuple_getitem
    (wpAny_call_entry PyProof.Rows.slot_tuple_getitem ht.typeIs entry_tuple_getitem ?_ (args_tuple_getitem _ _)))
  show wpAny _ _ (Builtin.Tuple.tupleItemsOf (.ref t) >>= _) _ _ s
  refine wpAny_bind (tupleItemsOf_ ht ?_)
  refine wpAny_bind (wpAny_typeOf hTs ?_)
  rw [if_pos (by decide)]
  refine wpAny_bind (sliceApplied_gen hs pl pu ?_)
  have hyes : (((sIx items.size 0 lo : Nat) : Int) == 0 && (1 : Int) == 1 && (sIx items.size items.size hi - sIx items.size 0 lo) == items.size) = true := by
    rw [hw.1, hw.2]
    simp
  show wpAny _ _ (if (((sIx items.size 0 lo : Nat) : Int) == 0 && (1 : Int) == 1 && (sIx items.size items.size hi - sIx items.size 0 lo) == items.size) = true then _ else _) _ _ s
  rw [if_pos hyes]
  unfold Builtin.Tuple.tupleIsExact
  refine wpAny_bind (wpAny_bind (wpAny_typeOf ht.typeIs (wpAny_pure ?_)))
  rw [if_pos (by decide)]
  exact wpAny_bind (wpAny_rule (wpAny_pure ⟨_, rfl, wpAny_pure h⟩))
end HT
namespace L2
open PySem PySem.Spec PyProof.Rows
/-- the whole of it is t itself -/
def rSlW (K : PySem.W.Frag) : V → Option Int → Option Int → Hp → VK → Prop := fun x lo hi H Q => ∃ a xs, x = .ref a ∧ SqT K H a xs ∧
  (HT.sIx xs.length 0 lo = 0 ∧ HT.sIx xs.length xs.length hi = xs.length) ∧ Q (.ref a) H
theorem sl_whole {X : Cx} : SlR X (rSlW X.K) := by
  intro pins s σ H x v vl vu lo hi sl Q I rx hs pl pu h
  obtain ⟨a, xs, rfl, hx, hw, q⟩ := h
  cases rx
  obtain ⟨its, r, ht, hz⟩ := I.tuple hx
  have hlen : its.toArray.size = xs.length := by rw [List.size_toArray]; exact r.length.symm
  refine ⟨"tuple", _, PyProof.Rows.slot_tuple_getitem.lookup, ht.typeIs, ?_⟩
  refine HT.getItem_tuple_all ht hs pl pu (by rw [hlen]; exact hw) ?_
  exact ⟨.ref a, _, I, rfl, q⟩
end L2
namespace K32
open PySem PyProof.Rows L2
def rSlA (K : PySem.W.Frag) : V → Option Int → Option Int → Hp → VK → Prop := fun x lo hi H Q => rSlT K x lo hi H Q ∨ rSlW K x lo hi H Q
theorem slA {X : Cx} (K : PySem.W.Frag) (h : X.K = K) : SlR X (rSlA K) := h ▸ SlR.or sl_tup sl_whole
theorem rd_slA {K : PySem.W.Frag} {a : Addr} {xs : List V} {lo hi : Option Int} {H : Hp} {Q : VK} (h : SqT K H a xs) (q : ∀ p H', Same H H' → SqT K H' p (cutV xs lo hi) → Q (.ref p) H') : rSlA K (.ref a) lo hi H Q := by
  by_cases c : HT.sIx xs.length 0 lo = 0 ∧ HT.sIx xs.length xs.length hi = xs.length
  · refine .inr ⟨a, xs, rfl, h, c, q a H (Same.refl _) ?_⟩
    have e : cutV xs lo hi = xs := by unfold cutV; rw [c.1, c.2, List.drop_zero, Nat.sub_zero, List.take_length]
    rw [e]; exact h
  · exact .inl ⟨a, xs, rfl, h, c, fun p hp => q p _ (Same.new hp) (.inl (.of upd_same))⟩
end K32

/-! reaches.py: shared_mark, pair_at, sure -/
namespace K32
open PySem PyProof.Rows L2
section
variable {P : Program} {w : World} {K : PySem.W.Frag} {mg : Str → Option Value} {base : Heap}
def spSharedM (K : PySem.W.Frag) : Sp := fun vs H Q _ => ∃ x p b a tr d, vs = [.ref x, .int d] ∧ WheelAt K p b a tr H x ∧ 1 ≤ p ∧ ∀ n, Q (.int n) H
theorem c_shared_mark (T : Top K mg) (Fc : Facts P K mg) : C8.Cal P w K mg base 3 "shared_mark" (spSharedM K) [] := by
  refine calF T.shared_mark (fun _ _ _ _ _ _ us hl => match us, hl with | [_, _], _ => rfl) sc_shared_mark (by rintro vs H Q E ⟨x, p, b, a, tr, d, rfl, _⟩; rfl) (fun cdv A outer sh H vs Q E hr h => ?_)
  obtain ⟨x, p, b, a, tr, d, rfl, ⟨C, dx, hx, c⟩, hp, q⟩ := h
  refine ⟨_, (pss_cons (ps_set (i := 2) sc_shared_mark.nd rfl (Or.inl rfl) (pe_op op_mod (pv 1) (fldK K rfl (pv 0) rfl)))
      (pss_cons (ps_if (pt_cmpR op_gt (pv 2) (pe_propA K rfl (pv 0) (fr_play T Fc) hr (by decide)) (nomark _)) (pss_one (ps_set (i := 2) sc_shared_mark.nd rfl (Or.inl rfl) (pe_op op_sub (pv 2) (fldK K rfl (pv 0) rfl)))) pss_nil)
      (pss_one (ps_ret (pe_op op_mod (pe_op op_sub (pe_callB (call_max2 rfl) (by rfl) T.f_max (by decide +kernel) (pa_cons pe_int (pa_cons (pv 2) pa_nil))) (fldK K rfl (pv 0) rfl)) (fldK K rfl (pv 0) rfl)))))), ?_⟩
  refine ⟨_, rfl, _, rfl, x, C, dx, _, _, rfl, hx, c.cls, c.n_period, rfl, d, p, rfl, rfl, hp, ?_⟩
  refine ⟨_, rfl, _, rfl, x, C, dx, _, _, rfl, hx, c.cls, c.p_play, x, p, b, a, tr, rfl, ⟨C, dx, hx, c⟩, _, _, rfl, rfl, _, rfl, ?_⟩
  cases hc : decide (b + a < d % p) with
  | true => exact iteT ⟨_, rfl, _, rfl, x, C, dx, _, _, rfl, hx, c.cls, c.n_period, rfl, _, _, rfl, rfl, _, rfl, _, _, rfl, _, rfl, x, C, dx, _, _, rfl, hx, c.cls, c.n_back, rfl, _, _, rfl, rfl, _, rfl, x, C, dx, _, _, rfl, hx, c.cls, c.n_period, rfl, _, p, rfl, rfl, hp, q _⟩
  | false => exact iteF ⟨_, rfl, _, _, rfl, _, rfl, x, C, dx, _, _, rfl, hx, c.cls, c.n_back, rfl, _, _, rfl, rfl, _, rfl, x, C, dx, _, _, rfl, hx, c.cls, c.n_period, rfl, _, p, rfl, rfl, hp, q _⟩
def spPairAt (K : PySem.W.Frag) : Sp := fun vs H Q _ => ∃ x m d, vs = [.ref x, .int d] ∧ MeterAt K m H x ∧ GoodM m ∧ 1 ≤ d ∧ d ≤ 1000 ∧ blindW m d = true ∧ ∀ p H', Same H H' → PapAt false K H' p → Q (.ref p) H'
theorem c_pair_at (T : Top K mg) (Fc : Facts P K mg) : C8.Cal P w K mg base 7 "pair_at" (spPairAt K) [] := by
  refine calF T.pair_at (fun _ _ _ _ _ _ us hl => match us, hl with | [_, _], _ => rfl) sc_pair_at (by rintro vs H Q E ⟨x, m, d, rfl, _⟩; rfl) (fun cdv A outer sh H vs Q E hr h => ?_)
  obtain ⟨x, m, d, rfl, hM, g, hd1, hd2, hb, q⟩ := h
  refine ⟨_, (pss_cons (ps_expr (C8.pe_c (c_need_meter T Fc) hr (by decide) rfl (pa_cons (pv 0) pa_nil)))
      (pss_cons (ps_if (PW.pt (pw_or (pt_not (pt_val (C8.pe_c (c_is_whole T) hr (by decide) rfl (pa_cons (pv 1) pa_nil)))) (pw_or (pt_not (pt_chain op_le op_le pe_int (pv 1) (C8.pe_gc (by rfl) (gI T.g_MOST_FAR)))) (pw_or1 (pt_not (pt_val (C8.pe_mt (fr_blind T Fc) hr (by decide) (pv 0) (pa_cons (pv 1) pa_nil)))))))) (pss_one (ps_never)) pss_nil)
      (pss_cons (ps_set (i := 2) sc_pair_at.nd rfl (Or.inl rfl) (C8.pe_mt (fr_parting T Fc) hr (by decide) (pv 0) (pa_cons (pv 1) pa_nil)))
      (pss_cons (ps_par (i := 3) (j := 4) (by rfl) sc_pair_at.nd rfl rfl (by decide) rfl rfl (pa_cons (pe_slice (slA K rfl) (pv 2) po_none (po_some (fldK K rfl (pv 0) rfl))) (pa_cons (pe_slice (slA K rfl) (pv 2) (po_some (fldK K rfl (pv 0) rfl)) po_none) pa_nil)) (by rfl))
      (pss_cons (ps_par (i := 5) (j := 6) (by rfl) sc_pair_at.nd rfl rfl (by decide) rfl rfl (pa_cons (pe_slice (slA K rfl) (pv 4) po_none (po_some (fldK K rfl (pv 0) rfl))) (pa_cons (pe_slice (slA K rfl) (pv 4) (po_some (fldK K rfl (pv 0) rfl)) po_none) pa_nil)) (by rfl))
      (pss_cons (ps_set (i := 7) sc_pair_at.nd rfl (Or.inl rfl) (pe_lst pa_nil))
      (pss_cons (ps_for PassesOwn.never rfl (piEnumO K rfl (fn_iter T Fc) (hr.mono (by decide)) rfl T.f_enumerate (pa_cons (pv 0) pa_nil)) (pgT K 2 rfl (by rfl) (pgs_cons (pg_name (i := 8) sc_pair_at.nd rfl (Or.inl rfl)) (pgs_cons (pg_name (i := 9) sc_pair_at.nd rfl (Or.inl rfl)) pgs_nil))) (pss_one (ps_if (pt_cmpR (oIn K rfl) (pv 8) (pv 3) rfl) (pss_one (ps_expr (bmK K rfl PySem.F.plainAttrs_list PySem.F.slot_list_append PySem.F.type_list_append mt_append (pv 7) (pa_cons pe_non pa_nil)))) (pss_one (ps_if (pt_cmpR (oIn K rfl) (pv 8) (pv 5) rfl) (pss_one (ps_expr (bmK K rfl PySem.F.plainAttrs_list PySem.F.slot_list_append PySem.F.type_list_append mt_append (pv 7) (pa_cons (pe_callA K rfl (pv 9) (fr_show T) hr (by decide) (pa_cons pe_int pa_nil)) pa_nil)))) (pss_one (ps_expr (bmK K rfl PySem.F.plainAttrs_list PySem.F.slot_list_append PySem.F.type_list_append mt_append (pv 7) (pa_cons (pe_ifExp (pt_cmpR (oIn K rfl) (pv 8) (pv 6) rfl) (pe_callA K rfl (pv 9) (fr_show T) hr (by decide) (pa_cons (pv 1) pa_nil)) (C8.pe_c (c_shared_mark T Fc) hr (by decide) rfl (pa_cons (pv 9) (pa_cons (pv 1) pa_nil)))) pa_nil)))))))))
      (pss_one (ps_ret (C8.pe_mk (mk_Unsure T Fc) hr (by decide) rfl (pa_cons pe_int (pa_cons (pv 1) (pa_cons (pe_callTy (clTup K rfl) (by rfl) T.f_tuple (by decide +kernel) (pa_cons (pv 7) pa_nil)) (pa_cons (pv 6) (pa_cons (pv 5) pa_nil))))))))))))))), ?_⟩
  obtain ⟨dx, ta, us, hx, hT, pu⟩ := id hM
  have hp : ∀ z ∈ m.1, 1 ≤ z.1 := fun z hz => by have := (g.wheels z hz).1.1; omega
  have hlen : m.1.length ≤ 8 := by have := g.few; omega
  have hof : 0 ≤ m.2.1 ∧ m.2.1 ≤ 8 := by have := g.off; omega
  refine ⟨_, rfl, x, dx, _, rfl, hx, ?_⟩
  refine ⟨_, rfl, d, rfl, true, rfl, iteF ?_⟩
  refine ⟨_, rfl, _, _, rfl, rfl, _, rfl, ?_⟩
  rw [decide_eq_true hd1]
  refine iteT ⟨_, _, rfl, rfl, _, rfl, ?_⟩
  rw [decide_eq_true (Int.le_trans hd2 (by decide))]
  refine iteF ⟨_, rfl, x, dx, _, rfl, hx, rfl, _, rfl, x, m, d, rfl, hM, hp, hlen, hof, fun H1 e1 => ⟨_, rfl, ?_⟩⟩
  rw [hb]
  refine iteF ?_
  have hM1 := hM.same e1
  obtain ⟨dx1, ta1, us1, hx1, hT1, pu1⟩ := id hM1
  refine ⟨_, rfl, x, dx1, _, rfl, hx1, rfl, _, rfl, x, m, d, rfl, hM1, hp, hlen, fun pp H2 e2 hpp hP => ?_⟩
  have hcut : ∀ (ns : List Int) (lo hi : Option Int), ∃ ns' : List Int, cutV (ns.map V.int) lo hi = ns'.map V.int := fun ns lo hi => by
    unfold cutV
    rw [← List.map_drop, ← List.map_take]
    exact ⟨_, rfl⟩
  have hfl : ∀ ns : List Int, (ns.map V.int).all flatV = true := fun ns => by rw [List.all_map]; exact List.all_eq_true.mpr fun _ _ => rfl
  have fld : ∀ {H' : Hp}, Same H1 H' → H' x = some (.ins (ga K "Meter") dx1 [("wheels", .ref ta1), ("off", .int m.2.1), ("more", .int m.2.2.1), ("lost", .int m.2.2.2)]) := fun e => e _ _ hx1
  refine ⟨_, rfl, _, rfl, x, _, dx1, _, _, rfl, fld e2, T.k_Meter, T.n_Meter_lost, rfl, _, rfl, rd_slA hP fun a3 H3 e3 h3 => ?_⟩
  have e23 := e2.trans e3
  refine ⟨_, rfl, _, rfl, x, _, dx1, _, _, rfl, fld e23, T.k_Meter, T.n_Meter_lost, rfl, _, rfl, rd_slA (Same.seqT e3 hP) fun a4 H4 e4 h4 => ?_⟩
  obtain ⟨n3, en3⟩ := hcut (partI m.1 d) none (some m.2.2.2)
  obtain ⟨n4, en4⟩ := hcut (partI m.1 d) (some m.2.2.2) none
  rw [en3] at h3
  rw [en4] at h4
  have e24 := e23.trans e4
  refine ⟨_, _, rfl, ?_⟩
  refine ⟨_, rfl, _, rfl, x, _, dx1, _, _, rfl, fld e24, T.k_Meter, T.n_Meter_off, rfl, _, rfl, rd_slA h4 fun a5 H5 e5 h5 => ?_⟩
  have e25 := e24.trans e5
  refine ⟨_, rfl, _, rfl, x, _, dx1, _, _, rfl, fld e25, T.k_Meter, T.n_Meter_off, rfl, _, rfl, rd_slA (Same.seqT e5 h4) fun a6 H6 e6 h6 => ?_⟩
  obtain ⟨n5, en5⟩ := hcut n4 none (some m.2.1)
  obtain ⟨n6, en6⟩ := hcut n4 (some m.2.1) none
  rw [en5] at h5
  rw [en6] at h6
  have e26 := e25.trans e6
  have e06 := e1.trans e26
  refine ⟨_, _, rfl, (by decide), fun f hf => ?_⟩
  have hM6 := hM.same e06
  obtain ⟨dx6, ta6, us6, hx6, hT6, pu6⟩ := id hM6
  have lus := pu6.length
  have ef : Same H6 (upd H6 f (.lst [])) := Same.new hf
  refine ⟨_, rfl, x, _, dx6, _, ta6, rfl, ef _ _ hx6, Fc.ownI, ⟨dx6, us6, _, _, _, ef _ _ hx6, Same.seqT ef hT6⟩, for_enum (K := K) (a := ta6) (xs := us6) (fun i σ H' => Same H6 H' ∧ ∃ vs v8 v9, σ = [some (.ref x), some (.int d), some (.ref pp), some (.ref a3), some (.ref a4), some (.ref a5), some (.ref a6), some (.ref f), v8, v9] ∧ H' f = some (.lst vs) ∧ vs.length = i)
    ⟨ef, [], none, none, rfl, upd_same, rfl⟩ (fun i σ H' _ h => Same.seqT h.1 hT6) ?_ ?_⟩
  · rintro i v T0 σ H' hv ⟨e7, vs, v8, v9, rfl, hfv, hvl⟩ hT0
    obtain ⟨z, hz, b, rfl, C, dxw, hbw, cw⟩ := paired_get pu6 hv
    have hzp := hp z (List.mem_of_getElem? hz)
    have hi : i < 8 := by have := (List.getElem?_eq_some_iff.mp hz).1; omega
    have e8 := e7.trans (Same.new (o := .tup [.int (i : Nat), .ref b]) hT0)
    have hf8 : (upd H' T0 (.tup [.int (i : Nat), .ref b])) f = some (.lst vs) := Same.new hT0 _ _ hfv
    refine ⟨T0, _, rfl, .inl (.of upd_same), rfl, _, _, rfl, _, _, rfl, rfl, ?_⟩
    generalize upd H' T0 (.tup [.int (i : Nat), .ref b]) = H8 at e8 hf8
    have app : ∀ {u : V} {v8 v9 : Option V}, Same H6 (upd H8 f (.lst (vs ++ [u]))) ∧ ∃ vs' w8 w9, [some (.ref x), some (.int d), some (.ref pp), some (.ref a3), some (.ref a4), some (.ref a5), some (.ref a6), some (.ref f), v8, v9] = [some (.ref x), some (.int d), some (.ref pp), some (.ref a3), some (.ref a4), some (.ref a5), some (.ref a6), some (.ref f), w8, w9] ∧ (upd H8 f (.lst (vs ++ [u]))) f = some (.lst vs') ∧ vs'.length = i + 1 := fun {u v8 v9} =>
      ⟨Same.updX hf e8, vs ++ [u], v8, v9, rfl, upd_same, by rw [List.length_append, hvl]; rfl⟩
    have hlt : vs.length < sizeLine := by rw [hvl]; exact Nat.lt_of_lt_of_le hi (by decide)
    have hw8 : WheelAt K z.1 z.2.1 z.2.2.1 z.2.2.2 H8 b := ⟨C, dxw, e8 _ _ hbw, cw⟩
    refine ⟨_, rfl, _, rfl, a3, _, rfl, .inr (Same.seqT (((e4.trans e5).trans e6).trans e8) h3), rfl, hfl _, inV (V.int (i : Nat)) (n3.map V.int), rfl, ?_⟩
    cases inV (V.int (i : Nat)) (n3.map V.int) with
    | true => exact iteT ⟨_, rfl, .inl ⟨rfl, vs, .of hf8⟩, f, vs, _, rfl, rfl, hf8, hlt, app⟩
    | false =>
    refine iteF ⟨_, rfl, _, rfl, a5, _, rfl, .inr (Same.seqT (e6.trans e8) h5), rfl, hfl _, inV (V.int (i : Nat)) (n5.map V.int), rfl, ?_⟩
    cases inV (V.int (i : Nat)) (n5.map V.int) with
    | true => exact iteT ⟨_, rfl, .inl ⟨rfl, vs, .of hf8⟩, _, rfl, b, rfl, C, dxw, _, e8 _ _ hbw, cw.call, b, _, _, _, _, 0, rfl, hw8, hzp, f, vs, _, rfl, rfl, hf8, hlt, app⟩
    | false =>
    refine iteF ⟨_, rfl, .inl ⟨rfl, vs, .of hf8⟩, _, rfl, _, rfl, a6, _, rfl, .inr (Same.seqT e8 h6), rfl, hfl _, inV (V.int (i : Nat)) (n6.map V.int), rfl, ?_⟩
    cases inV (V.int (i : Nat)) (n6.map V.int) with
    | true => exact iteT ⟨_, rfl, b, rfl, _, rfl, C, dxw, _, e8 _ _ hbw, cw.call, b, _, _, _, _, d, rfl, hw8, hzp, f, vs, _, rfl, rfl, hf8, hlt, app⟩
    | false => exact iteF ⟨_, rfl, _, rfl, b, _, _, _, _, d, rfl, hw8, hzp, fun n => ⟨f, vs, _, rfl, rfl, hf8, hlt, app⟩⟩
  · rintro σ H' ⟨e7, vs, v8, v9, rfl, hfv, hvl⟩
    refine ⟨_, rfl, _, rfl, f, vs, rfl, .inl ⟨.inl (.of hfv), fun l hl => ?_⟩⟩
    refine ⟨_, rfl, _, rfl, rd_make (PapAt false K) (fun G eG => ⟨_, _, _, _, _, rfl, rfl⟩) fun r H9 e9 hr9 hP9 => q r H9 (((e06.trans e7).trans (Same.new hl)).trans e9) hP9⟩
def spSure (K : PySem.W.Frag) : Sp := fun vs H Q _ => ∃ x m r wd, vs = [.ref x, .int ((r : Nat) : Int), .int ((wd : Nat) : Int)] ∧ MeterAt K m H x ∧ GoodM m ∧ 1 ≤ r ∧ r ≤ 100 ∧ wd ≤ 4 ∧ ∀ p H', Same H H' → PapAt (lawSure m r wd) K H' p → Q (.ref p) H'
theorem c_sure (T : Top K mg) (Fc : Facts P K mg) : C8.Cal P w K mg base 11 "sure" (spSure K) [] := by
  refine calF T.sure (fun _ _ _ _ _ _ us hl => match us, hl with | [_, _, _], _ => rfl) sc_sure (by rintro vs H Q E ⟨x, m, r, wd, rfl, _⟩; rfl) (fun cdv A outer sh H vs Q E hr h => ?_)
  obtain ⟨x, m, r, wd, rfl, hM, g, hr1, hr2, hw, q⟩ := h
  refine ⟨_, (pss_cons (ps_expr (C8.pe_c (c_need_meter T Fc) hr (by decide) rfl (pa_cons (pv 0) pa_nil)))
      (pss_cons (ps_expr (C8.pe_c (c_need_number_reaches T) hr (by decide) rfl (pa_cons (pv 1) (pa_cons pe_int (pa_cons (C8.pe_gc (by rfl) (gI T.g_MOST_FAR)) pa_nil)))))
      (pss_cons (ps_expr (C8.pe_c (c_need_number_reaches T) hr (by decide) rfl (pa_cons (pv 2) (pa_cons pe_int (pa_cons (C8.pe_gc (by rfl) (gI T.g_MOST_FAR)) pa_nil)))))
      (pss_cons (ps_set (i := 3) sc_sure.nd rfl (Or.inl rfl) (C8.pe_c (c_tables_by_choice T Fc) hr (by decide) rfl (pa_cons (pv 0) pa_nil)))
      (pss_cons (ps_set (i := 4) sc_sure.nd rfl (Or.inl rfl) (pe_callB (clMin K rfl rfl) (by rfl) T.f_min (by decide +kernel) (pa_cons (pe_lc (own := [("found", 5)]) rfl sc_sure.nd (piT K rfl (pv 3)) (blkOk_by (own := [("found", 5)]) (N := N_sure) (sc := defScope s_sure) (by decide +kernel)) (fun _ _ _ _ _ => (pg_name (i := 5) sc_sure.nd rfl (Or.inl rfl))) (fun _ _ _ _ _ => pts_nil) (fun _ _ _ _ _ => (C8.pe_mt (m_at_least T) hr (by decide) (C8.pe_c (c_table_lot T Fc) hr (by decide) rfl (pa_cons (pv 5) pa_nil)) (pa_cons (pe_op op_add (pv 2) pe_int) pa_nil)))) pa_nil)))
      (pss_one (ps_ret (pe_ifExp (pt_cmpR op_ge (pv 4) (pv 1) (nomark _)) (C8.pe_mk (mk_Sure T Fc) hr (by decide) rfl (pa_cons (pv 3) pa_nil)) (C8.pe_c (c_pair_at T Fc) hr (by decide) rfl (pa_cons (pv 0) (pa_cons (pv 4) pa_nil))))))))))), ?_⟩
  obtain ⟨l, hl, hwl, hl2, hbl, hlaw⟩ := sure_law g (r := r) hw
  have hmap : ∃ ls, mapO (leastC m.1 wd) (choicesM m) = some ls ∧ (match ls with | [] => none | l :: ls => some (minI l ls)) = some l := by
    unfold leastM at hl
    exact ob hl
  obtain ⟨ls, hls, hmin⟩ := hmap
  rw [leastC_split] at hls
  obtain ⟨tss, ht, hlt⟩ := mapO_bind hls
  have hcl : (choicesM m).length ≤ 100 := by
    unfold choicesM
    rw [List.length_map]
    have := pick_len m.1
    have := g.few
    exact Nat.le_trans (some_8 (by omega)) (by decide)
  have ltss := (mapO_eq ht).1
  have lls := (mapO_eq hlt).1
  obtain ⟨dx, ta, us0, hx, hT, pu0⟩ := id hM
  refine ⟨_, rfl, x, dx, _, rfl, hx, _, rfl, _, _, _, rfl, by omega, Int.le_trans (show (r : Int) ≤ 100 by omega) (by decide), _, rfl, _, _, _, rfl, by omega, Int.le_trans (show (wd : Int) ≤ 100 by omega) (by decide), ?_⟩
  refine ⟨_, rfl, x, m, tss, rfl, hM, g, ht, hcl, fun p H1 us e1 hp pt => ?_⟩
  have lus := pt.length
  refine ⟨_, rfl, p, rfl, ⟨_, hp⟩, fun D hD => lcA (its_tup hp) hD ls stab_int (by rw [lls]; omega) (by omega) (fun i y z H' hi hy hz e Qe qe => ?_) gname_mono fun ys H2 e2 hy py => ?_⟩
  · obtain ⟨ts, hts, ay, rfl, hay⟩ := paired_get pt hy
    have h1 := mapO_at hlt hts hz
    obtain ⟨t, h2, h3⟩ := ob h1
    refine ⟨rfl, _, rfl, ay, ts, t, rfl, hay.same e, h2, fun pl H3 e3 hpl hL => ?_⟩
    obtain ⟨dxl, ra, ba, n, hxl, _⟩ := id hL
    refine ⟨pl, dxl, _, rfl, hxl, rfl, _, rfl, _, _, rfl, rfl, pl, t, _, z, rfl, hL, h3, qe _ _ e3 rfl⟩
  · rw [paired_int py] at hy
    have e02 := e1.trans e2
    refine ⟨D, ls, rfl, .of hy, ?_, fun mn hm1 hm2 => ?_⟩
    · rw [lls, ltss]
      exact List.length_pos_iff.mpr (choices_ne g)
    have emn : mn = l := by
      cases ls with
      | nil => cases hmin
      | cons l0 ls =>
        obtain rfl := Option.some.inj hmin
        have q1 := hm2 (minI l0 ls) (by rcases minI_mem ls l0 with q | q <;> simp [q])
        obtain ⟨q2, q3⟩ := minI_le ls l0
        rcases List.mem_cons.mp hm1 with rfl | hm1
        · omega
        · have := q3 mn hm1; omega
    subst emn
    refine ⟨_, rfl, _, rfl, _, _, rfl, rfl, _, rfl, ?_⟩
    by_cases hc : (r : Int) ≤ mn
    · rw [decide_eq_true hc] at hlaw ⊢
      exact iteT ⟨_, rfl, rd_make (PapAt true K) (fun G eG => ⟨p, rfl, rfl⟩) fun x H3 e3 hx3 hP => q x H3 (e02.trans e3) (by rw [← hlaw]; exact hP)⟩
    · rw [decide_eq_false hc] at hlaw ⊢
      exact iteF ⟨_, rfl, _, rfl, x, m, mn, rfl, hM.same e02, g, by omega, by omega, hbl, fun p H3 e3 hP => q p H3 (e02.trans e3) (by rw [← hlaw]; exact hP)⟩
end
end K32

/-! the law: what it draws -/
namespace K32
open PySem PyProof.Rows L2
theorem di_can : ∀ ns : List Int, PyData.canLayAll0 (ns.map PyData.int) = true
  | [] => by simp [PyData.canLayAll0]
  | r :: rs => by simp [PyData.canLayAll0, PyData.canLay0, di_can rs]
theorem di_dep : ∀ ns : List Int, PyData.depthAll (ns.map PyData.int) = 0
  | [] => by simp [PyData.depthAll]
  | r :: rs => by simp [PyData.depthAll, PyData.depth, di_dep rs]
theorem sh_ints (ns : List Int) : SeqAt.shaped (.list (ns.map PyData.int)) = true := by
  unfold SeqAt.shaped
  simp [PyData.canLay0, di_can ns, PyData.depth, di_dep ns]
theorem dp_ints {K : PySem.W.Frag} {H : Hp} {a : Addr} {ns : List Int} (h : SqL K H a (ns.map V.int)) : Dp K H (.ref a) (.list (ns.map PyData.int)) := by
  refine .lst h ?_
  clear h
  induction ns with
  | nil => exact .nil
  | cons n ns ih => exact .cons (.int n) ih
theorem ev_nil (ns : List Int) : PyData.eqv (.list (ns.map PyData.int)) (.list []) = decide (ns = []) := by
  cases ns <;> simp [PyData.eqv, PyData.eqvAll]
theorem mixed_lt {x a : Int} (hx : 0 ≤ x) (hx2 : x < 2147483648) (ha : 0 ≤ a) (ha2 : a ≤ 1000) : (x * (2 * a + 395) + 60205 * a * a + 211).natAbs < 2 ^ 64 := by
  have h1 : 0 ≤ x * (2 * a + 395) := Int.mul_nonneg hx (by omega)
  have h2 : x * (2 * a + 395) ≤ 2147483648 * (2 * a + 395) := Int.mul_le_mul_of_nonneg_right (by omega) (by omega)
  have h3 : 0 ≤ a * a := Int.mul_nonneg ha ha
  have h4 : a * a ≤ 1000 * a := Int.mul_le_mul_of_nonneg_right ha2 ha
  have h5 : 60205 * a * a = 60205 * (a * a) := Int.mul_assoc ..
  omega
section
variable {P : Program} {w : World} {K : PySem.W.Frag} {mg : Str → Option Value} {base : Heap}
def PenAt (l : Addr) (ns : List Int) (n : Nat) (H : Hp) (p : Addr) : Prop := ∃ (a : Nat) (gr : Int), H p = some (.lst [.ref l, .int (a : Nat), .int gr]) ∧ H l = some (.lst (ns.map V.int)) ∧ ns.length ≤ 63 ∧ a ≤ n ∧ 0 ≤ gr
theorem PenAt.mono {l : Addr} {ns : List Int} {n m : Nat} {H : Hp} {p : Addr} (h : PenAt l ns n H p) (e : n ≤ m) : PenAt l ns m H p := let ⟨a, gr, h1, h2, h3, h4, h5⟩ := h; ⟨a, gr, h1, h2, h3, Nat.le_trans h4 e, h5⟩
theorem PenAt.keep {l : Addr} {ns : List Int} {n : Nat} {H H' : Hp} {p : Addr} (h : PenAt l ns n H p) (e : Same H H') : PenAt l ns n H' p := let ⟨a, gr, h1, h2, h3, h4, h5⟩ := h; ⟨a, gr, e _ _ h1, e _ _ h2, h3, h4, h5⟩
def spPen (K : PySem.W.Frag) : Sp := fun vs H Q _ => ∃ (s : Addr) (ns : List Int), vs = [.ref s] ∧ SqL K H s (ns.map V.int) ∧ ∀ p H', Same H H' → H p = none → ∀ l ns, H l = none → PenAt l ns 0 H' p → Q (.ref p) H'
theorem c__law_pen (T : Top K mg) : C8.Cal P w K mg base 1 "_law_pen" (spPen K) [] := by
  refine calF T._law_pen (fun _ _ _ _ _ _ us hl => match us, hl with | [_], _ => rfl) sc__law_pen (by rintro vs H Q E ⟨s, ns, rfl, _⟩; rfl) (fun cdv A outer sh H vs Q E hr h => ?_)
  obtain ⟨s, ns, rfl, hs, q⟩ := h
  refine ⟨_, (pss_one (ps_ret (pe_lst (pa_cons (pe_callTy (clList K rfl) (by rfl) T.f_list (by decide +kernel) (pa_cons (pe_slice (slL K rfl) (pv 0) po_none (po_some pe_int)) pa_nil)) (pa_cons pe_int (pa_cons pe_int pa_nil)))))), ?_⟩
  refine ⟨_, rfl, _, rfl, s, _, rfl, hs, fun b hb => ⟨b, _, rfl, .inl (.of upd_same), fun l hl => ⟨?_, fun p hp => ?_⟩⟩⟩
  · show (3 : Nat) ≤ sizeLine; decide
  · have ec : cutV (ns.map V.int) none (some 63) = (ns.take 63).map V.int := by rw [show (63 : Int) = ((63 : Nat) : Int) from rfl, cut_to, List.map_take]
    have e1 : Same H (upd H b (.lst (cutV (ns.map V.int) none (some 63)))) := Same.new hb
    have e2 := Same.new (o := .lst (cutV (ns.map V.int) none (some 63))) hl
    have e3 := Same.new (o := .lst [V.ref l, V.int 0, V.int 0]) hp
    exact q p _ ((e1.trans e2).trans e3) (Same.none (e1.trans e2) hp) l (ns.take 63) (Same.none e1 hl) ⟨0, 0, upd_same, by rw [e3 _ _ upd_same, ec], by rw [List.length_take]; omega, Nat.le_refl _, Int.le_refl _⟩
def spDraw : Sp := fun vs H Q _ => ∃ p l ns n many, vs = [.ref p, .int many] ∧ PenAt l ns n H p ∧ n ≤ 1000 ∧ 1 ≤ many ∧ many ≤ 1000 ∧ ∀ d H', 0 ≤ d → d < many → SameX p H H' → PenAt l ns (n + 1) H' p → Q (.int d) H'
theorem c__law_draw (T : Top K mg) : C8.Cal P w K mg base 1 "_law_draw" spDraw [] := by
  refine calF T._law_draw (fun _ _ _ _ _ _ us hl => match us, hl with | [_, _], _ => rfl) sc__law_draw (by rintro vs H Q E ⟨p, l, ns, n, many, rfl, _⟩; rfl) (fun cdv A outer sh H vs Q E hr h => ?_)
  obtain ⟨p, l, ns, n, many, rfl, ⟨a, gr, hp, hl, hns, han, hgr⟩, hn, hm1, hm2, q⟩ := h
  refine ⟨_, (pss_cons (ps_if (pt_cmpR op_gt (pe_ix (ixL K rfl) (pv 0) pe_int (fun _ _ => rfl)) pe_int (nomark _)) (pss_cons (ps_set (i := 2) sc__law_draw.nd rfl (Or.inl rfl) (pe_op op_mod (pe_callTy call_int1 (by rfl) T.f_int (by decide +kernel) (pa_cons (pe_ix (ixL K rfl) (pv 0) pe_int (fun _ _ => rfl)) pa_nil)) (pv 1)))
      (pss_cons (ps_asg (pe_op op_fdiv (pe_callTy call_int1 (by rfl) T.f_int (by decide +kernel) (pa_cons (pe_ix (ixL K rfl) (pv 0) pe_int (fun _ _ => rfl)) pa_nil)) (pv 1)) (pg_sub (pv 0) pe_int set_list))
      (pss_one (ps_ret (pv 2))))) pss_nil)
      (pss_cons (ps_set (i := 3) sc__law_draw.nd rfl (Or.inl rfl) (pe_ix (ixL K rfl) (pv 0) pe_int (fun _ _ => rfl)))
      (pss_cons (ps_asg (pe_op op_add (pv 3) pe_int) (pg_sub (pv 0) pe_int set_list))
      (pss_cons (ps_set (i := 4) sc__law_draw.nd rfl (Or.inl rfl) (pe_op op_add (pe_op op_mul pe_int (pv 3)) pe_int))
      (C8.pss_cut (ps_if (pt_cmpR (oNeD K rfl hr.units) (pe_ix (ixL K rfl) (pv 0) pe_int (fun _ _ => rfl)) (pe_lst pa_nil) (nomark _)) (pss_one (ps_set (i := 4) sc__law_draw.nd rfl (Or.inl rfl) (pe_ix (ixL K rfl) (pe_ix (ixL K rfl) (pv 0) pe_int (fun _ _ => rfl)) (pe_op op_mod (pe_callTy call_int1 (by rfl) T.f_int (by decide +kernel) (pa_cons (pv 3) pa_nil)) (pe_callB (clLen K rfl) (by rfl) T.f_len (by decide +kernel) (pa_cons (pe_ix (ixL K rfl) (pv 0) pe_int (fun _ _ => rfl)) pa_nil))) (fun _ _ => rfl)))) pss_nil)
      (C8.pss_cut (ps_if (PW.pt (pw_and (pt_cmpR op_lt (pv 3) (pe_callB (clLen K rfl) (by rfl) T.f_len (by decide +kernel) (pa_cons (pe_ix (ixL K rfl) (pv 0) pe_int (fun _ _ => rfl)) pa_nil)) (nomark _)) (pw_and1 (pt_cmpR op_ge (pe_callB call_abs (by rfl) T.f_abs (by decide +kernel) (pa_cons (pv 4) pa_nil)) (pe_op op_pow pe_int pe_int) (nomark _))))) (pss_cons (ps_set (i := 5) sc__law_draw.nd rfl (Or.inl rfl) (pe_op op_add (pe_op op_mul pe_int (pe_op op_sub (pe_callB call_abs (by rfl) T.f_abs (by decide +kernel) (pa_cons (pv 4) pa_nil)) (pe_op op_pow pe_int pe_int))) (pe_callTy call_int1 (by rfl) T.f_int (by decide +kernel) (pa_cons (pe_cmpR op_lt (pv 4) pe_int (nomark _)) pa_nil))))
      (pss_cons (ps_asg (pe_op op_fdiv (pe_callTy call_int1 (by rfl) T.f_int (by decide +kernel) (pa_cons (pv 5) pa_nil)) (pv 1)) (pg_sub (pv 0) pe_int set_list))
      (pss_one (ps_ret (pe_op op_mod (pe_callTy call_int1 (by rfl) T.f_int (by decide +kernel) (pa_cons (pv 5) pa_nil)) (pv 1)))))) pss_nil)
      (pss_cons (ps_set (i := 6) sc__law_draw.nd rfl (Or.inl rfl) (pe_op op_mod (pe_callTy call_int1 (by rfl) T.f_int (by decide +kernel) (pa_cons (pe_op op_pow (pe_op op_add (pe_op op_add (pe_op op_mod (pe_callTy call_int1 (by rfl) T.f_int (by decide +kernel) (pa_cons (pv 4) pa_nil)) pe_int) (pe_op op_mul pe_int (pv 3))) pe_int) pe_int) pa_nil)) pe_int))
      (pss_cons (ps_set (i := 6) sc__law_draw.nd rfl (Or.inl rfl) (pe_op op_mod (pe_callTy call_int1 (by rfl) T.f_int (by decide +kernel) (pa_cons (pe_op op_pow (pe_op op_add (pe_op op_add (pe_op op_mul (pv 6) (pe_op op_add (pe_op op_mul pe_int (pv 3)) pe_int)) (pe_op op_mul (pe_op op_mul pe_int (pv 3)) (pv 3))) pe_int) pe_int) pa_nil)) pe_int))
      (pss_one (ps_ret (pe_op op_mod (pe_callTy call_int1 (by rfl) T.f_int (by decide +kernel) (pa_cons (pe_op op_fdiv (pv 6) pe_int) pa_nil)) (pv 1)))))))))))), ?_⟩
  have hne : l ≠ p := fun z => by
    rw [z, hp] at hl
    cases ns with
    | nil => cases hl
    | cons n ns => injection hl with hl; injection hl with hl; injection hl with hl; cases hl
  refine ⟨_, rfl, p, _, _, _, rfl, rfl, .of hp, rfl, _, _, rfl, rfl, _, rfl, ?_⟩
  by_cases hg : 0 < gr
  · rw [decide_eq_true hg]
    refine iteT ⟨_, rfl, p, _, _, _, rfl, rfl, .of hp, rfl, .inl ⟨_, rfl, _, rfl, _, many, rfl, rfl, by omega, ?_⟩⟩
    refine ⟨_, rfl, p, _, _, _, rfl, rfl, .of hp, rfl, .inl ⟨_, rfl, _, rfl, _, many, rfl, rfl, ⟨by omega, by omega⟩, _, rfl, p, _, 2, 2, rfl, rfl, hp, rfl, ?_⟩⟩
    refine ⟨_, rfl, q _ _ (Int.emod_nonneg _ (by omega)) (Int.emod_lt_of_pos _ (by omega)) SameX.upd ⟨a, _, upd_same, by rw [upd_ne hne]; exact hl, hns, by omega, Int.ediv_nonneg hgr (by omega)⟩⟩
  rw [decide_eq_false hg]
  refine iteF ⟨_, rfl, p, _, _, _, rfl, rfl, .of hp, rfl, ?_⟩
  refine ⟨_, rfl, _, _, rfl, rfl, _, rfl, p, _, 1, 1, rfl, rfl, hp, rfl, ?_⟩
  have ha1 : (a : Int) + 1 = ((a + 1 : Nat) : Int) := by omega
  have hp1 : (upd H p (.lst ([V.ref l, .int (a : Nat), .int gr].set 1 (.int ((a : Nat) + 1))))) p = some (.lst [.ref l, .int ((a + 1 : Nat) : Int), .int gr]) := by
    rw [upd_same, ← ha1]; rfl
  have hl1 : (upd H p (.lst ([V.ref l, .int (a : Nat), .int gr].set 1 (.int ((a : Nat) + 1))))) l = some (.lst (ns.map V.int)) := by rw [upd_ne hne]; exact hl
  have s1 : SameX p H (upd H p (.lst ([V.ref l, .int (a : Nat), .int gr].set 1 (.int ((a : Nat) + 1))))) := SameX.upd
  generalize (upd H p (.lst ([V.ref l, .int (a : Nat), .int gr].set 1 (.int ((a : Nat) + 1))))) = H1 at hp1 hl1 s1 ⊢
  refine ⟨_, rfl, _, _, rfl, rfl, .inl ⟨by decide, by decide⟩, _, _, rfl, rfl, ?_⟩
  refine ⟨fun σ G => ∃ cell : Int, σ = [some (.ref p), some (.int many), none, some (.int (a : Nat)), some (.int cell), none, none] ∧ Same H1 G, ?_, ?_⟩
  · refine ⟨_, rfl, p, _, _, _, rfl, rfl, .of hp1, rfl, (by decide), fun p0 hp0 => ⟨_, .list [], dp_ints (ns := ns) (.of (Same.new hp0 _ _ hl1)), .lst (.of upd_same) .nil, sh_ints _, sh_ints [], ?_⟩⟩
    have en := Same.new (o := .lst []) hp0
    rw [ev_nil]
    refine ⟨_, rfl, ?_⟩
    by_cases hnil : ns = []
    · rw [decide_eq_true hnil]
      exact iteF ⟨_, rfl, en⟩
    · rw [decide_eq_false hnil]
      have hpos : 0 < ns.length := List.length_pos_iff.mpr hnil
      have hix : atI (ns.map V.int) ((a : Int) % ((ns.map V.int).length : Int)) = some (V.int (ns.getD (a % ns.length) 0)) := by
        have hlt : a % ns.length < ns.length := Nat.mod_lt _ hpos
        rw [List.length_map, show (a : Int) % (ns.length : Int) = ((a % ns.length : Nat) : Int) by omega]
        exact atI_nat (by rw [List.getElem?_map, List.getElem?_eq_getElem hlt, List.getD_eq_getElem?_getD, List.getElem?_eq_getElem hlt]; rfl)
      exact iteT ⟨_, rfl, p, _, _, _, rfl, rfl, .of (en _ _ hp1), rfl, _, rfl, .inl ⟨_, rfl, _, rfl, p, _, _, _, rfl, rfl, .of (en _ _ hp1), rfl, l, _, rfl, .inl (.of (en _ _ hl1)), _, _, rfl, rfl, by rw [List.length_map]; omega, l, _, _, _, rfl, rfl, .of (en _ _ hl1), hix, _, rfl, en⟩⟩
  rintro σ H2 ⟨cell, rfl, e2⟩
  have hp2 := e2 _ _ hp1
  have hl2 := e2 _ _ hl1
  have s2 := s1.trans (Same.x e2)
  refine ⟨fun σ G => σ = [some (.ref p), some (.int many), none, some (.int (a : Nat)), some (.int cell), none, none] ∧ G = H2, ?_, ?_⟩
  · refine ⟨_, rfl, _, rfl, p, _, _, _, rfl, rfl, .of hp2, rfl, l, _, rfl, .inl (.of hl2), _, _, rfl, rfl, _, rfl, ?_⟩
    cases decide ((a : Int) < ((ns.map V.int).length : Int)) with
    | false => exact iteF ⟨rfl, rfl⟩
    | true =>
    refine iteT ⟨_, rfl, _, rfl, _, _, rfl, rfl, ⟨by decide, by decide, by decide⟩, _, _, rfl, rfl, _, rfl, ?_⟩
    by_cases hbig : (10 : Int) ^ (18 : Int).toNat ≤ (if cell < 0 then -cell else cell)
    · rw [decide_eq_true hbig]
      refine iteT ⟨_, rfl, _, rfl, _, _, rfl, rfl, ⟨by decide, by decide, by decide⟩, _, _, rfl, rfl, _, _, rfl, rfl, .inl ⟨by decide, by decide⟩, _, rfl, _, _, rfl, rfl, .inr ⟨_, rfl, _, _, rfl, rfl, ?_⟩⟩
      have hgreat : 0 ≤ 2 * ((if cell < 0 then -cell else cell) - (10 : Int) ^ (18 : Int).toNat) + (if decide (cell < 0) = true then 1 else 0) := by
        have : (0 : Int) ≤ (if decide (cell < 0) = true then 1 else 0) := by split <;> decide
        omega
      refine ⟨_, rfl, .inl ⟨_, rfl, _, rfl, _, many, rfl, rfl, ⟨by omega, by omega⟩, _, rfl, p, _, 2, 2, rfl, rfl, hp2, rfl, ?_⟩⟩
      refine ⟨_, rfl, .inl ⟨_, rfl, _, rfl, _, many, rfl, rfl, by omega, ?_⟩⟩
      exact q _ _ (Int.emod_nonneg _ (by omega)) (Int.emod_lt_of_pos _ (by omega)) (s2.trans SameX.upd) ⟨a + 1, _, upd_same, by rw [upd_ne hne]; exact hl2, hns, by omega, Int.ediv_nonneg hgreat (by omega)⟩
    · rw [decide_eq_false hbig]
      exact iteF ⟨rfl, rfl⟩
  · rintro σ H3 ⟨rfl, rfl⟩
    refine ⟨_, rfl, .inl ⟨_, rfl, _, _, rfl, rfl, (show (0 : Int) < 2147483647 by decide), _, rfl, _, _, rfl, rfl, .inl ⟨by decide, by decide⟩, _, _, rfl, rfl, _, _, rfl, rfl, _, _, rfl, rfl, ⟨by decide, by decide, ?_⟩, .inl ⟨_, rfl, _, _, rfl, rfl, (show (0 : Int) < 2147483497 by decide), ?_⟩⟩⟩
    · have h1 := Int.emod_nonneg cell (show (2147483647 : Int) ≠ 0 by decide)
      have h2 := Int.emod_lt_of_pos cell (show (0 : Int) < 2147483647 by decide)
      show (cell % 2147483647 + 38609 * (a : Int) + 1163).natAbs < 2 ^ 64
      omega
    have m1 := Int.emod_nonneg ((cell % 2147483647 + 38609 * (a : Int) + 1163) ^ (5 : Int).toNat) (show (2147483497 : Int) ≠ 0 by decide)
    have m2 := Int.emod_lt_of_pos ((cell % 2147483647 + 38609 * (a : Int) + 1163) ^ (5 : Int).toNat) (show (0 : Int) < 2147483497 by decide)
    refine ⟨_, rfl, _, rfl, _, _, rfl, rfl, .inl ⟨by decide, by decide⟩, _, _, rfl, rfl, _, _, rfl, rfl, .inl ⟨by omega, by omega⟩, ?_⟩
    refine ⟨_, rfl, _, _, rfl, rfl, .inl ⟨by decide, by decide⟩, _, rfl, _, _, rfl, rfl, .inr ⟨by omega, by omega⟩, _, _, rfl, rfl, _, _, rfl, rfl, _, _, rfl, rfl, ⟨by decide, by decide, mixed_lt m1 (by omega) (by omega) (by omega)⟩, .inl ⟨_, rfl, _, _, rfl, rfl, (show (0 : Int) < 2147483269 by decide), ?_⟩⟩
    exact ⟨_, rfl, _, _, rfl, rfl, ⟨by decide, by decide⟩, .inl ⟨_, rfl, _, rfl, _, many, rfl, rfl, by omega, q _ _ (Int.emod_nonneg _ (by omega)) (Int.emod_lt_of_pos _ (by omega)) s2 ⟨a + 1, gr, hp2, hl2, hns, by omega, hgr⟩⟩⟩
end
end K32

/-! the law: drawn wheels and meters -/
namespace K32
open PySem PyProof.Rows L2
theorem sameX_updN {x : Addr} {G H : Hp} {D : Addr} {o : HO} (e : SameX x G H) (h : G D = none) : SameX x G (upd H D o) := fun b u hn hb => by
  rw [upd_ne (ne_of_none hb h)]
  exact e b u hn hb
theorem PenAt.updN {l : Addr} {ns : List Int} {n : Nat} {H : Hp} {p D : Addr} {o : HO} (h : PenAt l ns n H p) (h1 : p ≠ D) (h2 : l ≠ D) : PenAt l ns n (upd H D o) p := let ⟨a, gr, q1, q2, q3, q4, q5⟩ := h; ⟨a, gr, by rw [upd_ne h1]; exact q1, by rw [upd_ne h2]; exact q2, q3, q4, q5⟩
/-- a comprehension over range(..) whose turns change the heap -/
theorem lcR {lo : Int} {n : Nat} {H1 : Hp} {σ : L2.St} {D : Addr} {vs : List Nat} {g : TG} {te : TE} {Qd : Hp → Prop} (Iv : Nat → Hp → List V → Prop) (i0 : Iv 0 (upd H1 D (.lst [])) []) (hn : n ≤ 1000)
    (turn : ∀ i H ys, i < n → Iv i H ys → H D = some (.lst ys) → ∀ (Qe : VK), (∀ y H4, H4 D = some (.lst ys) → Iv (i + 1) (upd H4 D (.lst (ys ++ [y]))) (ys ++ [y]) → Qe y H4) →
      g (.int (lo + (i : Nat))) (wipe σ vs) H fun σ2 H2 => wipe σ2 vs = wipe σ vs ∧ te σ2 H2 Qe)
    (mono : ∀ x σ' H' (Q Q' : L2.St → Hp → Prop), (∀ σ2 H2, Q σ2 H2 → Q' σ2 H2) → g x σ' H' Q → g x σ' H' Q')
    (done : ∀ ys H, Iv n H ys → H D = some (.lst ys) → Qd H) :
    ∃ W : Nat → Nat → Hp → Prop, (∃ m, W 0 m (upd H1 D (.lst []))) ∧ ∀ i m H, W i m H →
      ((Itr lo n).stop i H ∧ Qd H) ∨ ((Itr lo n).go i H ∧ ∃ Nx : Hp → Prop, (∀ H', Nx H' → ∃ m', m' < m ∧ W (i + 1) m' H') ∧ ∀ x H', (Itr lo n).yld i H x H' → g x (wipe σ vs) H' fun σ2 H2 => wipe σ2 vs = wipe σ vs ∧ tYes σ2 H2 fun b H3 =>
        if b = true then te σ2 H3 fun y H4 => ∃ acc, H4 D = some (.lst acc) ∧ acc.length < sizeLine ∧ Nx (upd H4 D (.lst (acc ++ [y]))) else Nx H3) := by
  refine ⟨fun i m H => m = n - i ∧ i ≤ n ∧ ∃ ys, H D = some (.lst ys) ∧ ys.length = i ∧ Iv i H ys, ⟨n, rfl, Nat.zero_le _, [], upd_same, rfl, i0⟩, ?_⟩
  rintro i m H ⟨rfl, hi, ys, hy, hl, iv⟩
  by_cases hlt : i < n
  · refine .inr ⟨hlt, fun H' => i + 1 ≤ n ∧ ∃ ys, H' D = some (.lst ys) ∧ ys.length = i + 1 ∧ Iv (i + 1) H' ys, fun H' q => ⟨n - (i + 1), by omega, rfl, q⟩, fun x H' hyl => ?_⟩
    obtain ⟨rfl, rfl⟩ := hyl
    refine mono _ _ _ _ _ (fun σ2 H2 z => ⟨z.1, yes_intro (A := fun H3 => te σ2 H3 _) z.2⟩) (turn i H' ys hlt iv hy (fun y H4 => ∃ acc, H4 D = some (.lst acc) ∧ acc.length < sizeLine ∧ (i + 1 ≤ n ∧ ∃ ys, (upd H4 D (.lst (acc ++ [y]))) D = some (.lst ys) ∧ ys.length = i + 1 ∧ Iv (i + 1) (upd H4 D (.lst (acc ++ [y]))) ys)) (fun y H4 h4 q => ?_))
    exact ⟨ys, h4, Nat.lt_of_le_of_lt (by omega : ys.length ≤ 1000) (by decide), hlt, ys ++ [y], upd_same, by rw [List.length_append, hl]; rfl, q⟩
  · have hin : i = n := by omega
    subst hin
    exact .inl ⟨Nat.le_refl _, done ys H iv hy⟩
section
variable {P : Program} {w : World} {K : PySem.W.Frag} {mg : Str → Option Value} {base : Heap}
def spPick (K : PySem.W.Frag) : Sp := fun vs H Q _ => ∃ p l ns n a us, vs = [.ref p, .ref a] ∧ PenAt l ns n H p ∧ n ≤ 999 ∧ H a = some (.lst us) ∧ a ≠ p ∧ 1 ≤ us.length ∧ us.length ≤ 1000 ∧ ∀ v H', v ∈ us → SameX p H H' → PenAt l ns (n + 1) H' p → Q v H'
theorem c__law_pick (T : Top K mg) : C8.Cal P w K mg base 2 "_law_pick" (spPick K) [] := by
  refine calF T._law_pick (fun _ _ _ _ _ _ us hl => match us, hl with | [_, _], _ => rfl) sc__law_pick (by rintro vs H Q E ⟨p, l, ns, n, a, us, rfl, _⟩; rfl) (fun cdv A outer sh H vs Q E hr h => ?_)
  obtain ⟨p, l, ns, n, a, us, rfl, hP, hn, hA, hap, h1, h2, q⟩ := h
  refine ⟨_, (pss_one (ps_ret (pe_ix (ixL K rfl) (pv 1) (C8.pe_c (c__law_draw T) hr (by decide) rfl (pa_cons (pv 0) (pa_cons (pe_callB (clLen K rfl) (by rfl) T.f_len (by decide +kernel) (pa_cons (pv 1) pa_nil)) pa_nil))) (fun _ _ => rfl)))), ?_⟩
  refine ⟨_, rfl, _, rfl, _, rfl, a, us, rfl, .inl (.of hA), p, l, ns, n, _, rfl, hP, by omega, by omega, by omega, fun d H1 d0 d1 sx hP1 => ?_⟩
  have hA1 := sx _ _ hap hA
  obtain ⟨k, rfl⟩ : ∃ k : Nat, d = k := ⟨d.toNat, by omega⟩
  have hlt : k < us.length := by omega
  exact ⟨a, us, _, _, rfl, rfl, .of hA1, atI_nat (List.getElem?_eq_getElem hlt), q _ H1 (List.getElem_mem hlt) sx hP1⟩
def GoodW (z : Wl) : Prop := ((2 ≤ z.1 ∧ z.1 ≤ 5) ∧ (0 ≤ z.2.1 ∧ z.2.1 ≤ 2) ∧ (0 ≤ z.2.2.1 ∧ z.2.2.1 ≤ 2)) ∧ (z.2.2.2 = true → z.2.1 = 0 ∧ z.2.2.1 = 0)
theorem goodW_mk {p b a : Int} {tr : Bool} (p1 : 2 ≤ p) (p2 : p ≤ 5) (b1 : 0 ≤ b) (b2 : b ≤ 2) (a1 : 0 ≤ a) (a2 : a ≤ 2) (h : tr = true → b = 0 ∧ a = 0) : GoodW (p, b, a, tr) := ⟨⟨⟨p1, p2⟩, ⟨b1, b2⟩, ⟨a1, a2⟩⟩, h⟩
def WlTup (z : Wl) : HO := .tup [.int z.1, .int z.2.1, .int z.2.2.1, .bl z.2.2.2]
def WlAt (H : Hp) (v : V) (z : Wl) : Prop := ∃ t, v = .ref t ∧ H t = some (WlTup z)
def spLWheel : Sp := fun vs H Q _ => ∃ p l ns n, vs = [.ref p, .int 5] ∧ PenAt l ns n H p ∧ n ≤ 900 ∧ ∀ z t H', GoodW z → SameX p H H' → PenAt l ns (n + 4) H' p → H t = none → H' t = some (WlTup z) → Q (.ref t) H'
theorem c__law_wheel (T : Top K mg) : C8.Cal P w K mg base 2 "_law_wheel" spLWheel [] := by
  refine calF T._law_wheel (fun _ _ _ _ _ _ us hl => match us, hl with | [_, _], _ => rfl) sc__law_wheel (by rintro vs H Q E ⟨p, l, ns, n, rfl, _⟩; rfl) (fun cdv A outer sh H vs Q E hr h => ?_)
  obtain ⟨p, l, ns, n, rfl, hP, hn, q⟩ := h
  refine ⟨_, (pss_cons (ps_par (i := 2) (j := 3) (by rfl) sc__law_wheel.nd rfl rfl (by decide) rfl rfl (pa_cons (pe_op op_add pe_int (C8.pe_c (c__law_draw T) hr (by decide) rfl (pa_cons (pv 0) (pa_cons (pe_op op_sub (pv 1) pe_int) pa_nil)))) (pa_cons (C8.pe_c (c__law_draw T) hr (by decide) rfl (pa_cons (pv 0) (pa_cons pe_int pa_nil))) pa_nil)) (by rfl))
      (pss_cons (ps_if (pt_cmpR op_eq (pv 3) pe_int (nomark _)) (pss_one (ps_ret (pe_tup (pa_cons (pv 2) (pa_cons pe_int (pa_cons pe_int (pa_cons (pe_cmpR op_eq (C8.pe_c (c__law_draw T) hr (by decide) rfl (pa_cons (pv 0) (pa_cons pe_int pa_nil))) pe_int (nomark _)) pa_nil))))))) pss_nil)
      (pss_cons (ps_if (pt_cmpR op_lt (pv 3) pe_int (nomark _)) (pss_cons (ps_set (i := 4) sc__law_wheel.nd rfl (Or.inl rfl) (C8.pe_c (c__law_draw T) hr (by decide) rfl (pa_cons (pv 0) (pa_cons pe_int pa_nil))))
      (pss_one (ps_ret (pe_tup (pa_cons (pv 2) (pa_cons (pv 4) (pa_cons (pv 4) (pa_cons pe_bl pa_nil)))))))) pss_nil)
      (pss_one (ps_ret (pe_tup (pa_cons (pv 2) (pa_cons (C8.pe_c (c__law_draw T) hr (by decide) rfl (pa_cons (pv 0) (pa_cons pe_int pa_nil))) (pa_cons (C8.pe_c (c__law_draw T) hr (by decide) rfl (pa_cons (pv 0) (pa_cons pe_int pa_nil))) (pa_cons pe_bl pa_nil)))))))))), ?_⟩
  refine ⟨_, rfl, _, rfl, _, _, rfl, rfl, p, l, ns, n, _, rfl, hP, by omega, by omega, by omega, fun d1 H1 a1 b1 s1 hP1 => ⟨_, _, rfl, rfl, _, rfl, p, l, ns, n + 1, 6, rfl, hP1, by omega, by omega, by omega, fun d2 H2 a2 b2 s2 hP2 => ⟨_, _, rfl, ?_⟩⟩⟩
  have s02 := s1.trans s2
  have fin : ∀ {b a : Int} {tr : Bool} {H' : Hp} {n' : Nat}, GoodW (2 + d1, b, a, tr) → SameX p H H' → PenAt l ns n' H' p → n' ≤ n + 4 → ∀ t, H' t = none → Q (.ref t) (upd H' t (.tup [.int (2 + d1), .int b, .int a, .bl tr])) := fun {b a tr H' n'} hg sx hp hn' t ht => by
    have e := Same.new (o := .tup [.int (2 + d1), .int b, .int a, .bl tr]) ht
    refine q (2 + d1, b, a, tr) t _ hg (sx.trans (Same.x e)) ((hp.keep e).mono hn') ?_ upd_same
    cases hc : H t with
    | none => rfl
    | some u =>
      by_cases htp : t = p
      · obtain ⟨_, _, hh, _⟩ := hp
        rw [htp, hh] at ht; cases ht
      · rw [sx t u htp hc] at ht; cases ht
  refine ⟨_, rfl, rfl, _, rfl, ?_⟩
  by_cases h0 : d2 = 0
  · subst h0
    refine iteT ⟨_, rfl, _, rfl, p, l, ns, n + 1 + 1, 3, rfl, hP2, by omega, by omega, by omega, fun d3 H3 a3 b3 s3 hP3 => ⟨rfl, (by show (4 : Nat) ≤ sizeLine; decide), fun t ht => ?_⟩⟩
    exact fin (goodW_mk (by omega) (by omega) (by omega) (by omega) (by omega) (by omega) fun _ => ⟨rfl, rfl⟩) (s02.trans s3) hP3 (by omega) t ht
  rw [decide_eq_false (fun z => by injection z with z; omega)]
  refine iteF ⟨_, rfl, _, _, rfl, rfl, _, rfl, ?_⟩
  by_cases h3 : d2 < 3
  · rw [decide_eq_true h3]
    refine iteT ⟨_, rfl, p, l, ns, n + 1 + 1, 3, rfl, hP2, by omega, by omega, by omega, fun d3 H3 a3 b3 s3 hP3 => ⟨_, rfl, _, rfl, _, rfl, (by show (4 : Nat) ≤ sizeLine; decide), fun t ht => ?_⟩⟩
    exact fin (goodW_mk (by omega) (by omega) (by omega) (by omega) (by omega) (by omega) fun z => by cases z) (s02.trans s3) hP3 (by omega) t ht
  · rw [decide_eq_false h3]
    refine iteF ⟨_, rfl, _, rfl, p, l, ns, n + 1 + 1, 3, rfl, hP2, by omega, by omega, by omega, fun d3 H3 a3 b3 s3 hP3 => ⟨_, rfl, p, l, ns, n + 1 + 1 + 1, 2, rfl, hP3, by omega, by omega, by omega, fun d4 H4 a4 b4 s4 hP4 => ⟨(by show (4 : Nat) ≤ sizeLine; decide), fun t ht => ?_⟩⟩⟩
    exact fin (goodW_mk (by omega) (by omega) (by omega) (by omega) (by omega) (by omega) fun z => by cases z) ((s02.trans s3).trans s4) hP4 (by omega) t ht
def PlainAt (K : PySem.W.Frag) (m : Mt) (H : Hp) (t : Addr) : Prop := ∃ wl nt us, H t = some (.tup [.ref wl, .ref nt]) ∧ H wl = some (.lst us) ∧ Paired (WlAt H) us m.1 ∧ H nt = some (.tup [.int m.2.1, .int m.2.2.1, .int m.2.2.2])
theorem WlAt.same {H H' : Hp} {v : V} {z : Wl} (e : Same H H') (h : WlAt H v z) : WlAt H' v z := let ⟨t, et, h⟩ := h; ⟨t, et, e _ _ h⟩
theorem PlainAt.same {m : Mt} {H H' : Hp} {t : Addr} (e : Same H H') (h : PlainAt K m H t) : PlainAt K m H' t := let ⟨wl, nt, us, h1, h2, h3, h4⟩ := h; ⟨wl, nt, us, e _ _ h1, e _ _ h2, paired_imp h3 fun _ _ r => r.same e, e _ _ h4⟩
def spPlain (K : PySem.W.Frag) : Sp := fun vs H Q _ => ∃ p l ns n, vs = [.ref p, .int 3, .int 5] ∧ PenAt l ns n H p ∧ n ≤ 800 ∧ ∀ m t H', GoodM m → (∀ z ∈ m.1, GoodW z) → SameX p H H' → PenAt l ns (n + 14) H' p → H t = none → PlainAt K m H' t → Q (.ref t) H'
theorem c__law_plain (T : Top K mg) : C8.Cal P w K mg base 3 "_law_plain" (spPlain K) [] := by
  refine calF T._law_plain (fun _ _ _ _ _ _ us hl => match us, hl with | [_, _, _], _ => rfl) sc__law_plain (by rintro vs H Q E ⟨p, l, ns, n, rfl, _⟩; rfl) (fun cdv A outer sh H vs Q E hr h => ?_)
  obtain ⟨p, l, ns, n, rfl, hP, hn, q⟩ := h
  refine ⟨_, (pss_cons (ps_setLc (i := 3) (own := [("_law_lap", 4)]) rfl sc__law_plain.nd rfl rfl (sw_true rfl rfl rfl (by decide +kernel)) (pi_range1 rfl T.f_range (pa_cons (pe_op op_add pe_int (C8.pe_c (c__law_draw T) hr (by decide) rfl (pa_cons (pv 0) (pa_cons (pv 1) pa_nil)))) pa_nil)) (blkOk_by (own := [("_law_lap", 4)]) (N := N__law_plain) (sc := defScope s__law_plain) (by decide +kernel)) (fun _ _ _ _ _ => (pg_name (i := 4) sc__law_plain.nd rfl (Or.inl rfl))) (fun _ _ _ _ _ => pts_nil) (fun _ _ _ _ _ => (C8.pe_c (c__law_wheel T) hr (by decide) rfl (pa_cons (pv 0) (pa_cons (pv 2) pa_nil)))))
      (pss_cons (ps_set (i := 5) sc__law_plain.nd rfl (Or.inl rfl) (C8.pe_c (c__law_pick T) hr (by decide) rfl (pa_cons (pv 0) (pa_cons (pe_lst (pa_cons (pe_tup (pa_cons pe_int (pa_cons pe_int (pa_cons pe_int pa_nil)))) (pa_cons (pe_tup (pa_cons pe_int (pa_cons pe_int (pa_cons pe_int pa_nil)))) (pa_cons (pe_tup (pa_cons pe_int (pa_cons pe_int (pa_cons pe_int pa_nil)))) (pa_cons (pe_tup (pa_cons pe_int (pa_cons pe_int (pa_cons pe_int pa_nil)))) (pa_cons (pe_tup (pa_cons pe_int (pa_cons pe_int (pa_cons pe_int pa_nil)))) (pa_cons (pe_tup (pa_cons pe_int (pa_cons pe_int (pa_cons pe_int pa_nil)))) (pa_cons (pe_tup (pa_cons pe_int (pa_cons pe_int (pa_cons pe_int pa_nil)))) (pa_cons (pe_tup (pa_cons pe_int (pa_cons pe_int (pa_cons pe_int pa_nil)))) pa_nil))))))))) pa_nil))))
      (pss_one (ps_ret (pe_tup (pa_cons (pv 3) (pa_cons (pv 5) pa_nil))))))), ?_⟩
  have hpx : ∀ {H' : Hp} {k : Nat} {D : Addr}, PenAt l ns k H' p → H' D = none → p ≠ D ∧ l ≠ D := fun hp hD => by
    obtain ⟨_, _, h1, h2, _⟩ := hp
    exact ⟨ne_of_none h1 hD, ne_of_none h2 hD⟩
  refine ⟨_, rfl, _, rfl, p, l, ns, n, 3, rfl, hP, by omega, by omega, by omega, fun d H1 d0 d1 s1 hP1 => ⟨_, _, rfl, rfl, ?_⟩⟩
  obtain ⟨k, rfl⟩ : ∃ k : Nat, d = k := ⟨d.toNat, by omega⟩
  have wx : ∀ {H' H'' : Hp} {c : Nat} {v : V} {z : Wl}, PenAt l ns c H' p → SameX p H' H'' → WlAt H' v z → WlAt H'' v z := fun hp sx ⟨t, et, ht⟩ => by
    obtain ⟨_, _, h1, _⟩ := hp
    exact ⟨t, et, sx _ _ (fun zz => by subst zz; rw [h1] at ht; cases ht) ht⟩
  have wd : ∀ {H' : Hp} {D : Addr} {xs : List V} {o : HO} {v : V} {z : Wl}, H' D = some (.lst xs) → WlAt H' v z → WlAt (upd H' D o) v z := fun hD ⟨t, et, ht⟩ =>
    ⟨t, et, by rw [upd_ne (fun zz => by subst zz; rw [hD] at ht; cases ht)]; exact ht⟩
  have ek : ((1 : Int) + ((k : Nat) : Int)).toNat = k + 1 := by omega
  refine ⟨_, rfl, by omega, by omega, fun D hD => ?_⟩
  refine lcR (fun i H' ys => ∃ zs : List Wl, SameX p H1 H' ∧ PenAt l ns (n + 1 + 4 * i) H' p ∧ Paired (WlAt H') ys zs ∧ zs.length = i ∧ ∀ z ∈ zs, GoodW z) ⟨[], sameX_updN (SameX.refl _ _) hD, hP1.updN (hpx hP1 hD).1 (hpx hP1 hD).2, .nil, rfl, fun z hz => by cases hz⟩ (by omega) (fun i H' ys hi iv hy Qe qe => ?_) gname_mono fun ys H2 iv hy => ?_
  · obtain ⟨zs, sx, hp', py, hl, hg⟩ := iv
    refine ⟨rfl, _, rfl, _, rfl, p, l, ns, _, rfl, hp', by omega, fun z t H'' hz sx2 hp'' ht1 ht2 => ?_⟩
    have hDp := hpx hP1 hD
    have hy2 : H'' D = some (.lst ys) := sx2 _ _ hDp.1.symm hy
    refine qe _ _ hy2 ⟨zs ++ [z], sameX_updN (sx.trans sx2) hD, (hp''.mono (by omega)).updN hDp.1 hDp.2, paired_app (paired_imp py fun v z r => wd hy2 (wx hp' sx2 r)) (.cons (wd hy2 ⟨t, rfl, ht2⟩) .nil), by rw [List.length_append, hl]; rfl, fun y hy => ?_⟩
    rcases List.mem_append.mp hy with hy | hy
    · exact hg y hy
    · rw [List.mem_singleton.mp hy]; exact hz
  · obtain ⟨zs, sx, hp2, py, hl, hg⟩ := iv
    rw [ek] at hl hp2
    refine ⟨_, rfl, (by show (3 : Nat) ≤ sizeLine; decide), fun t1 h1 => ⟨(by show (3 : Nat) ≤ sizeLine; decide), fun t2 h2 => ⟨(by show (3 : Nat) ≤ sizeLine; decide), fun t3 h3 => ⟨(by show (3 : Nat) ≤ sizeLine; decide), fun t4 h4 => ⟨(by show (3 : Nat) ≤ sizeLine; decide), fun t5 h5 => ⟨(by show (3 : Nat) ≤ sizeLine; decide), fun t6 h6 => ⟨(by show (3 : Nat) ≤ sizeLine; decide), fun t7 h7 => ⟨(by show (3 : Nat) ≤ sizeLine; decide), fun t8 h8 => ⟨(by show (8 : Nat) ≤ sizeLine; decide), fun a ha => ?_⟩⟩⟩⟩⟩⟩⟩⟩⟩
    have c8 := Same.new (o := .lst [V.ref t1, V.ref t2, V.ref t3, V.ref t4, V.ref t5, V.ref t6, V.ref t7, V.ref t8]) ha
    have c7 := (Same.new (o := .tup [V.int 2, V.int 0, V.int 0]) h8).trans c8
    have c6 := (Same.new (o := .tup [V.int 0, V.int 1, V.int 1]) h7).trans c7
    have c5 := (Same.new (o := .tup [V.int 1, V.int 1, V.int 0]) h6).trans c6
    have c4 := (Same.new (o := .tup [V.int 0, V.int 0, V.int 1]) h5).trans c5
    have c3 := (Same.new (o := .tup [V.int 0, V.int 1, V.int 0]) h4).trans c4
    have c2 := (Same.new (o := .tup [V.int 1, V.int 0, V.int 0]) h3).trans c3
    have c1 := (Same.new (o := .tup [V.int 0, V.int 0, V.int 0]) h2).trans c2
    have c0 := (Same.new (o := .tup [V.int 0, V.int 0, V.int 0]) h1).trans c1
    have g1 := c1 t1 _ upd_same
    have g2 := c2 t2 _ upd_same
    have g3 := c3 t3 _ upd_same
    have g4 := c4 t4 _ upd_same
    have g5 := c5 t5 _ upd_same
    have g6 := c6 t6 _ upd_same
    have g7 := c7 t7 _ upd_same
    have g8 := c8 t8 _ upd_same
    have ga := upd_same (H := (upd
      (upd
        (upd
          (upd
            (upd
              (upd
                (upd (upd H2 t1 (HO.tup [V.int 0, V.int 0, V.int 0])) t2 (HO.tup [V.int 0, V.int 0, V.int 0])) t3
                  (HO.tup [V.int 1, V.int 0, V.int 0]))
                t4 (HO.tup [V.int 0, V.int 1, V.int 0]))
              t5 (HO.tup [V.int 0, V.int 0, V.int 1]))
            t6 (HO.tup [V.int 1, V.int 1, V.int 0]))
          t7 (HO.tup [V.int 0, V.int 1, V.int 1]))
        t8 (HO.tup [V.int 2, V.int 0, V.int 0]))) (a := a) (o := .lst [V.ref t1, V.ref t2, V.ref t3, V.ref t4, V.ref t5, V.ref t6, V.ref t7, V.ref t8])
    generalize (upd _ a (.lst [V.ref t1, V.ref t2, V.ref t3, V.ref t4, V.ref t5, V.ref t6, V.ref t7, V.ref t8])) = G at *
    have hpG := hp2.keep c0
    have hap : a ≠ p := fun zz => by
      obtain ⟨_, _, hh, _⟩ := hpG
      rw [← zz, ga] at hh
      injection hh with hh
      injection hh with hh
      have := congrArg List.length hh
      cases this
    refine ⟨p, l, ns, _, a, _, rfl, hpG, by omega, ga, hap, (by show (1 : Nat) ≤ 8; decide), (by show (8 : Nat) ≤ 1000; decide), fun v H3 hv sx3 hP3 => ?_⟩
    have hnum : ∃ t o r w, v = .ref t ∧ G t = some (.tup [.int o, .int r, .int w]) ∧ (0 ≤ o ∧ o ≤ 2) ∧ (0 ≤ r ∧ r ≤ 2) ∧ (0 ≤ w ∧ w ≤ 2) := by
      simp only [List.mem_cons, List.not_mem_nil, or_false] at hv
      rcases hv with rfl | rfl | rfl | rfl | rfl | rfl | rfl | rfl
      · exact ⟨t1, _, _, _, rfl, g1, by decide, by decide, by decide⟩
      · exact ⟨t2, _, _, _, rfl, g2, by decide, by decide, by decide⟩
      · exact ⟨t3, _, _, _, rfl, g3, by decide, by decide, by decide⟩
      · exact ⟨t4, _, _, _, rfl, g4, by decide, by decide, by decide⟩
      · exact ⟨t5, _, _, _, rfl, g5, by decide, by decide, by decide⟩
      · exact ⟨t6, _, _, _, rfl, g6, by decide, by decide, by decide⟩
      · exact ⟨t7, _, _, _, rfl, g7, by decide, by decide, by decide⟩
      · exact ⟨t8, _, _, _, rfl, g8, by decide, by decide, by decide⟩
    obtain ⟨nt, o, r, w', rfl, hnt, ho, hr', hw⟩ := hnum
    have hDp := hpx hP1 hD
    have sxa := (s1.trans sx).trans ((Same.x c0).trans sx3)
    have hnt3 : H3 nt = some (.tup [.int o, .int r, .int w']) := sx3 _ _ (fun zz => by
      obtain ⟨_, _, hh, _⟩ := hpG
      rw [zz, hh] at hnt
      cases hnt) hnt
    have hD3 : H3 D = some (.lst ys) := sx3 _ _ hDp.1.symm (c0 _ _ hy)
    have py3 : Paired (WlAt H3) ys zs := paired_imp py fun v z r => wx hpG sx3 (r.same c0)
    refine ⟨_, rfl, _, rfl, (by show (2 : Nat) ≤ sizeLine; decide), fun t ht => ?_⟩
    have et := Same.new (o := .tup [V.ref D, V.ref nt]) ht
    refine q (zs, o, r, w') t _ ⟨by show zs.length ≤ 3; omega, by show 1 ≤ zs.length; omega, fun z hz => (hg z hz).1, ho, hr', hw⟩ hg (sxa.trans (Same.x et)) ((hP3.keep et).mono (by omega)) ?_ ⟨D, nt, ys, upd_same, et _ _ hD3, paired_imp py3 fun _ _ r => r.same et, et _ _ hnt3⟩
    cases hc : H t with
    | none => rfl
    | some u =>
      by_cases htp : t = p
      · obtain ⟨_, _, hh, _⟩ := hP3
        rw [htp, hh] at ht; cases ht
      · rw [sxa t u htp hc] at ht; cases ht
end
end K32

/-! the law: meters made of what is drawn -/
namespace K32
open PySem PyProof.Rows L2
section
variable {P : Program} {w : World} {K : PySem.W.Frag} {mg : Str → Option Value} {base : Heap}
def spLOf (K : PySem.W.Frag) : Sp := fun vs H Q _ => ∃ t z, vs = [.ref t] ∧ H t = some (WlTup z) ∧ GoodW z ∧ ∀ r H', Same H H' → H r = none → WheelAt K z.1 z.2.1 z.2.2.1 z.2.2.2 H' r → Q (.ref r) H'
theorem c__law_of (T : Top K mg) (Fc : Facts P K mg) : C8.Cal P w K mg base 6 "_law_of" (spLOf K) [] := by
  refine calF T._law_of (fun _ _ _ _ _ _ us hl => match us, hl with | [_], _ => rfl) sc__law_of (by rintro vs H Q E ⟨t, z, rfl, _⟩; rfl) (fun cdv A outer sh H vs Q E hr h => ?_)
  obtain ⟨t, ⟨p, b, a, tr⟩, rfl, ht, ⟨⟨⟨p1, p2⟩, ⟨b1, b2⟩, ⟨a1, a2⟩⟩, htr⟩, q⟩ := h
  refine ⟨_, (pss_cons (ps_asg (pv 0) (pgT K 4 rfl (by rfl) (pgs_cons (pg_name (i := 1) sc__law_of.nd rfl (Or.inl rfl)) (pgs_cons (pg_name (i := 2) sc__law_of.nd rfl (Or.inl rfl)) (pgs_cons (pg_name (i := 3) sc__law_of.nd rfl (Or.inl rfl)) (pgs_cons (pg_name (i := 4) sc__law_of.nd rfl (Or.inl rfl)) pgs_nil))))))
      (pss_cons (ps_if (pt_val (pv 4)) (pss_one (ps_ret (C8.pe_mk (mk_Grid T Fc) hr (by decide) rfl (pa_cons (pv 1) pa_nil)))) pss_nil)
      (pss_cons (ps_if (pt_cmpR op_eq (pv 2) (pv 3) (nomark _)) (pss_one (ps_ret (pe_ifExp (pt_cmpR op_gt (pv 2) pe_int (nomark _)) (C8.pe_mk (mk_Even T Fc) hr (by decide) rfl (pa_cons (pv 1) (pa_cons (pv 2) pa_nil))) (C8.pe_mk (mk_Exact T Fc) hr (by decide) rfl (pa_cons (pv 1) pa_nil))))) pss_nil)
      (pss_one (ps_ret (pe_ifExp (pt_cmpR op_eq (pv 3) pe_int (nomark _)) (C8.pe_mk (mk_Lagging T Fc) hr (by decide) rfl (pa_cons (pv 1) (pa_cons (pv 2) pa_nil))) (C8.pe_mk (mk_Wheel T Fc) hr (by decide) rfl (pa_cons (pv 1) (pa_cons (pv 2) (pa_cons (pv 3) pa_nil)))))))))), ?_⟩
  refine ⟨_, rfl, t, _, rfl, .inl (.of ht), rfl, _, _, rfl, _, _, rfl, _, _, rfl, _, _, rfl, rfl, ?_⟩
  simp only at p1 p2 b1 b2 a1 a2 htr q
  have big : ∀ {n : Int}, n ≤ 5 → n ≤ 10 ^ 12 := fun h => Int.le_trans h (by decide)
  refine ⟨_, rfl, tr, rfl, ?_⟩
  cases tr with
  | true =>
    obtain ⟨rfl, rfl⟩ := htr rfl
    exact iteT ⟨_, rfl, rd_make (WheelAt K p 0 0 true) (fun G eG => ⟨p, 0, 0, ⟨rfl, rfl, rfl⟩, p1, big p2, by decide, by decide, by decide, by decide, rfl⟩) fun x H2 e2 hx hO => q x H2 e2 hx hO⟩
  | false =>
  refine iteF ⟨_, rfl, _, rfl, rfl, _, rfl, ?_⟩
  by_cases hba : b = a
  · subst hba
    rw [decide_eq_true rfl]
    refine iteT ⟨_, rfl, _, _, rfl, rfl, _, rfl, ?_⟩
    by_cases hb0 : 0 < b
    · rw [decide_eq_true hb0]
      exact iteT ⟨_, rfl, _, rfl, rd_make (WheelAt K p b b false) (fun G eG => ⟨p, b, b, ⟨rfl, rfl⟩, p1, big p2, b1, big (by omega), b1, big (by omega), rfl⟩) fun x H2 e2 hx hO => q x H2 e2 hx hO⟩
    · rw [decide_eq_false hb0]
      obtain rfl : b = 0 := by omega
      exact iteF ⟨_, rfl, rd_make (WheelAt K p 0 0 false) (fun G eG => ⟨p, 0, 0, ⟨rfl, rfl, rfl⟩, p1, big p2, by decide, by decide, by decide, by decide, rfl⟩) fun x H2 e2 hx hO => q x H2 e2 hx hO⟩
  · rw [decide_eq_false (fun z => by injection z with z; exact hba z)]
    refine iteF ⟨_, rfl, rfl, _, rfl, ?_⟩
    by_cases ha0 : a = 0
    · subst ha0
      rw [decide_eq_true rfl]
      exact iteT ⟨_, rfl, _, rfl, rd_make (WheelAt K p b 0 false) (fun G eG => ⟨p, b, 0, ⟨rfl, rfl⟩, p1, big p2, b1, big (by omega), by decide, by decide, rfl⟩) fun x H2 e2 hx hO => q x H2 e2 hx hO⟩
    · rw [decide_eq_false (fun z => by injection z with z; exact ha0 z)]
      exact iteF ⟨_, rfl, _, rfl, _, rfl, rd_make (WheelAt K p b a false) (fun G eG => ⟨p, b, a, rfl, p1, big p2, b1, big (by omega), a1, big (by omega), rfl⟩) fun x H2 e2 hx hO => q x H2 e2 hx hO⟩
theorem stab_wh : Stab (WhRef K) := fun D acc H H' y z hD hs ⟨x, ex, C, dx, hx, c⟩ => ⟨x, ex, C, dx, hs _ _ (fun zz => by subst zz; rw [hD] at hx; cases hx) hx, c⟩
def spLMeter (K : PySem.W.Frag) : Sp := fun vs H Q _ => ∃ t m, vs = [.ref t] ∧ PlainAt K m H t ∧ GoodM m ∧ (∀ z ∈ m.1, GoodW z) ∧ ∀ r H', Same H H' → H r = none → MeterAt K m H' r → Q (.ref r) H'
theorem c__law_meter (T : Top K mg) (Fc : Facts P K mg) : C8.Cal P w K mg base 7 "_law_meter" (spLMeter K) [] := by
  refine calF T._law_meter (fun _ _ _ _ _ _ us hl => match us, hl with | [_], _ => rfl) sc__law_meter (by rintro vs H Q E ⟨t, m, rfl, _⟩; rfl) (fun cdv A outer sh H vs Q E hr h => ?_)
  obtain ⟨t, m, rfl, hP, g, gw, q⟩ := h
  refine ⟨_, (pss_cons (ps_asg (pe_tup (pa_cons (pe_lc (own := [("_law_one", 5)]) rfl sc__law_meter.nd (piL K rfl (pe_ix (ixT K rfl) (pv 0) pe_int (fun _ _ => rfl))) (blkOk_by (own := [("_law_one", 5)]) (N := N__law_meter) (sc := defScope s__law_meter) (by decide +kernel)) (fun _ _ _ _ _ => (pg_name (i := 5) sc__law_meter.nd rfl (Or.inl rfl))) (fun _ _ _ _ _ => pts_nil) (fun _ _ _ _ _ => (C8.pe_c (c__law_of T Fc) hr (by decide) rfl (pa_cons (pv 5) pa_nil)))) (pa_cons (pe_ix (ixT K rfl) (pv 0) pe_int (fun _ _ => rfl)) pa_nil))) (pgT K 2 rfl (by rfl) (pgs_cons (pg_name (i := 1) sc__law_meter.nd rfl (Or.inl rfl)) (pgs_cons (pgT K 3 rfl (by rfl) (pgs_cons (pg_name (i := 2) sc__law_meter.nd rfl (Or.inl rfl)) (pgs_cons (pg_name (i := 3) sc__law_meter.nd rfl (Or.inl rfl)) (pgs_cons (pg_name (i := 4) sc__law_meter.nd rfl (Or.inl rfl)) pgs_nil)))) pgs_nil))))
      (pss_cons (ps_if (pt_cmpR op_eq (pe_callB (clLen K rfl) (by rfl) T.f_len (by decide +kernel) (pa_cons (pv 1) pa_nil)) pe_int (nomark _)) (pss_one (ps_ret (pe_makeSK T.mk_Meter (f_meter T Fc) hr (by decide) rfl T.c_Meter (pa_cons (pe_ix (ixL K rfl) (pv 1) pe_int (fun _ _ => rfl)) pa_nil) (pk_cons (pv 2) (pk_cons (pv 3) (pk_cons (pv 4) pk_nil)))))) pss_nil)
      (pss_cons (ps_if (pt_cmpR op_eq (pe_callB (clLen K rfl) (by rfl) T.f_len (by decide +kernel) (pa_cons (pv 1) pa_nil)) pe_int (nomark _)) (pss_one (ps_ret (pe_makeSK T.mk_Meter (f_meter T Fc) hr (by decide) rfl T.c_Meter (pa_cons (pe_ix (ixL K rfl) (pv 1) pe_int (fun _ _ => rfl)) (pa_cons (pe_ix (ixL K rfl) (pv 1) pe_int (fun _ _ => rfl)) pa_nil)) (pk_cons (pv 2) (pk_cons (pv 3) (pk_cons (pv 4) pk_nil)))))) pss_nil)
      (pss_cons (ps_if (pt_cmpR op_eq (pe_callB (clLen K rfl) (by rfl) T.f_len (by decide +kernel) (pa_cons (pv 1) pa_nil)) pe_int (nomark _)) (pss_one (ps_ret (pe_makeSK T.mk_Meter (f_meter T Fc) hr (by decide) rfl T.c_Meter (pa_cons (pe_ix (ixL K rfl) (pv 1) pe_int (fun _ _ => rfl)) (pa_cons (pe_ix (ixL K rfl) (pv 1) pe_int (fun _ _ => rfl)) (pa_cons (pe_ix (ixL K rfl) (pv 1) pe_int (fun _ _ => rfl)) pa_nil))) (pk_cons (pv 2) (pk_cons (pv 3) (pk_cons (pv 4) pk_nil)))))) pss_nil)
      (pss_one (ps_ret (pe_makeSK T.mk_Meter (f_meter T Fc) hr (by decide) rfl T.c_Meter (pa_cons (pe_ix (ixL K rfl) (pv 1) pe_int (fun _ _ => rfl)) (pa_cons (pe_ix (ixL K rfl) (pv 1) pe_int (fun _ _ => rfl)) (pa_cons (pe_ix (ixL K rfl) (pv 1) pe_int (fun _ _ => rfl)) (pa_cons (pe_ix (ixL K rfl) (pv 1) pe_int (fun _ _ => rfl)) pa_nil)))) (pk_cons (pv 2) (pk_cons (pv 3) (pk_cons (pv 4) pk_nil)))))))))), ?_⟩
  obtain ⟨wl, nt, us, ht, hwl, pu, hnt⟩ := hP
  have lus := pu.length
  have lm := g.few
  have lp := g.pos
  refine ⟨_, rfl, t, _, _, _, rfl, rfl, .inl (.of ht), rfl, wl, rfl, ⟨_, .of hwl⟩, fun D hD => lcA (its_list (.of hwl)) hD m.1 (stab_wh (K := K)) lus.symm (by omega) (fun i y z H' hi hy hz e Qe qe => ?_) gname_mono fun ys H1 e1 hy py => ?_⟩
  · obtain ⟨z', hz', tz, rfl, htz⟩ := paired_get pu hy
    rw [hz] at hz'
    obtain rfl := Option.some.inj hz'
    exact ⟨rfl, _, rfl, tz, z, rfl, e _ _ htz, gw z (List.mem_of_getElem? hz), fun r H2 e2 hr0 hW => qe _ _ e2 ⟨r, rfl, hW⟩⟩
  · have lys := py.length
    refine ⟨_, rfl, t, _, _, _, rfl, rfl, .inl (.of (e1 _ _ ht)), rfl, (by show (2 : Nat) ≤ sizeLine; decide), fun tp htp => ?_⟩
    have et := Same.new (o := .tup [V.ref D, V.ref nt]) htp
    refine ⟨tp, _, rfl, .inl (.of upd_same), rfl, _, _, rfl, ?_⟩
    obtain ⟨ws, off, more, lost⟩ := m
    have go := g.off
    have gm := g.more
    have gl := g.lost
    simp only at go gm gl
    have hnt2 : (upd H1 tp (.tup [V.ref D, V.ref nt])) nt = some (.tup [.int off, .int more, .int lost]) := et _ _ (e1 _ _ hnt)
    have hD2 : (upd H1 tp (.tup [V.ref D, V.ref nt])) D = some (.lst ys) := et _ _ hy
    have py2 : Paired (WhRef K (upd H1 tp (.tup [V.ref D, V.ref nt]))) ys ws := paired_imp py fun _ _ r => r.same et
    have e2 := e1.trans et
    generalize (upd H1 tp (.tup [V.ref D, V.ref nt])) = G at *
    refine ⟨_, _, rfl, nt, _, rfl, .inl (.of hnt2), rfl, _, _, rfl, _, _, rfl, _, _, rfl, rfl, rfl, ?_⟩
    have fin : ∀ x dx, G x = none → G dx = none → dx ≠ x → spMeter K (.ref x :: ys) [.int off, .int more, .int lost] (upd (upd G dx (.own x)) x (.ins (ga K "Meter") dx [])) (fun v H3 => v = .non ∧ Q (.ref x) H3) := fun x dx hx hdx hne =>
      ⟨x, dx, ys, (ws, off, more, lost), rfl, rfl, upd_same, paired_imp py2 fun _ _ r => r.same (made_same hx hdx), by omega, by omega, by show 0 ≤ off ∧ off ≤ 8; omega, by show 0 ≤ more ∧ more ≤ 8; omega, by show 0 ≤ lost ∧ lost ≤ 8; omega, fun H' e' hM => ⟨rfl, q x H' (e2.trans ((made_same hx hdx).trans e')) (Same.none e2 hx) hM⟩⟩
    match ws, ys, py2 with
    | [z1], [v1], _ =>
      refine ⟨_, rfl, D, _, rfl, .inl (.of hD2), rfl, _, rfl, ?_⟩
      exact iteT ⟨_, rfl, D, _, _, _, rfl, rfl, .of hD2, rfl, _, rfl, _, rfl, _, rfl, rfl, fin⟩
    | [z1, z2], [v1, v2], _ =>
      refine ⟨_, rfl, D, _, rfl, .inl (.of hD2), rfl, _, rfl, ?_⟩
      refine iteF ⟨_, rfl, D, _, rfl, .inl (.of hD2), rfl, _, rfl, ?_⟩
      exact iteT ⟨_, rfl, D, _, _, _, rfl, rfl, .of hD2, rfl, _, rfl, D, _, _, _, rfl, rfl, .of hD2, rfl, _, rfl, _, rfl, _, rfl, rfl, fin⟩
    | [z1, z2, z3], [v1, v2, v3], _ =>
      refine ⟨_, rfl, D, _, rfl, .inl (.of hD2), rfl, _, rfl, ?_⟩
      refine iteF ⟨_, rfl, D, _, rfl, .inl (.of hD2), rfl, _, rfl, ?_⟩
      refine iteF ⟨_, rfl, D, _, rfl, .inl (.of hD2), rfl, _, rfl, ?_⟩
      exact iteT ⟨_, rfl, D, _, _, _, rfl, rfl, .of hD2, rfl, _, rfl, D, _, _, _, rfl, rfl, .of hD2, rfl, _, rfl, D, _, _, _, rfl, rfl, .of hD2, rfl, _, rfl, _, rfl, _, rfl, rfl, fin⟩
    | [], _, _ => exact absurd lp (by show ¬ (1 ≤ 0); decide)
    | z1 :: z2 :: z3 :: z4 :: zs, _, _ => exact absurd lm (by show ¬ (zs.length + 1 + 1 + 1 + 1 ≤ 3); omega)
end
end K32

/-! list(zip(a, b)) of a list and a tuple -/
namespace K32
open PySem PySem.Spec PyProof.Rows L2
/-- one of a zip's own iterators: i over what lies at l -/
structure Draw (P : Program) (w : World) (i l : Addr) (us : List Value) (St : Nat → Heap → Prop) : Prop where
  more : ∀ (B : Around) (E : Value → Shared → Prop) (t : Shared) (k : Nat) (x : Value) (Q : Value → Shared → Prop), St k t.heap → us[k]? = some x → (∀ g, St (k + 1) g → Heap.SameBut i t.heap g → Q x { t with heap := g }) → wpAny (model P w) B (Builtin.SmallTypes.nextOf (.ref i)) Q E t
  stop : ∀ (B : Around) (E : Value → Shared → Prop) (t : Shared) (k : Nat) (Q : Value → Shared → Prop), B.handled = none → St k t.heap → us[k]? = none →
    (∀ g e, Heap.ExtBut i t.heap g → (∃ o, g.get? e = some o ∧ o.cls = .type "StopIteration") → E (.ref e) { t with heap := g }) → wpAny (model P w) B (Builtin.SmallTypes.nextOf (.ref i)) Q E t
  keep : ∀ (k : Nat) (g g' : Heap), St k g → (∀ c, c = i ∨ c = l → ∀ o, g.get? c = some o → g'.get? c = some o) → St k g'
theorem draw_list {P : Program} {w : World} {i l : Addr} {us : List Value} (hne : i ≠ l) : Draw P w i l us (fun k h => h.IsListIter i l k ∧ h.IsList l us.toArray) where
  more B E t k x Q st hx q := wpAny_nextOf_list_item st.1 st.2 (by simpa using hx) fun g a sb => q g ⟨a, st.2.extBut sb.extBut hne.symm⟩ sb
  stop B E t k Q hh st hx q := wpAny_nextOf_list_end hh st.1 st.2 (by simpa using hx) q
  keep k g g' st h := ⟨st.1.at fun o e => h i (.inl rfl) o e, st.2.at fun o e => h l (.inr rfl) o e⟩
theorem draw_tup {P : Program} {w : World} {i l : Addr} {us : List Value} (hne : i ≠ l) : Draw P w i l us (fun k h => h.IsTupleIter i l k ∧ h.IsTuple l us.toArray) where
  more B E t k x Q st hx q := RZ.nextOf_tuple_item st.1 st.2 (by simpa using hx) fun g a sb => q g ⟨a, st.2.extBut sb.extBut hne.symm⟩ sb
  stop B E t k Q hh st hx q := RZ.nextOf_tuple_end hh st.1 st.2 (by simpa using hx) q
  keep k g g' st h := ⟨st.1.at fun o e => h i (.inl rfl) o e, st.2.at fun o e => h l (.inr rfl) o e⟩
section
variable {P : Program} {w : World} {A : Around} {E : Value → Shared → Prop} {t : Shared} {z TI TO i1 i2 l1 l2 T : Addr} {us ws : List Value} {S1 S2 : Nat → Heap → Prop} {k : Nat} {x y p0 q0 : Value} {fl : Bool} {oT : Obj}
theorem Draw.off {i l b : Addr} {vs : List Value} {S : Nat → Heap → Prop} {n : Nat} {g g' : Heap} (d : Draw P w i l vs S) (h : S n g) (e : Heap.ExtBut b g g') (h1 : i ≠ b) (h2 : l ≠ b) : S n g' :=
  d.keep n g g' h fun c hc o q => e c o (by rcases hc with rfl | rfl <;> assumption) q
/-- its first pair: the zip's own tuple is free -/
theorem zip_first {Q : Option Value → Shared → Prop} (d1 : Draw P w i1 l1 us S1) (d2 : Draw P w i2 l2 ws S2) (D : ZipApart z TI TO i1 i2 l1 l2) (hz : IsZip t.heap z TI TO .none) (hTI : IsPair t.heap TI (.ref i1) (.ref i2)) (hTO : IsPair t.heap TO p0 q0)
    (a1 : S1 k t.heap) (a2 : S2 k t.heap) (hx : us[k]? = some x) (hy : ws[k]? = some y)
    (go : ∀ g, IsZipHeld g z TI TO t.heap.objs.size false → S1 (k + 1) g → S2 (k + 1) g → IsPair g t.heap.objs.size x y → g.objs.size = t.heap.objs.size + 1 → (∀ c o, c ≠ z → c ≠ TO → c ≠ i1 → c ≠ i2 → t.heap.get? c = some o → g.get? c = some o) → Q (some (.ref t.heap.objs.size)) { t with heap := g }) :
    wpAny (model P w) A (pyNext (.ref z)) Q E t := by
  have ty : t.TypeIs (.ref z) "zip" := ⟨_, hz, rfl⟩
  unfold pyNext
  refine wpAny_bind (wpAny_attempt (wpAny_callSpecial?_slot (name := Str.ofString "__next__") ty F.slot_zip_next (wpAny_call_entry F.slot_zip_next ty F.entry_zip_next ?_ (F.args_zip_next_1 _))))
  show wpAny _ _ (field (.ref z) 2 >>= _) _ _ t
  refine wpAny_bind (wpAny_field (x := .bool false) hz rfl rfl ?_)
  show wpAny _ _ (field (.ref z) 3 >>= _) _ _ t
  refine wpAny_bind (wpAny_field (x := .ref TI) hz rfl rfl (wpAny_bind (wpAny_seqItems hTI rfl ?_)))
  show wpAny _ _ (Builtin.SmallTypes.ownedTupleIsFree (.ref z) >>= _) _ _ t
  refine wpAny_bind ?_
  unfold Builtin.SmallTypes.ownedTupleIsFree
  refine wpAny_bind (wpAny_field (x := .none) hz rfl rfl (wpAny_pure ?_))
  rw [if_pos rfl]
  refine wpAny_bind (wpAny_rule (wpAny_bind (wpAny_field (x := .ref TO) hz rfl rfl (wpAny_bind (wpAny_setField_rec hz (by simp) fun g1 z1 b1 => ?_)))))
  have z1 : IsZip g1 z TI TO .ellipsis := z1
  refine wpAny_bind ?_
  rw [show (#[Value.ref i1, Value.ref i2] : Array Value).toList.zipIdx = [(Value.ref i1, 0), (Value.ref i2, 1)] from rfl]
  simp only [List.forIn_cons, List.forIn_nil]
  have hTO1 : IsPair g1 TO p0 q0 := b1.extBut _ _ D.TOz hTO
  refine wpAny_bind (wpAny_bind (wpAny_onRaise ?_))
  show wpAny _ _ (Builtin.SmallTypes.nextOf (.ref i1) >>= _) _ _ _
  refine wpAny_bind (d1.more _ _ { t with heap := g1 } k x _ (d1.off a1 b1.extBut D.i1z D.l1z) hx fun g2 c1 b2 => wpAny_pure ?_)
  have hTO2 : IsPair g2 TO p0 q0 := b2.extBut _ _ D.TOi1 hTO1
  refine wpAny_bind (wpAny_seqItems hTO2 rfl (wpAny_bind (wpAny_updateSeq_pair hTO2 fun g3 hTO3 b3 => wpAny_bind (wpAny_letGo (wpAny_pure ?_)))))
  have hTO3 : IsPair g3 TO x q0 := hTO3
  have e2 : S2 k g3 := d2.off (d2.off (d2.off a2 b1.extBut D.i2z D.l2z) b2.extBut D.i12.symm D.l2i1) b3.extBut D.TOi2.symm D.l2TO
  refine wpAny_bind (wpAny_bind (wpAny_onRaise ?_))
  show wpAny _ _ (Builtin.SmallTypes.nextOf (.ref i2) >>= _) _ _ _
  refine wpAny_bind (d2.more _ _ { t with heap := g3 } k y _ e2 hy fun g4 c2 b4 => wpAny_pure ?_)
  have hTO4 : IsPair g4 TO x q0 := b4.extBut _ _ D.TOi2 hTO3
  refine wpAny_bind (wpAny_seqItems hTO4 rfl (wpAny_bind (wpAny_updateSeq_pair hTO4 fun g5 hTO5 b5 => wpAny_bind (wpAny_letGo (wpAny_pure (wpAny_pure ?_))))))
  have hTO5 : IsPair g5 TO x y := hTO5
  refine wpAny_bind (wpAny_seqItems hTO5 rfl (wpAny_bind (wpAny_newTuple ?_)))
  have sz5 : g5.objs.size = t.heap.objs.size := ((((b5.1.trans b4.1).trans b3.1).trans b2.1).trans b1.1)
  have z5 : IsZip g5 z TI TO .ellipsis := b5.extBut _ _ D.TOz.symm (b4.extBut _ _ D.i2z.symm (b3.extBut _ _ D.TOz.symm (b2.extBut _ _ D.i1z.symm z1)))
  have n1 : S1 (k + 1) g5 := d1.off (d1.off (d1.off c1 b3.extBut D.TOi1.symm D.l1TO) b4.extBut D.i12 D.l1i2) b5.extBut D.TOi1.symm D.l1TO
  have n2 : S2 (k + 1) g5 := d2.off c2 b5.extBut D.TOi2.symm D.l2TO
  have old : ∀ c o, c ≠ z → c ≠ TO → c ≠ i1 → c ≠ i2 → t.heap.get? c = some o → g5.get? c = some o := fun c o m1 m2 m3 m4 e => b5.extBut _ _ m2 (b4.extBut _ _ m4 (b3.extBut _ _ m2 (b2.extBut _ _ m3 (b1.extBut _ _ m1 e))))
  have z6 : IsZip (g5.push { cls := .type "tuple", data := .seq #[x, y] }) z TI TO .ellipsis := Heap.get?_push_of_some _ z5
  show wpAny _ _ (Builtin.SmallTypes.ownedTupleHandOut (.ref z) (.ref g5.objs.size) >>= _) _ _ _
  refine wpAny_bind ?_
  unfold Builtin.SmallTypes.ownedTupleHandOut
  refine wpAny_bind (wpAny_setField_rec z6 (by simp) fun g7 z7 b7 => ?_)
  have z7 : IsZip g7 z TI TO (rawInt g5.objs.size) := z7
  refine wpAny_setField_rec z7 (by simp) fun g8 z8 b8 => wpAny_pure ⟨_, rfl, wpAny_pure ?_⟩
  have z8 : IsZipHeld g8 z TI TO g5.objs.size false := z8
  have zlt : z < g5.objs.size := Heap.lt_size z5
  have up : ∀ c o, c ≠ z → g5.get? c = some o → g8.get? c = some o := fun c o m e => b8.extBut _ _ m (b7.extBut _ _ m (Heap.get?_push_of_some _ e))
  have pT : IsPair g8 g5.objs.size x y := b8.extBut _ _ (Nat.ne_of_gt zlt) (b7.extBut _ _ (Nat.ne_of_gt zlt) (Heap.get?_push_size _ rfl))
  have s8 : g8.objs.size = g5.objs.size + 1 := (b8.1.trans b7.1).trans (Heap.size_push ..)
  show Q (some (.ref g5.objs.size)) _
  rw [sz5] at z8 pT s8 ⊢
  exact go g8 z8 (d1.keep _ _ _ n1 fun c hc o e => up c o (by rcases hc with rfl | rfl; exact D.i1z; exact D.l1z) e) (d2.keep _ _ _ n2 fun c hc o e => up c o (by rcases hc with rfl | rfl; exact D.i2z; exact D.l2z) e) pT s8 fun c o m1 m2 m3 m4 e => up c o m1 (old c o m1 m2 m3 m4 e)
/-- a later pair: the tuple given out before is still there -/
theorem zip_later {Q : Option Value → Shared → Prop} (d1 : Draw P w i1 l1 us S1) (d2 : Draw P w i2 l2 ws S2) (D : ZipApart z TI TO i1 i2 l1 l2) (hz : IsZipHeld t.heap z TI TO T fl) (hT : t.heap.get? T = some oT) (hTI : IsPair t.heap TI (.ref i1) (.ref i2))
    (a1 : S1 k t.heap) (a2 : S2 k t.heap) (hx : us[k]? = some x) (hy : ws[k]? = some y)
    (go : ∀ g, IsZipHeld g z TI TO T true → S1 (k + 1) g → S2 (k + 1) g → IsPair g t.heap.objs.size x y → g.objs.size = t.heap.objs.size + 1 → (∀ c o, c ≠ z → c ≠ i1 → c ≠ i2 → t.heap.get? c = some o → g.get? c = some o) → Q (some (.ref t.heap.objs.size)) { t with heap := g }) :
    wpAny (model P w) A (pyNext (.ref z)) Q E t := by
  have ty : t.TypeIs (.ref z) "zip" := ⟨_, hz, rfl⟩
  unfold pyNext
  refine wpAny_bind (wpAny_attempt (wpAny_callSpecial?_slot (name := Str.ofString "__next__") ty F.slot_zip_next (wpAny_call_entry F.slot_zip_next ty F.entry_zip_next ?_ (F.args_zip_next_1 _))))
  show wpAny _ _ (field (.ref z) 2 >>= _) _ _ t
  refine wpAny_bind (wpAny_field (x := .bool false) hz rfl rfl ?_)
  show wpAny _ _ (field (.ref z) 3 >>= _) _ _ t
  refine wpAny_bind (wpAny_field (x := .ref TI) hz rfl rfl (wpAny_bind (wpAny_seqItems hTI rfl ?_)))
  show wpAny _ _ (Builtin.SmallTypes.ownedTupleIsFree (.ref z) >>= _) _ _ t
  refine wpAny_bind (wpAny_tupleHeld_zip hz hT fun g1 z1 b1 => ?_)
  rw [if_neg Bool.false_ne_true]
  refine wpAny_bind ?_
  rw [← Array.forIn_toList]
  simp only [List.forIn_cons, List.forIn_nil]
  refine wpAny_bind (wpAny_bind (wpAny_holding ?_))
  show wpAny _ _ (Builtin.SmallTypes.nextOf (.ref i1) >>= _) _ _ _
  refine wpAny_bind (d1.more _ _ { t with heap := g1 } k x _ (d1.off a1 b1.extBut D.i1z D.l1z) hx fun g2 c1 b2 => wpAny_pure (wpAny_pure ?_))
  refine wpAny_bind (wpAny_bind (wpAny_holding ?_))
  show wpAny _ _ (Builtin.SmallTypes.nextOf (.ref i2) >>= _) _ _ _
  refine wpAny_bind (d2.more _ _ { t with heap := g2 } k y _ (d2.off (d2.off a2 b1.extBut D.i2z D.l2z) b2.extBut D.i12.symm D.l2i1) hy fun g3 c2 b3 => wpAny_pure (wpAny_pure (wpAny_pure ?_)))
  show wpAny _ _ (newTuple [x, y] >>= _) _ _ _
  refine wpAny_bind (wpAny_newTuple (wpAny_pure ⟨_, rfl, wpAny_pure ?_⟩))
  have sz3 : g3.objs.size = t.heap.objs.size := (b3.1.trans b2.1).trans b1.1
  have z3 : IsZipHeld g3 z TI TO T true := b3.extBut _ _ D.i2z.symm (b2.extBut _ _ D.i1z.symm z1)
  have n1 : S1 (k + 1) g3 := d1.off c1 b3.extBut D.i12 D.l1i2
  have pT : IsPair (g3.push { cls := .type "tuple", data := .seq #[x, y] }) g3.objs.size x y := Heap.get?_push_size _ rfl
  have s4 : (g3.push { cls := .type "tuple", data := .seq #[x, y] }).objs.size = g3.objs.size + 1 := Heap.size_push ..
  show Q (some (.ref g3.objs.size)) _
  rw [sz3] at pT s4 ⊢
  exact go _ (Heap.get?_push_of_some _ z3) (d1.keep _ _ _ n1 fun c _ o e => Heap.get?_push_of_some _ e) (d2.keep _ _ _ c2 fun c _ o e => Heap.get?_push_of_some _ e) pT s4 fun c o m1 m2 m3 e =>
    Heap.get?_push_of_some _ (b3.extBut _ _ m3 (b2.extBut _ _ m2 (b1.extBut _ _ m1 e)))
/-- its end -/
theorem zip_stop {Q : Option Value → Shared → Prop} (hh : A.handled = none) (d1 : Draw P w i1 l1 us S1) (D : ZipApart z TI TO i1 i2 l1 l2) (hz : IsZipHeld t.heap z TI TO T fl) (hT : t.heap.get? T = some oT) (hTI : IsPair t.heap TI (.ref i1) (.ref i2))
    (a1 : S1 k t.heap) (hx : us[k]? = none) (go : ∀ g, (∀ c o, c ≠ z → c ≠ i1 → t.heap.get? c = some o → g.get? c = some o) → Q none { t with heap := g }) :
    wpAny (model P w) A (pyNext (.ref z)) Q E t := by
  have ty : t.TypeIs (.ref z) "zip" := ⟨_, hz, rfl⟩
  unfold pyNext
  refine wpAny_bind (wpAny_attempt (wpAny_callSpecial?_slot (name := Str.ofString "__next__") ty F.slot_zip_next (wpAny_call_entry F.slot_zip_next ty F.entry_zip_next ?_ (F.args_zip_next_1 _))))
  show wpAny _ _ (field (.ref z) 2 >>= _) _ _ t
  refine wpAny_bind (wpAny_field (x := .bool false) hz rfl rfl ?_)
  show wpAny _ _ (field (.ref z) 3 >>= _) _ _ t
  refine wpAny_bind (wpAny_field (x := .ref TI) hz rfl rfl (wpAny_bind (wpAny_seqItems hTI rfl ?_)))
  show wpAny _ _ (Builtin.SmallTypes.ownedTupleIsFree (.ref z) >>= _) _ _ t
  refine wpAny_bind (wpAny_tupleHeld_zip hz hT fun g1 z1 b1 => ?_)
  rw [if_neg Bool.false_ne_true]
  refine wpAny_bind ?_
  rw [← Array.forIn_toList]
  simp only [List.forIn_cons, List.forIn_nil]
  refine wpAny_bind (wpAny_bind (wpAny_holding ?_))
  show wpAny _ _ (Builtin.SmallTypes.nextOf (.ref i1) >>= _) _ _ _
  refine wpAny_bind (d1.stop _ _ { t with heap := g1 } k _ hh (d1.off a1 b1.extBut D.i1z D.l1z) hx fun g2 e b2 he => ?_)
  obtain ⟨o, ho, hc⟩ := he
  exact wpAny_bind (wpAny_isInstance (T := "StopIteration") (b := true) ⟨o, ho, hc⟩ isSubtype_stop (wpAny_pure (go g2 fun c o m1 m2 q => b2 _ _ m2 (b1.extBut _ _ m1 q))))
end
/-- behind zip(list at a, tuple at b): five new objects -/
abbrev zA (h : Heap) (a : Addr) : Heap := h.push { cls := .type "list_iterator", data := .fields #[.ref a, .int 0 0] }
abbrev zB (h : Heap) (a b : Addr) : Heap := (zA h a).push { cls := .type "tuple_iterator", data := .fields #[.ref b, .int 0 0] }
abbrev zC (h : Heap) (a b : Addr) : Heap := (zB h a b).push { cls := .type "tuple", data := .seq #[.ref h.objs.size, .ref (zA h a).objs.size] }
abbrev zD (h : Heap) (a b : Addr) : Heap := (zC h a b).push { cls := .type "tuple", data := .seq #[.none, .none] }
abbrev zE (h : Heap) (a b : Addr) : Heap := (zD h a b).push { cls := .type "zip", data := .fields #[.none, .bool false, .bool false, .ref (zB h a b).objs.size, .ref (zC h a b).objs.size] }
theorem zip_new_lt (a b : Addr) (xs ys : Array Value) : Meets (Builtin.«zip.__new__» ⟨[.type "zip", .ref a, .ref b], []⟩) (fun _ R s => s.heap.IsList a xs ∧ s.heap.IsTuple b ys ∧ R (.ok (.ret (.ref (zD s.heap a b).objs.size))) { s with heap := zE s.heap a b }) := by
  refine .of_wp fun prog w A R s h => ?_
  obtain ⟨hp, g, d, tk, os⟩ := s
  obtain ⟨ha, hb, h⟩ := h
  have hsub := sub_zip
  have q1 : Heap.IsList (Shared.heap ⟨hp, g, d, tk, os⟩) a xs := ha
  have q2 : Heap.IsTuple (⟨hp.push { cls := .type "list_iterator", data := .fields #[.ref a, .int 0 0] }, g, d, tk, os⟩ : Shared).heap b ys := Heap.IsTuple.push hb _
  wp_walk using wpAny_pyIter_list q1, wpAny_pyIter_tuple q2
  exact ⟨_, rfl, h⟩
/-- what stands behind it -/
structure ZipAt (h : Heap) (n a b : Addr) : Prop where
  zip : IsZip h (n + 4) (n + 2) (n + 3) .none
  ins : IsPair h (n + 2) (.ref n) (.ref (n + 1))
  out : IsPair h (n + 3) .none .none
  it1 : h.IsListIter n a 0
  it2 : h.IsTupleIter (n + 1) b 0
section
variable {P : Program} {w : World} {A : Around} {E : Value → Shared → Prop} {t : Shared} {a b : Addr} {xs ys : Array Value}
theorem call_zip_lt {Q : Value → Shared → Prop} (ha : t.heap.IsList a xs) (hb : t.heap.IsTuple b ys)
    (q : ∀ g, ZipAt g t.heap.objs.size a b → g.objs.size = t.heap.objs.size + 5 → (∀ c o, t.heap.get? c = some o → g.get? c = some o) → Q (.ref (t.heap.objs.size + 4)) { t with heap := g }) :
    wpAny (model P w) A (call (.type "zip") [.ref a, .ref b]) Q E t := by
  refine callType_new F.called_zip (by decide) (F.typeCall_zip_2 _ _) (F.newCall_zip_2 _ _) (fun obj => F.args_object_init_3 obj _ _) F.entry_zip_new (zip_new_lt a b xs ys) ⟨ha, hb, ?_⟩
  have nA : (zA t.heap a).objs.size = t.heap.objs.size + 1 := Heap.size_push ..
  have nB : (zB t.heap a b).objs.size = t.heap.objs.size + 2 := (Heap.size_push ..).trans (by rw [nA])
  have nC : (zC t.heap a b).objs.size = t.heap.objs.size + 3 := (Heap.size_push ..).trans (by rw [nB])
  have nD : (zD t.heap a b).objs.size = t.heap.objs.size + 4 := (Heap.size_push ..).trans (by rw [nC])
  have nE : (zE t.heap a b).objs.size = t.heap.objs.size + 5 := (Heap.size_push ..).trans (by rw [nD])
  have up1 : ∀ c o, (zA t.heap a).get? c = some o → (zE t.heap a b).get? c = some o := fun c o e => Heap.get?_push_of_some _ (Heap.get?_push_of_some _ (Heap.get?_push_of_some _ (Heap.get?_push_of_some _ e)))
  have fE : (zE t.heap a b).get? (zD t.heap a b).objs.size = some _ := Heap.get?_push_size _ rfl
  have fD : (zE t.heap a b).get? (zC t.heap a b).objs.size = some _ := Heap.get?_push_of_some _ (Heap.get?_push_size _ rfl)
  have fC : (zE t.heap a b).get? (zB t.heap a b).objs.size = some _ := Heap.get?_push_of_some _ (Heap.get?_push_of_some _ (Heap.get?_push_size _ rfl))
  have fB : (zE t.heap a b).get? (zA t.heap a).objs.size = some _ := Heap.get?_push_of_some _ (Heap.get?_push_of_some _ (Heap.get?_push_of_some _ (Heap.get?_push_size _ rfl)))
  have fA : (zE t.heap a b).get? t.heap.objs.size = some _ := up1 _ _ (Heap.get?_push_size _ rfl)
  rw [nD, nB, nC] at fE
  rw [nC] at fD
  rw [nB, nA] at fC
  rw [nA] at fB
  show _ ∧ _
  rw [nD]
  exact ⟨⟨_, fE, rfl⟩, q _ ⟨fE, fC, fD, ⟨_, fA, rfl, rfl⟩, ⟨_, fB, rfl, rfl⟩⟩ nE fun c o e => up1 c o (Heap.get?_push_of_some _ e)⟩
end
end K32

/-! list(zip(a, b)): the loop, the rule -/
namespace K32
open PySem PySem.Spec PyProof.Rows L2
def PairIs (H : Hp) (v : V) (z : V × V) : Prop := ∃ T, v = .ref T ∧ H T = some (.tup [z.1, z.2])
theorem PairIs.same {H H' : Hp} {v : V} {z : V × V} (e : Same H H') (h : PairIs H v z) : PairIs H' v z := let ⟨T, eT, h⟩ := h; ⟨T, eT, e _ _ h⟩
/-- how the zip stands behind i pairs -/
def ZSt (n a b i : Nat) (h : Heap) : Prop := (i = 0 ∧ IsZip h (n + 4) (n + 2) (n + 3) .none ∧ ∃ p q, IsPair h (n + 3) p q) ∨ ∃ T f oT, IsZipHeld h (n + 4) (n + 2) (n + 3) T f ∧ h.get? T = some oT ∧ T ≠ n + 4 ∧ T ≠ n + 3 ∧ T ≠ n ∧ T ≠ n + 1
section
variable {X : Cx} {pins : List (Addr × Obj)} {σ : L2.St} {H1 : Hp} {n a b S : Nat} {us ws : List Value} {xs ys : List V}
structure ZInv (X : Cx) (pins : List (Addr × Obj)) (σ : L2.St) (H1 : Hp) (n a b S : Nat) (us ws : List Value) (xs ys : List V) (i : Nat) (s : Shared) (H : Hp) (vs : List V) : Prop where
  inv : Inv X pins σ H s
  fp : ∀ c ∈ [n + 4, n + 3, n, n + 1], FpOk X pins H c
  lt : n + 4 < s.heap.objs.size
  st : ZSt n a b i s.heap
  ti : IsPair s.heap (n + 2) (.ref n) (.ref (n + 1))
  i1 : s.heap.IsListIter n a i ∧ s.heap.IsList a us.toArray
  i2 : s.heap.IsTupleIter (n + 1) b i ∧ s.heap.IsTuple b ws.toArray
  hS : H S = some (.lst vs)
  len : vs.length = i
  old : Same H1 H
  prs : Paired (PairIs H) vs ((xs.zip ys).take i)
theorem nne {x y : Nat} (h : x < y ∨ y < x) : x ≠ y := by omega
theorem apart_of (ha : a < n) (hb : b < n) : ZipApart (n + 4) (n + 2) (n + 3) n (n + 1) a b := by
  constructor <;> (show @Ne Nat _ _; omega)
theorem zl_loop {A : Around} {R : Result → Shared → Prop} (hh : A.handled = none) (ha : a < n) (hb : b < n) (hSn : n + 4 < S) (hSf : H1 S = none) (hxy : xs.length = ys.length) (hx : Vals xs us) (hy : Vals ys ws) (hle : xs.length ≤ 1000)
    (fin : ∀ s H vs, Inv X pins σ H s → H S = some (.lst vs) → Same H1 H → Paired (PairIs H) vs (xs.zip ys) → R (.ok (.ret .none)) s) :
    ∀ (m i : Nat) (s : Shared) (H : Hp) (vs : List V), xs.length = i + m → (1 ≤ i ∨ 1 ≤ m) → ZInv X pins σ H1 n a b S us ws xs ys i s H vs → codeAny (model X.prog X.w) A (.builtin "list.extend.loop" ⟨[.ref S, .ref (n + 4), .none], []⟩) R s := by
  have D := apart_of ha hb
  have dl : Draw X.prog X.w n a us (fun k h => h.IsListIter n a k ∧ h.IsList a us.toArray) := draw_list (Nat.ne_of_gt ha)
  have dt : Draw X.prog X.w (n + 1) b ws (fun k h => h.IsTupleIter (n + 1) b k ∧ h.IsTuple b ws.toArray) := draw_tup (Nat.ne_of_gt (Nat.lt_succ_of_lt hb))
  have l1 := hx.length
  have l2 := hy.length
  intro m
  induction m with
  | zero =>
    intro i s H vs hi hpos Z
    obtain ⟨inv, fp, lt, st, ti, i1, i2, hS, len, old, prs⟩ := Z
    refine codeAny_builtin F.entry_extend_loop ?_
    rw [Around.under_plainId F.plain_extend_loop _]
    show wpAny _ A.in1 (pyNext (.ref (n + 4)) >>= _) _ _ s
    have hend : us[i]? = none := by rw [List.getElem?_eq_none_iff]; omega
    rcases st with ⟨h0, _⟩ | ⟨T, f, oT, hz, hT, _⟩
    · omega
    · refine wpAny_bind (zip_stop hh dl D hz hT ti i1 hend fun g k => wpAny_pure ?_)
      have I2 : Inv X pins σ H { s with heap := g } := inv.turnedL (t' := s.toks) (ch := [n + 4, n]) (fun c o hc e => k c o (fun z => hc (by simp [z])) (fun z => hc (by simp [z])) e) fun c hc => fp c (by
        simp only [List.mem_cons, List.not_mem_nil, or_false] at hc ⊢
        rcases hc with h | h <;> simp [h])
      rw [List.take_of_length_le (by rw [List.length_zip]; omega)] at prs
      exact fin _ H vs I2 hS old prs
  | succ m ih =>
    intro i s H vs hi hpos Z
    obtain ⟨inv, fp, lt, st, ti, i1, i2, hS, len, old, prs⟩ := Z
    have hix : i < xs.length := by omega
    have hiy : i < ys.length := by omega
    obtain ⟨u, hu, ru⟩ := hx.get (List.getElem?_eq_getElem hix)
    obtain ⟨v, hv, rv⟩ := hy.get (List.getElem?_eq_getElem hiy)
    refine codeAny_builtin F.entry_extend_loop ?_
    rw [Around.under_plainId F.plain_extend_loop _]
    show wpAny _ A.in1 (pyNext (.ref (n + 4)) >>= _) _ _ s
    -- a pair is out
    have step : ∀ g, (∃ T f oT, IsZipHeld g (n + 4) (n + 2) (n + 3) T f ∧ g.get? T = some oT ∧ T ≠ n + 4 ∧ T ≠ n + 3 ∧ T ≠ n ∧ T ≠ n + 1) → (g.IsListIter n a (i + 1) ∧ g.IsList a us.toArray) → (g.IsTupleIter (n + 1) b (i + 1) ∧ g.IsTuple b ws.toArray) →
        IsPair g s.heap.objs.size u v → g.objs.size = s.heap.objs.size + 1 → (∀ c o, c ≠ n + 4 → c ≠ n + 3 → c ≠ n → c ≠ n + 1 → s.heap.get? c = some o → g.get? c = some o) →
        wpAny (model X.prog X.w) A.in1 (updateSeq S (·.push (.ref s.heap.objs.size)) >>= fun _ => again (.builtin "list.extend.loop" ⟨[.ref S, .ref (n + 4), .none], []⟩)) (fun fin s' => match fin with | .done f => R (.ok f) s' | .again c' => c'.quiet = true ∧ codeAny (model X.prog X.w) A c' R s') (fun e s' => R (.error e) s') { s with heap := g } := by
      intro g hz n1 n2 hp hsz k
      have hTn : H s.heap.objs.size = none := inv.hok.fresh (Nat.le_refl _)
      have new : ObjOk X.prog X.w (upd H s.heap.objs.size (.tup [xs[i], ys[i]])) g s.heap.objs.size (.tup [xs[i], ys[i]]) := ⟨by show 2 ≤ sizeLine; decide, [u, v], .cons ru (.cons rv .nil), ⟨_, hp, rfl, _, rfl⟩⟩
      have I2 : Inv X pins σ (upd H s.heap.objs.size (.tup [xs[i], ys[i]])) { s with heap := g } := inv.turnedNew (t' := s.toks) (ch := [n + 4, n + 3, n, n + 1]) (fun c o hc e => k c o (fun z => hc (by simp [z])) (fun z => hc (by simp [z])) (fun z => hc (by simp [z])) (fun z => hc (by simp [z])) e) fp (Nat.le_refl _) new
      have hS2 : (upd H s.heap.objs.size (.tup [xs[i], ys[i]])) S = some (.lst vs) := by rw [upd_ne (ne_of_none hS hTn)]; exact hS
      obtain ⟨_, its, c0, rvs, hl, hO⟩ := I2.lstM hS2
      have hO : g.get? S = some { cls := .type "list", data := .seq its.toArray c0 } := hO
      have hvl : its.length = i := by rw [← hl, len]
      have hsl : i < sizeLine := Nat.lt_of_lt_of_le (by omega : i < 1000) (by decide)
      have Slt : S < g.objs.size := Heap.lt_size hO
      have Sne : ∀ c, c ≤ n + 4 → c ≠ S := fun c hc z => by omega
      refine wpAny_bind (wpAny_updateSeq hO rfl (wpAny_pure ⟨plainId_quiet F.plain_extend_loop _, ?_⟩) (by show its.toArray.size ≤ sizeLine; rw [List.size_toArray]; omega) (by show (its.toArray.push _).size ≤ sizeLine + 1; rw [Array.size_push, List.size_toArray]; omega))
      have up : ∀ c o, c ≠ S → g.get? c = some o → (g.update S (Obj.mapSeq (·.push (Value.ref s.heap.objs.size)))).get? c = some o := fun c o hc e => (Heap.get?_update_other _ _ hc.symm).trans e
      have I3 : Inv X pins σ (upd (upd H s.heap.objs.size (.tup [xs[i], ys[i]])) S (.lst (vs ++ [.ref s.heap.objs.size]))) { s with heap := g.update S (Obj.mapSeq (·.push (Value.ref s.heap.objs.size))) } :=
        I2.lset (t' := s.toks) (its' := its ++ [.ref s.heap.objs.size]) hS2 hO (by simp) (rvs.append (show Vals [V.ref s.heap.objs.size] [Value.ref s.heap.objs.size] from .cons rfl .nil)) (by rw [List.length_append, List.length_singleton]; omega)
      have e2 : Same H1 (upd (upd H s.heap.objs.size (.tup [xs[i], ys[i]])) S (.lst (vs ++ [.ref s.heap.objs.size]))) := Same.updX hSf (old.trans (Same.new hTn))
      have hST : s.heap.objs.size ≠ S := fun z => by rw [← z, hTn] at hS; cases hS
      refine ih (i + 1) _ _ (vs ++ [.ref s.heap.objs.size]) (by omega) (.inl (by omega)) ⟨I3, fun c hc => ?_, ?_, ?_, up _ _ (Sne _ (by omega)) (k _ _ D.TIz D.TITO D.TIi1 D.TIi2 ti), ⟨n1.1.at fun o e => up _ o (Sne _ (by omega)) e, n1.2.at fun o e => up _ o (fun z => by omega) e⟩, ⟨n2.1.at fun o e => up _ o (Sne _ (by omega)) e, n2.2.at fun o e => up _ o (fun z => by omega) e⟩, upd_same, by rw [List.length_append, len]; rfl, e2, ?_⟩
      · have q := fp c hc
        have hlc : c ≤ n + 4 := by
          simp only [List.mem_cons, List.not_mem_nil, or_false] at hc
          rcases hc with h | h | h | h <;> omega
        refine ⟨?_, q.2⟩
        rw [upd_ne (Sne c hlc), upd_ne (nne (by omega))]
        exact q.1
      · show n + 4 < (g.update S _).objs.size
        rw [(Heap.SameBut.update (a := S) (h := g) (f := Obj.mapSeq (·.push (Value.ref s.heap.objs.size)))).1]
        omega
      · obtain ⟨T, f, oT, h1, h2, t1, t2, t3, t4⟩ := hz
        by_cases hTS : T = S
        · exact .inr ⟨T, f, _, up _ _ (Sne _ (by omega)) h1, by rw [hTS]; exact Heap.get?_update_self _ hO rfl, t1, t2, t3, t4⟩
        · exact .inr ⟨T, f, oT, up _ _ (Sne _ (by omega)) h1, up _ _ hTS h2, t1, t2, t3, t4⟩
      · have ez : (xs.zip ys).take (i + 1) = (xs.zip ys).take i ++ [(xs[i], ys[i])] := by
          rw [List.take_add_one]
          congr 1
          rw [List.getElem?_eq_getElem (by rw [List.length_zip]; omega), List.getElem_zip]
          rfl
        rw [ez]
        have keepP : ∀ w z, PairIs H w z → PairIs (upd (upd H s.heap.objs.size (.tup [xs[i], ys[i]])) S (.lst (vs ++ [.ref s.heap.objs.size]))) w z := fun w z ⟨T, eT, h⟩ => ⟨T, eT, by
          rw [upd_ne (fun zz => by rw [zz, hS] at h; cases h), upd_ne (ne_of_none h hTn)]
          exact h⟩
        exact paired_app (paired_imp prs keepP) (.cons ⟨_, rfl, by rw [upd_ne hST, upd_same]⟩ .nil)
    have hne : ∀ c, c ≤ n + 4 → s.heap.objs.size ≠ c := fun c hc z => by omega
    rcases st with ⟨h0, hz, p, q, hto⟩ | ⟨T, f, oT, hz, hT, t1, t2, t3, t4⟩
    · refine wpAny_bind (zip_first dl dt D hz ti hto i1 i2 hu hv fun g g1 g2 g3 g4 g5 g6 => ?_)
      exact step g ⟨_, _, _, g1, g4, hne _ (by omega), hne _ (by omega), hne _ (by omega), hne _ (by omega)⟩ g2 g3 g4 g5 g6
    · refine wpAny_bind (zip_later dl dt D hz hT ti i1 i2 hu hv fun g g1 g2 g3 g4 g5 g6 => ?_)
      exact step g ⟨_, _, _, g1, g6 _ _ t1 t3 t4 hT, t1, t2, t3, t4⟩ g2 g3 g4 g5 fun c o m1 _ m3 m4 e => g6 c o m1 m3 m4 e
theorem zip_no_len : typeLookup (.type "zip") "__len__" = pure none := am_miss_of_fast (by decide +kernel)
theorem zip_no_hint : typeLookup (.type "zip") "__length_hint__" = pure none := am_miss_of_fast (by decide +kernel)
/-- list(z) -/
theorem call_list_zip {A : Around} {s : Shared} {H : Hp} {Q : Value → Shared → Prop} {E : Value → Shared → Prop} (hh : A.handled = none) (I : Inv X pins σ H s) (ha : a < n) (hb : b < n) (hn : n + 4 < s.heap.objs.size) (Z : ZipAt s.heap n a b) (hx : Vals xs us) (hy : Vals ys ws)
    (la : s.heap.IsList a us.toArray) (tb : s.heap.IsTuple b ws.toArray) (fp : ∀ c ∈ [n + 4, n + 3, n, n + 1], FpOk X pins H c) (hxy : xs.length = ys.length) (h1 : 1 ≤ xs.length) (hle : xs.length ≤ 1000)
    (fin : ∀ l s' H' vs, Inv X pins σ H' s' → H l = none → H' l = some (.lst vs) → Same H H' → Paired (PairIs H') vs (xs.zip ys) → Q (.ref l) s') :
    wpAny (model X.prog X.w) A (call (.type "list") [.ref (n + 4)]) Q E s := by
  have hSn := I.hok.fresh (a := s.heap.objs.size) (Nat.le_refl _)
  refine callType_codes (Q₁ := fun ob t => ob = .ref s.heap.objs.size ∧ t = { s with heap := s.heap.push { cls := .type "list", data := .seq #[] } }) F.called_list (F.typeCall_list_1 _) F.entry_list_init (code_list_new _ ⟨rfl, rfl⟩) fun ob t ht => ?_
  obtain ⟨rfl, rfl⟩ := ht
  have o1 : (s.heap.push { cls := .type "list", data := .seq #[] }).get? s.heap.objs.size = some { cls := .type "list", data := .seq #[] } := Heap.get?_push_size _ rfl
  refine ⟨⟨_, o1, rfl⟩, F.args_list_init_2 _ _, ?_⟩
  have zty : ∀ {g : Heap}, (∀ c o, s.heap.get? c = some o → g.get? c = some o) → ({ s with heap := g } : Shared).TypeIs (.ref (n + 4)) "zip" := fun k => ⟨_, k _ _ Z.zip, rfl⟩
  have k1 : ∀ c o, s.heap.get? c = some o → (s.heap.push { cls := .type "list", data := .seq #[] }).get? c = some o := fun c o e => Heap.get?_push_of_some _ e
  have kU : ∀ (g : Heap) (f : Obj → Obj), (∀ c o, s.heap.get? c = some o → g.get? c = some o) → ∀ c o, s.heap.get? c = some o → (g.update s.heap.objs.size f).get? c = some o := fun g f k c o e => (Heap.get?_update_other g f (Nat.ne_of_gt (Heap.lt_size e))).trans (k c o e)
  show wpAny _ _ (Builtin.List.listItems (.ref s.heap.objs.size) >>= fun was => Builtin.List.listUpdate (.ref s.heap.objs.size) (fun _ => #[]) >>= fun _ => letGo was.toList.reverse >>= fun _ => Builtin.List.listExtendWith (.ref s.heap.objs.size) (.ref (n + 4)) .none) _ _ _
  refine wpAny_bind ?_
  unfold Builtin.List.listItems
  refine wpAny_bind (wpAny_seqItems o1 rfl (wpAny_pure ?_))
  show wpAny _ _ (updateSeq s.heap.objs.size (fun _ => #[]) >>= _) _ _ _
  refine wpAny_bind (wpAny_updateSeq o1 rfl ?_)
  have o2 := Heap.get?_update_self (Obj.mapSeq (fun _ => (#[] : Array Value))) o1 rfl
  have k2 := kU _ (Obj.mapSeq (fun _ => (#[] : Array Value))) k1
  refine wpAny_bind (wpAny_letGo ?_)
  unfold Builtin.List.listExtendWith
  refine wpAny_bind (wpAny_typeOf (zty k2) ?_)
  have m1 : Builtin.List.listSameRef (.ref s.heap.objs.size) (.ref (n + 4)) = false := by
    have : s.heap.objs.size ≠ n + 4 := by omega
    simp [Builtin.List.listSameRef, this]
  rw [m1, show (Value.type "zip" == Value.type "list") = false by decide, show (Value.type "zip" == Value.type "tuple") = false by decide]
  rw [if_neg (by decide)]
  refine wpAny_bind (wpAny_pyIter_zip (k2 _ _ Z.zip) (wpAny_bind (wpAny_holding ?_)))
  unfold Builtin.List.listLengthHint
  refine wpAny_bind (wpAny_specialOf (zty k2) zip_no_len ?_)
  show wpAny _ _ (specialOf (Value.ref (n + 4)) (Str.ofString "__length_hint__") >>= _) _ _ _
  refine wpAny_bind (wpAny_specialOf (zty k2) zip_no_hint (wpAny_pure ?_))
  show wpAny _ _ (rule "list.extend.makes-room" >>= fun _ => Builtin.List.listTouch (.ref s.heap.objs.size) >>= fun _ => again (.builtin "list.extend.loop" ⟨[.ref s.heap.objs.size, .ref (n + 4), .none], []⟩)) _ _ _
  refine wpAny_bind (wpAny_rule (wpAny_bind ?_))
  show wpAny _ _ (updateSeq s.heap.objs.size (·.push .none) >>= fun _ => updateSeq s.heap.objs.size (·.pop)) _ _ _
  refine wpAny_bind (wpAny_updateSeq o2 rfl ?_)
  have o3 := Heap.get?_update_self (Obj.mapSeq (·.push Value.none)) o2 rfl
  refine wpAny_updateSeq (hz := by seq_fits) o3 rfl ?_
  have o4 := Heap.get?_update_self (Obj.mapSeq (·.pop)) o3 rfl
  have k4 := kU _ (Obj.mapSeq (·.pop)) (kU _ (Obj.mapSeq (·.push Value.none)) k2)
  refine wpAny_pure ⟨plainId_quiet F.plain_extend_loop _, ?_⟩
  generalize hg : ((((s.heap.push { cls := .type "list", data := .seq #[] }).update s.heap.objs.size (Obj.mapSeq (fun _ => (#[] : Array Value)))).update s.heap.objs.size (Obj.mapSeq (·.push Value.none))).update s.heap.objs.size (Obj.mapSeq (·.pop))) = g at o4 k4 ⊢
  have I2 : Inv X pins σ (upd H s.heap.objs.size (.lst [])) { s with heap := g } := I.laid (t' := s.toks) k4 (Nat.le_refl _) ⟨Nat.zero_le _, [], _, .nil, o4⟩
  have glt : s.heap.objs.size < g.objs.size := Heap.lt_size o4
  refine zl_loop (H1 := H) (us := us) (ws := ws) (xs := xs) (ys := ys) (by exact hh) ha hb (by omega) hSn hxy hx hy hle (fun s' H' vs I' h1' h2' h3' => ⟨rfl, fin _ s' H' vs I' hSn h1' h2' h3'⟩) xs.length 0 { s with heap := g } (upd H s.heap.objs.size (.lst [])) [] (by omega) (.inr h1) ?_
  refine ⟨I2, fun c hc => ?_, by show n + 4 < g.objs.size; omega, .inl ⟨rfl, k4 _ _ Z.zip, _, _, k4 _ _ Z.out⟩, k4 _ _ Z.ins, ⟨Z.it1.at fun o e => k4 _ o e, la.at fun o e => k4 _ o e⟩, ⟨Z.it2.at fun o e => k4 _ o e, tb.at fun o e => k4 _ o e⟩, upd_same, rfl, Same.new hSn, .nil⟩
  have q := fp c hc
  refine ⟨?_, q.2⟩
  rw [upd_ne (nne (by
    simp only [List.mem_cons, List.not_mem_nil, or_false] at hc
    rcases hc with h | h | h | h <;> omega))]
  exact q.1
end
/-- list(zip(e1, e2)) of a list and a tuple of one length -/
def tLZip (K : PySem.W.Frag) (ta : TA) : TE := fun σ H Q => ta σ H fun vs H1 => ∃ a b xs ys, vs = [.ref a, .ref b] ∧ SqL K H1 a xs ∧ SqT K H1 b ys ∧ xs.length = ys.length ∧ 1 ≤ xs.length ∧ xs.length ≤ 1000 ∧
  ∀ l H' ps, Same H1 H' → H1 l = none → H' l = some (.lst ps) → Paired (PairIs H') ps (xs.zip ys) → Q (.ref l) H'
theorem pe_listZip {X : Cx} (K : PySem.W.Frag) (hK : X.K = K) {e1 e2 : Expr} {ta : TA} {p p2 pos pos2 : Pos} (hc : X.calm = true) (hg : Gl X "list") (hm : X.mg "list" = none) (hgz : Gl X "zip") (hmz : X.mg "zip" = none) (ha : PA X [e1, e2] ta)
    (hs : starEach [e1, e2] X.env = (false, eval e1 X.env) :: starEach [e2] X.env := by rfl) (hpl : (backTo pos2 (starEach [e2] X.env)).any (·.1) = false := by rfl)
    (na : starEach [.Call (.Name "zip" p2) [e1, e2] [] pos2] X.env = (false, eval (.Call (.Name "zip" p2) [e1, e2] [] pos2) X.env) :: starEach [] X.env := by rfl) :
    PE X (.Call (.Name "list" p) [.Call (.Name "zip" p2) [e1, e2] [] pos2] [] pos) (tLZip K ta) := by
  subst hK
  refine ⟨fun pins s σ H Q I h => ?_⟩
  have zp : wpAny (model X.prog X.w) X.A (eval (.Call (.Name "zip" p2) [e1, e2] [] pos2) X.env) (fun x s' => ∃ (n a b : Nat) (us ws : List Value) (xs ys : List V) (H1 : Hp), x = .ref (n + 4) ∧ Inv X pins σ H1 s' ∧ a < n ∧ b < n ∧ n + 4 < s'.heap.objs.size ∧ ZipAt s'.heap n a b ∧ Vals xs us ∧ Vals ys ws ∧
      s'.heap.IsList a us.toArray ∧ s'.heap.IsTuple b ws.toArray ∧ (∀ c ∈ [n + 4, n + 3, n, n + 1], FpOk X pins H1 c) ∧ xs.length = ys.length ∧ 1 ≤ xs.length ∧ xs.length ≤ 1000 ∧
      ∀ l H' ps, Same H1 H' → H1 l = none → H' l = some (.lst ps) → Paired (PairIs H') ps (xs.zip ys) → Q (.ref l) H') X.xe s := by
    refine Call_ (ld_blt I hgz hmz PyProof.Rows.boot_zip (PyProof.Rows.callWith_type1 (thn (ha.run pos2 pins s σ H _ I h) fun vals s1 ⟨vs, H1, I1, r1, q1⟩ => ?_) hs hpl))
    obtain ⟨a, b, xs, ys, rfl, hA, hB, hl, l1, l2, q⟩ := q1
    cases r1 with
    | cons r rr =>
    cases rr with
    | cons r' rr =>
    cases rr
    cases r
    cases r'
    obtain ⟨us, rv, pA, _⟩ := I1.list hA
    obtain ⟨ws, rw_, pB, _⟩ := I1.tuple hB
    have pB' : s1.heap.IsTuple b ws.toArray := pB
    have la := pA.isList
    obtain ⟨_, oa, _⟩ := id la
    obtain ⟨_, ob_, _⟩ := id pB'
    refine call_zip_lt la pB' fun g Z hsz k => ?_
    have I2 : Inv X pins σ H1 { s1 with heap := g } := I1.kept (t' := s1.toks) k
    refine ⟨s1.heap.objs.size, a, b, us, ws, xs, ys, H1, rfl, I2, Heap.lt_size oa, Heap.lt_size ob_, by show _ < g.objs.size; omega, Z, rv, rw_, la.at fun o e => k _ o e, pB'.at fun o e => k _ o e, fun c hcm => ?_, hl, l1, l2, q⟩
    have hle : s1.heap.objs.size ≤ c := by
      simp only [List.mem_cons, List.not_mem_nil, or_false] at hcm
      rcases hcm with z | z | z | z <;> rw [z] <;> omega
    exact I1.fpOk hle (I1.hok.fresh hle)
  refine Call_ (ld_blt I hg hm boot_list (PyProof.Rows.callWith_type1 (args_cons (thn zp fun x s1 ⟨n, a, b, us, ws, xs, ys, H1, ex, I1, ha', hb', hn, Z, rv, rw_, la, tb, fp, hl, l1, l2, q⟩ => args_nil ?_) na) na))
  subst ex
  exact call_list_zip (I1.ok.hd hc) I1 ha' hb' hn Z rv rw_ la tb fp hl l1 l2 fun l s' H' vs I' h1' h2' h3' h4' => ⟨.ref l, H', I', rfl, q l H' vs h3' h1' h2' h4'⟩
/-! ### () + t -/
theorem HT_cat0 {prog : Program} {w : World} {A : Around} {E : Value → Shared → Prop} {s : Shared} {t b : Addr} {ws : List Value} {Q : Value → Shared → Prop} (ht : IsTup s.heap t #[]) (hb : IsTup s.heap b ws.toArray) (h1 : Q (.ref b) s) : wpAny (model prog w) A (binaryOp .Add (.ref t) (.ref b)) Q E s := by
  obtain ⟨⟨cls, dd, data, sl⟩, ho, hc, n, hd⟩ := id ht
  obtain ⟨⟨cls2, dd2, data2, sl2⟩, ho2, hc2, n2, hd2⟩ := id hb
  obtain rfl : cls = .type "tuple" := hc
  obtain rfl : data = .seq #[] n := hd
  obtain rfl : cls2 = .type "tuple" := hc2
  obtain rfl : data2 = .seq ws.toArray n2 := hd2
  exact concat_meets ⟨_, ho, rfl⟩ ⟨_, ho2, rfl⟩ noFill_tuple_add seq_tuple_add PySem.F.slot_tuple_add PySem.F.entry_tuple_add (PySem.F.args_tuple_add_2 _ _) (tuple_addW0 t b #[] ws.toArray n n2 dd dd2 sl sl2 rfl) ⟨ho, ho2, h1⟩
def rCat0 (K : PySem.W.Frag) : R2 := fun x y H Q => ∃ a b ys, x = .ref a ∧ y = .ref b ∧ SqT K H a [] ∧ SqT K H b ys ∧ Q (.ref b) H
theorem op_cat0 {X : Cx} : OpR X (binaryOp .Add) (rCat0 X.K) := by
  intro pins s σ H x y v u Q I rx ry h
  obtain ⟨a, b, ys, rfl, rfl, ha, hb, q⟩ := h
  cases rx
  cases ry
  obtain ⟨its, r1, p1, _⟩ := I.tuple ha
  obtain ⟨its2, r2, p2, _⟩ := I.tuple hb
  cases r1
  exact HT_cat0 p1 p2 ⟨.ref b, H, I, rfl, q⟩
/-- t + u of tuples, u not empty -/
def rCatA (K : PySem.W.Frag) : R2 := fun x y H Q => rCatT K x y H Q ∨ rCat0 K x y H Q
theorem op_catA {X : Cx} (K : PySem.W.Frag) (h : X.K = K) : OpR X (binaryOp .Add) (rCatA K) := by
  subst h
  intro pins s σ H x y v u Q I rx ry q
  rcases q with q | q
  · exact op_catT pins s σ H x y v u Q I rx ry q
  · exact op_cat0 pins s σ H x y v u Q I rx ry q
theorem rd_catA {K : PySem.W.Frag} {a b : Addr} {xs ys : List V} {H : Hp} {Q : VK} (h1 : SqT K H a xs) (h2 : SqT K H b ys) (hy : ys ≠ []) (hl : xs.length + ys.length ≤ sizeLine) (q : ∀ p H', Same H H' → SqT K H' p (xs ++ ys) → Q (.ref p) H') : rCatA K (.ref a) (.ref b) H Q := by
  by_cases c : xs = []
  · subst c
    exact .inr ⟨a, b, ys, rfl, rfl, h1, h2, q b H (Same.refl _) h2⟩
  · exact .inl ⟨a, b, xs, ys, rfl, rfl, h1, h2, c, hl, fun z => absurd z hy, fun _ p hp => q p _ (Same.new hp) (.inl (.of upd_same))⟩
end K32

/-! the law: readings -/
namespace K32
open PySem PyProof.Rows L2
section
variable {P : Program} {w : World} {K : PySem.W.Frag} {mg : Str → Option Value} {base : Heap}
def spLLets : Sp := fun vs H Q _ => ∃ t z v k, vs = [.ref t, .int v, .int k] ∧ H t = some (WlTup z) ∧ 1 ≤ z.1 ∧ Q (.bl (letsW z v k)) H
theorem c__law_lets (T : Top K mg) : C8.Cal P w K mg base 1 "_law_lets" spLLets [] := by
  refine calF T._law_lets (fun _ _ _ _ _ _ us hl => match us, hl with | [_, _, _], _ => rfl) sc__law_lets (by rintro vs H Q E ⟨t, z, v, k, rfl, _⟩; rfl) (fun cdv A outer sh H vs Q E hr h => ?_)
  obtain ⟨t, ⟨p, b, a, tr⟩, v, k, rfl, ht, hp, q⟩ := h
  refine ⟨_, (pss_one (ps_ret (pe_cmpR op_le (pe_op op_mod (pe_callTy call_int1 (by rfl) T.f_int (by decide +kernel) (pa_cons (pe_op op_add (pe_op op_sub (pv 2) (pv 1)) (pe_ix (ixT K rfl) (pv 0) pe_int (fun _ _ => rfl))) pa_nil)) (pe_ix (ixT K rfl) (pv 0) pe_int (fun _ _ => rfl))) (pe_op op_add (pe_ix (ixT K rfl) (pv 0) pe_int (fun _ _ => rfl)) (pe_ix (ixT K rfl) (pv 0) pe_int (fun _ _ => rfl))) (nomark _)))), ?_⟩
  exact ⟨_, rfl, _, rfl, _, _, rfl, rfl, _, rfl, t, _, _, _, rfl, rfl, .inl (.of ht), rfl, _, _, rfl, rfl, .inl ⟨_, rfl, _, rfl, t, _, _, _, rfl, rfl, .inl (.of ht), rfl, _, _, rfl, rfl, (by show 0 < p; simp only at hp; omega), _, rfl, t, _, _, _, rfl, rfl, .inl (.of ht), rfl, _, rfl, t, _, _, _, rfl, rfl, .inl (.of ht), rfl, _, _, rfl, rfl, _, _, rfl, rfl, q⟩⟩
def mv : Option Int → V
  | some k => .int k
  | none => .non
def RdAt (K : PySem.W.Frag) (H : Hp) (v : V) (ms : List (Option Int)) : Prop := ∃ t, v = .ref t ∧ SqT K H t (ms.map mv)
theorem RdAt.same {H H' : Hp} {v : V} {ms : List (Option Int)} (e : Same H H') (h : RdAt K H v ms) : RdAt K H' v ms := let ⟨t, et, h⟩ := h; ⟨t, et, Same.seqT e h⟩
theorem stab_rd : Stab (RdAt K) := fun D acc H H' y z hD hs ⟨t, et, h⟩ => ⟨t, et, stabT hD hs h⟩
theorem marks_len {z : Wl} (h : z.1 ≤ 5) : (marksOf z).length ≤ 6 := by
  unfold marksOf
  rw [List.length_append, List.length_map, List.length_range]
  split <;> simp <;> omega
theorem longer_len {z : Wl} (h : z.1 ≤ 5) {found : List (List (Option Int))} : (longer found z).length ≤ 6 * found.length := by
  unfold longer
  have q := marks_len h
  induction found with
  | nil => exact Nat.zero_le _
  | cons a l ih =>
    rw [List.map_cons, List.flatten_cons, List.length_append, List.length_map, List.length_cons]
    omega
theorem readings_bound : ∀ (ws : List Wl) (found : List (List (Option Int))), (∀ z ∈ ws, 1 ≤ z.1 ∧ z.1 ≤ 5) → (ws.foldl longer found).length ≤ 6 ^ ws.length * found.length
  | [], found, _ => by simp
  | z :: ws, found, h => by
    rw [List.foldl_cons]
    refine Nat.le_trans (readings_bound ws _ fun y hy => h y (List.mem_cons_of_mem _ hy)) ?_
    rw [List.length_cons, Nat.pow_succ, Nat.mul_assoc]
    exact Nat.mul_le_mul_left _ (longer_len (h z List.mem_cons_self).2)
theorem readings_len {ws : List Wl} (hl : ws.length ≤ 3) (h : ∀ z ∈ ws, 1 ≤ z.1 ∧ z.1 ≤ 5) : (readings ws).length ≤ 216 := by
  have q := readings_bound ws [[]] h
  have q2 : 6 ^ ws.length ≤ 6 ^ 3 := Nat.pow_le_pow_right (by decide) hl
  unfold readings
  simp only [List.length_cons, List.length_nil] at q
  omega
theorem fits_len {ws : List Wl} {ms : List (Option Int)} (h : Fits ws ms) : ms.length = ws.length := by
  induction h with
  | nil => rfl
  | cons _ _ ih => rw [List.length_cons, List.length_cons, ih]
theorem readings_width {ws : List Wl} {ms : List (Option Int)} (h : ms ∈ readings ws) : ms.length = ws.length := fits_len (readings_iff.mp h)
def spLRead (K : PySem.W.Frag) : Sp := fun vs H Q _ => ∃ a us ws, vs = [.ref a] ∧ SqL K H a us ∧ Paired (WlAt H) us ws ∧ us.length ≤ 3 ∧ (∀ z ∈ ws, 1 ≤ z.1 ∧ z.1 ≤ 5) ∧ ∀ f H' rs, Same H H' → SqL K H' f rs → Paired (RdAt K H') rs (readings ws) → Q (.ref f) H'
theorem c__law_readings (T : Top K mg) : C8.Cal P w K mg base 1 "_law_readings" (spLRead K) [] := by
  refine calF T._law_readings (fun _ _ _ _ _ _ us hl => match us, hl with | [_], _ => rfl) sc__law_readings (by rintro vs H Q E ⟨a, us, ws, rfl, _⟩; rfl) (fun cdv A outer sh H vs Q E hr h => ?_)
  obtain ⟨a, us, ws, rfl, hA, pu, hl, hw, q⟩ := h
  refine ⟨_, (pss_cons (ps_set (i := 1) sc__law_readings.nd rfl (Or.inl rfl) (pe_lst (pa_cons (pe_tup pa_nil) pa_nil)))
      (pss_cons (ps_for PassesOwn.never rfl (piL K rfl (pv 0)) (pg_name (i := 2) sc__law_readings.nd rfl (Or.inl rfl)) (pss_cons (ps_set (i := 3) sc__law_readings.nd rfl (Or.inl rfl) (pe_lst pa_nil))
      (pss_cons (ps_for PassesOwn.never rfl (piL K rfl (pv 1)) (pg_name (i := 4) sc__law_readings.nd rfl (Or.inr rfl)) (pss_one (ps_set (i := 3) sc__law_readings.nd rfl (Or.inl rfl) (pe_op op_cat (pv 3) (pe_lc (own := [("_law_mark", 5)]) rfl sc__law_readings.nd (piL K rfl (pe_op op_cat (pe_listRg rfl rfl T.f_list (prg_1 rfl T.f_range (pe_ix (ixT K rfl) (pv 2) pe_int (fun _ _ => rfl)))) (pe_op op_rep (pe_lst (pa_cons pe_non pa_nil)) (pe_callTy call_int1 (by rfl) T.f_int (by decide +kernel) (pa_cons (pe_not (pe_ix (ixT K rfl) (pv 2) pe_int (fun _ _ => rfl))) pa_nil))))) (blkOk_by (own := [("_law_mark", 5)]) (N := N__law_readings) (sc := defScope s__law_readings) (by decide +kernel)) (fun _ _ _ _ _ => (pg_name (i := 5) sc__law_readings.nd rfl (Or.inl rfl))) (fun _ _ _ _ _ => pts_nil) (fun _ _ _ _ _ => (pe_op (op_catA K rfl) (pv 4) (pe_tup (pa_cons (pv 5) pa_nil)))))))))
      (pss_one (ps_set (i := 1) sc__law_readings.nd rfl (Or.inl rfl) (pv 3))))))
      (pss_one (ps_ret (pv 1))))), ?_⟩
  have lus := pu.length
  refine ⟨by decide, fun t0 ht0 => ⟨(by show (1 : Nat) ≤ sizeLine; decide), fun f0 hf0 => ?_⟩⟩
  have e0 := (Same.new (o := .tup []) ht0).trans (Same.new (o := .lst [.ref t0]) hf0)
  have hA0 := e0.seq hA
  refine ⟨_, rfl, a, rfl, ⟨_, hA0⟩, for_list (K := K) (a := a) (xs := us) (fun i σ H' => Same H H' ∧ ∃ f rs v2 v3 v4 v5, σ = [some (.ref a), some (.ref f), v2, v3, v4, v5] ∧ H' f = some (.lst rs) ∧ Paired (RdAt K H') rs (readings (ws.take i)))
    ⟨e0, f0, _, none, none, none, none, rfl, upd_same, .cons ⟨t0, rfl, .inl (.of (Same.new hf0 _ _ upd_same))⟩ .nil⟩ (fun i σ H' _ h => h.1.seq hA) ?_ ?_⟩
  · rintro i v σ H1 hv ⟨e1, f, rs, v2, v3, v4, v5, rfl, hf, pr⟩
    obtain ⟨z, hz, tz, rfl, htz⟩ := paired_get pu hv
    have hiw := (List.getElem?_eq_some_iff.mp hz).1
    have hi : i < us.length := by omega
    obtain ⟨zp1, zp2⟩ := hw z (List.mem_of_getElem? hz)
    have htz1 := e1 _ _ htz
    refine ⟨by decide, fun g0 hg0 => ?_⟩
    have eg := Same.new (o := .lst []) hg0
    have lrs := pr.length
    have hR : (readings (ws.take i)).length ≤ 216 := readings_len (by rw [List.length_take]; omega) fun z hz => hw z (List.take_subset _ _ hz)
    refine ⟨_, rfl, f, rfl, ⟨_, .of (eg _ _ hf)⟩, for_list (K := K) (a := f) (xs := rs) (fun j σ H' => Same H1 H' ∧ ∃ gl ls v4 v5, σ = [some (.ref a), some (.ref f), some (.ref tz), some (.ref gl), v4, v5] ∧ H' gl = some (.lst ls) ∧ Paired (RdAt K H') ls (longer ((readings (ws.take i)).take j) z))
      ⟨eg, g0, [], _, _, rfl, upd_same, .nil⟩ (fun j σ H' _ h => .of (h.1 _ _ hf)) ?_ ?_⟩
    · rintro j y σ H2 hy ⟨e2, gl, ls, w4, w5, rfl, hgl, pl⟩
      obtain ⟨ms, hms, tm, rfl, htm⟩ := paired_get pr hy
      have htm2 := Same.seqT e2 htm
      have htz2 := e2 _ _ htz1
      have lms := readings_width (List.mem_of_getElem? hms)
      rw [List.length_take] at lms
      have lpl := pl.length
      have lls : ls.length ≤ 1296 := by
        rw [lpl]
        exact Nat.le_trans (longer_len zp2) (by rw [List.length_take]; omega)
      refine ⟨_, rfl, _, rfl, tz, _, _, _, rfl, rfl, .inl (.of htz2), rfl, _, rfl, ⟨by decide, by decide, by omega, by omega, by omega⟩, fun l1 hl1 => ?_⟩
      have m1 := Same.new (o := .lst (rgV 0 z.1)) hl1
      refine ⟨(by show (1 : Nat) ≤ sizeLine; decide), fun l2 hl2 => ⟨_, rfl, tz, _, _, _, rfl, rfl, .inl (.of ((m1.trans (Same.new hl2)) _ _ htz2)), rfl, _, rfl, .inr ⟨_, rfl, ?_⟩⟩⟩
      have m2 := Same.new (o := .lst [V.non]) hl2
      have hk : (if (!z.2.2.2) = true then (1 : Int) else 0) = 0 ∨ (if (!z.2.2.2) = true then (1 : Int) else 0) = 1 := by split <;> simp
      have hmk : rgV 0 z.1 ++ (List.replicate (if (!z.2.2.2) = true then (1 : Int) else 0).toNat [V.non]).flatten = (marksOf z).map mv := by
        unfold rgV marksOf
        rw [List.map_append, List.map_map, Int.sub_zero]
        congr 1
        · refine List.map_congr_left fun n _ => ?_
          show V.int (0 + (n : Nat)) = V.int n
          rw [Int.zero_add]
        · cases z.2.2.2 <;> rfl
      have kb : -(2 ^ 63) ≤ (if (!z.2.2.2) = true then (1 : Int) else 0) ∧ (if (!z.2.2.2) = true then (1 : Int) else 0) < 2 ^ 63 ∧ (1 : Nat) * (if (!z.2.2.2) = true then (1 : Int) else 0).toNat ≤ sizeLine := by
        rcases hk with h | h <;> rw [h] <;> exact ⟨by decide, by decide, by decide⟩
      refine ⟨l2, _, [V.non], rfl, rfl, upd_same, kb.1, kb.2.1, kb.2.2, fun l3 hl3 => ?_⟩
      have m3 := Same.new (o := .lst (List.replicate (if (!z.2.2.2) = true then (1 : Int) else 0).toNat [V.non]).flatten) hl3
      have lmk := congrArg List.length hmk
      rw [List.length_append, List.length_map] at lmk
      have lmz := marks_len zp2
      refine ⟨l1, l3, _, _, rfl, rfl, m3 _ _ (m2 _ _ upd_same), upd_same, ?_, fun l4 hl4 => ⟨l4, rfl, ⟨_, .of upd_same⟩, ?_⟩⟩
      · rw [lmk]; exact Nat.le_trans lmz (by decide)
      have m4 := Same.new (o := .lst (rgV 0 z.1 ++ (List.replicate (if (!z.2.2.2) = true then (1 : Int) else 0).toNat [V.non]).flatten)) hl4
      have m14 := m1.trans (m2.trans (m3.trans m4))
      have hl4' : SqL K (upd (upd (upd (upd H2 l1 (.lst (rgV 0 z.1))) l2 (.lst [V.non])) l3 (.lst (List.replicate (if (!z.2.2.2) = true then (1 : Int) else 0).toNat [V.non]).flatten)) l4 (.lst (rgV 0 z.1 ++ (List.replicate (if (!z.2.2.2) = true then (1 : Int) else 0).toNat [V.non]).flatten))) l4 ((marksOf z).map mv) := by
        rw [← hmk]; exact .of upd_same
      generalize (upd (upd (upd (upd H2 l1 (.lst (rgV 0 z.1))) l2 (.lst [V.non])) l3 (.lst (List.replicate (if (!z.2.2.2) = true then (1 : Int) else 0).toNat [V.non]).flatten)) l4 (.lst (rgV 0 z.1 ++ (List.replicate (if (!z.2.2.2) = true then (1 : Int) else 0).toNat [V.non]).flatten))) = G at m14 hl4' ⊢
      intro D hD
      refine lcA (its_list hl4') hD (R := RdAt K) ((marksOf z).map fun k => ms ++ [k]) (stab_rd (K := K)) (by rw [List.length_map, List.length_map]) (by rw [List.length_map]; omega) (fun n x zz H3 hn hx hzz e3 Qe qe => ?_) gname_mono fun ys H3 e3 hy3 py3 => ?_
      · rw [List.getElem?_map] at hx hzz
        cases hk3 : (marksOf z)[n]? with
        | none => rw [hk3] at hx; cases hx
        | some k3 =>
        rw [hk3] at hx hzz
        obtain rfl := Option.some.inj hx
        obtain rfl := Option.some.inj hzz
        refine ⟨rfl, _, rfl, _, rfl, (by show (1 : Nat) ≤ sizeLine; decide), fun u hu => rd_catA (Same.seqT ((m14.trans e3).trans (Same.new hu)) htm2) (.inl (.of upd_same)) (by simp) ?_ fun p H4 e4 hp => qe _ _ ((Same.new hu).trans e4) ⟨p, rfl, ?_⟩⟩
        · rw [List.length_map, List.length_singleton]
          exact Nat.le_trans (by omega : _ ≤ 100) (by decide)
        · rw [List.map_append]; exact hp
      · have e23 := m14.trans e3
        have hgl3 := e23 _ _ hgl
        have lpy := py3.length
        rw [List.length_map] at lpy
        refine ⟨gl, D, ls, ys, rfl, rfl, hgl3, hy3, Nat.le_trans (by omega : _ ≤ 10000) (by decide), fun l5 hl5 => ⟨e2.trans (e23.trans (Same.new hl5)), l5, _, _, _, rfl, upd_same, ?_⟩⟩
        have hjl := (List.getElem?_eq_some_iff.mp hms).1
        have et : longer ((readings (ws.take i)).take (j + 1)) z = longer ((readings (ws.take i)).take j) z ++ (marksOf z).map fun k => ms ++ [k] := by
          unfold longer
          rw [List.take_add_one, hms]
          show ((_ ++ [ms]).map _).flatten = _
          rw [List.map_append, List.flatten_append]
          simp
        rw [et]
        exact paired_app (paired_imp pl fun _ _ r => r.same (e23.trans (Same.new hl5))) (paired_imp py3 fun _ _ r => r.same (Same.new hl5))
    · rintro σ H2 ⟨e2, gl, ls, w4, w5, rfl, hgl, pl⟩
      have et : (ws.take (i + 1)) = ws.take i ++ [z] := by rw [List.take_add_one, hz]; rfl
      refine ⟨_, rfl, e1.trans e2, gl, ls, _, _, _, _, rfl, hgl, ?_⟩
      rw [List.take_of_length_le (by omega)] at pl
      rw [et, readings, List.foldl_append]
      exact pl
  · rintro σ H1 ⟨e1, f, rs, v2, v3, v4, v5, rfl, hf, pr⟩
    rw [List.take_of_length_le (by omega)] at pr
    exact ⟨_, rfl, q f H1 rs e1 (.of hf) pr⟩
theorem stab_wl : Stab WlAt := fun D acc H H' y z hD hs ⟨t, et, h⟩ => ⟨t, et, hs _ _ (fun zz => by subst zz; rw [hD] at h; cases h) h⟩
def spLOff (K : PySem.W.Frag) : Sp := fun vs H Q _ => ∃ a t v us ws ms, vs = [.ref a, .ref t, .int v] ∧ SqL K H a us ∧ Paired (WlAt H) us ws ∧ SqT K H t (ms.map mv) ∧ ms.length = ws.length ∧ 1 ≤ ws.length ∧ ws.length ≤ 3 ∧ (∀ z ∈ ws, 1 ≤ z.1) ∧ ∀ f H' rs, Same H H' → SqL K H' f rs → Paired (WlAt H') rs (offW ws ms v) → Q (.ref f) H'
theorem c__law_off (T : Top K mg) : C8.Cal P w K mg base 2 "_law_off" (spLOff K) [] := by
  refine calF T._law_off (fun _ _ _ _ _ _ us hl => match us, hl with | [_, _, _], _ => rfl) sc__law_off (by rintro vs H Q E ⟨a, t, v, us, ws, ms, rfl, _⟩; rfl) (fun cdv A outer sh H vs Q E hr h => ?_)
  obtain ⟨a, t, v, us, ws, ms, rfl, hA, pu, hT, hml, hl1, hl2, hw, q⟩ := h
  refine ⟨_, (pss_cons (ps_set (i := 3) sc__law_off.nd rfl (Or.inl rfl) (pe_listZip K rfl rfl rfl T.f_list rfl T.f_zip (pa_cons (pv 0) (pa_cons (pv 1) pa_nil))))
      (pss_one (ps_ret (pe_lc (own := [("_law_wheel_here", 4), ("_law_mark", 5)]) rfl sc__law_off.nd (piL K rfl (pv 3)) (blkOk_by (own := [("_law_wheel_here", 4), ("_law_mark", 5)]) (N := N__law_off) (sc := defScope s__law_off) (by decide +kernel)) (fun _ _ _ _ _ => (pgT K 2 rfl (by rfl) (pgs_cons (pg_name (i := 4) sc__law_off.nd rfl (Or.inl rfl)) (pgs_cons (pg_name (i := 5) sc__law_off.nd rfl (Or.inl rfl)) pgs_nil)))) (fun _ _ _ _ _ => (pts_one (PW.pt (pw_and (pt_cmpR op_notN (pv 5) pe_non (nomark _)) (pw_and1 (pt_not (pt_val (C8.pe_c (c__law_lets T) hr (by decide) rfl (pa_cons (pv 4) (pa_cons (pv 2) (pa_cons (pv 5) pa_nil))))))))))) (fun _ _ _ _ _ => (pv 4)))))), ?_⟩
  have lus := pu.length
  have lms : (ms.map mv).length = us.length := by rw [List.length_map, hml, lus]
  refine ⟨_, rfl, _, rfl, a, t, us, ms.map mv, rfl, hA, hT, lms.symm, by omega, by omega, fun l H1 ps e1 hl0 hps pp => ?_⟩
  have lps := pp.length
  rw [List.length_zip, lms, Nat.min_self] at lps
  refine ⟨_, rfl, l, rfl, ⟨_, .of hps⟩, fun D hD => lcG (its_list (.of hps)) hD (R := WlAt) ((ws.zip ms).map fun p => if wrongW v p = true then some p.1 else none) stab_wl (by rw [List.length_map, List.length_zip]; omega) (by omega) (fun i x oz H' hi hx hz e Qe Qn q1 q2 => ?_) fun ys H2 e2 hy py => ?_⟩
  · obtain ⟨pr, hpr, T0, rfl, hT0⟩ := paired_get pp hx
    rw [List.getElem?_zip_eq_some] at hpr
    obtain ⟨hp1, hp2⟩ := hpr
    obtain ⟨z, hz1, tz, ez, htz⟩ := paired_get pu hp1
    rw [List.getElem?_map] at hp2
    cases hk : ms[i]? with
    | none => rw [hk] at hp2; cases hp2
    | some k =>
    rw [hk] at hp2
    have hq : mv k = pr.2 := Option.some.inj hp2
    rw [ez, ← hq] at hT0
    rw [List.getElem?_map, List.getElem?_zip_eq_some (z := (z, k)) |>.mpr ⟨hz1, hk⟩] at hz
    have hz := (Option.some.inj hz).symm
    have htz' := e _ _ (e1 _ _ htz)
    refine ⟨T0, _, rfl, .inl (.of (e _ _ hT0)), rfl, _, _, rfl, _, _, rfl, rfl, rfl, ?_⟩
    refine ⟨_, rfl, rfl, _, rfl, ?_⟩
    cases k with
    | none => exact iteF (iteF (q2 (by rw [hz]; rfl) _ (Same.refl _)))
    | some k =>
      refine iteT ⟨_, rfl, _, rfl, _, rfl, tz, z, v, k, rfl, htz', hw z (List.mem_of_getElem? hz1), _, rfl, ?_⟩
      have hz : oz = if (!letsW z v k) = true then some z else none := hz
      cases hb : letsW z v k with
      | true => exact iteF (q2 (by rw [hz, hb]; rfl) _ (Same.refl _))
      | false => exact iteT ⟨_, rfl, q1 z (by rw [hz, hb]; rfl) _ _ (Same.refl _) ⟨tz, rfl, htz'⟩⟩
  · refine q D H2 ys (e1.trans e2) (.of hy) ?_
    have e : offW ws ms v = ((ws.zip ms).map fun p => if wrongW v p = true then some p.1 else none).filterMap id := by
      unfold offW
      rw [List.filterMap_map]
      generalize ws.zip ms = l
      induction l with
      | nil => rfl
      | cons p l ih =>
        rw [List.filter_cons, List.filterMap_cons]
        by_cases c : wrongW v p = true
        · simp [c, ih]
        · simp [c, ih]
    rw [e]
    exact py
end
end K32

/-! the law: is_sure -/
namespace K32
open PySem PyProof.Rows L2
section
variable {P : Program} {w : World} {K : PySem.W.Frag} {mg : Str → Option Value} {base : Heap}
def dWl (z : Wl) : PyData := .tuple [.int z.1, .int z.2.1, .int z.2.2.1, .bool z.2.2.2]
theorem dw_can : ∀ zs : List Wl, PyData.canLayAll0 (zs.map dWl) = true
  | [] => by simp [PyData.canLayAll0]
  | z :: zs => by simp [PyData.canLayAll0, PyData.canLay0, dWl, dw_can zs]
theorem dw_dep : ∀ zs : List Wl, PyData.depthAll (zs.map dWl) ≤ 1
  | [] => by simp [PyData.depthAll]
  | z :: zs => by
    have := dw_dep zs
    simp [PyData.depthAll, PyData.depth, dWl]
    exact Nat.max_le.mpr ⟨Nat.le_refl _, this⟩
theorem sh_wls (zs : List Wl) : SeqAt.shaped (.list (zs.map dWl)) = true := by
  unfold SeqAt.shaped
  have := dw_dep zs
  simp [PyData.canLay0, dw_can zs, PyData.depth]
  omega
theorem dp_wls {H : Hp} {a : Addr} {vs : List V} {zs : List Wl} (h : SqL K H a vs) (p : Paired (WlAt H) vs zs) : Dp K H (.ref a) (.list (zs.map dWl)) := by
  refine .lst h ?_
  clear h
  induction p with
  | nil => exact .nil
  | cons r _ ih =>
    obtain ⟨t, rfl, ht⟩ := r
    exact .cons (.tup (.inl (.of ht)) (.cons (.int _) (.cons (.int _) (.cons (.int _) (.cons (.bl _) .nil))))) ih
theorem ev_wls (zs : List Wl) : PyData.eqv (.list (zs.map dWl)) (.list []) = decide (zs = []) := by
  cases zs <;> simp [PyData.eqv, PyData.eqvAll]
theorem cameL_succ (ws : List Wl) (ms : List (Option Int)) (n : Int) (r : Nat) : cameL ws ms n (r + 1) = cameL ws ms n r ++ if cameP ws ms n r = true then [(r : Int)] else [] := by
  unfold cameL
  rw [List.range_succ, List.map_append, List.filter_append, List.map_cons, List.map_nil, List.filter_cons, List.filter_nil]
theorem cameL_len (ws : List Wl) (ms : List (Option Int)) (n : Int) (r : Nat) : (cameL ws ms n r).length ≤ r := by
  unfold cameL
  refine Nat.le_trans (List.length_filter_le _ _) ?_
  rw [List.length_map, List.length_range]
  exact Nat.le_refl _
theorem trusted_nil (l : List Wl) : (l.filter fun z => z.2.2.2) = [] ↔ l.all (fun z => !z.2.2.2) = true := by
  rw [List.filter_eq_nil_iff, List.all_eq_true]
  constructor
  · intro h z hz; simpa using h z hz
  · intro h z hz; simpa using h z hz
theorem lost_len : ∀ ms : List (Option Int), (ms.filterMap (id ∘ fun k => if k.isNone = true then some k else none)).length = (ms.filter fun k => k.isNone).length
  | [] => rfl
  | none :: ms => by
    rw [List.filter_cons, List.filterMap_cons]
    exact congrArg Nat.succ (lost_len ms)
  | some k :: ms => by
    rw [List.filter_cons, List.filterMap_cons]
    exact lost_len ms
theorem rep_bool (c : Bool) (v : V) : (List.replicate (if c = true then (1 : Int) else 0).toNat [v]).flatten = if c = true then [v] else [] := by cases c <;> rfl
theorem rep_ok (c : Bool) : -(2 ^ 63) ≤ (if c = true then (1 : Int) else 0) ∧ (if c = true then (1 : Int) else 0) < 2 ^ 63 ∧ (1 : Nat) * (if c = true then (1 : Int) else 0).toNat ≤ sizeLine := by
  cases c <;> exact ⟨by decide, by decide, by decide⟩
theorem fm_if {α : Type} (p : α → Bool) : ∀ l : List α, (l.map fun z => if p z = true then some z else none).filterMap id = l.filter p
  | [] => rfl
  | z :: l => by
    rw [List.map_cons, List.filterMap_cons, List.filter_cons, fm_if p l]
    cases p z <;> rfl
theorem list_ends {L : List Int} (h : L ≠ []) : ∃ a b, L.head? = some a ∧ L.getLast? = some b ∧ (L.map V.int)[0]? = some (V.int a) ∧ atI (L.map V.int) (-1) = some (V.int b) := by
  obtain ⟨ys, b, rfl⟩ : ∃ ys b, L = ys ++ [b] := ⟨L.dropLast, L.getLast h, (List.dropLast_concat_getLast h).symm⟩
  obtain ⟨a, ha⟩ : ∃ a, (ys ++ [b]).head? = some a := by cases ys <;> exact ⟨_, rfl⟩
  refine ⟨a, b, ha, by simp, ?_, ?_⟩
  · rw [List.getElem?_map, ← List.head?_eq_getElem?, ha]; rfl
  · rw [List.map_append]; exact atI_last _ _
def spLSure (K : PySem.W.Frag) : Sp := fun vs H Q _ => ∃ t m r wd, vs = [.ref t, .int ((r : Nat) : Int), .int wd] ∧ PlainAt K m H t ∧ GoodM m ∧ r ≤ 100 ∧ ∀ H', Same H H' → Q (.bl (lawSure m r wd)) H'
theorem c__law_is_sure (T : Top K mg) : C8.Cal P w K mg base 3 "_law_is_sure" (spLSure K) [] := by
  refine calF T._law_is_sure (fun _ _ _ _ _ _ us hl => match us, hl with | [_, _, _], _ => rfl) sc__law_is_sure (by rintro vs H Q E ⟨t, m, r, wd, rfl, _⟩; rfl) (fun cdv A outer sh H vs Q E hr h => ?_)
  obtain ⟨t, m, r, wd, rfl, hP, g, hr1, q⟩ := h
  refine ⟨_, (pss_cons (ps_asg (pv 0) (pgT K 2 rfl (by rfl) (pgs_cons (pg_name (i := 3) sc__law_is_sure.nd rfl (Or.inl rfl)) (pgs_cons (pgT K 3 rfl (by rfl) (pgs_cons (pg_name (i := 4) sc__law_is_sure.nd rfl (Or.inl rfl)) (pgs_cons (pg_name (i := 5) sc__law_is_sure.nd rfl (Or.inl rfl)) (pgs_cons (pg_name (i := 6) sc__law_is_sure.nd rfl (Or.inl rfl)) pgs_nil)))) pgs_nil))))
      (pss_cons (ps_for PassesOwn.never rfl (piL K rfl (C8.pe_c (c__law_readings T) hr (by decide) rfl (pa_cons (pv 3) pa_nil))) (pg_name (i := 7) sc__law_is_sure.nd rfl (Or.inl rfl)) (pss_one (ps_if (pt_cmpR op_le (pe_callB (clLen K rfl) (by rfl) T.f_len (by decide +kernel) (pa_cons (pe_lc (own := [("_law_mark", 8)]) rfl sc__law_is_sure.nd (piT K rfl (pv 7)) (blkOk_by (own := [("_law_mark", 8)]) (N := N__law_is_sure) (sc := defScope s__law_is_sure) (by decide +kernel)) (fun _ _ _ _ _ => (pg_name (i := 8) sc__law_is_sure.nd rfl (Or.inl rfl))) (fun _ _ _ _ _ => (pts_one (pt_cmpR op_isN (pv 8) pe_non (nomark _)))) (fun _ _ _ _ _ => (pv 8))) pa_nil)) (pv 6) (nomark _)) (pss_cons (ps_par (i := 9) (j := 10) (by rfl) sc__law_is_sure.nd rfl rfl (by decide) rfl rfl (pa_cons (pe_lst pa_nil) (pa_cons (pe_lst pa_nil) pa_nil)) (by rfl))
      (pss_cons (ps_for PassesOwn.never rfl (pi_range1 rfl T.f_range (pa_cons (pv 1) pa_nil)) (pg_name (i := 11) sc__law_is_sure.nd rfl (Or.inl rfl)) (pss_cons (ps_set (i := 12) sc__law_is_sure.nd rfl (Or.inl rfl) (C8.pe_c (c__law_off T) hr (by decide) rfl (pa_cons (pv 3) (pa_cons (pv 7) (pa_cons (pv 11) pa_nil)))))
      (pss_one (ps_if (pt_cmpR (oEqD K rfl hr.units) (pe_lc (own := [("_law_wheel_here", 13)]) rfl sc__law_is_sure.nd (piL K rfl (pv 12)) (blkOk_by (own := [("_law_wheel_here", 13)]) (N := N__law_is_sure) (sc := defScope s__law_is_sure) (by decide +kernel)) (fun _ _ _ _ _ => (pg_name (i := 13) sc__law_is_sure.nd rfl (Or.inl rfl))) (fun _ _ _ _ _ => (pts_one (pt_val (pe_ix (ixT K rfl) (pv 13) pe_int (fun _ _ => rfl))))) (fun _ _ _ _ _ => (pv 13))) (pe_lst pa_nil) (nomark _)) (pss_cons (ps_set (i := 9) sc__law_is_sure.nd rfl (Or.inl rfl) (pe_op op_cat (pv 9) (pe_op op_rep (pe_lst (pa_cons (pv 11) pa_nil)) (pe_callTy call_int1 (by rfl) T.f_int (by decide +kernel) (pa_cons (pe_cmpR op_le (pe_callB (clLen K rfl) (by rfl) T.f_len (by decide +kernel) (pa_cons (pv 12) pa_nil)) (pe_op op_add (pv 4) (pv 5)) (nomark _)) pa_nil)))))
      (pss_one (ps_set (i := 10) sc__law_is_sure.nd rfl (Or.inl rfl) (pe_op op_cat (pv 10) (pe_op op_rep (pe_lst (pa_cons (pv 11) pa_nil)) (pe_callTy call_int1 (by rfl) T.f_int (by decide +kernel) (pa_cons (pe_cmpR op_le (pe_callB (clLen K rfl) (by rfl) T.f_len (by decide +kernel) (pa_cons (pv 12) pa_nil)) (pv 4) (nomark _)) pa_nil))))))) pss_nil))))
      (pss_one (ps_if (PW.pt (pw_and (pt_cmpR (oNeD K rfl hr.units) (pv 9) (pe_lst pa_nil) (nomark _)) (pw_and (pt_cmpR (oNeD K rfl hr.units) (pv 10) (pe_lst pa_nil) (nomark _)) (pw_and1 (pt_cmpR op_gt (pe_callB (call_max2 rfl) (by rfl) T.f_max (by decide +kernel) (pa_cons (pe_op op_sub (pe_ix (ixL K rfl) (pv 9) (pe_un un_neg pe_int) (fun _ _ => rfl)) (pe_ix (ixL K rfl) (pv 10) pe_int (fun _ _ => rfl))) (pa_cons (pe_op op_sub (pe_ix (ixL K rfl) (pv 10) (pe_un un_neg pe_int) (fun _ _ => rfl)) (pe_ix (ixL K rfl) (pv 9) pe_int (fun _ _ => rfl))) pa_nil))) (pv 2) (nomark _)))))) (pss_one (ps_ret pe_bl)) pss_nil)))) pss_nil)))
      (pss_one (ps_ret pe_bl)))), ?_⟩
  obtain ⟨wl, nt, us, ht, hwl, pu, hnt⟩ := hP
  obtain ⟨ws, off, more, lost⟩ := m
  have lus := pu.length
  have lm := g.few
  have lp := g.pos
  have gw := g.wheels
  simp only at lm lp gw pu lus hnt
  refine ⟨_, rfl, t, _, rfl, .inl (.of ht), rfl, _, _, rfl, _, _, rfl, nt, _, rfl, .inl (.of hnt), rfl, _, _, rfl, _, _, rfl, _, _, rfl, rfl, rfl, ?_⟩
  refine ⟨_, rfl, wl, us, ws, rfl, .of hwl, pu, by omega, fun z hz => by have := gw z hz; omega, fun f H1 rs e1 hf pr => ⟨f, rfl, ⟨rs, hf⟩, for_list (K := K) (a := f) (xs := rs) (fun i σ H' => Same H1 H' ∧ (∀ ms ∈ (readings ws).take i, badM (ws, off, more, lost) r wd ms = false) ∧ ∃ v7 v8 v9 v10 v11 v12 v13, σ = [some (.ref t), some (.int (r : Nat)), some (.int wd), some (.ref wl), some (.int off), some (.int more), some (.int lost), v7, v8, v9, v10, v11, v12, v13])
    ⟨Same.refl _, (fun ms h => by cases h), none, none, none, none, none, none, none, rfl⟩ (fun i σ H' _ h => h.1.seq hf) ?_ ?_⟩⟩
  · rintro i v σ H2 hv ⟨e2, hbad, v7, v8, v9, v10, v11, v12, v13, rfl⟩
    obtain ⟨ms, hms, tm, rfl, htm⟩ := paired_get pr hv
    have lms := readings_width (List.mem_of_getElem? hms)
    have tk : (readings ws).take (i + 1) = (readings ws).take i ++ [ms] := by rw [List.take_add_one, hms]; rfl
    have nxt : badM (ws, off, more, lost) r wd ms = false → ∀ x ∈ (readings ws).take (i + 1), badM (ws, off, more, lost) r wd x = false := fun h x hx => by
      rw [tk] at hx
      rcases List.mem_append.mp hx with hx | hx
      · exact hbad x hx
      · rw [List.mem_singleton.mp hx]; exact h
    have htm2 := Same.seqT e2 htm
    refine ⟨_, rfl, tm, rfl, ⟨_, htm2⟩, fun D hD => lcG (its_tup htm2) hD (R := fun _ _ (_ : Option Int) => True) (ms.map fun k => if k.isNone = true then some k else none) (fun _ _ _ _ _ _ _ _ h => h) (by rw [List.length_map, List.length_map]) (by rw [List.length_map]; omega) (fun n x oz H' hn hx hz e Qe Qn q1 q2 => ?_) fun ys H3 e3 hy py => ?_⟩
    · rw [List.getElem?_map] at hx hz
      cases hk : ms[n]? with
      | none => rw [hk] at hx; cases hx
      | some k =>
      rw [hk] at hx hz
      obtain rfl := Option.some.inj hx
      have hz := (Option.some.inj hz).symm
      refine ⟨rfl, _, rfl, rfl, _, rfl, ?_⟩
      cases k with
      | none => exact iteT ⟨_, rfl, q1 none hz _ _ (Same.refl _) trivial⟩
      | some k => exact iteF (q2 hz _ (Same.refl _))
    have hlost : (ys.length : Int) = ((ms.filter fun k => k.isNone).length : Nat) := by
      rw [py.length, List.filterMap_map, lost_len]
    refine ⟨D, ys, rfl, .inl (.of hy), _, rfl, _, _, rfl, rfl, _, rfl, ?_⟩
    rw [hlost]
    by_cases hlo : ((ms.filter fun k => k.isNone).length : Int) ≤ lost
    rotate_left
    · rw [decide_eq_false hlo]
      exact iteF ⟨e2.trans e3, nxt (by unfold badM; rw [decide_eq_false hlo, Bool.false_and]), _, _, _, _, _, _, _, rfl⟩
    rw [decide_eq_true hlo]
    have bad : badM (ws, off, more, lost) r wd ms = farB wd (cameL ws ms (off + more) r) (cameL ws ms off r) := by unfold badM; rw [decide_eq_true hlo, Bool.true_and]
    refine iteT ⟨by decide, fun ca0 hca0 => ⟨by decide, fun fa0 hfa0 => ⟨_, _, rfl, ?_⟩⟩⟩
    have n1 := Same.new (o := .lst []) hca0
    have n2 := Same.new (o := .lst []) hfa0
    have er : ((r : Nat) : Int).toNat = r := Int.toNat_natCast r
    refine ⟨_, rfl, _, rfl, by omega, by omega, for_range (fun j σ H' => Same H3 H' ∧ ∃ ca fa v8 v11 v12 v13, σ = [some (.ref t), some (.int (r : Nat)), some (.int wd), some (.ref wl), some (.int off), some (.int more), some (.int lost), some (.ref tm), v8, some (.ref ca), some (.ref fa), v11, v12, v13] ∧ H' ca = some (.lst ((cameL ws ms (off + more) j).map V.int)) ∧ H' fa = some (.lst ((cameL ws ms off j).map V.int)))
      ⟨n1.trans n2, ca0, fa0, _, _, _, _, rfl, n2 _ _ upd_same, upd_same⟩ ?_ ?_⟩
    · rintro j σ H4 hj ⟨e4, ca, fa, w8, w11, w12, w13, rfl, hca, hfa⟩
      rw [er] at hj
      rw [show (0 : Int) + ((j : Nat) : Int) = ((j : Nat) : Int) by omega]
      have e04 := (e1.trans (e2.trans (e3.trans e4)))
      have htm4 := Same.seqT (e3.trans e4) htm2
      refine ⟨_, rfl, _, rfl, _, rfl, wl, tm, _, us, ws, ms, rfl, .of (e04 _ _ hwl), paired_imp pu fun _ _ r => r.same e04, htm4, lms, by omega, by omega, fun z hz => by have := gw z hz; omega, fun g0 H5 gs e5 hg pg => ?_⟩
      have lgs := pg.length
      have hoff : (offW ws ms (j : Nat)).length ≤ 3 := by
        unfold offW
        rw [List.length_map]
        exact Nat.le_trans (List.length_filter_le _ _) (by rw [List.length_zip]; omega)
      refine ⟨_, rfl, g0, rfl, ⟨gs, hg⟩, fun D2 hD2 => lcG (its_list hg) hD2 (R := WlAt) ((offW ws ms (j : Nat)).map fun z => if z.2.2.2 = true then some z else none) stab_wl (by rw [List.length_map]; exact lgs.symm) (by omega) (fun n x oz H' hn hx hz e Qe Qn q1 q2 => ?_) fun ys6 H6 e6 hy6 py6 => ?_⟩
      · obtain ⟨z, hz1, tz, rfl, htz⟩ := paired_get pg hx
        rw [List.getElem?_map, hz1] at hz
        have hz : oz = if z.2.2.2 = true then some z else none := (Option.some.inj hz).symm
        have htz' := e _ _ htz
        refine ⟨rfl, _, rfl, tz, _, _, _, rfl, rfl, .inl (.of htz'), rfl, _, rfl, ?_⟩
        cases hb : z.2.2.2 with
        | true => exact iteT ⟨_, rfl, q1 z (by rw [hz, if_pos hb]) _ _ (Same.refl _) ⟨tz, rfl, htz'⟩⟩
        | false => exact iteF (q2 (by rw [hz, if_neg (by rw [hb]; exact Bool.false_ne_true)]) _ (Same.refl _))
      have ef : (((offW ws ms (j : Nat)).map fun z => if z.2.2.2 = true then some z else none).filterMap id) = (offW ws ms (j : Nat)).filter fun z => z.2.2.2 := by
        exact fm_if (fun z : Wl => z.2.2.2) _
      rw [ef] at py6
      refine ⟨by decide, fun n0 hn0 => ⟨_, .list [], dp_wls (.of (Same.new hn0 _ _ hy6)) (paired_imp py6 fun _ _ r => r.same (Same.new hn0)), .lst (.of upd_same) .nil, sh_wls _, sh_wls [], ?_⟩⟩
      rw [ev_wls]
      have en := Same.new (o := .lst []) hn0
      have e47 := (e5.trans e6).trans en
      refine ⟨_, rfl, ?_⟩
      have hg7 := (e6.trans en).seq hg
      have hca7 := e47 _ _ hca
      have hfa7 := e47 _ _ hfa
      have hc0 : ∀ n, (cameL ws ms n j).length ≤ 100 := fun n => Nat.le_trans (cameL_len ws ms n j) (by omega)
      generalize upd H6 n0 (.lst []) = H7 at e47 hg7 hca7 hfa7 ⊢
      by_cases hall : ((offW ws ms (j : Nat)).filter fun z => z.2.2.2) = []
      · rw [decide_eq_true hall]
        have cont : ∀ n, (cameL ws ms n j).map V.int ++ (List.replicate (if decide ((gs.length : Int) ≤ n) = true then (1 : Int) else 0).toNat [V.int (j : Nat)]).flatten = (cameL ws ms n (j + 1)).map V.int := fun n => by
          have cp : cameP ws ms n (j : Nat) = decide ((gs.length : Int) ≤ n) := by
            unfold cameP
            rw [(trusted_nil _).mp hall, Bool.true_and, lgs]
          rw [cameL_succ, List.map_append, rep_bool, cp]
          congr 1
          cases decide ((gs.length : Int) ≤ n) <;> rfl
        refine iteT ⟨_, rfl, _, rfl, (by show (1 : Nat) ≤ sizeLine; decide), fun l1 hl1 => ⟨_, rfl, g0, gs, rfl, .inl ((Same.new hl1).seq hg7), _, rfl, _, rfl, _, _, rfl, rfl, _, _, rfl, rfl, .inr ⟨_, rfl, l1, _, [.int (j : Nat)], rfl, rfl, upd_same, (rep_ok _).1, (rep_ok _).2.1, (rep_ok _).2.2, fun l2 hl2 => ⟨ca, l2, _, _, rfl, rfl, (Same.new hl2) _ _ ((Same.new hl1) _ _ hca7), upd_same, ?_, fun l3 hl3 => ?_⟩⟩⟩⟩
        · rw [rep_bool, List.length_map]
          have := hc0 (off + more)
          refine Nat.le_trans (?_ : _ ≤ 1000) (by decide)
          split <;> simp <;> omega
        have p3 := ((Same.new (o := .lst [.int (j : Nat)]) hl1).trans (Same.new hl2)).trans (Same.new (o := .lst ((cameL ws ms (off + more) j).map V.int ++ (List.replicate (if decide ((gs.length : Int) ≤ off + more) = true then (1 : Int) else 0).toNat [V.int (j : Nat)]).flatten)) hl3)
        refine ⟨_, rfl, _, rfl, (by show (1 : Nat) ≤ sizeLine; decide), fun l4 hl4 => ⟨_, rfl, g0, gs, rfl, .inl ((p3.trans (Same.new hl4)).seq hg7), _, rfl, _, _, rfl, rfl, .inr ⟨_, rfl, l4, _, [.int (j : Nat)], rfl, rfl, upd_same, (rep_ok _).1, (rep_ok _).2.1, (rep_ok _).2.2, fun l5 hl5 => ⟨fa, l5, _, _, rfl, rfl, (Same.new hl5) _ _ ((Same.new hl4) _ _ (p3 _ _ hfa7)), upd_same, ?_, fun l6 hl6 => ?_⟩⟩⟩⟩
        · rw [rep_bool, List.length_map]
          have := hc0 off
          refine Nat.le_trans (?_ : _ ≤ 1000) (by decide)
          split <;> simp <;> omega
        have p6 := ((Same.new (o := .lst [.int (j : Nat)]) hl4).trans (Same.new hl5)).trans (Same.new (o := .lst ((cameL ws ms off j).map V.int ++ (List.replicate (if decide ((gs.length : Int) ≤ off) = true then (1 : Int) else 0).toNat [V.int (j : Nat)]).flatten)) hl6)
        exact ⟨e4.trans (e47.trans (p3.trans p6)), l3, l6, _, _, _, _, rfl, by rw [← cont]; exact p6 _ _ upd_same, by rw [← cont]; exact upd_same⟩
      · rw [decide_eq_false hall]
        have cp : ∀ n, cameP ws ms n (j : Nat) = false := fun n => by
          cases hc : cameP ws ms n (j : Nat) with
          | false => rfl
          | true =>
            unfold cameP at hc
            rw [Bool.and_eq_true] at hc
            exact absurd ((trusted_nil _).mpr hc.1) hall
        have cs : ∀ n, cameL ws ms n (j + 1) = cameL ws ms n j := fun n => by rw [cameL_succ, cp, if_neg Bool.false_ne_true, List.append_nil]
        exact iteF ⟨e4.trans e47, ca, fa, _, _, _, _, rfl, by rw [cs]; exact hca7, by rw [cs]; exact hfa7⟩
    · rintro σ H4 ⟨e4, ca, fa, w8, w11, w12, w13, rfl, hca, hfa⟩
      rw [er] at hca hfa
      have e24 := e2.trans (e3.trans e4)
      refine ⟨_, rfl, by decide, fun n1 hn1 => ⟨_, .list [], dp_ints (.of (Same.new hn1 _ _ hca)), .lst (.of upd_same) .nil, sh_ints _, sh_ints [], ?_⟩⟩
      rw [ev_nil]
      have b1 := Same.new (o := .lst []) hn1
      refine ⟨_, rfl, ?_⟩
      by_cases hc : cameL ws ms (off + more) r = []
      · rw [decide_eq_true hc]
        refine iteF (iteF ⟨e24.trans b1, nxt ?_, _, _, _, _, _, _, _, rfl⟩)
        rw [bad, hc]; rfl
      rw [decide_eq_false hc]
      refine iteT ⟨_, rfl, by decide, fun n2 hn2 => ⟨_, .list [], dp_ints (.of (Same.new hn2 _ _ (b1 _ _ hfa))), .lst (.of upd_same) .nil, sh_ints _, sh_ints [], ?_⟩⟩
      rw [ev_nil]
      have b2 := b1.trans (Same.new (o := .lst []) hn2)
      refine ⟨_, rfl, ?_⟩
      obtain ⟨c0, c1, hc0, hc1, ic0, ic1⟩ := list_ends hc
      by_cases hf0 : cameL ws ms off r = []
      · rw [decide_eq_true hf0]
        refine iteF (iteF ⟨e24.trans b2, nxt ?_, _, _, _, _, _, _, _, rfl⟩)
        rw [bad, hf0]
        unfold farB
        rw [hc0, hc1]
        rfl
      rw [decide_eq_false hf0]
      obtain ⟨f0, f1, hf0', hf1, if0, if1⟩ := list_ends hf0
      have bd : badM (ws, off, more, lost) r wd ms = decide (wd < mx (c1 - f0) (f1 - c0)) := by
        rw [bad]
        unfold farB
        rw [hc0, hc1, hf0', hf1]
      have hca2 := b2 _ _ hca
      have hfa2 := b2 _ _ hfa
      refine iteT ⟨_, rfl, _, rfl, ca, _, _, _, rfl, rfl, .of hca2, ic1, _, rfl, fa, _, _, _, rfl, rfl, .of hfa2, atI_nat (j := 0) if0, _, _, rfl, rfl, _, rfl, _, rfl, fa, _, _, _, rfl, rfl, .of hfa2, if1, _, rfl, ca, _, _, _, rfl, rfl, .of hca2, atI_nat (j := 0) ic0, _, _, rfl, rfl, _, _, rfl, _, rfl, _, _, rfl, rfl, decide (wd < mx (c1 - f0) (f1 - c0)), rfl, ?_⟩
      cases hfar : decide (wd < mx (c1 - f0) (f1 - c0)) with
      | true =>
        have hs : lawSure (ws, off, more, lost) r wd = false := by
          unfold lawSure
          rw [Bool.not_eq_false', List.any_eq_true]
          exact ⟨ms, List.mem_of_getElem? hms, by rw [bd, hfar]⟩
        rw [hs] at q
        exact iteT (q _ (e1.trans (e24.trans b2)))
      | false => exact iteF ⟨e24.trans b2, nxt (by rw [bd, hfar]), _, _, _, _, _, _, _, rfl⟩
  · rintro σ H2 ⟨e2, hbad, v7, v8, v9, v10, v11, v12, v13, rfl⟩
    have lrs := pr.length
    rw [List.take_of_length_le (by omega)] at hbad
    have hs : lawSure (ws, off, more, lost) r wd = true := by
      unfold lawSure
      rw [Bool.not_eq_true', List.any_eq_false]
      intro ms hms
      rw [hbad ms hms]
      simp
    rw [hs] at q
    exact q H2 (e1.trans e2)
end
end K32

/-! the law itself -/
namespace K32
open PySem PyProof.Rows L2
section
variable {P : Program} {w : World} {K : PySem.W.Frag} {mg : Str → Option Value} {base : Heap}
theorem pen_seqT {l : Addr} {ns : List Int} {n : Nat} {H H' : Hp} {p a : Addr} {xs : List V} (hp : PenAt l ns n H p) (e : SameX p H H') (h : SqT K H a xs) : SqT K H' a xs := by
  obtain ⟨_, _, h1, _⟩ := hp
  exact stabT h1 e h
theorem pen_ins {l : Addr} {ns : List Int} {n : Nat} {H H' : Hp} {p a C dx : Addr} {fs : List (Str × V)} (hp : PenAt l ns n H p) (e : SameX p H H') (h : H a = some (.ins C dx fs)) : H' a = some (.ins C dx fs) := by
  obtain ⟨_, _, h1, _⟩ := hp
  exact e _ _ (fun zz => by subst zz; rw [h1] at h; cases h) h
theorem pen_tup {l : Addr} {ns : List Int} {n : Nat} {H H' : Hp} {p a : Addr} {xs : List V} (hp : PenAt l ns n H p) (e : SameX p H H') (h : H a = some (.tup xs)) : H' a = some (.tup xs) := by
  obtain ⟨_, _, h1, _⟩ := hp
  exact e _ _ (fun zz => by subst zz; rw [h1] at h; cases h) h
theorem MeterAt.pen {l : Addr} {ns : List Int} {n : Nat} {H H' : Hp} {p x : Addr} {m : Mt} (hp : PenAt l ns n H p) (e : SameX p H H') (h : MeterAt K m H x) : MeterAt K m H' x := by
  obtain ⟨dx, ta, us, h1, h2, h3⟩ := h
  exact ⟨dx, ta, us, pen_ins hp e h1, pen_seqT hp e h2, paired_imp h3 fun _ _ ⟨y, ey, C, dy, hy, c⟩ => ⟨y, ey, C, dy, pen_ins hp e hy, c⟩⟩
theorem PlainAt.pen {l : Addr} {ns : List Int} {n : Nat} {H H' : Hp} {p t : Addr} {m : Mt} (hp : PenAt l ns n H p) (e : SameX p H H') (h : PlainAt K m H t) : PlainAt K m H' t := by
  obtain ⟨wl, nt, us, h1, h2, h3, h4⟩ := h
  have hne : wl ≠ p := fun zz => by
    obtain ⟨_, _, hh, _⟩ := hp
    rw [zz, hh] at h2
    injection h2 with h2
    injection h2 with h2
    subst h2
    have key : ∀ {ws : List Wl} {x y z : V}, Paired (WlAt H) [x, y, z] ws → ∃ t, y = .ref t := fun h => by
      cases h with
      | cons _ h' =>
        cases h' with
        | cons r _ => exact ⟨_, r.choose_spec.1⟩
    obtain ⟨t, e2⟩ := key h3
    cases e2
  exact ⟨wl, nt, us, pen_tup hp e h1, e _ _ hne h2, paired_imp h3 fun _ _ ⟨y, ey, hy⟩ => ⟨y, ey, pen_tup hp e hy⟩, pen_tup hp e h4⟩
def spLaw (K : PySem.W.Frag) : Sp := fun vs H Q _ => ∃ (s : Addr) (ns : List Int), vs = [.ref s] ∧ SqL K H s (ns.map V.int) ∧ ∀ H', Q (.bl true) H'
theorem okF {x nm : Str} {st : Stmt} {N ps : List Str} {k : Nat} {sp : Sp} (F : DefF K mg x nm st) (S : FnScope N ps (defScope st)) (len : ∀ vs H Q E, sp vs H Q E → vs.length = ps.length)
    (hbody : ∀ (cdv : Value) (A : Around) (outer : List Env) (s : Shared) (H : Hp) (vs : List V) (Q : VK) (E : XK), Room k (A.deeper (envOfC nm (defScope st) s.heap.objs.size (ga K x) cdv)) → sp vs H Q E →
      ∃ t, PSs (cxOf CX0 P w K mg base N nm (defScope st) (ga K x) cdv A outer s H E).nox (defBody st) t ∧ t { nx := fun _ H' => Q .non H', rt := Q } (start N vs) H) : FnOk P w K mg base CX0 (k + 1) (ga K x) (fdA K (ga K x)) ps sp :=
  F.d.ok S len fun cdv A outer s H vs Q E hr h => (hbody cdv A outer s H vs Q E hr h).imp fun _ z => ⟨z.1.nox, z.2⟩
theorem law_ok (T : Top K mg) (Fc : Facts P K mg) : FnOk P w K mg base CX0 12 (ga K "law") (fdA K (ga K "law")) ["_law_script"] (spLaw K) := by
  refine okF T.law sc_law (by rintro vs H Q E ⟨s, ns, rfl, _⟩; rfl) (fun cdv A outer sh H vs Q E hr h => ?_)
  obtain ⟨s, ns0, rfl, hs, q⟩ := h
  refine ⟨_, (pss_cons (ps_set (i := 1) sc_law.nd rfl (Or.inl rfl) (C8.pe_c (c__law_pen T) hr (by decide) rfl (pa_cons (pv 0) pa_nil)))
      (pss_cons (ps_for PassesOwn.never rfl (pi_range1 rfl T.f_range (pa_cons pe_int pa_nil)) (pg_name (i := 2) sc_law.nd rfl (Or.inl rfl)) (pss_cons (ps_set (i := 3) sc_law.nd rfl (Or.inl rfl) (C8.pe_c (c__law_plain T) hr (by decide) rfl (pa_cons (pv 1) (pa_cons pe_int (pa_cons pe_int pa_nil)))))
      (pss_cons (ps_set (i := 4) sc_law.nd rfl (Or.inl rfl) (C8.pe_c (c__law_meter T Fc) hr (by decide) rfl (pa_cons (pv 3) pa_nil)))
      (pss_one (ps_for PassesOwn.never rfl (pi_range1 rfl T.f_range (pa_cons pe_int pa_nil)) (pg_name (i := 5) sc_law.nd rfl (Or.inl rfl)) (pss_cons (ps_par (i := 6) (j := 7) (by rfl) sc_law.nd rfl rfl (by decide) rfl rfl (pa_cons (pe_op op_add pe_int (C8.pe_c (c__law_draw T) hr (by decide) rfl (pa_cons (pv 1) (pa_cons pe_int pa_nil)))) (pa_cons (C8.pe_c (c__law_draw T) hr (by decide) rfl (pa_cons (pv 1) (pa_cons pe_int pa_nil))) pa_nil)) (by rfl))
      (pss_one (ps_if (pt_cmpR op_ne (pe_callTy (clBoolO K rfl (fr_bool T Fc) (hr.mono (by decide))) (by rfl) T.f_bool (by decide +kernel) (pa_cons (C8.pe_c (c_sure T Fc) hr (by decide) rfl (pa_cons (pv 4) (pa_cons (pv 6) (pa_cons (pv 7) pa_nil)))) pa_nil)) (C8.pe_c (c__law_is_sure T) hr (by decide) rfl (pa_cons (pv 3) (pa_cons (pv 6) (pa_cons (pv 7) pa_nil)))) (nomark _)) (pss_one (ps_ret pe_bl)) pss_nil))))))))
      (pss_one (ps_ret pe_bl)))), ?_⟩
  refine ⟨_, rfl, s, ns0, rfl, hs, fun p H1 e1 hp0 l ns hl0 hP => ?_⟩
  refine ⟨_, rfl, by decide, by decide, for_range (fun i σ H' => ∃ v2 v3 v4 v5 v6 v7, σ = [some (.ref s), some (.ref p), v2, v3, v4, v5, v6, v7] ∧ PenAt l ns (20 * i) H' p) ⟨none, none, none, none, none, none, rfl, hP⟩ ?_ ?_⟩
  · rintro i σ H2 hi ⟨v2, v3, v4, v5, v6, v7, rfl, hP2⟩
    refine ⟨_, rfl, p, l, ns, _, rfl, hP2, by omega, fun m t H3 g gw sx3 hP3 ht0 hPl => ?_⟩
    refine ⟨_, rfl, t, m, rfl, hPl, g, gw, fun x H4 e4 hx0 hM => ?_⟩
    have hP4 := hP3.keep e4
    have hPl4 := hPl.same e4
    refine ⟨_, rfl, by decide, by decide, for_range (fun j σ H' => ∃ v5 v6 v7, σ = [some (.ref s), some (.ref p), some (.int (0 + (i : Nat))), some (.ref t), some (.ref x), v5, v6, v7] ∧ PenAt l ns (20 * i + 14 + 2 * j) H' p ∧ PlainAt K m H' t ∧ MeterAt K m H' x) ⟨_, _, _, rfl, hP4, hPl4, hM⟩ ?_ ?_⟩
    · rintro j σ H5 hj ⟨w5, w6, w7, rfl, hP5, hPl5, hM5⟩
      have hj3 : j < 3 := hj
      have hi6 : i < 6 := hi
      refine ⟨_, rfl, p, l, ns, _, 9, rfl, hP5, by omega, by omega, by omega, fun d1 H6 a1 b1 s6 hP6 => ⟨_, _, rfl, rfl, _, rfl, p, l, ns, _, 5, rfl, hP6, by omega, by omega, by omega, fun d2 H7 a2 b2 s7 hP7 => ⟨_, _, rfl, ?_⟩⟩⟩
      have hPl7 := (hPl5.pen hP5 s6).pen hP6 s7
      have hM7 := (hM5.pen hP5 s6).pen hP6 s7
      obtain ⟨k1, rfl⟩ : ∃ k : Nat, d1 = k := ⟨d1.toNat, by omega⟩
      obtain ⟨k2, rfl⟩ : ∃ k : Nat, d2 = k := ⟨d2.toNat, by omega⟩
      have ek : (1 : Int) + ((k1 : Nat) : Int) = ((k1 + 1 : Nat) : Int) := by omega
      refine ⟨_, rfl, _, rfl, _, rfl, x, m, k1 + 1, k2, congrArg (fun z => [V.ref x, V.int z, V.int ((k2 : Nat) : Int)]) ek, hM7, g, by omega, by omega, by omega, fun r H8 e8 hr8 => ?_⟩
      obtain ⟨C, dx, fs, h1, h2, h3, h4, h5⟩ := hr8
      refine ⟨r, C, dx, fs, rfl, h1, h5, r, C, dx, fs, _, rfl, h1, h2, h3, h4, _, rfl, ?_⟩
      refine ⟨_, rfl, _, rfl, _, rfl, t, m, k1 + 1, (k2 : Nat), congrArg (fun z => [V.ref t, V.int z, V.int ((k2 : Nat) : Int)]) ek, hPl7.same e8, g, by omega, fun H9 e9 => ?_⟩
      refine ⟨rfl, _, rfl, ?_⟩
      rw [decide_eq_true rfl]
      exact iteF ⟨_, _, _, rfl, (hP7.keep (e8.trans e9)).mono (by omega), hPl7.same (e8.trans e9), hM7.same (e8.trans e9)⟩
    · rintro σ H5 ⟨w5, w6, w7, rfl, hP5, hPl5, hM5⟩
      exact ⟨_, _, _, _, _, _, rfl, hP5.mono (by show 20 * i + 14 + 2 * 3 ≤ 20 * (i + 1); omega)⟩
  · rintro σ H2 ⟨v2, v3, v4, v5, v6, v7, rfl, hP2⟩
    exact q H2
end
end K32

/-! the head read: every fact that the walks lean on -/
namespace K32
open PySem PySem.Spec PyProof.Rows L2
section
variable {K : PySem.W.Frag}
theorem clsB_ok {C : Addr} (c : clsB K C = true) : Cls K C := by
  obtain ⟨c1, c⟩ := He.ba c
  obtain ⟨c2, c⟩ := He.ba c
  obtain ⟨c3, c4⟩ := He.ba c
  exact ⟨c1, c2, c3, He.eqO_ok c4⟩
theorem headB_ok {o : Option (List Value)} {g : Addr} (h : headB o g = true) : ∃ rest, o = some (.ref g :: rest) := by
  match o, h with
  | some (.ref b :: rest), h =>
    have e : b = g := of_decide_eq_true h
    exact ⟨rest, by rw [e]⟩
theorem mkB_ok {C f : Addr} (c : mkB K C f = true) : Mk K C f := by
  obtain ⟨c1, c⟩ := He.ba c
  obtain ⟨c2, c⟩ := He.ba c
  obtain ⟨c3, c4⟩ := He.ba c
  exact ⟨c1, He.eqO_ok c2, c3, c4⟩
theorem isaB_ok {C D : Addr} (c : isaB K C D = true) : IsA K C D := by
  obtain ⟨c1, c⟩ := He.ba c
  obtain ⟨c2, c⟩ := He.ba c
  obtain ⟨c3, c⟩ := He.ba c
  obtain ⟨c4, c⟩ := He.ba c
  obtain ⟨c5, c6⟩ := He.ba c
  exact ⟨clsB_ok c1, He.eqO_ok c2, He.eqO_ok c3, of_decide_eq_true c4, of_decide_eq_true c5, of_decide_eq_true c6⟩
theorem propB_ok {C : Addr} {f : Str} {p g : Addr} (c : propB K C f p g = true) : PropOf K C f p g := by
  obtain ⟨c1, c⟩ := He.ba c
  obtain ⟨c2, c⟩ := He.ba c
  obtain ⟨c3, c4⟩ := He.ba c
  exact ⟨He.eqO_ok c1, He.eqO_ok c2, of_decide_eq_true c3, headB_ok c4⟩
theorem smAt_ok {o : Option PySem.W.CFound} {C p : Addr} (h : smAt o C p = true) : o = some (.get (.builtin "staticmethod.__get__") (.ref p) .none (.ref C)) := by
  unfold smAt at h
  split at h
  · obtain ⟨h1, h⟩ := He.ba h
    obtain ⟨h2, h3⟩ := He.ba h
    rw [of_decide_eq_true h1, of_decide_eq_true h2, of_decide_eq_true h3]
  · cases h
theorem smB_ok {C : Addr} {m : Str} {p g : Addr} (c : smB K C m p g = true) : SMet K C m p g := by
  obtain ⟨c1, c⟩ := He.ba c
  obtain ⟨c2, c⟩ := He.ba c
  obtain ⟨c3, c⟩ := He.ba c
  obtain ⟨c4, c5⟩ := He.ba c
  exact ⟨smAt_ok c1, headB_ok c2, ⟨c3, He.eqO_ok c4⟩, c5⟩
theorem ownB_ok {C : Addr} {m : Str} {f : Addr} (c : ownB K C m f = true) : PySem.W.findIn K (.ref C) m = some (some (.ref f)) ∧ PySem.W.isFn K (.ref f) = true ∧ PySem.W.fnIn K f = true := by
  obtain ⟨c1, c⟩ := He.ba c
  obtain ⟨c2, c3⟩ := He.ba c
  exact ⟨He.eqO_ok c1, c2, c3⟩
theorem callB_ok {C : Addr} {f : Addr} (c : ownB K C "__call__" f = true) : StX.CallO K C f := ⟨(ownB_ok c).1, (ownB_ok c).2.1, (ownB_ok c).2.2⟩
theorem getB_ok {C : Addr} {f : Addr} (c : ownB K C "__getitem__" f = true) : OwnG K C f := ⟨(ownB_ok c).1, (ownB_ok c).2.1, (ownB_ok c).2.2⟩
theorem iterB_ok {C : Addr} {f : Addr} (c : ownB K C "__iter__" f = true) : OwnI K C f := ⟨(ownB_ok c).1, (ownB_ok c).2.1⟩
theorem boolB_ok {C : Addr} {f : Addr} (c : ownB K C "__bool__" f = true) : OwnB K C f := ⟨(ownB_ok c).1, (ownB_ok c).2.1⟩
theorem methB_ok {C : Addr} {m : Str} {f : Addr} (c : methB K C m f = true) : Meth K C m f := by
  obtain ⟨c1, c⟩ := He.ba c
  obtain ⟨c2, c3⟩ := He.ba c
  exact ⟨He.eqO_ok c1, c2, c3⟩
theorem conB_ok {C : Addr} {f : Str} {v : V} {u : Value} (c : conB K C f u = true) (r : RelV v u) (cp : PySem.W.copiedNames.contains f = false) : Con K C f v u := by
  obtain ⟨c1, c2⟩ := He.ba c
  exact ⟨He.eqO_ok c1, r, He.eqO_ok c2, cp⟩
theorem noatB_ok {C : Addr} {f : Str} (c : noatB K C f = true) : NoAttr K C f := He.eqO_ok c
theorem tupAtB_ok {a : Addr} {vs : List V} (h : tupAtB K a vs = true) (H : Hp) : SqT K H a vs := by
  unfold tupAtB at h
  split at h
  · rename_i q
    obtain ⟨h1, h2⟩ := He.ba h
    obtain ⟨h3, h4⟩ := He.ba h2
    exact .inr ⟨_, _, _, q, congrArg Value.type (of_decide_eq_true h1), rfl, of_decide_eq_true h3, He.relAll_ok h4⟩
  · cases h
theorem everyB_ok {mg : Str → Option Value} {a : Addr} (g : mg "EVERY_TABLE" = some (.ref a)) (c : everyB K a = true) : ∃ a b c : Addr, mg "EVERY_TABLE" = some (.ref a) ∧ True ∧ ∀ H : Hp, SqT K H a [.int 1, .ref b] ∧ SqT K H b [.ref c] ∧ SqT K H c [.int 0, .int 0] := by
  obtain ⟨c1, c⟩ := He.ba c
  obtain ⟨c2, c3⟩ := He.ba c
  exact ⟨a, _, _, g, trivial, fun H => ⟨tupAtB_ok c1 H, tupAtB_ok c2 H, tupAtB_ok c3 H⟩⟩
theorem isSome_ok {α : Type} {o : Option α} (h : o.isSome = true) : ∃ a, o = some a := Option.isSome_iff_exists.mp h
theorem soB_ok {C f : Addr} (c : soB K C f = true) : SupOf K C C f := by
  obtain ⟨c1, c⟩ := He.ba c
  obtain ⟨c2, c⟩ := He.ba c
  obtain ⟨c3, c⟩ := He.ba c
  obtain ⟨c4, c⟩ := He.ba c
  obtain ⟨c5, c6⟩ := He.ba c
  exact ⟨He.eqO_ok c1, of_decide_eq_true c2, isSome_ok c3, isSome_ok c3, of_decide_eq_true c4, c5, He.eqO_ok c6⟩
/-! ### a def where it stands -/
theorem fun_ok {d : DX} {a : Addr} (e : lookX K d a = (true, d.val)) (hc : d.clo = []) : FunD K d.name d.qual (defArgs d.st) (defBody d.st) (defScope d.st) [] d.kwd a (fdA K a) := by
  unfold lookX at e
  split at e
  · rename_i oc od fd osl q
    obtain ⟨e1, e2⟩ := Prod.mk.inj e
    obtain ⟨k1, k2⟩ := He.ba e1
    obtain ⟨k3, k4⟩ := He.ba k2
    have ef : fdA K a = fd := by
      unfold fdA
      rw [q]
    rw [ef]
    obtain ⟨n1, n2, n3, n4, n5, n6, n7, n8, n9, n10, n11, n12, n13, n14, n15⟩ := fd
    unfold fnX DX.val at e2
    simp only [Option.some.injEq, Prod.mk.injEq, hc, List.map_eq_nil_iff] at e2
    obtain ⟨h1, h2, h3, h4, h5, h6, h7, h8⟩ := e2
    subst h1 h2 h3 h4 h5 h6 h7 h8
    refine ⟨⟨oc, od, n8, n9, n10, n11, n12, n13, n14, osl, rfl, q, k1, He.dflB_ok k3, He.kwdB_ok k4⟩, ?_⟩
    unfold PySem.W.keepIn
    dsimp only
    rw [q]
  · cases e
theorem fileB_ok {o : Option Value} (h : fileB o = true) : ∃ (file : Str) (tf : Tok), o = some (.str file tf) ∧ (prog.main.file == file) = true := by
  unfold fileB at h
  split at h
  · exact ⟨_, _, rfl, h⟩
  · cases h
theorem cellB_ok {cc D : Addr} (h : cellB K cc D = true) : ∃ (cl : Value) (cld : Option Addr) (csl : Array (Option Value)), K.lookup cc = some ⟨cl, cld, .cell (some (.ref D)), csl⟩ := by
  unfold cellB at h
  split at h
  · rename_i q
    rw [of_decide_eq_true h] at q
    exact ⟨_, _, _, q⟩
  · cases h
theorem codeB_ok {c : Addr} (h : codeB K c = true) : ∃ (ccl : Value) (cdd : Option Addr) (vs : Array Value) (ccs : Array (Option Value)) (file : Str) (tf : Tok), K.lookup c = some ⟨ccl, cdd, .fields vs, ccs⟩ ∧ vs[2]? = some (.str file tf) ∧ (prog.main.file == file) = true := by
  unfold codeB at h
  split at h
  · rename_i q
    obtain ⟨file, tf, e1, e2⟩ := fileB_ok h
    exact ⟨_, _, _, _, file, tf, q, e1, e2⟩
  · cases h
theorem sup_ok {d : DX} {a D : Addr} (e : lookX K d a = (true, d.val)) (hc : d.clo = [("__class__" : Str)]) (hk : d.kwd = []) (h : supB K a D = true) : ∃ c cc, SupD K prog.main.file d.name d.qual d.st a c cc D (fdA K a) := by
  unfold lookX at e
  split at e
  · rename_i oc od fd osl q
    unfold supB at h
    rw [q] at h
    dsimp only at h
    split at h
    · rename_i c x cc e3 e4
      obtain ⟨e1, e2⟩ := Prod.mk.inj e
      obtain ⟨k1, k2⟩ := He.ba e1
      obtain ⟨k3, k4⟩ := He.ba k2
      obtain ⟨h8, h9⟩ := He.ba h
      have ef : fdA K a = fd := by
        unfold fdA
        rw [q]
      rw [ef]
      obtain ⟨n1, n2, n3, n4, n5, n6, n7, n8, n9, n10, n11, n12, n13, n14, n15⟩ := fd
      dsimp only at e3 e4 k1 k3
      subst e3 e4
      unfold fnX DX.val at e2
      rw [hc] at e2
      simp only [Option.some.injEq, Prod.mk.injEq, List.map_cons, List.map_nil, List.cons.injEq, and_true] at e2
      obtain ⟨h1, h2, h3, h4, h5, h6, h7, h8'⟩ := e2
      subst h1 h2 h3 h4 h5 h6 h7 h8'
      have hd : n8 = .none := by
        rcases He.dflB_ok k3 with ⟨_, z⟩ | ⟨z, _⟩
        · exact z
        · exact absurd rfl z
      subst hd
      exact ⟨c, cc, ⟨⟨oc, n9, n10, n11, od, n12, n14, osl, rfl, q⟩, k1, codeB_ok h8, cellB_ok h9⟩⟩
    · cases h
  · cases e
/-! ### what the head says -/
theorem SaysX.fact (c : SaysX K) (i : Nat) {f : He.Fa} (h : faL[i]? = some f) : f.ok K = true := by
  have e : ((faL.all fun f => f.ok K) && ((gnA K).all (fun a => decide (a ≠ 0)) && cxL.all fun f => f (fun i => (gnA K).getD i 0) K)) = true := congrArg (fun z : AlX => z.1) c
  exact List.all_eq_true.mp (He.ba e).1 f (List.mem_of_getElem? h)
theorem SaysX.ck (c : SaysX K) (i : Nat) {f : (Nat → Addr) → PySem.W.Frag → Bool} (h : cxL[i]? = some f) : f (fun i => (gnA K).getD i 0) K = true := by
  have e : ((faL.all fun f => f.ok K) && ((gnA K).all (fun a => decide (a ≠ 0)) && cxL.all fun f => f (fun i => (gnA K).getD i 0) K)) = true := congrArg (fun z : AlX => z.1) c
  exact List.all_eq_true.mp (He.ba (He.ba e).2).2 f (List.mem_of_getElem? h)
theorem SaysX.glo (c : SaysX K) {h : Heap} {mg : Str → Option Value} (X : K.In h) (G : h.Ns mainGlobals mg) (i : Nat) {x : Str} (hx : gnL[i]? = some x) : mg x = some (.ref (ga K x)) := by
  have e : ((faL.all fun f => f.ok K) && ((gnA K).all (fun a => decide (a ≠ 0)) && cxL.all fun f => f (fun i => (gnA K).getD i 0) K)) = true := congrArg (fun z : AlX => z.1) c
  have e2 : He.ga K x ≠ 0 := of_decide_eq_true (List.all_eq_true.mp (He.ba (He.ba e).2).1 (He.ga K x) (List.mem_map_of_mem (List.mem_of_getElem? hx)))
  have e3 : PySem.W.nsIn K mainGlobals x = some (some (.ref (He.ga K x))) := by
    unfold He.ga at e2 ⊢
    split at e2
    · rename_i q
      rw [q]
    · exact absurd rfl e2
  exact PySem.W.mg_of X G e3
theorem SaysX.def_ (c : SaysX K) (i : Nat) {d : DX} (h : dxL[i]? = some d) : lookX K d (d.at_ (fun i => (gnA K).getD i 0) K) = (true, d.val) := by
  have e : dxL.map (fun d => d.look (fun i => (gnA K).getD i 0) K) = dxL.map fun d => (true, d.val) := congrArg (fun z : AlX => z.2) c
  have e2 : (dxL.map (fun d => d.look (fun i => (gnA K).getD i 0) K))[i]? = (dxL.map fun d => (true, d.val))[i]? := by rw [e]
  rw [List.getElem?_map, List.getElem?_map, h] at e2
  have e3 : d.look (fun i => (gnA K).getD i 0) K = (true, d.val) := Option.some.inj e2
  unfold DX.look at e3
  rw [HandSHeadRun.frNat_eq] at e3
  exact e3
end
section
variable {K : PySem.W.Frag} {h : Heap} {mg : Str → Option Value}
theorem htopX : (prog.main.scope.names.lookup ("super" : Str)).isSome = false := by kernel_rfl
theorem top_of (X : K.In h) (G : h.Ns mainGlobals mg) (c : SaysX K) : Top K mg :=
  { f_abs := He.free_ok X G (c.fact 0 rfl),
    f_all := He.free_ok X G (c.fact 1 rfl),
    f_any := He.free_ok X G (c.fact 2 rfl),
    f_bool := He.free_ok X G (c.fact 3 rfl),
    f_enumerate := He.free_ok X G (c.fact 4 rfl),
    f_int := He.free_ok X G (c.fact 5 rfl),
    f_isinstance := He.free_ok X G (c.fact 6 rfl),
    f_iter := He.free_ok X G (c.fact 7 rfl),
    f_len := He.free_ok X G (c.fact 8 rfl),
    f_list := He.free_ok X G (c.fact 9 rfl),
    f_max := He.free_ok X G (c.fact 10 rfl),
    f_min := He.free_ok X G (c.fact 11 rfl),
    f_range := He.free_ok X G (c.fact 12 rfl),
    f_sorted := He.free_ok X G (c.fact 13 rfl),
    f_sum := He.free_ok X G (c.fact 14 rfl),
    f_super := He.free_ok X G (c.fact 15 rfl),
    f_tuple := He.free_ok X G (c.fact 16 rfl),
    f_zip := He.free_ok X G (c.fact 17 rfl),
    g_MOST_RUNS_lots := He.int_ok X G (c.fact 18 rfl),
    g_MOST_RUNS_joins := He.int_ok X G (c.fact 19 rfl),
    g_MOST := He.int_ok X G (c.fact 20 rfl),
    g_MOST_WHEELS := He.int_ok X G (c.fact 21 rfl),
    g_MOST_FAR := He.int_ok X G (c.fact 22 rfl),
    is_whole := ⟨fun_ok (c.def_ 0 (d := ⟨fun e K => (e 14), "is_whole", "is_whole", (top 14), [], []⟩) rfl) rfl, c.glo X G 14 rfl⟩,
    need_whole := ⟨fun_ok (c.def_ 1 (d := ⟨fun e K => (e 15), "need_whole", "need_whole", (top 15), [], []⟩) rfl) rfl, c.glo X G 15 rfl⟩,
    need_above := ⟨fun_ok (c.def_ 2 (d := ⟨fun e K => (e 16), "need_above", "need_above", (top 16), [], []⟩) rfl) rfl, c.glo X G 16 rfl⟩,
    divisor_of := ⟨fun_ok (c.def_ 3 (d := ⟨fun e K => (e 17), "divisor_of", "divisor_of", (top 17), [], []⟩) rfl) rfl, c.glo X G 17 rfl⟩,
    common := ⟨fun_ok (c.def_ 4 (d := ⟨fun e K => (e 18), "common", "common", (top 18), [], []⟩) rfl) rfl, c.glo X G 18 rfl⟩,
    multiple := ⟨fun_ok (c.def_ 5 (d := ⟨fun e K => (e 19), "multiple", "multiple", (top 19), [], []⟩) rfl) rfl, c.glo X G 19 rfl⟩,
    apart := ⟨fun_ok (c.def_ 6 (d := ⟨fun e K => (e 20), "apart", "apart", (top 20), [], []⟩) rfl) rfl, c.glo X G 20 rfl⟩,
    inverse_of := ⟨fun_ok (c.def_ 7 (d := ⟨fun e K => (e 21), "inverse_of", "inverse_of", (top 21), [], []⟩) rfl) rfl, c.glo X G 21 rfl⟩,
    is_run := ⟨fun_ok (c.def_ 8 (d := ⟨fun e K => (e 22), "is_run", "is_run", (top 23), [], []⟩) rfl) rfl, c.glo X G 22 rfl⟩,
    length_of := ⟨fun_ok (c.def_ 9 (d := ⟨fun e K => (e 23), "length_of", "length_of", (top 24), [], []⟩) rfl) rfl, c.glo X G 23 rfl⟩,
    place_among := ⟨fun_ok (c.def_ 10 (d := ⟨fun e K => (e 24), "place_among", "place_among", (top 25), [], []⟩) rfl) rfl, c.glo X G 24 rfl⟩,
    count_in := ⟨fun_ok (c.def_ 11 (d := ⟨fun e K => (e 25), "count_in", "count_in", (top 26), [], []⟩) rfl) rfl, c.glo X G 25 rfl⟩,
    remainders := ⟨fun_ok (c.def_ 12 (d := ⟨fun e K => (e 26), "remainders", "remainders", (top 27), [], []⟩) rfl) rfl, c.glo X G 26 rfl⟩,
    meets := ⟨fun_ok (c.def_ 13 (d := ⟨fun e K => (e 27), "meets", "meets", (top 28), [], []⟩) rfl) rfl, c.glo X G 27 rfl⟩,
    begun_inside := ⟨fun_ok (c.def_ 14 (d := ⟨fun e K => (e 28), "begun_inside", "begun_inside", (top 31), [], []⟩) rfl) rfl, c.glo X G 28 rfl⟩,
    shared_far := ⟨fun_ok (c.def_ 15 (d := ⟨fun e K => (e 29), "shared_far", "shared_far", (top 32), [], []⟩) rfl) rfl, c.glo X G 29 rfl⟩,
    shared_runs := ⟨fun_ok (c.def_ 16 (d := ⟨fun e K => (e 30), "shared_runs", "shared_runs", (top 33), [], []⟩) rfl) rfl, c.glo X G 30 rfl⟩,
    melted := ⟨fun_ok (c.def_ 17 (d := ⟨fun e K => (e 31), "melted", "melted", (top 34), [], []⟩) rfl) rfl, c.glo X G 31 rfl⟩,
    closed_round := ⟨fun_ok (c.def_ 18 (d := ⟨fun e K => (e 32), "closed_round", "closed_round", (top 35), [], []⟩) rfl) rfl, c.glo X G 32 rfl⟩,
    maximal := ⟨fun_ok (c.def_ 19 (d := ⟨fun e K => (e 33), "maximal", "maximal", (top 36), [], []⟩) rfl) rfl, c.glo X G 33 rfl⟩,
    least_form := ⟨fun_ok (c.def_ 20 (d := ⟨fun e K => (e 34), "least_form", "least_form", (top 37), [], []⟩) rfl) rfl, c.glo X G 34 rfl⟩,
    need_integer := ⟨fun_ok (c.def_ 21 (d := ⟨fun e K => (e 35), "need_integer", "need_integer", (top 46), [], []⟩) rfl) rfl, c.glo X G 35 rfl⟩,
    need_few := ⟨fun_ok (c.def_ 22 (d := ⟨fun e K => (e 36), "need_few", "need_few", (top 47), [], []⟩) rfl) rfl, c.glo X G 36 rfl⟩,
    need_lots := ⟨fun_ok (c.def_ 23 (d := ⟨fun e K => (e 37), "need_lots", "need_lots", (top 65), [], []⟩) rfl) rfl, c.glo X G 37 rfl⟩,
    table_of := ⟨fun_ok (c.def_ 24 (d := ⟨fun e K => (e 38), "table_of", "table_of", (top 66), [], []⟩) rfl) rfl, c.glo X G 38 rfl⟩,
    next_table := ⟨fun_ok (c.def_ 25 (d := ⟨fun e K => (e 39), "next_table", "next_table", (top 67), [], []⟩) rfl) rfl, c.glo X G 39 rfl⟩,
    join := ⟨fun_ok (c.def_ 26 (d := ⟨fun e K => (e 40), "join", "join", (top 68), [], []⟩) rfl) rfl, c.glo X G 40 rfl⟩,
    table_lot := ⟨fun_ok (c.def_ 27 (d := ⟨fun e K => (e 41), "table_lot", "table_lot", (top 69), [], []⟩) rfl) rfl, c.glo X G 41 rfl⟩,
    need_part := ⟨fun_ok (c.def_ 28 (d := ⟨fun e K => (e 42), "need_part", "need_part", (top 81), [], []⟩) rfl) rfl, c.glo X G 42 rfl⟩,
    need_value := ⟨fun_ok (c.def_ 29 (d := ⟨fun e K => (e 43), "need_value", "need_value", (top 82), [], []⟩) rfl) rfl, c.glo X G 43 rfl⟩,
    need_count := ⟨fun_ok (c.def_ 30 (d := ⟨fun e K => (e 44), "need_count", "need_count", (top 93), [], []⟩) rfl) rfl, c.glo X G 44 rfl⟩,
    some_of := ⟨fun_ok (c.def_ 31 (d := ⟨fun e K => (e 45), "some_of", "some_of", (top 94), [], []⟩) rfl) rfl, c.glo X G 45 rfl⟩,
    need_meter := ⟨fun_ok (c.def_ 32 (d := ⟨fun e K => (e 46), "need_meter", "need_meter", (top 101), [], []⟩) rfl) rfl, c.glo X G 46 rfl⟩,
    need_number_reaches := ⟨fun_ok (c.def_ 33 (d := ⟨fun e K => (e 47), "need_number", "need_number", (top 102), [], []⟩) rfl) rfl, c.glo X G 47 rfl⟩,
    near_lots := ⟨fun_ok (c.def_ 34 (d := ⟨fun e K => (e 48), "near_lots", "near_lots", (top 104), [], []⟩) rfl) rfl, c.glo X G 48 rfl⟩,
    tables_by_choice := ⟨fun_ok (c.def_ 35 (d := ⟨fun e K => (e 49), "tables_by_choice", "tables_by_choice", (top 105), [], []⟩) rfl) rfl, c.glo X G 49 rfl⟩,
    shared_mark := ⟨fun_ok (c.def_ 36 (d := ⟨fun e K => (e 50), "shared_mark", "shared_mark", (top 106), [], []⟩) rfl) rfl, c.glo X G 50 rfl⟩,
    pair_at := ⟨fun_ok (c.def_ 37 (d := ⟨fun e K => (e 51), "pair_at", "pair_at", (top 107), [], []⟩) rfl) rfl, c.glo X G 51 rfl⟩,
    sure := ⟨fun_ok (c.def_ 38 (d := ⟨fun e K => (e 52), "sure", "sure", (top 108), [], []⟩) rfl) rfl, c.glo X G 52 rfl⟩,
    _law_pen := ⟨fun_ok (c.def_ 39 (d := ⟨fun e K => (e 53), "_law_pen", "_law_pen", (top 110), [], []⟩) rfl) rfl, c.glo X G 53 rfl⟩,
    _law_draw := ⟨fun_ok (c.def_ 40 (d := ⟨fun e K => (e 54), "_law_draw", "_law_draw", (top 111), [], []⟩) rfl) rfl, c.glo X G 54 rfl⟩,
    _law_pick := ⟨fun_ok (c.def_ 41 (d := ⟨fun e K => (e 55), "_law_pick", "_law_pick", (top 112), [], []⟩) rfl) rfl, c.glo X G 55 rfl⟩,
    _law_wheel := ⟨fun_ok (c.def_ 42 (d := ⟨fun e K => (e 56), "_law_wheel", "_law_wheel", (top 113), [], []⟩) rfl) rfl, c.glo X G 56 rfl⟩,
    _law_plain := ⟨fun_ok (c.def_ 43 (d := ⟨fun e K => (e 57), "_law_plain", "_law_plain", (top 114), [], []⟩) rfl) rfl, c.glo X G 57 rfl⟩,
    _law_of := ⟨fun_ok (c.def_ 44 (d := ⟨fun e K => (e 58), "_law_of", "_law_of", (top 115), [], []⟩) rfl) rfl, c.glo X G 58 rfl⟩,
    _law_meter := ⟨fun_ok (c.def_ 45 (d := ⟨fun e K => (e 59), "_law_meter", "_law_meter", (top 116), [], []⟩) rfl) rfl, c.glo X G 59 rfl⟩,
    _law_lets := ⟨fun_ok (c.def_ 46 (d := ⟨fun e K => (e 60), "_law_lets", "_law_lets", (top 119), [], []⟩) rfl) rfl, c.glo X G 60 rfl⟩,
    _law_readings := ⟨fun_ok (c.def_ 47 (d := ⟨fun e K => (e 61), "_law_readings", "_law_readings", (top 120), [], []⟩) rfl) rfl, c.glo X G 61 rfl⟩,
    _law_off := ⟨fun_ok (c.def_ 48 (d := ⟨fun e K => (e 62), "_law_off", "_law_off", (top 121), [], []⟩) rfl) rfl, c.glo X G 62 rfl⟩,
    _law_is_sure := ⟨fun_ok (c.def_ 49 (d := ⟨fun e K => (e 63), "_law_is_sure", "_law_is_sure", (top 122), [], []⟩) rfl) rfl, c.glo X G 63 rfl⟩,
    law := ⟨fun_ok (c.def_ 50 (d := ⟨fun e K => (e 64), "law", "law", (top 123), [], []⟩) rfl) rfl, c.glo X G 64 rfl⟩,
    c_Round := c.glo X G 0 rfl,
    k_Round := clsB_ok (c.ck 0 (f := fun e K => clsB K (e 0)) rfl),
    n_Round_step := noatB_ok (c.ck 1 (f := fun e K => noatB K (e 0) "step") rfl),
    n_Round_own := noatB_ok (c.ck 2 (f := fun e K => noatB K (e 0) "own") rfl),
    n_Round_part := noatB_ok (c.ck 3 (f := fun e K => noatB K (e 0) "part") rfl),
    n_Round_total := noatB_ok (c.ck 4 (f := fun e K => noatB K (e 0) "total") rfl),
    n_Round_inverse := noatB_ok (c.ck 5 (f := fun e K => noatB K (e 0) "inverse") rfl),
    c_Ranked := c.glo X G 1 rfl,
    k_Ranked := clsB_ok (c.ck 6 (f := fun e K => clsB K (e 1)) rfl),
    n_Ranked_step := noatB_ok (c.ck 7 (f := fun e K => noatB K (e 1) "step") rfl),
    n_Ranked_rows := noatB_ok (c.ck 8 (f := fun e K => noatB K (e 1) "rows") rfl),
    n_Ranked_firsts := noatB_ok (c.ck 9 (f := fun e K => noatB K (e 1) "firsts") rfl),
    c_Lot := c.glo X G 2 rfl,
    k_Lot := clsB_ok (c.ck 10 (f := fun e K => clsB K (e 2)) rfl),
    n_Lot_period := noatB_ok (c.ck 11 (f := fun e K => noatB K (e 2) "period") rfl),
    n_Lot_runs := noatB_ok (c.ck 12 (f := fun e K => noatB K (e 2) "runs") rfl),
    n_Lot_size := noatB_ok (c.ck 13 (f := fun e K => noatB K (e 2) "size") rfl),
    n_Lot_own_begins := noatB_ok (c.ck 14 (f := fun e K => noatB K (e 2) "own_begins") rfl),
    c_Paper := c.glo X G 3 rfl,
    k_Paper := clsB_ok (c.ck 15 (f := fun e K => clsB K (e 3)) rfl),
    n_Paper_own_parts := noatB_ok (c.ck 16 (f := fun e K => noatB K (e 3) "own_parts") rfl),
    c_Join := c.glo X G 4 rfl,
    k_Join := clsB_ok (c.ck 17 (f := fun e K => clsB K (e 4)) rfl),
    n_Join_own_parts := noatB_ok (c.ck 18 (f := fun e K => noatB K (e 4) "own_parts") rfl),
    n_Join_tables := noatB_ok (c.ck 19 (f := fun e K => noatB K (e 4) "tables") rfl),
    c_Sure := c.glo X G 5 rfl,
    k_Sure := clsB_ok (c.ck 20 (f := fun e K => clsB K (e 5)) rfl),
    n_Sure_own_parts := noatB_ok (c.ck 21 (f := fun e K => noatB K (e 5) "own_parts") rfl),
    n_Sure_tables := noatB_ok (c.ck 22 (f := fun e K => noatB K (e 5) "tables") rfl),
    c_Unsure := c.glo X G 6 rfl,
    k_Unsure := clsB_ok (c.ck 23 (f := fun e K => clsB K (e 6)) rfl),
    n_Unsure_own_parts := noatB_ok (c.ck 24 (f := fun e K => noatB K (e 6) "own_parts") rfl),
    n_Unsure_low := noatB_ok (c.ck 25 (f := fun e K => noatB K (e 6) "low") rfl),
    n_Unsure_high := noatB_ok (c.ck 26 (f := fun e K => noatB K (e 6) "high") rfl),
    n_Unsure_marks := noatB_ok (c.ck 27 (f := fun e K => noatB K (e 6) "marks") rfl),
    n_Unsure_low_off := noatB_ok (c.ck 28 (f := fun e K => noatB K (e 6) "low_off") rfl),
    n_Unsure_high_off := noatB_ok (c.ck 29 (f := fun e K => noatB K (e 6) "high_off") rfl),
    c_Wheel := c.glo X G 7 rfl,
    k_Wheel := clsB_ok (c.ck 30 (f := fun e K => clsB K (e 7)) rfl),
    n_Wheel_period := noatB_ok (c.ck 31 (f := fun e K => noatB K (e 7) "period") rfl),
    n_Wheel_back := noatB_ok (c.ck 32 (f := fun e K => noatB K (e 7) "back") rfl),
    n_Wheel_ahead := noatB_ok (c.ck 33 (f := fun e K => noatB K (e 7) "ahead") rfl),
    c_Even := c.glo X G 8 rfl,
    k_Even := clsB_ok (c.ck 34 (f := fun e K => clsB K (e 8)) rfl),
    n_Even_period := noatB_ok (c.ck 35 (f := fun e K => noatB K (e 8) "period") rfl),
    n_Even_back := noatB_ok (c.ck 36 (f := fun e K => noatB K (e 8) "back") rfl),
    n_Even_ahead := noatB_ok (c.ck 37 (f := fun e K => noatB K (e 8) "ahead") rfl),
    c_Exact := c.glo X G 9 rfl,
    k_Exact := clsB_ok (c.ck 38 (f := fun e K => clsB K (e 9)) rfl),
    n_Exact_period := noatB_ok (c.ck 39 (f := fun e K => noatB K (e 9) "period") rfl),
    n_Exact_back := noatB_ok (c.ck 40 (f := fun e K => noatB K (e 9) "back") rfl),
    n_Exact_ahead := noatB_ok (c.ck 41 (f := fun e K => noatB K (e 9) "ahead") rfl),
    c_Lagging := c.glo X G 10 rfl,
    k_Lagging := clsB_ok (c.ck 42 (f := fun e K => clsB K (e 10)) rfl),
    n_Lagging_period := noatB_ok (c.ck 43 (f := fun e K => noatB K (e 10) "period") rfl),
    n_Lagging_back := noatB_ok (c.ck 44 (f := fun e K => noatB K (e 10) "back") rfl),
    n_Lagging_ahead := noatB_ok (c.ck 45 (f := fun e K => noatB K (e 10) "ahead") rfl),
    c_Grid := c.glo X G 11 rfl,
    k_Grid := clsB_ok (c.ck 46 (f := fun e K => clsB K (e 11)) rfl),
    n_Grid_period := noatB_ok (c.ck 47 (f := fun e K => noatB K (e 11) "period") rfl),
    n_Grid_back := noatB_ok (c.ck 48 (f := fun e K => noatB K (e 11) "back") rfl),
    n_Grid_ahead := noatB_ok (c.ck 49 (f := fun e K => noatB K (e 11) "ahead") rfl),
    c_Meter := c.glo X G 12 rfl,
    k_Meter := clsB_ok (c.ck 50 (f := fun e K => clsB K (e 12)) rfl),
    n_Meter_wheels := noatB_ok (c.ck 51 (f := fun e K => noatB K (e 12) "wheels") rfl),
    n_Meter_off := noatB_ok (c.ck 52 (f := fun e K => noatB K (e 12) "off") rfl),
    n_Meter_more := noatB_ok (c.ck 53 (f := fun e K => noatB K (e 12) "more") rfl),
    n_Meter_lost := noatB_ok (c.ck 54 (f := fun e K => noatB K (e 12) "lost") rfl),
    Round___init__ := fun_ok (c.def_ 51 (d := ⟨fun e K => ma K (e 0) "__init__", "__init__", "Round.__init__", inClass (top 29) 0, [], []⟩) rfl) rfl,
    Round_place := fun_ok (c.def_ 52 (d := ⟨fun e K => ma K (e 0) "place", "place", "Round.place", inClass (top 29) 1, [], []⟩) rfl) rfl,
    Ranked___init__ := fun_ok (c.def_ 53 (d := ⟨fun e K => ma K (e 1) "__init__", "__init__", "Ranked.__init__", inClass (top 30) 0, [], []⟩) rfl) rfl,
    Ranked_hit := fun_ok (c.def_ 54 (d := ⟨fun e K => ma K (e 1) "hit", "hit", "Ranked.hit", inClass (top 30) 1, [], []⟩) rfl) rfl,
    Lot___init__ := fun_ok (c.def_ 55 (d := ⟨fun e K => ma K (e 2) "__init__", "__init__", "Lot.__init__", inClass (top 48) 1, [], []⟩) rfl) rfl,
    Lot_at_least := fun_ok (c.def_ 57 (d := ⟨fun e K => ma K (e 2) "at_least", "at_least", "Lot.at_least", inClass (top 48) 22, [], []⟩) rfl) rfl,
    Paper___init__ := fun_ok (c.def_ 58 (d := ⟨fun e K => ma K (e 3) "__init__", "__init__", "Paper.__init__", inClass (top 60) 2, [], []⟩) rfl) rfl,
    Paper___bool__ := fun_ok (c.def_ 59 (d := ⟨fun e K => ma K (e 3) "__bool__", "__bool__", "Paper.__bool__", inClass (top 60) 4, [], []⟩) rfl) rfl,
    Wheel___init__ := fun_ok (c.def_ 60 (d := ⟨fun e K => ma K (e 7) "__init__", "__init__", "Wheel.__init__", inClass (top 85) 1, [], []⟩) rfl) rfl,
    Wheel_does_part := fun_ok (c.def_ 64 (d := ⟨fun e K => ma K (e 7) "does_part", "does_part", "Wheel.does_part", inClass (top 85) 11, [], []⟩) rfl) rfl,
    Wheel___call__ := fun_ok (c.def_ 65 (d := ⟨fun e K => ma K (e 7) "__call__", "__call__", "Wheel.__call__", inClass (top 85) 13, [], []⟩) rfl) rfl,
    Meter___init__ := fun_ok (c.def_ 66 (d := ⟨fun e K => ma K (e 12) "__init__", "__init__", "Meter.__init__", inClass (top 95) 0, [], [("off", .int 0), ("more", .int 0), ("lost", .int 0)]⟩) rfl) rfl,
    Meter_parting := fun_ok (c.def_ 68 (d := ⟨fun e K => ma K (e 12) "parting", "parting", "Meter.parting", inClass (top 95) 7, [], []⟩) rfl) rfl,
    Meter_is_blind := fun_ok (c.def_ 69 (d := ⟨fun e K => ma K (e 12) "is_blind", "is_blind", "Meter.is_blind", inClass (top 95) 8, [], []⟩) rfl) rfl,
    Meter_choices := fun_ok (c.def_ 70 (d := ⟨fun e K => ma K (e 12) "choices", "choices", "Meter.choices", inClass (top 95) 9, [], []⟩) rfl) rfl,
    Meter___iter__ := fun_ok (c.def_ 71 (d := ⟨fun e K => ma K (e 12) "__iter__", "__iter__", "Meter.__iter__", inClass (top 95) 11, [], []⟩) rfl) rfl,
    Meter___getitem__ := fun_ok (c.def_ 72 (d := ⟨fun e K => ma K (e 12) "__getitem__", "__getitem__", "Meter.__getitem__", inClass (top 95) 12, [], []⟩) rfl) rfl,
    mk_Round := mkB_ok (c.ck 55 (f := fun e K => mkB K (e 0) (ma K (e 0) "__init__")) rfl),
    mk_Ranked := mkB_ok (c.ck 56 (f := fun e K => mkB K (e 1) (ma K (e 1) "__init__")) rfl),
    mk_Lot := mkB_ok (c.ck 57 (f := fun e K => mkB K (e 2) (ma K (e 2) "__init__")) rfl),
    mk_Wheel := mkB_ok (c.ck 58 (f := fun e K => mkB K (e 7) (ma K (e 7) "__init__")) rfl),
    mk_Meter := mkB_ok (c.ck 59 (f := fun e K => mkB K (e 12) (ma K (e 12) "__init__")) rfl),
    m_Round_place := methB_ok (c.ck 60 (f := fun e K => methB K (e 0) "place" (ma K (e 0) "place")) rfl),
    m_Ranked_hit := methB_ok (c.ck 61 (f := fun e K => methB K (e 1) "hit" (ma K (e 1) "hit")) rfl),
    m_Lot_at_least := methB_ok (c.ck 62 (f := fun e K => methB K (e 2) "at_least" (ma K (e 2) "at_least")) rfl),
    m_Meter_parting := methB_ok (c.ck 63 (f := fun e K => methB K (e 12) "parting" (ma K (e 12) "parting")) rfl),
    m_Meter_is_blind := methB_ok (c.ck 64 (f := fun e K => methB K (e 12) "is_blind" (ma K (e 12) "is_blind")) rfl),
    m_Meter_choices := methB_ok (c.ck 65 (f := fun e K => methB K (e 12) "choices" (ma K (e 12) "choices")) rfl) }
theorem facts_of (X : K.In h) (G : h.Ns mainGlobals mg) (c : SaysX K) : Facts prog K mg :=
  { Lot_around := fun_ok (c.def_ 56 (d := ⟨fun e K => sa K (e 2) "around", "around", "Lot.around", inClass (top 48) 4, [], []⟩) rfl) rfl,
    Wheel_trusted := fun_ok (c.def_ 61 (d := ⟨fun e K => pa K (e 7) "trusted", "trusted", "Wheel.trusted", inClass (top 85) 3, [], []⟩) rfl) rfl,
    Wheel_play := fun_ok (c.def_ 62 (d := ⟨fun e K => pa K (e 7) "play", "play", "Wheel.play", inClass (top 85) 4, [], []⟩) rfl) rfl,
    Wheel_near := fun_ok (c.def_ 63 (d := ⟨fun e K => pa K (e 7) "near", "near", "Wheel.near", inClass (top 85) 6, [], []⟩) rfl) rfl,
    Meter_spare := fun_ok (c.def_ 67 (d := ⟨fun e K => pa K (e 12) "spare", "spare", "Meter.spare", inClass (top 95) 2, [], []⟩) rfl) rfl,
    w_Wheel := ⟨clsB_ok (c.ck 30 (f := fun e K => clsB K (e 7)) rfl), isaB_ok (c.ck 66 (f := fun e K => isaB K (e 7) (e 7)) rfl), propB_ok (c.ck 67 (f := fun e K => propB K (e 7) "trusted" (ma K (e 7) "trusted") (pa K (e 7) "trusted")) rfl), propB_ok (c.ck 68 (f := fun e K => propB K (e 7) "play" (ma K (e 7) "play") (pa K (e 7) "play")) rfl), propB_ok (c.ck 69 (f := fun e K => propB K (e 7) "near" (ma K (e 7) "near") (pa K (e 7) "near")) rfl), conB_ok (c.ck 70 (f := fun e K => conB K (e 7) "TRUSTED" (.bool false)) rfl) rfl rfl, callB_ok (c.ck 71 (f := fun e K => ownB K (e 7) "__call__" (ma K (e 7) "__call__")) rfl), methB_ok (c.ck 72 (f := fun e K => methB K (e 7) "does_part" (ma K (e 7) "does_part")) rfl), noatB_ok (c.ck 31 (f := fun e K => noatB K (e 7) "period") rfl), noatB_ok (c.ck 32 (f := fun e K => noatB K (e 7) "back") rfl), noatB_ok (c.ck 33 (f := fun e K => noatB K (e 7) "ahead") rfl)⟩,
    w_Even := ⟨clsB_ok (c.ck 34 (f := fun e K => clsB K (e 8)) rfl), isaB_ok (c.ck 73 (f := fun e K => isaB K (e 8) (e 7)) rfl), propB_ok (c.ck 74 (f := fun e K => propB K (e 8) "trusted" (ma K (e 7) "trusted") (pa K (e 7) "trusted")) rfl), propB_ok (c.ck 75 (f := fun e K => propB K (e 8) "play" (ma K (e 7) "play") (pa K (e 7) "play")) rfl), propB_ok (c.ck 76 (f := fun e K => propB K (e 8) "near" (ma K (e 7) "near") (pa K (e 7) "near")) rfl), conB_ok (c.ck 77 (f := fun e K => conB K (e 8) "TRUSTED" (.bool false)) rfl) rfl rfl, callB_ok (c.ck 78 (f := fun e K => ownB K (e 8) "__call__" (ma K (e 7) "__call__")) rfl), methB_ok (c.ck 79 (f := fun e K => methB K (e 8) "does_part" (ma K (e 7) "does_part")) rfl), noatB_ok (c.ck 35 (f := fun e K => noatB K (e 8) "period") rfl), noatB_ok (c.ck 36 (f := fun e K => noatB K (e 8) "back") rfl), noatB_ok (c.ck 37 (f := fun e K => noatB K (e 8) "ahead") rfl)⟩,
    w_Exact := ⟨clsB_ok (c.ck 38 (f := fun e K => clsB K (e 9)) rfl), isaB_ok (c.ck 80 (f := fun e K => isaB K (e 9) (e 7)) rfl), propB_ok (c.ck 81 (f := fun e K => propB K (e 9) "trusted" (ma K (e 7) "trusted") (pa K (e 7) "trusted")) rfl), propB_ok (c.ck 82 (f := fun e K => propB K (e 9) "play" (ma K (e 7) "play") (pa K (e 7) "play")) rfl), propB_ok (c.ck 83 (f := fun e K => propB K (e 9) "near" (ma K (e 7) "near") (pa K (e 7) "near")) rfl), conB_ok (c.ck 84 (f := fun e K => conB K (e 9) "TRUSTED" (.bool false)) rfl) rfl rfl, callB_ok (c.ck 85 (f := fun e K => ownB K (e 9) "__call__" (ma K (e 7) "__call__")) rfl), methB_ok (c.ck 86 (f := fun e K => methB K (e 9) "does_part" (ma K (e 7) "does_part")) rfl), noatB_ok (c.ck 39 (f := fun e K => noatB K (e 9) "period") rfl), noatB_ok (c.ck 40 (f := fun e K => noatB K (e 9) "back") rfl), noatB_ok (c.ck 41 (f := fun e K => noatB K (e 9) "ahead") rfl)⟩,
    w_Lagging := ⟨clsB_ok (c.ck 42 (f := fun e K => clsB K (e 10)) rfl), isaB_ok (c.ck 87 (f := fun e K => isaB K (e 10) (e 7)) rfl), propB_ok (c.ck 88 (f := fun e K => propB K (e 10) "trusted" (ma K (e 7) "trusted") (pa K (e 7) "trusted")) rfl), propB_ok (c.ck 89 (f := fun e K => propB K (e 10) "play" (ma K (e 7) "play") (pa K (e 7) "play")) rfl), propB_ok (c.ck 90 (f := fun e K => propB K (e 10) "near" (ma K (e 7) "near") (pa K (e 7) "near")) rfl), conB_ok (c.ck 91 (f := fun e K => conB K (e 10) "TRUSTED" (.bool false)) rfl) rfl rfl, callB_ok (c.ck 92 (f := fun e K => ownB K (e 10) "__call__" (ma K (e 7) "__call__")) rfl), methB_ok (c.ck 93 (f := fun e K => methB K (e 10) "does_part" (ma K (e 7) "does_part")) rfl), noatB_ok (c.ck 43 (f := fun e K => noatB K (e 10) "period") rfl), noatB_ok (c.ck 44 (f := fun e K => noatB K (e 10) "back") rfl), noatB_ok (c.ck 45 (f := fun e K => noatB K (e 10) "ahead") rfl)⟩,
    w_Grid := ⟨clsB_ok (c.ck 46 (f := fun e K => clsB K (e 11)) rfl), isaB_ok (c.ck 94 (f := fun e K => isaB K (e 11) (e 7)) rfl), propB_ok (c.ck 95 (f := fun e K => propB K (e 11) "trusted" (ma K (e 7) "trusted") (pa K (e 7) "trusted")) rfl), propB_ok (c.ck 96 (f := fun e K => propB K (e 11) "play" (ma K (e 7) "play") (pa K (e 7) "play")) rfl), propB_ok (c.ck 97 (f := fun e K => propB K (e 11) "near" (ma K (e 7) "near") (pa K (e 7) "near")) rfl), conB_ok (c.ck 98 (f := fun e K => conB K (e 11) "TRUSTED" (.bool true)) rfl) rfl rfl, callB_ok (c.ck 99 (f := fun e K => ownB K (e 11) "__call__" (ma K (e 7) "__call__")) rfl), methB_ok (c.ck 100 (f := fun e K => methB K (e 11) "does_part" (ma K (e 7) "does_part")) rfl), noatB_ok (c.ck 47 (f := fun e K => noatB K (e 11) "period") rfl), noatB_ok (c.ck 48 (f := fun e K => noatB K (e 11) "back") rfl), noatB_ok (c.ck 49 (f := fun e K => noatB K (e 11) "ahead") rfl)⟩,
    sm_around := smB_ok (c.ck 101 (f := fun e K => smB K (e 2) "around" (ma K (e 2) "around") (sa K (e 2) "around")) rfl),
    isLot := isaB_ok (c.ck 102 (f := fun e K => isaB K (e 2) (e 2)) rfl),
    isMeter := isaB_ok (c.ck 103 (f := fun e K => isaB K (e 12) (e 12)) rfl),
    p_spare := propB_ok (c.ck 104 (f := fun e K => propB K (e 12) "spare" (ma K (e 12) "spare") (pa K (e 12) "spare")) rfl),
    ownG := getB_ok (c.ck 105 (f := fun e K => ownB K (e 12) "__getitem__" (ma K (e 12) "__getitem__")) rfl),
    ownI := iterB_ok (c.ck 106 (f := fun e K => ownB K (e 12) "__iter__" (ma K (e 12) "__iter__")) rfl),
    ownB_Sure := boolB_ok (c.ck 107 (f := fun e K => ownB K (e 5) "__bool__" (ma K (e 3) "__bool__")) rfl),
    con_Sure := conB_ok (c.ck 108 (f := fun e K => conB K (e 5) "IS_TRUE" (.bool true)) rfl) rfl rfl,
    ownB_Unsure := boolB_ok (c.ck 109 (f := fun e K => ownB K (e 6) "__bool__" (ma K (e 3) "__bool__")) rfl),
    con_Unsure := conB_ok (c.ck 110 (f := fun e K => conB K (e 6) "IS_TRUE" (.bool false)) rfl) rfl rfl,
    every := everyB_ok (c.glo X G 13 rfl) (c.ck 111 (f := fun e K => everyB K (e 13)) rfl),
    htop := htopX,
    sup_Join := sup_ok (c.def_ 73 (d := ⟨fun e K => ma K (e 4) "__init__", "__init__", "Join.__init__", inClass (top 64) 1, ["__class__"], []⟩) rfl) rfl rfl (c.ck 112 (f := fun e K => supB K (ma K (e 4) "__init__") (e 4)) rfl),
    so_Join := soB_ok (c.ck 113 (f := fun e K => soB K (e 4) (ma K (e 3) "__init__")) rfl),
    mk_Join := mkB_ok (c.ck 114 (f := fun e K => mkB K (e 4) (ma K (e 4) "__init__")) rfl),
    sup_Sure := sup_ok (c.def_ 74 (d := ⟨fun e K => ma K (e 5) "__init__", "__init__", "Sure.__init__", inClass (top 99) 1, ["__class__"], []⟩) rfl) rfl rfl (c.ck 115 (f := fun e K => supB K (ma K (e 5) "__init__") (e 5)) rfl),
    so_Sure := soB_ok (c.ck 116 (f := fun e K => soB K (e 5) (ma K (e 3) "__init__")) rfl),
    mk_Sure := mkB_ok (c.ck 117 (f := fun e K => mkB K (e 5) (ma K (e 5) "__init__")) rfl),
    sup_Unsure := sup_ok (c.def_ 75 (d := ⟨fun e K => ma K (e 6) "__init__", "__init__", "Unsure.__init__", inClass (top 100) 2, ["__class__"], []⟩) rfl) rfl rfl (c.ck 118 (f := fun e K => supB K (ma K (e 6) "__init__") (e 6)) rfl),
    so_Unsure := soB_ok (c.ck 119 (f := fun e K => soB K (e 6) (ma K (e 3) "__init__")) rfl),
    mk_Unsure := mkB_ok (c.ck 120 (f := fun e K => mkB K (e 6) (ma K (e 6) "__init__")) rfl),
    sup_Even := sup_ok (c.def_ 76 (d := ⟨fun e K => ma K (e 8) "__init__", "__init__", "Even.__init__", inClass (top 86) 0, ["__class__"], []⟩) rfl) rfl rfl (c.ck 121 (f := fun e K => supB K (ma K (e 8) "__init__") (e 8)) rfl),
    so_Even := soB_ok (c.ck 122 (f := fun e K => soB K (e 8) (ma K (e 7) "__init__")) rfl),
    mk_Even := mkB_ok (c.ck 123 (f := fun e K => mkB K (e 8) (ma K (e 8) "__init__")) rfl),
    sup_Exact := sup_ok (c.def_ 77 (d := ⟨fun e K => ma K (e 9) "__init__", "__init__", "Exact.__init__", inClass (top 87) 0, ["__class__"], []⟩) rfl) rfl rfl (c.ck 124 (f := fun e K => supB K (ma K (e 9) "__init__") (e 9)) rfl),
    so_Exact := soB_ok (c.ck 125 (f := fun e K => soB K (e 9) (ma K (e 7) "__init__")) rfl),
    mk_Exact := mkB_ok (c.ck 126 (f := fun e K => mkB K (e 9) (ma K (e 9) "__init__")) rfl),
    sup_Lagging := sup_ok (c.def_ 78 (d := ⟨fun e K => ma K (e 10) "__init__", "__init__", "Lagging.__init__", inClass (top 88) 0, ["__class__"], []⟩) rfl) rfl rfl (c.ck 127 (f := fun e K => supB K (ma K (e 10) "__init__") (e 10)) rfl),
    so_Lagging := soB_ok (c.ck 128 (f := fun e K => soB K (e 10) (ma K (e 7) "__init__")) rfl),
    mk_Lagging := mkB_ok (c.ck 129 (f := fun e K => mkB K (e 10) (ma K (e 10) "__init__")) rfl),
    sup_Grid := sup_ok (c.def_ 79 (d := ⟨fun e K => ma K (e 11) "__init__", "__init__", "Grid.__init__", inClass (top 89) 1, ["__class__"], []⟩) rfl) rfl rfl (c.ck 130 (f := fun e K => supB K (ma K (e 11) "__init__") (e 11)) rfl),
    so_Grid := soB_ok (c.ck 131 (f := fun e K => soB K (e 11) (ma K (e 7) "__init__")) rfl),
    mk_Grid := mkB_ok (c.ck 132 (f := fun e K => mkB K (e 11) (ma K (e 11) "__init__")) rfl) }
end
end K32

/-! the claim -/
namespace K32
open PySem PySem.Spec PyProof.Rows L2
theorem law_binds {K : PySem.W.Frag} {mg : Str → Option Value} (T : Top K mg) (s : Shared) (u : Value) : BindsTo s (fdA K (ga K "law")) ⟨[u], []⟩ [("_law_script", u)] :=
  FunD.bindsA (ps := ["_law_script"]) T.law.d (fun _ _ _ _ _ _ us hl => match us, hl with | [_], _ => rfl) s [u] rfl
end K32
open PySem PySem.W PySem.Calls PyProof.Rows
theorem PySem.Challenge.cw_wheelreach_k32_whole_sure_by_all_reading_holds : PySem.Challenge.rw_wheelreach_k32_whole_sure_by_all_reading.Holds := by
  w_on; o_law
  refine HandSHeadRun.head_any (r := K32.rowX) (q := K32.qX) (H := K32.hookX) (ob := K32.obX) (M := 15000) (loose := K32.loL) (d := HandSHeadRun.topDef K32.rowX.prog 123) (kwd := []) K32.obX_eq
    (by kernel_rfl) (fun s => by kernel_rfl) K32.runX (by kernel_rfl) (by kernel_rfl) (by kernel_rfl) (by rfl) (by first | assumption | decide +kernel) (by decide +kernel) ⟨rfl, rfl, rfl, rfl, rfl, by decide +kernel⟩ ?hw ?hc
  case hw => w_witness2
  case hc =>
    refine L2.walk_ofE (l := PySem.Challenge.rw_wheelreach_k32_whole_sure_by_all_reading) (n := 63) (k := 12) (x := "_law_script") (CX := L2.CX0) rfl (by decide) (by kernel_rfl) ⟨rfl, by decide, by decide⟩ ?F (fun _ _ _ _ z => z)
    intro w mg fa h Y G hmg0
    obtain ⟨K, KX, c⟩ := Y
    have hmg : mg ("law" : PySem.Str) = some (.ref fa) := by
      have e : (HandSHeadRun.topDef K32.rowX.prog 123).name = ("law" : PySem.Str) := by kernel_rfl
      rw [← e]
      exact hmg0
    have T := K32.top_of KX G c
    have e := hmg.symm.trans T.law.m
    cases e
    exact ⟨K, _, K32.spLaw K, KX, K32.law_binds T, fun H a ns hl _ hS => ⟨a, ns, rfl, hS, fun _ => rfl⟩, fun base _ _ => K32.law_ok T (K32.facts_of KX G c)⟩
