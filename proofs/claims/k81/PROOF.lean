import PyProof.Rows.All
import Wide.All
import OpenK.AllK
import Wide.FinOn
import HandS.ForMost
import HandS.Exc
import HandS.Flow
import HandS.More
import HandS.Star
import HandS.ClsMeth
import HandS.Property
import HandS.OwnEq
import HandS.IsInst
import HandS.Defaults
import HandS.TupAny
import HandS.Wide
import HandS.Conv
import HandS.DictComp
import HandS.DictTup
import HandS.SortRule
import HandS.SortInts
import HandS.Zip
import HandS.TupSets
import HandS.Style
import HandS.Strs
import HandS.SetFor
import KE.GoesEnum
import KE.GoesZip
import HandS.ListItems
import HandS.Deep
import KE.KStateDown
import HandS.Head0
import HandS.Head1
import HandS.Head2
import HandS.HeadEnd
import HandS.HeadHook1
import HandS.HeadHook2
import PySem.Challenge.RW_smalltowns_k81_whole_one_hidden_script_b
set_option Elab.async false
set_option linter.all false
set_option maxRecDepth 100000
set_option maxHeartbeats 1900000
namespace K81
open PySem L2
abbrev Fr := PySem.W.Frag
abbrev pg : Program := PySem.Challenge.pw_smalltowns_k81_whole_one_hidden_script_b
def tS (i : Nat) : Stmt := pg.main.body.getD i (.Pass ⟨0, 0, 0, 0⟩)
def tM (i j : Nat) : Stmt := inClass (tS i) j
/-! ### what is looked at behind the top -/
/-- what stands within a property, a static method -/
def inner (K : Fr) (p : Addr) (T : String) : Addr := match PySem.W.recIn K p T with
  | some (.ref g :: _) => g
  | _ => 0
def innerB (K : Fr) (p : Addr) (T : String) : Bool := match PySem.W.recIn K p T with
  | some (.ref _ :: _) => true
  | _ => false
/-- the place of a def: a name of the module; a class's method, property, static method -/
inductive Pl where
  | g (x : Str)
  | m (x f : Str)
  | p (x f : Str)
  | s (x f : Str)
def Pl.at_ (K : Fr) : Pl → Addr
  | .g x => He.ga K x
  | .m x f => He.ma K (He.ga K x) f
  | .p x f => inner K (He.ma K (He.ga K x) f) "property"
  | .s x f => inner K (He.ma K (He.ga K x) f) "staticmethod"
structure Df where
  pl : Pl
  nm : Str
  ql : Str
  st : Stmt
  dv : List He.Dv
def Df.seen (K : Fr) (d : Df) : He.FnW := match K.lookup (d.pl.at_ K) with
  | some ⟨_, _, .func u, _⟩ => some (u.name, u.qualname, u.params, u.body, u.scope, u.globals, u.closure, u.builtins)
  | _ => none
def Df.want (d : Df) : He.FnW := some (d.nm, d.ql, defArgs d.st, .stmts (defBody d.st), defScope d.st, mainGlobals, [], builtinsNs)
def Df.good (K : Fr) (d : Df) : Bool := PySem.W.keepIn K (.ref (d.pl.at_ K)) && (match K.lookup (d.pl.at_ K) with
  | some ⟨_, _, .func u, _⟩ => PySem.W.codeIn K u.code d.ql && He.dflB K u.defaults (d.dv.map (He.Dv.v K))
  | _ => false)
/-- a tuple at an address -/
def tupAt (K : Fr) (a : Addr) (vs : List He.Dv) : Bool := match K.lookup a with
  | some ⟨.type T, _, .seq l _, _⟩ => decide (T = "tuple") && (decide (l.size ≤ sizeLine) && He.relAll (vs.map (He.Dv.v K)) l.toList)
  | _ => false
def elt0 (K : Fr) (a : Addr) : Addr := match K.lookup a with
  | some ⟨_, _, .seq l _, _⟩ => (match l.toList with
    | .ref b :: _ => b
    | _ => 0)
  | _ => 0
abbrev eqB (a b : Option Bool) : Bool := decide (a = b)
/-- facts of an own kind -/
inductive Fy where
  | prp (x f : Str)
  | sta (x f : Str)
  | cal (x : Str)
  | isc (x : Str)
  | sne (x : Str)
  | sb (x : Str)
  | sf (x : Str)
  | kn (x : Str)
  | kt (t c : Value) (b : Bool)
  | kac (x : Str)
  | kat
  | ne2 (x y : Str)
  | tpd (x : Str)
  | kin
  | sta1
def Fy.ok (K : Fr) : Fy → Bool
  | .prp x f => He.eqO (PySem.W.findIn K (.ref (He.ga K x)) f) (some (some (.ref (He.ma K (He.ga K x) f)))) && (He.eqO (PySem.W.specialIn K (.ref (He.ma K (He.ga K x) f)) "__get__") (some (some (.builtin "property.__get__"))) && (eqB (PySem.W.takesIn K (.ref (He.ma K (He.ga K x) f))) (some true) && innerB K (He.ma K (He.ga K x) f) "property"))
  | .sta x f => PySem.W.readsIn K (He.ga K x) (.type "type") && (He.eqO (PySem.W.specialIn K (.ref (He.ga K x)) "__getattribute__") (some (some (.builtin "type.__getattribute__"))) && ((match PySem.W.findCls K (.ref (He.ga K x)) (.type "type") f with
    | some (.get (.builtin s) (.ref p) .none (.ref c)) => decide (s = "staticmethod.__get__") && (decide (p = He.ma K (He.ga K x) f) && decide (c = He.ga K x))
    | _ => false) && (innerB K (He.ma K (He.ga K x) f) "staticmethod" && PySem.W.keepIn K (.ref (inner K (He.ma K (He.ga K x) f) "staticmethod")))))
  | .cal x => PySem.W.fnIn K (He.ma K (He.ga K x) "__call__")
  | .isc x => He.eqO (PySem.W.findIn K (.ref (He.ga K x)) "__class__") (some (some (.builtin "object.__class__"))) && (He.eqO (PySem.W.specialIn K (.builtin "object.__class__") "__get__") (some (some (.builtin "getset_descriptor.__get__"))) && (eqB (PySem.W.takesIn K (.builtin "object.__class__")) (some true) && (eqB (PySem.W.mroIn K (He.ga K x) (.type "object")) (some true) && eqB (PySem.W.kitOne K (.ref (He.ga K x)) (.ref (He.ga K x))) (some true))))
  | .sne x => He.eqO (PySem.W.findIn K (.ref (He.ga K x)) "__ne__") (some (some (.builtin "object.__ne__"))) && eqB (PySem.W.mroIn K (He.ga K x) (.type "object")) (some true)
  | .sb x => eqB (PySem.W.subIn K (.ref (He.ga K x)) (.type "NoneType")) (some false)
  | .sf x => PySem.W.selfFirst K (He.ga K x)
  | .kn x => eqB (PySem.W.kitOne K (.type "NoneType") (.ref (He.ga K x))) (some false)
  | .kt t c b => eqB (PySem.W.kitOne K t c) (some b)
  | .kac x => eqB (PySem.W.kitAny K (.ref (He.ga K x)) [.type "list", .type "tuple"]) (some false)
  | .kat => eqB (PySem.W.kitAny K (.type "tuple") [.type "list", .type "tuple"]) (some true)
  | .ne2 x y => decide (He.ga K x ≠ He.ga K y)
  | .tpd x => tupAt K (He.dflAt (x, some "__init__") 0 K) []
  | .kin => tupAt K (He.ga K "KINDS") [.str "town", .str "county"]
  | .sta1 => tupAt K (He.ga K "START") [.adr fun K => elt0 K (He.ga K "START")] && tupAt K (elt0 K (He.ga K "START")) [.int 1, .int 1]
def faL0 : List He.Fa := [.glo "many_from", .glo "has", .glo "places_of", .glo "joined", .glo "is_within", .glo "blended", .glo "least_around", .glo "just_above", .glo "least_in", .glo "floors_in", .glo "form_with", .glo "form_behind", .glo "summed", .meth "County" "__len__", .meth "County" "__contains__", .meth "County" "rows_from", .glo "County", .mkr "County", .meth "County" "only", .meth "County" "__add__"]
def faL1 : List He.Fa := [.meth "County" "__eq__", .glo "number_in", .free "bool", .glo "is_number", .int "PAIR" 2, .glo "is_run", .glo "is_runs", .str "TIMES" "x", .glo "run_in", .str "NOTHING" "-", .glo "Step", .mkr "Step", .str "TOWN" "town", .meth "Step" "__call__", .glo "form_of_step", .glo "plain_steps", .glo "form_of_steps", .glo "Script", .mkr "Script", .meth "Script" "within"]
def faL2 : List He.Fa := [.meth "Script" "__call__", .meth "Script" "shows", .meth "Script" "__len__", .meth "Script" "__eq__", .glo "without", .glo "needless", .glo "check_town", .glo "taken_by", .glo "form_for", .glo "script_with", .glo "new_town", .glo "fewer", .glo "towns_for", .str "BETWEEN" "; ", .glo "towns_to_lose", .glo "town_to_add", .glo "fits", .glo "low_of", .glo "banned_by", .glo "is_banned"]
def faL3 : List He.Fa := [.glo "checked", .glo "strictest_fit", .glo "only_fit", .glo "asking", .glo "telling_table", .glo "tupled", .glo "size_in", .meth "Search" "first_open", .meth "Search" "settle", .meth "Search" "tell", .glo "Search", .mkr "Search", .glo "_law_searched", .glo "read_off", .glo "_law_take", .glo "_law_of", .glo "_law_step", .glo "_law_some", .glo "_law_bag", .glo "_law_line"]
def faL4 : List He.Fa := [.glo "_law_county", .glo "_law_made", .glo "_law_box", .glo "_law_cells", .glo "_law_towns_right", .glo "_law_case_right", .glo "_law_by_hand_right", .glo "_law_right", .glo "law", .free "sum", .free "max", .free "min", .free "any", .free "all", .free "len", .free "range", .free "tuple", .free "list", .free "sorted", .free "set"]
def faL5 : List He.Fa := [.free "zip", .free "enumerate", .free "isinstance", .free "int", .free "str", .free "abs", .cls "County", .noat "County" "own_runs", .cls "Step", .noat "Step" "own_kind", .noat "Step" "own_least", .cls "Script", .noat "Script" "own_steps", .noat "Script" "own_form", .cls "Search", .noat "Search" "own_most", .noat "Search" "own_answers", .noat "Search" "own_found", .noat "Search" "own_least", .noat "Search" "own_low"]
def faL6 : List He.Fa := [.noat "Search" "own_high", .noat "Search" "is_end", .glo "KINDS", .glo "START"]
def faL : List He.Fa := faL0 ++ faL1 ++ faL2 ++ faL3 ++ faL4 ++ faL5 ++ faL6
def fyL0 : List Fy := [.prp "County" "runs", .prp "County" "rows", .prp "County" "towns", .tpd "County", .kt (.type "int") (.type "int") true, .kt (.type "int") (.type "bool") false, .sta "County" "of", .prp "Step" "kind", .prp "Step" "least", .cal "Step", .sta "Step" "of", .ne2 "Script" "Step", .tpd "Script", .prp "Script" "steps", .prp "Script" "form", .prp "Script" "least", .cal "Script", .sta "Script" "of", .kac "County", .kat]
def fyL1 : List Fy := [.prp "Search" "script", .prp "Search" "ask", .ne2 "County" "Search", .ne2 "Script" "Search", .ne2 "Step" "Search", .sne "Script", .sb "Script", .sf "County", .isc "County", .isc "Step", .isc "Script", .kn "Script", .isc "Search", .kt (.type "tuple") (.type "tuple") true, .kin, .sta1]
def fyL : List Fy := fyL0 ++ fyL1
def dfL0 : List Df := [⟨.g "many_from", "many_from", "many_from", tS 2, []⟩, ⟨.g "has", "has", "has", tS 3, []⟩, ⟨.g "places_of", "places_of", "places_of", tS 4, []⟩, ⟨.g "joined", "joined", "joined", tS 5, []⟩, ⟨.g "is_within", "is_within", "is_within", tS 6, []⟩, ⟨.g "blended", "blended", "blended", tS 7, []⟩, ⟨.g "least_around", "least_around", "least_around", tS 9, []⟩, ⟨.g "just_above", "just_above", "just_above", tS 10, []⟩, ⟨.g "least_in", "least_in", "least_in", tS 41, []⟩, ⟨.g "floors_in", "floors_in", "floors_in", tS 42, []⟩, ⟨.g "form_with", "form_with", "form_with", tS 43, []⟩, ⟨.g "form_behind", "form_behind", "form_behind", tS 45, []⟩, ⟨.g "summed", "summed", "summed", tS 27, []⟩, ⟨.p "County" "runs", "runs", "County.runs", tM 32 2, []⟩, ⟨.m "County" "__len__", "__len__", "County.__len__", tM 32 6, []⟩, ⟨.p "County" "rows", "rows", "County.rows", tM 32 4, []⟩, ⟨.p "County" "towns", "towns", "County.towns", tM 32 5, []⟩, ⟨.m "County" "__contains__", "__contains__", "County.__contains__", tM 32 9, []⟩, ⟨.m "County" "rows_from", "rows_from", "County.rows_from", tM 32 10, []⟩, ⟨.m "County" "__init__", "__init__", "County.__init__", tM 32 0, [.adr (He.dflAt ("County", some "__init__") 0)]⟩]
def dfL1 : List Df := [⟨.m "County" "only", "only", "County.only", tM 32 12, []⟩, ⟨.m "County" "__add__", "__add__", "County.__add__", tM 32 14, []⟩, ⟨.m "County" "__eq__", "__eq__", "County.__eq__", tM 32 15, []⟩, ⟨.g "number_in", "number_in", "number_in", tS 14, []⟩, ⟨.g "is_number", "is_number", "is_number", tS 12, []⟩, ⟨.g "is_run", "is_run", "is_run", tS 30, []⟩, ⟨.g "is_runs", "is_runs", "is_runs", tS 31, []⟩, ⟨.g "run_in", "run_in", "run_in", tS 28, []⟩, ⟨.s "County" "of", "of", "County.of", tM 32 1, []⟩, ⟨.m "Step" "__init__", "__init__", "Step.__init__", tM 38 0, []⟩, ⟨.p "Step" "kind", "kind", "Step.kind", tM 38 2, []⟩, ⟨.p "Step" "least", "least", "Step.least", tM 38 3, []⟩, ⟨.m "Step" "__call__", "__call__", "Step.__call__", tM 38 5, []⟩, ⟨.g "form_of_step", "form_of_step", "form_of_step", tS 44, []⟩, ⟨.g "plain_steps", "plain_steps", "plain_steps", tS 47, []⟩, ⟨.s "Step" "of", "of", "Step.of", tM 38 1, []⟩, ⟨.g "form_of_steps", "form_of_steps", "form_of_steps", tS 50, []⟩, ⟨.m "Script" "__init__", "__init__", "Script.__init__", tM 51 0, [.adr (He.dflAt ("Script", some "__init__") 0)]⟩, ⟨.p "Script" "steps", "steps", "Script.steps", tM 51 2, []⟩, ⟨.p "Script" "form", "form", "Script.form", tM 51 4, []⟩]
def dfL2 : List Df := [⟨.p "Script" "least", "least", "Script.least", tM 51 5, []⟩, ⟨.m "Script" "within", "within", "Script.within", tM 51 9, []⟩, ⟨.m "Script" "__call__", "__call__", "Script.__call__", tM 51 12, []⟩, ⟨.m "Script" "shows", "shows", "Script.shows", tM 51 11, []⟩, ⟨.m "Script" "__len__", "__len__", "Script.__len__", tM 51 13, []⟩, ⟨.m "Script" "__eq__", "__eq__", "Script.__eq__", tM 51 20, []⟩, ⟨.g "without", "without", "without", tS 53, []⟩, ⟨.g "needless", "needless", "needless", tS 54, []⟩, ⟨.g "check_town", "check_town", "check_town", tS 55, []⟩, ⟨.g "taken_by", "taken_by", "taken_by", tS 56, []⟩, ⟨.g "form_for", "form_for", "form_for", tS 57, []⟩, ⟨.g "script_with", "script_with", "script_with", tS 58, []⟩, ⟨.g "new_town", "new_town", "new_town", tS 59, []⟩, ⟨.g "fewer", "fewer", "fewer", tS 60, []⟩, ⟨.g "towns_for", "towns_for", "towns_for", tS 61, []⟩, ⟨.s "Script" "of", "of", "Script.of", tM 51 1, []⟩, ⟨.g "towns_to_lose", "towns_to_lose", "towns_to_lose", tS 62, []⟩, ⟨.g "town_to_add", "town_to_add", "town_to_add", tS 63, []⟩, ⟨.g "fits", "fits", "fits", tS 65, []⟩, ⟨.g "low_of", "low_of", "low_of", tS 66, []⟩]
def dfL3 : List Df := [⟨.g "banned_by", "banned_by", "banned_by", tS 67, []⟩, ⟨.g "is_banned", "is_banned", "is_banned", tS 68, []⟩, ⟨.g "checked", "checked", "checked", tS 69, []⟩, ⟨.g "strictest_fit", "strictest_fit", "strictest_fit", tS 70, []⟩, ⟨.g "only_fit", "only_fit", "only_fit", tS 71, []⟩, ⟨.g "asking", "asking", "asking", tS 72, []⟩, ⟨.g "telling_table", "telling_table", "telling_table", tS 73, []⟩, ⟨.g "tupled", "tupled", "tupled", tS 13, []⟩, ⟨.g "size_in", "size_in", "size_in", tS 75, []⟩, ⟨.p "Search" "script", "script", "Search.script", tM 76 2, []⟩, ⟨.m "Search" "first_open", "first_open", "Search.first_open", tM 76 3, []⟩, ⟨.m "Search" "settle", "settle", "Search.settle", tM 76 6, []⟩, ⟨.p "Search" "ask", "ask", "Search.ask", tM 76 1, []⟩, ⟨.m "Search" "tell", "tell", "Search.tell", tM 76 5, []⟩, ⟨.m "Search" "__init__", "__init__", "Search.__init__", tM 76 0, []⟩, ⟨.g "_law_searched", "_law_searched", "_law_searched", tS 88, []⟩, ⟨.g "read_off", "read_off", "read_off", tS 74, []⟩, ⟨.g "_law_take", "_law_take", "_law_take", tS 79, []⟩, ⟨.g "_law_of", "_law_of", "_law_of", tS 81, []⟩, ⟨.g "_law_step", "_law_step", "_law_step", tS 83, []⟩]
def dfL4 : List Df := [⟨.g "_law_some", "_law_some", "_law_some", tS 84, []⟩, ⟨.g "_law_bag", "_law_bag", "_law_bag", tS 82, []⟩, ⟨.g "_law_line", "_law_line", "_law_line", tS 85, []⟩, ⟨.g "_law_county", "_law_county", "_law_county", tS 87, []⟩, ⟨.g "_law_made", "_law_made", "_law_made", tS 86, []⟩, ⟨.g "_law_box", "_law_box", "_law_box", tS 78, []⟩, ⟨.g "_law_cells", "_law_cells", "_law_cells", tS 80, []⟩, ⟨.g "_law_towns_right", "_law_towns_right", "_law_towns_right", tS 89, []⟩, ⟨.g "_law_case_right", "_law_case_right", "_law_case_right", tS 90, []⟩, ⟨.g "_law_by_hand_right", "_law_by_hand_right", "_law_by_hand_right", tS 91, []⟩, ⟨.g "_law_right", "_law_right", "_law_right", tS 92, []⟩, ⟨.g "law", "law", "law", tS 93, []⟩]
def dfL : List Df := dfL0 ++ dfL1 ++ dfL2 ++ dfL3 ++ dfL4
/-! ### the Hook -/
abbrev Al81 : Type := (Bool × Bool × Bool) × List He.FnW
def look81 (K : Fr) : Al81 := ((faL.all fun f => f.ok K, fyL.all fun f => f.ok K, dfL.all fun d => d.good K), dfL.map fun d => d.seen K)
def want81 : Al81 := ((true, true, true), dfL.map Df.want)
/-- what an object leads to: no code object's own things -/
def kids (g : Addr → Option Obj) (a : Addr) : List Addr := match g a with
  | some ⟨c, _, .seq l _, _⟩ => l.toList.flatMap He.refV
  | some ⟨c, _, .dict es _, _⟩ => es.toList.flatMap fun e => He.refV e.val
  | some ⟨c, _, .func u, _⟩ => He.refV u.code ++ He.refV u.defaults
  | some ⟨c, _, .cls d, _⟩ => [d.ns]
  | some ⟨.type "property", _, .fields vs, _⟩ => vs.toList.flatMap He.refV
  | some ⟨.type "staticmethod", _, .fields vs, _⟩ => vs.toList.flatMap He.refV
  | _ => []
def gens (g : Addr → Option Obj) : Nat → List Addr → List Addr
  | 0, l => l
  | n + 1, l => l ++ gens g n (l.flatMap (kids g))
/-- the part of the heap that is looked at -/
def part81 (g : Addr → Option Obj) : Fr := He.frG g (PySem.cStatics :: gens g 5 [mainGlobals])
def hook81 : PySem.W.Hook where
  α := Al81
  obs := fun s => look81 (part81 s.heap.get?)
  val := fun _ => want81
  says := fun _ h => ∃ K : Fr, K.In h ∧ look81 K = want81
  of := fun _ _ e => ⟨_, He.frG_in, e⟩
  keeps := fun _ _ _ ⟨K, hi, c⟩ k => ⟨K, PySem.W.Frag.In.keeps hi k, c⟩
end K81
set_option Elab.async false
set_option linter.all false
set_option maxRecDepth 100000
set_option maxHeartbeats 0
namespace K81
open PySem L2
abbrev row81 : PySem.W.OpenRow := PySem.W.OpenLaw.row PySem.Challenge.rw_smalltowns_k81_whole_one_hidden_script_b
abbrev vw81 : Program := PySem.W.view row81.prog [93]
def nm0 : List Str := ["_wall", "__name__", "many_from", "has", "places_of", "joined", "is_within", "blended", "greatest_within", "least_around", "just_above", "is_number", "tupled", "number_in", "NoPlace", "NoTown", "BadText", "BadRun", "BadStep", "Unfit", "Known", "NOTHING", "TIMES", "PAIR", "summed", "run_in", "run_text", "is_run", "is_runs", "County"]
def nm1 : List Str := ["shown", "TOWN", "COUNTY", "KINDS", "Step", "START", "least_in", "floors_in", "form_with", "form_of_step", "form_behind", "power_of", "plain_steps", "BETWEEN", "form_of_steps", "Script", "without", "needless", "check_town", "taken_by", "form_for", "script_with", "new_town", "fewer", "towns_for", "towns_to_lose", "town_to_add", "fits", "low_of", "banned_by"]
def nm2 : List Str := ["is_banned", "checked", "strictest_fit", "only_fit", "asking", "telling_table", "read_off", "size_in", "Search", "_law_box", "_law_take", "_law_cells", "_law_of", "_law_bag", "_law_step", "_law_some", "_law_line", "_law_made", "_law_county", "_law_searched", "_law_towns_right", "_law_case_right", "_law_by_hand_right", "_law_right"]
def names81 : List Str := nm0 ++ nm1 ++ nm2
def ob81 (s : PySem.W.SharedT) : Al81 := look81 (part81 (HandSHeadRun.getT s))
theorem ob81_eq (s : PySem.W.SharedT) : ob81 s = hook81.obs s.abs := by
  have e : HandSHeadRun.getT s = s.abs.heap.get? := funext (HandSHeadRun.getT_eq s)
  show look81 (part81 (HandSHeadRun.getT s)) = look81 (part81 s.abs.heap.get?)
  rw [e]
theorem run81 (w : World) : HandSHeadRun.RunEq row81 vw81 hook81 ob81 12000 names81 w := by
  intro os
  kernel_rfl
end K81

set_option Elab.async false
set_option linter.all false
set_option maxRecDepth 100000
set_option maxHeartbeats 1900000
namespace K81
open PySem L2
/-- a special method of a class, a def of the text -/
structure Spc (K : Fr) (C : Addr) (n : Str) (g : Addr) : Prop where
  at_ : PySem.W.findIn K (.ref C) n = some (some (.ref g))
  fn : PySem.W.isFn K (Value.ref g) = true
def rHas (C : Addr) (sp : Sp) (neg : Bool) : R2 := fun x y H Q => ∃ a dxk fsk, y = .ref a ∧ H a = some (.ins C dxk fsk) ∧
  sp [y, x] H (fun v H' => ∃ b, v = .bl b ∧ Q (.bl (if neg then !b else b)) H') E0
section
variable {X : Cx} {k : Nat} {C g : Addr} {sp : Sp}
theorem has_run (c : Spc X.K C "__contains__" g) (F : FnR X.prog X.w X.K X.mg X.base CX0 k g sp) (hr : Room k X.A) {pins : List (Addr × Obj)} {s : Shared} {σ : L2.St} {H : Hp} {a dxk : Addr} {fsk : List (Str × V)} {x : V} {v : Value} {Q : Bool → Hp → Prop}
    (I : Inv X pins σ H s) (rxk : RelV x v) (ha : H a = some (.ins C dxk fsk)) (q : sp [.ref a, x] H (fun v H' => ∃ b, v = .bl b ∧ Q b H') E0) :
    wpAny (model X.prog X.w) X.A (contains (.ref a) v) (fun b s' => ∃ H', Inv X pins σ H' s' ∧ Q b H') X.xe s := by
  obtain ⟨mAk, O, _⟩ := ins_get I.hok ha
  obtain ⟨odk, J, _⟩ := O.look
  unfold contains
  refine wpAny_holding ?_
  simp only [stdlibNamesSay?]
  refine wpAny_bind (wpAny_bind (J.type.here ((PySem.W.looks_findIn I.kIn c.at_).here ?_)))
  simp only [show (some (Value.ref g) == some Value.none) = false from rfl, Bool.false_eq_true, if_false]
  unfold callSpecialUnlessNone?
  refine wpAny_bind (wpAny_bind (wpAny_bind (J.type.here ((PySem.W.looks_findIn I.kIn c.at_).here ?_))))
  refine wpAny_holding (wpAny_bind ((PySem.W.bind_fn I.kIn _ (beq_iff_eq.mp c.fn)).here ?_))
  simp only [show (Value.ref g == Value.none) = false from rfl, Bool.false_eq_true, if_false]
  refine wpAny_bind (thn (wpAny_call (run_fnR (us := [.ref a, v]) (vs := [.ref a, x]) F hr pass0 I (.cons rfl (.cons rxk .nil)) q)) fun w s1k ⟨z, H1k, I1k, rz, b, ez, qz⟩ => ?_)
  subst ez
  obtain rfl : w = Value.bool b := rz
  exact wpAny_pure (wpAny_truthy_bool ⟨H1k, I1k, qz⟩)
theorem op_has (c : Spc X.K C "__contains__" g) (F : FnR X.prog X.w X.K X.mg X.base CX0 k g sp) (hr : Room k X.A) : OpR X (compareOp .In) (rHas C sp false) := by
  intro pins s σ H x y v u Q I rxk ryk h
  obtain ⟨a, dxk, fsk, rfl, ha, q⟩ := h
  obtain rfl : u = Value.ref a := ryk
  show wpAny _ _ (contains (.ref a) v >>= fun b => pure (Value.bool b)) _ _ _
  refine wpAny_bind (thn (has_run (Q := fun b H' => Q (.bl b) H') c F hr I rxk ha q) fun b s1k ⟨H1k, I1k, q1k⟩ => wpAny_pure ⟨.bl b, H1k, I1k, rfl, q1k⟩)
theorem op_hasN (c : Spc X.K C "__contains__" g) (F : FnR X.prog X.w X.K X.mg X.base CX0 k g sp) (hr : Room k X.A) : OpR X (compareOp .NotIn) (rHas C sp true) := by
  intro pins s σ H x y v u Q I rxk ryk h
  obtain ⟨a, dxk, fsk, rfl, ha, q⟩ := h
  obtain rfl : u = Value.ref a := ryk
  show wpAny _ _ (contains (.ref a) v >>= fun b => pure (Value.bool (!b))) _ _ _
  refine wpAny_bind (thn (has_run (Q := fun b H' => Q (.bl (!b)) H') c F hr I rxk ha q) fun b s1k ⟨H1k, I1k, q1k⟩ => wpAny_pure ⟨.bl (!b), H1k, I1k, rfl, q1k⟩)
end
end K81
set_option Elab.async false
set_option linter.all false
set_option maxRecDepth 100000
set_option maxHeartbeats 1900000
namespace K81
open PySem L2
/-! ### a static method called on itsk class -/
structure CSta (K : Fr) (C : Addr) (mc : Value) (m : Str) (p g : Addr) : Prop where
  rd : (PySem.W.readsIn K C mc) = true
  ga : PySem.W.specialIn K (.ref C) "__getattribute__" = some (some (Value.builtin "type.__getattribute__"))
  at_ : PySem.W.findCls K (.ref C) mc m = some (.get (.builtin "staticmethod.__get__") (.ref p) .none (.ref C))
  rc : ∃ rest, PySem.W.recIn K p "staticmethod" = some (.ref g :: rest)
  kp : PySem.W.keepIn K (.ref g) = true
def tSta (C : Addr) (sp : Sp) (ta : TE) (t : TA) : TE := fun σ H Q => ta σ H fun x H1k => x = .ref C ∧ t σ H1k fun vs H2k => sp vs H2k Q E0
section
variable {X : Cx} {k : Nat} {C p g : Addr} {mc : Value} {sp : Sp} {o e : Expr} {es : List Expr} {m : Str} {pos apos : Pos} {ta : TE} {t : TA} {pl : Sem Bool}
theorem pe_sta (he : PE X o ta) (c : CSta X.K C mc m p g) (F : FnR X.prog X.w X.K X.mg X.base CX0 k g sp) (hr : Room k X.A) (ha : PA X (e :: es) t)
    (hse : starEach (e :: es) X.env = (false, eval e X.env) :: starEach es X.env := by rfl) (hpl : (backTo pos (starEach es X.env)).any (·.1) = false := by rfl)
    (hte : eval (Expr.Call (.Attribute o m apos) (e :: es) [] pos) X.env = (do
      let ov ← eval o X.env
      standAt apos.atName
      let (fn, one) ← holding [ov] (getMethod ov m pl)
      callWith pos fn one (backTo pos (starEach (e :: es) X.env)) (backToKw pos (keywordEach [] X.env))) := by rfl) :
    PE X (.Call (.Attribute o m apos) (e :: es) [] pos) (tSta C sp ta t) := by
  refine ⟨fun pins s σ H Q I h => ?_⟩; refine PySem.W.methodCall_KW (pl := pl) (thn (he.run pins s σ H _ I h) fun u s1k ⟨x, H1k, I1k, rxk, ex, q⟩ => ?_) hte
  subst ex
  obtain rfl : u = Value.ref C := rxk
  obtain ⟨rest, hp⟩ := c.rc
  refine PySem.W.method_cls I1k.kIn c.ga (PySem.W.cls_bind I1k.kIn c.rd c.at_ (wpAny_call (PySem.W.sm_get (s := { s1k with toks := s1k.toks + 1 }) I1k.kIn hp (PySem.W.handed_on rfl ?_))))
  have I2k := I1k.tok (s1k.toks + 1)
  refine PySem.W.callWith_K (first := []) (h₀ := X.base) I1k.ok.mod.kin c.kp (thn (ha.run pos pins _ σ H1k _ I2k q) fun us s2k ⟨vs, H2k, I3k, r, q2k⟩ => ⟨I3k.kIn, ?_⟩) hse hpl
  exact wpAny_call (run_fnR F hr pass0 I3k r q2k)
end
/-! ### len of an instance by itsk own def -/
def rLenO (C : Addr) (sp : Sp) : List V → Hp → VK → Prop := fun xs H Q => ∃ a dxk fsk, xs = [.ref a] ∧ H a = some (.ins C dxk fsk) ∧ sp [.ref a] H (fun v H' => ∃ n : Int, v = .int n ∧ 0 ≤ n ∧ n < 2 ^ 63 ∧ Q (.int n) H') E0
section
variable {X : Cx} {k : Nat} {C g : Addr} {sp : Sp} {pins : List (Addr × Obj)} {σ : L2.St} {H : Hp} {s : Shared}
theorem run_in1 {Q : VK} {us : List Value} {vs : List V} {A : Around} (F : FnR X.prog X.w X.K X.mg X.base CX0 k g sp) (hr : Room k A) (hA : A.frames = X.A.frames) (I : Inv X pins σ H s) (r : Vals vs us) (h : sp vs H Q E0) :
    wpAny (model X.prog X.w) A (call (.ref g) us) (EP X pins σ Q) X.xe s := by
  have e := I.env0
  refine wpAny_call (codeAny_mono (F A X.stack s H us vs Q E0 hr ⟨hA.trans e.frames, e.mod, e.bs, e.bsz, e.funs, e.frf, e.hok, e.bare⟩ r h) fun r s' hqk => ?_)
  cases r with
  | error e => exact False.elim hqk
  | ok fl =>
    cases fl with
    | ret u => exact I.after hqk
    | next => exact False.elim hqk
    | brk => exact False.elim hqk
    | cont => exact False.elim hqk
theorem call_lenO (c : Spc X.K C "__len__" g) (F : FnR X.prog X.w X.K X.mg X.base CX0 k g sp) (hr : Room (k + 1) X.A) : CallR X (.builtin "len") (rLenO C sp) := by
  intro pins s σ H xs us Q I r h; obtain ⟨a, dxk, fsk, rfl, ha, q⟩ := h
  cases r with
  | cons r1k r2k =>
    cases r2k
    cases r1k
    obtain ⟨mAk, O, _⟩ := ins_get I.hok ha
    obtain ⟨odk, J, _⟩ := O.look
    obtain ⟨m, hF⟩ := I.fr
    refine PySem.W.len_K hF I.ok.mod.kin J c.at_ c.fn (thn (run_in1 (A := X.A.in1) (us := [.ref a]) (vs := [.ref a]) F hr.in1 rfl I (.cons rfl .nil) q) fun w s1k ⟨z, H1k, I1k, rz, n, ez, h0k, h1k, qz⟩ => ?_)
    subst ez
    obtain ⟨t, rfl⟩ := rz
    exact ⟨⟨h0k, h1k⟩, .int n, H1k, I1k.tok _, ⟨_, rfl⟩, qz⟩
end
end K81
set_option Elab.async false
set_option linter.all false
set_option maxRecDepth 100000
set_option maxHeartbeats 1900000
namespace K81
open PySem L2
/-! ### == and != of two instances of one class by itsk own def -/
def rEqO (C : Addr) (sp : Sp) (neg : Bool) : R2 := fun x y H Q => ∃ a dxk fsk b dy gs, x = .ref a ∧ y = .ref b ∧ H a = some (.ins C dxk fsk) ∧ H b = some (.ins C dy gs) ∧
  sp [.ref a, .ref b] H (fun v H' => ∃ c, v = .bl c ∧ Q (.bl (if neg then !c else c)) H') E0
/-- .. what != leans on -/
structure SNe (K : Fr) (C : Addr) : Prop where
  at_ : PySem.W.findIn K (.ref C) "__ne__" = some (some (.builtin "object.__ne__"))
  ob : PySem.W.mroIn K C (.type "object") = some true
section
variable {X : Cx} {k : Nat} {C g : Addr} {sp : Sp} {pins : List (Addr × Obj)} {σ : L2.St} {H : Hp} {s : Shared}
theorem op_eqO (c : Spc X.K C "__eq__" g) (F : FnR X.prog X.w X.K X.mg X.base CX0 k g sp) (hr : Room k X.A) : OpR X (compareOp .Eq) (rEqO C sp false) := by
  intro pins s σ H x y v u Q I rxk ryk h
  obtain ⟨a, dxk, fsk, b, dy, gs, rfl, rfl, ha, hb, q⟩ := h
  obtain rfl : v = Value.ref a := rxk
  obtain rfl : u = Value.ref b := ryk
  obtain ⟨mAk, O, _⟩ := ins_get I.hok ha
  obtain ⟨odk, J, _⟩ := O.look
  obtain ⟨mBk, O', _⟩ := ins_get I.hok hb
  obtain ⟨od', J', _⟩ := O'.look
  obtain ⟨m, hF⟩ := I.fr
  show wpAny _ _ (richCompare .Eq (.ref a) (.ref b)) _ _ _
  refine PySem.W.cmp_K (op := .Eq) (tb := .ref C) hr.units0 hF I.ok.mod.kin J J'.type (by simp [PySem.W.notFirst]) c.at_ c.fn ?_
  refine thn (wpAny_call (run_fnR (us := [.ref a, .ref b]) (vs := [.ref a, .ref b]) F hr pass0 I (.cons rfl (.cons rfl .nil)) q)) fun w s1k ⟨z, H1k, I1k, rz, e, ez, qz⟩ => ?_
  subst ez
  obtain rfl : w = Value.bool e := rz
  exact ⟨.bl e, H1k, I1k, rfl, qz⟩
theorem ne_run (c : Spc X.K C "__eq__" g) (n : SNe X.K C) (G : FnR X.prog X.w X.K X.mg X.base CX0 k g sp) (hr : Room (k + 1) X.A) {a b dxk dy : Addr} {fsk gs : List (Str × V)} {Q : Bool → Hp → Prop}
    (I : Inv X pins σ H s) (ha : H a = some (.ins C dxk fsk)) (hb : H b = some (.ins C dy gs)) (q : sp [.ref a, .ref b] H (fun v H' => ∃ c, v = .bl c ∧ Q (!c) H') E0) :
    wpAny (model X.prog X.w) X.A (tryCompare (.ref a) "__ne__" (.ref b)) (fun r s' => ∃ e, r = some (Value.bool e) ∧ ∃ H', Inv X pins σ H' s' ∧ Q e H') X.xe s := by
  obtain ⟨mAk, O, _⟩ := ins_get I.hok ha
  obtain ⟨odk, J, _⟩ := O.look
  have hu : X.A.in1.units < cLine := hr.in1.units0
  have sub : PySem.W.Looks (model X.prog X.w) s.heap (isInstance (.ref a) (.type "object")) true := J.type.andThen (PySem.W.looks_mroIn I.kIn n.ob)
  have eqc : ∀ (E : Value → Shared → Prop) (P : Option Value → Shared → Prop), (∀ e, X.xe e = E e) → (∀ e H1k s1k, Inv X pins σ H1k s1k → Q (!e) H1k → P (some (Value.bool e)) s1k) → wpAny (model X.prog X.w) X.A.in1 (callSpecialIfBound? (.ref a) "__eq__" [.ref b]) P X.xe s := by
    intro E P _ hP
    refine PySem.W.ifBound_K I.kIn J c.at_ c.fn (thn (run_in1 (A := X.A.in1) (us := [.ref a, .ref b]) (vs := [.ref a, .ref b]) G hr.in1 rfl I (.cons rfl (.cons rfl .nil)) q) fun w s1k ⟨z, H1k, I1k, rz, e, ez, qz⟩ => ?_)
    subst ez
    obtain rfl : w = Value.bool e := rz
    exact hP e H1k s1k I1k qz
  have callNe : wpAny (model X.prog X.w) X.A (call (.builtin "object.__ne__") [.ref a, .ref b]) (fun v s' => ∃ e, v = Value.bool e ∧ ∃ H', Inv X pins σ H' s' ∧ Q e H') X.xe s := by
    refine wpAny_call (codeAny_call_builtin PySem.F.cmp_object.ne.plain PySem.F.cmpEntry_ne (@PySem.W.check_slot (model X.prog X.w) _ _ s "object.__ne__" "object" "__ne__" (.ref a) [.ref b] [] _ PySem.F.cmpKind_ne PySem.F.cmpSplit_ne sub (PySem.F.cmpArgs_ne _ _) ?_))
    unfold Builtin.«object.__ne__»; refine wpAny_bind (wpAny_pure ?_)
    refine wpAny_bind (wpAny_cRoomFor hu ?_); refine wpAny_bind (eqc X.xe _ (fun _ => rfl) fun e H1k s1k I1k q1k => ?_)
    refine wpAny_bind (wpAny_truthy_bool ?_)
    exact wpAny_pure ⟨!e, rfl, H1k, I1k, q1k⟩
  unfold tryCompare
  refine wpAny_bind ?_
  simp only [callSpecialIfBound?, bindSpecialIfBound?]; refine wpAny_holding (wpAny_bind (wpAny_bind (wpAny_bind (J.type.here ((PySem.W.looks_findIn I.kIn n.at_).here ?_)))))
  refine wpAny_bind (wpAny_askSetting (wpAny_ite ?_)); have fin : wpAny (model X.prog X.w) X.A (call (.builtin "object.__ne__") ([.ref a] ++ [.ref b]) >>= fun v => pure (some v)) (fun r s' => wpAny (model X.prog X.w) X.A (match r with | some .notImplemented | none => pure none | some v => pure (some v)) (fun r s' => ∃ e, r = some (Value.bool e) ∧ ∃ H', Inv X pins σ H' s' ∧ Q e H') X.xe s') X.xe s := by
    refine wpAny_bind (thn callNe fun v s1k ⟨e, ev, z⟩ => ?_)
    subst ev
    exact wpAny_pure (wpAny_pure ⟨e, rfl, z⟩)
  simp only [PySem.F.cmp_object.ne.bind]
  split
  · exact wpAny_bind (wpAny_pure (wpAny_pure (by exact fin)))
  · exact wpAny_tryCatch (wpAny_bind (wpAny_pure (wpAny_pure (by exact fin))))
theorem op_neO (c : Spc X.K C "__eq__" g) (n : SNe X.K C) (G : FnR X.prog X.w X.K X.mg X.base CX0 k g sp) (hr : Room (k + 1) X.A) : OpR X (compareOp .NotEq) (rEqO C sp true) := by
  intro pins s σ H x y v u Q I rxk ryk h
  obtain ⟨a, dxk, fsk, b, dy, gs, rfl, rfl, ha, hb, q⟩ := h
  obtain rfl : v = Value.ref a := rxk
  obtain rfl : u = Value.ref b := ryk
  obtain ⟨mAk, O, _⟩ := ins_get I.hok ha
  obtain ⟨odk, J, _⟩ := O.look
  obtain ⟨mBk, O', _⟩ := ins_get I.hok hb
  obtain ⟨od', J', _⟩ := O'.look
  show wpAny _ _ (richCompare .NotEq (.ref a) (.ref b)) _ _ _
  unfold richCompare
  simp only [oneThing_ref]
  refine wpAny_holding (wpAny_bind (wpAny_cRoomFor hr.units0 ?_))
  refine wpAny_bind (J.type.here (wpAny_bind (J'.type.here ?_)))
  simp only [bne_self_eq_false, Bool.false_eq_true, if_false]; refine wpAny_bind (wpAny_pure ?_)
  simp only [Bool.false_eq_true, if_false]; refine wpAny_bind (thn (ne_run (Q := fun e H' => Q (.bl e) H') c n G hr I ha hb q) fun r s1k ⟨e, er, H1k, I1k, q1k⟩ => ?_)
  subst er
  exact wpAny_pure ⟨.bl e, H1k, I1k, rfl, q1k⟩
end
end K81
set_option Elab.async false
set_option linter.all false
set_option maxRecDepth 100000
set_option maxHeartbeats 1900000
namespace K81
open PySem L2 PySem.SeqAt MeetsSeq MeetsSeq2 MeetsSeq3 SeqRoads2 AutoSeq1
/-! ### != of two lists whose items are found equal, pair by pair -/
section
variable {w : World} {prog : Program} {A : Around} {R : Result → Shared → Prop}
theorem neLoop (p q : Addr) (N : Nat) (J : Nat → Shared → Prop) (hl : GQ.ListI prog w A (fun e s' => R (.error e) s') p q N J)
    (done : ∀ s, J N s → R (.ok (.ret (.bool false))) s) (r : Nat) :
    ∀ i : Nat, N - i = r → i ≤ N → ∀ s, J i s →
      wpAny (model prog w) A.in1 (Builtin.«list.__eq__.loop» ⟨[.ref p, .ref q, rawInt i, rawInt 3], []⟩) (GQ.FinOf prog w A R) (fun e s' => R (.error e) s') s := by
  induction r with
  | zero =>
    intro i hr hi s hJ
    obtain ⟨xs, ys, n, n2, hp1, hq1, z1k, z2k, _⟩ := hl _ _ hJ
    have iN : i = N := by omega
    have hR : R (.ok (.ret (.bool false))) s := done s (iN ▸ hJ)
    obtain ⟨hh, gg, dd, tk, osk⟩ := s
    wp_walk using wpAny_loadPart' hp1, wpAny_loadPart' hq1
    rw [show xs[((i : Nat) : Int).toNat]? = none by simp; omega, show ys[((i : Nat) : Int).toNat]? = none by simp; omega]
    wp_walk using wpAny_loadPart' hp1, wpAny_loadPart' hq1
    show R (.ok (.ret (.bool (xs.size != ys.size)))) _
    rw [z1k, z2k]
    simpa using hR
  | succ r ih =>
    intro i hr hi s hJ
    obtain ⟨xs, ys, n, n2, hp1, hq1, z1k, z2k, turn⟩ := hl _ _ hJ
    have l1k : i < xs.size := by omega
    have l2k : i < ys.size := by omega
    have ht := turn l1k l2k
    obtain ⟨hh, gg, dd, tk, osk⟩ := s
    wp_walk using wpAny_loadPart' hp1, wpAny_loadPart' hq1
    have cc : ((i : Int) + 1) = ((i + 1 : Nat) : Int) := by omega
    rw [show xs[((i : Nat) : Int).toNat]? = some xs[i] by simp [l1k], show ys[((i : Nat) : Int).toNat]? = some ys[i] by simp [l2k]]
    refine wpAny_bind (wpAny_mono ht (fun r s2k h2k => ?_) fun _ _ x => x)
    obtain ⟨e1k, h2k⟩ := h2k
    subst e1k
    have again := ih (i + 1) (by omega) (by omega) s2k h2k
    obtain ⟨h3k, g3k, d3k, tk3, os3⟩ := s2k
    wp_walk
    rw [cc]
    exact ⟨plainId_quiet plain_eq_loop _, codeAny_builtin entry_eq_loop (by rw [Around.under_plainId plain_eq_loop _]; exact again)⟩
theorem list_neG (p q : Addr) (N : Nat) (J : Nat → Shared → Prop) (hl : GQ.ListI prog w A (fun e s' => R (.error e) s') p q N J)
    (done : ∀ s, J N s → R (.ok (.ret (.bool false))) s) {s : Shared} (h : J 0 s) :
    wpAny (model prog w) A.in1 (Builtin.«list.__ne__» ⟨[.ref p, .ref q], []⟩) (GQ.FinOf prog w A R) (fun e s' => R (.error e) s') s := by
  obtain ⟨xs, ys, n, n2, hp1, hq1, z1k, z2k, _⟩ := hl _ _ h
  have again := neLoop (A := A) (R := R) p q N J hl done _ 0 rfl (Nat.zero_le _) s h
  obtain ⟨hh, gg, dd, tk, osk⟩ := s
  have f3k := AutoSeq1.sub_list_list
  have hzk : ¬ (xs.size != ys.size) = true := by simp [z1k, z2k]
  wp_walk using wpAny_loadPart' hp1, wpAny_loadPart' hq1
  exact ⟨plainId_quiet plain_eq_loop _, codeAny_builtin entry_eq_loop (by rw [Around.under_plainId plain_eq_loop _]; exact again)⟩
end
section
variable {w : World} {prog : Program} {A : Around} {E : Value → Shared → Prop} {s : Shared}
theorem rc_neG {p q : Addr} {N : Nat} {Q : Value → Shared → Prop} (hu : A.units < cLine) (J : Nat → Shared → Prop) (hl : GQ.ListI prog w A E p q N J)
    (done : ∀ s, J N s → Q (.bool false) s) (h : J 0 s) : wpAny (model prog w) A (richCompare .NotEq (.ref p) (.ref q)) Q E s := by
  obtain ⟨xs, ys, n, n2, hp1, hq1, _, _, _⟩ := hl _ _ h
  refine wpAny_richCompare_same_room (op := .NotEq) ⟨_, hp1, rfl⟩ ⟨_, hq1, rfl⟩ F.slot_list_ne (GQ.call_here F.slot_list_ne ⟨_, hp1, rfl⟩ F.entry_list_ne (F.args_list_ne_2 _ _) ?_) hu
  exact list_neG (R := wants (fun v s' => v ≠ .notImplemented ∧ Q v s') E) p q N J hl (fun s' z => ⟨(fun x => nomatch x), done s' z⟩) h
end
section
variable {X : Cx} {n : Nat} {D : Eqv}
/-- xs != ys, the items equal by D -/
def rNeG (D : Eqv) : R2 := fun x y H Q => (∃ a b xs ys, x = .ref a ∧ y = .ref b ∧ H a = some (.lst xs) ∧ H b = some (.lst ys) ∧ Prs D xs ys H) ∧ ∀ H', Ext H H' → Q (.bl false) H'
theorem op_neG (hD : Mon D) (h : EqG X n D) (hr : Room (n + 1) X.A) : OpR X (compareOp .NotEq) (rNeG D) := by
  intro pins s σ H x y v u Q I rxk ryk hqk
  obtain ⟨⟨a, b, xs, ys, rfl, rfl, ha, hb, pp⟩, q⟩ := hqk
  obtain rfl : v = Value.ref a := rxk
  obtain rfl : u = Value.ref b := ryk
  show wpAny (model X.prog X.w) X.A (richCompare .NotEq (.ref a) (.ref b)) (EP X pins σ Q) X.xe s
  refine rc_neG (N := xs.length) hr.units0 (fun _ s' => LoopI X pins σ H s') (fun i s' z => ?_) (fun s' ⟨H1k, I1k, e1k⟩ => ⟨.bl false, H1k, I1k, rfl, q H1k e1k⟩) ⟨H, I, Ext.rfl'⟩
  obtain ⟨H1k, I1k, e1k⟩ := id z
  obtain ⟨_, itsk, k, r, o1k⟩ := I1k.hok a _ (e1k _ _ ha)
  obtain ⟨_, its2k, k2k, r2k, o2k⟩ := I1k.hok b _ (e1k _ _ hb)
  exact ⟨itsk.toArray, its2k.toArray, k, k2k, o1k, o2k, by rw [List.size_toArray, ← r.length], by rw [List.size_toArray, ← r2k.length, ← pp.1], fun h1k h2k => turnG hD h ⟨hr, rfl⟩ pp r r2k i h1k h2k s' z⟩
/-- xs != [] -/
def rNeNil (K : Fr) : R2 := fun x y H Q => ∃ a b xs, x = .ref a ∧ y = .ref b ∧ SqL K H a xs ∧ SqL K H b [] ∧ Q (.bl (!xs.isEmpty)) H
theorem op_neNil (hu : X.A.units < cLine) : OpR X (compareOp .NotEq) (rNeNil X.K) := by
  intro pins s σ H x y v u Q I rxk ryk hqk
  obtain ⟨a, b, xs, rfl, rfl, ha, hb, q⟩ := hqk
  obtain rfl : v = Value.ref a := rxk
  obtain rfl : u = Value.ref b := ryk
  obtain ⟨itsk, r, p1k, _⟩ := I.list ha
  obtain ⟨its2k, r2k, p2k, _⟩ := I.list hb
  cases r2k
  show wpAny (model X.prog X.w) X.A (richCompare .NotEq (.ref a) (.ref b)) (EP X pins σ Q) X.xe s
  cases xs with
  | nil =>
    cases r
    exact RcNeAt.lists (e := fun _ => true) p1k.isList p2k.isList rfl hu (fun j h1k _ => absurd h1k (by simp)) X.prog X.w X.xe _ ⟨.bl false, H, I, rfl, q⟩
  | cons x xs =>
    have hzk : (itsk.toArray.size != ([] : List Value).toArray.size) = true := by
      rw [List.size_toArray, ← r.length]
      simp
    exact RcNeAt.lists_lengths p1k.isList p2k.isList hzk hu X.prog X.w X.xe _ ⟨.bl true, H, I, rfl, q⟩
end
end K81
set_option Elab.async false
set_option linter.all false
set_option maxRecDepth 100000
set_option maxHeartbeats 1900000
namespace K81
open PySem L2 PySem.SeqAt MeetsSeq MeetsSeq2 MeetsSeq3 SeqRoads2 AutoSeq1
/-! ### x not in (None, h), h an instance with itsk own == -/
section
variable {X : Cx} {k : Nat} {C g : Addr} {sp : Sp} {pins : List (Addr × Obj)} {σ : L2.St} {H : Hp} {s : Shared} {A : Around}
/-- None == a, by the own == of a, reflected: it says False -/
theorem rc_noneO (c : Spc X.K C "__eq__" g) (hn : PySem.W.subIn X.K (.ref C) (.type "NoneType") = some false) (G : FnR X.prog X.w X.K X.mg X.base CX0 k g sp) (hr : Room k A) (hA : A.frames = X.A.frames) {a dxk : Addr} {fsk : List (Str × V)} {Q : Value → Shared → Prop}
    (I : Inv X pins σ H s) (ha : H a = some (.ins C dxk fsk)) (q : sp [.ref a, .non] H (fun v H' => v = .bl false ∧ Ext H H') E0)
    (h : ∀ s' H', Inv X pins σ H' s' → Ext H H' → Q (.bool false) s') :
    wpAny (model X.prog X.w) A (richCompare .Eq .none (.ref a)) Q X.xe s := by
  obtain ⟨mAk, O, _⟩ := ins_get I.hok ha
  obtain ⟨odk, J, _⟩ := O.look
  have tn : s.TypeIs .none "NoneType" := rfl
  unfold richCompare
  simp only [tn.oneThing_none, cmpInfo]
  refine wpAny_holding (wpAny_bind (wpAny_cRoomFor hr.units0 ?_))
  refine wpAny_bind (wpAny_typeOf tn (wpAny_bind (J.type.here ?_)))
  rw [if_pos (by rfl)]
  refine wpAny_bind ((PySem.W.looks_subIn I.kIn hn).here ?_)
  simp only [Bool.false_eq_true, if_false, Bool.not_false, if_true]; refine wpAny_bind (m := tryCompare .none _ (.ref a)) (wpAny_tryCompare_declines tn F.slot_NoneType_eq (call_gives F.slot_NoneType_eq tn F.entry_NoneType_eq (F.args_NoneType_eq_2 _ _) (NoneType___eq___none_ref_0 a) ⟨rfl, ?_⟩))
  unfold tryCompare
  refine wpAny_bind (wpAny_bind (PySem.W.ifBound_K I.kIn J c.at_ c.fn (thn (run_in1 (A := A) (us := [.ref a, .none]) (vs := [.ref a, .non]) G hr hA I (.cons rfl (.cons rfl .nil)) q) fun w s1k ⟨z, H1k, I1k, rz, ez, e1k⟩ => ?_)))
  subst ez
  obtain rfl : w = Value.bool false := rz
  exact wpAny_pure (wpAny_pure (h s1k H1k I1k e1k))
theorem rc_eqO (c : Spc X.K C "__eq__" g) (G : FnR X.prog X.w X.K X.mg X.base CX0 k g sp) (hr : Room k A) (hA : A.frames = X.A.frames) {a b dxk dy : Addr} {fsk gs : List (Str × V)} {e : Bool} {Q : Value → Shared → Prop}
    (I : Inv X pins σ H s) (ha : H a = some (.ins C dxk fsk)) (hb : H b = some (.ins C dy gs)) (q : sp [.ref a, .ref b] H (fun v H' => v = .bl e ∧ Ext H H') E0)
    (h : ∀ s' H', Inv X pins σ H' s' → Ext H H' → Q (.bool e) s') :
    wpAny (model X.prog X.w) A (richCompare .Eq (.ref a) (.ref b)) Q X.xe s := by
  obtain ⟨mAk, O, _⟩ := ins_get I.hok ha
  obtain ⟨odk, J, _⟩ := O.look
  obtain ⟨mBk, O', _⟩ := ins_get I.hok hb
  obtain ⟨od', J', _⟩ := O'.look
  obtain ⟨m, hF⟩ := I.fr
  refine PySem.W.cmp_K (op := .Eq) (tb := .ref C) hr.units0 hF I.ok.mod.kin J J'.type (by simp [PySem.W.notFirst]) c.at_ c.fn ?_
  refine thn (run_in1 (A := A) (us := [.ref a, .ref b]) (vs := [.ref a, .ref b]) G hr hA I (.cons rfl (.cons rfl .nil)) q) fun w s1k ⟨z, H1k, I1k, rz, ez, e1k⟩ => ?_
  subst ez
  obtain rfl : w = Value.bool e := rz
  exact h s1k H1k I1k e1k
def rNoNone (C : Addr) (sp : Sp) (K : Fr) : R2 := fun x y H Q => ∃ p h dh fh, y = .ref p ∧ SqT K H p [.non, .ref h] ∧ H h = some (.ins C dh fh) ∧ (∀ H', Ext H H' → Q (.bl false) H') ∧
  (x = .non ∨ ∃ a dxk fsk, x = .ref a ∧ H a = some (.ins C dxk fsk) ∧ sp [.ref a, .non] H (fun v H' => v = .bl false ∧ Ext H H') E0 ∧
    ∀ H1k, Ext H H1k → sp [.ref h, .ref a] H1k (fun v H' => v = .bl true ∧ Ext H1k H') E0)
theorem op_noNone (c : Spc X.K C "__eq__" g) (hn : PySem.W.subIn X.K (.ref C) (.type "NoneType") = some false) (G : FnR X.prog X.w X.K X.mg X.base CX0 k g sp) (hr : Room (k + 1) X.A) : OpR X (compareOp .NotIn) (rNoNone C sp X.K) := by
  intro pins s σ H x y v u Q I rxk ryk hqk
  obtain ⟨p, h, dh, fh, rfl, hp, hh, q, hxk⟩ := hqk
  obtain rfl : u = Value.ref p := ryk
  obtain ⟨itsk, r, ht, _⟩ := I.tuple hp
  obtain ⟨_, e1k⟩ : ∃ w : Unit, itsk = [.none, .ref h] := by
    cases r with
    | cons r1k r2k =>
      cases r2k with
      | cons r2k r3k =>
        cases r3k
        cases r1k
        cases r2k
        exact ⟨(), rfl⟩
  subst e1k
  have hu : X.A.in1.units < cLine := hr.in1.units0
  show wpAny _ _ (contains (.ref p) v >>= fun b => pure (Value.bool (!b))) _ _ _
  refine wpAny_bind ?_
  unfold contains
  refine wpAny_holding ?_
  simp only [stdlibNamesSay?]
  refine wpAny_bind (wpAny_specialOf ht.typeIs F.slot_tuple_contains.lookup ?_)
  rw [if_neg (by decide)]
  have body : wpAny (model X.prog X.w) X.A.in1 (Builtin.«tuple.__contains__» ⟨[.ref p, v], []⟩) (fun fin s' => ∃ w, fin = .done (.ret w) ∧ w = Value.bool true ∧ ∃ H', Inv X pins σ H' s' ∧ Ext H H') X.xe s := by
    show wpAny _ _ (Builtin.Tuple.tupleItemsOf (.ref p) >>= _) _ _ s
    refine wpAny_bind (PyProof.Rows.tupleItemsOf_ ht ?_)
    refine wpAny_bind (PyProof.Rows.forIn_array_ _ (fun rest b s' => b.1 = none ∧ ((rest = [Value.none, Value.ref h] ∧ s' = s) ∨ (rest = [Value.ref h] ∧ x ≠ .non ∧ ∃ H1k, Inv X pins σ H1k s' ∧ Ext H H1k))) _ ?_ ?_ _ _ ⟨rfl, .inl ⟨rfl, rfl⟩⟩)
    · rintro y rest b s1k ⟨hb, hI⟩
      rcases hI with ⟨e1k, e2k⟩ | ⟨e1k, e2k, H1k, I1k, x1k⟩
      · obtain ⟨rfl, rfl⟩ := List.cons.inj e1k
        subst e2k
        rcases hxk with rfl | ⟨a, dxk, fsk, rfl, ha, qn, qe⟩
        · obtain rfl : v = Value.none := rxk
          refine wpAny_bind (SeqAt.EqAt.same (A := X.A.in1) (s := s1k) .none X.prog X.w X.xe _ ?_)
          exact wpAny_bind (wpAny_pure (wpAny_pure (wpAny_pure ⟨_, rfl, rfl, H, I, Ext.rfl'⟩)))
        · obtain rfl : v = Value.ref a := rxk
          refine wpAny_bind ?_
          unfold eqBool
          refine wpAny_holding ?_
          rw [if_neg (by intro z; cases eq_of_beq z)]
          refine wpAny_bind (rc_noneO c hn G hr.in1 rfl I ha qn fun s2k H2k I2k x2k => wpAny_truthy_bool ?_)
          exact wpAny_pure ⟨rfl, .inr ⟨rfl, (fun z => nomatch z), H2k, I2k, x2k⟩⟩
      · obtain ⟨rfl, rfl⟩ := List.cons.inj e1k
        rcases hxk with rfl | ⟨a, dxk, fsk, rfl, ha, qn, qe⟩
        · exact absurd rfl e2k
        · obtain rfl : v = Value.ref a := rxk
          by_cases hah : h = a
          · subst hah
            refine wpAny_bind (SeqAt.EqAt.same (A := X.A.in1) (s := s1k) (.ref h) X.prog X.w X.xe _ ?_)
            exact wpAny_bind (wpAny_pure (wpAny_pure (wpAny_pure ⟨_, rfl, rfl, H1k, I1k, x1k⟩)))
          · refine wpAny_bind (GQ.eqBool_refG hah (rc_eqO c G hr.in1 rfl I1k (x1k _ _ hh) (x1k _ _ ha) (qe H1k x1k) fun s2k H2k I2k x2k => ⟨true, rfl, ?_⟩))
            exact wpAny_bind (wpAny_pure (wpAny_pure (wpAny_pure ⟨_, rfl, rfl, H2k, I2k, x1k.trans x2k⟩)))
    · rintro b s1k ⟨hb, hI⟩
      rcases hI with ⟨e1k, _⟩ | ⟨e1k, _⟩ <;> cases e1k
  refine wpAny_bind (wpAny_callSpecialUnlessNone?_slot (name := Str.ofString "__contains__") ht.typeIs F.slot_tuple_contains
    (wpAny_call_entry F.slot_tuple_contains ht.typeIs F.entry_tuple_contains (wpAny_mono body (fun fin s1k ⟨w, e1k, e2k, H', I', x'⟩ => ⟨w, e1k, ?_⟩) fun _ _ z => z) (F.args_tuple_contains_2 _ _)))
  subst e2k
  exact wpAny_truthy_bool (wpAny_pure ⟨.bl false, H', I', rfl, q H' x'⟩)
end
end K81
set_option Elab.async false
set_option linter.all false
set_option maxRecDepth 100000
set_option maxHeartbeats 1900000
namespace K81
open PySem L2 PyProof.Rows HT
/-! ### t[::-1] of a tuple -/
section
variable {w : World} {prog : Program} {A : Around} {E : Value → Shared → Prop} {s : Shared}
theorem adjust_rev (n : Nat) : Builtin.Slice.sliceAdjust none none (-1) (n : Int) = ((n : Int) - 1, -1) := by
  (unfold Builtin.Slice.sliceAdjust)
  simp
theorem places_rev (n : Nat) : Builtin.Slice.slicePlaces ((n : Int) - 1) (-1) (-1) = n := by
  unfold Builtin.Slice.slicePlaces; have h1k : ¬ ((-1 : Int) > 0) := by omega
  simp only [h1k, if_false]; by_cases h : (n : Int) - 1 > -1
  · rw [if_pos h]
    rw [show (- -1 : Int) = 1 from by decide, Int.ediv_one]
    omega
  · rw [if_neg h]
    omega
theorem applied_rev {sl : Addr} {u : Tok} {n : Nat} {Q : Int × Int × Nat → Shared → Prop} (hs : s.heap.IsSliceOf sl .none .none (.int (-1) u))
    (h : Q ((n : Int) - 1, -1, n) s) : wpAny (model prog w) A (Builtin.Slice.sliceApplied (.ref sl) (pure (n : Int))) Q E s := by
  obtain ⟨osk, hosk, hcsk, hdsk⟩ := id hs
  unfold Builtin.Slice.sliceApplied Builtin.Slice.sliceFields; refine wpAny_bind (wpAny_bind (wpAny_field hosk hdsk (x := .none) rfl (wpAny_bind (wpAny_field hosk hdsk (x := .none) rfl (wpAny_bind (wpAny_field hosk hdsk (x := .int (-1) u) rfl (wpAny_pure ?_)))))))
  refine wpAny_bind (slicePart_int ?_)
  show wpAny _ _ (if ((-1 : Int) == 0) = true then _ else _) _ _ s
  rw [if_neg (by decide)]
  refine wpAny_bind (slicePart_none (wpAny_bind (slicePart_none (wpAny_bind (wpAny_pure ?_)))))
  show wpAny _ _ (match Builtin.Slice.sliceAdjust none none (-1) (n : Int) with | (lo, hi) => pure (lo, (-1 : Int), Builtin.Slice.slicePlaces lo hi (-1))) _ _ s
  rw [adjust_rev]
  show wpAny _ _ (pure ((n : Int) - 1, (-1 : Int), Builtin.Slice.slicePlaces ((n : Int) - 1) (-1) (-1))) _ _ s
  rw [places_rev]
  exact wpAny_pure h
theorem pick_rev (xs : Array Value) : ((List.range xs.size).filterMap fun (m : Nat) => xs[((xs.size : Int) - 1 + (m : Int) * -1).toNat]?).toArray = xs.toList.reverse.toArray := by
  have e : ((List.range xs.size).filterMap fun (m : Nat) => xs[((xs.size : Int) - 1 + (m : Int) * -1).toNat]?) = ((List.range xs.size).map (fun m => xs.size - 1 - m)).filterMap (xs[·]?) := by
    rw [List.filterMap_map]
    have key : ∀ l : List Nat, (∀ m ∈ l, m < xs.size) → l.filterMap (fun (m : Nat) => xs[((xs.size : Int) - 1 + (m : Int) * -1).toNat]?) = l.filterMap ((fun x => xs[x]?) ∘ fun m => xs.size - 1 - m) := by
      intro l
      induction l with
      | nil => intro _; rfl
      | cons m l ih =>
        intro hl
        have hm := hl m (List.mem_cons_self ..)
        have em : ((xs.size : Int) - 1 + (m : Int) * -1).toNat = xs.size - 1 - m := by omega
        rw [List.filterMap_cons, List.filterMap_cons, ih fun z hzk => hl z (List.mem_cons_of_mem _ hzk), em]
        rfl
    exact key _ fun m hm => List.mem_range.mp hm
  rw [e, PySem.W.krv_range, List.filterMap_reverse, PySem.W.krv_all]
theorem getItem_tuple_rev {t sl : Addr} {items : Array Value} {u : Tok} {Q : Value → Shared → Prop} (ht : IsTup s.heap t items) (hs : s.heap.IsSliceOf sl .none .none (.int (-1) u))
    (h : Q (.ref s.heap.objs.size) { s with heap := s.heap.push { cls := .type "tuple", data := .seq items.toList.reverse.toArray } })
    (hsz : items.size ≤ sizeLine) :
    wpAny (model prog w) A (getItem (.ref t) (.ref sl)) Q E s := by
  have hzk : sizeOk (.seq items.toList.reverse.toArray) := by
    show items.toList.reverse.toArray.size ≤ sizeLine
    simpa using hsz
  obtain ⟨osk, hosk, hcsk, hdsk⟩ := id hs
  have hTsk : s.TypeIs (.ref sl) "slice" := ⟨osk, hosk, hcsk⟩
  unfold getItem
  refine wpAny_holding ?_
  refine wpAny_bind (wpAny_sequenceKey ht.typeIs (by decide) ?_); refine wpAny_bind (wpAny_callSpecial?_slot (name := Str.ofString "__getitem__") ht.typeIs PyProof.Rows.slot_tuple_getitem
    (wpAny_call_entry PyProof.Rows.slot_tuple_getitem ht.typeIs entry_tuple_getitem ?_
      (args_tuple_getitem _ _)))
  show wpAny _ _ (Builtin.Tuple.tupleItemsOf (.ref t) >>= _) _ _ s; refine wpAny_bind (tupleItemsOf_ ht ?_)
  refine wpAny_bind (wpAny_typeOf hTsk ?_)
  rw [if_pos (by decide)]
  refine wpAny_bind (applied_rev hs ?_)
  show wpAny _ _ (if (((items.size : Int) - 1 == 0) && ((-1 : Int) == 1) && (items.size == items.size)) = true then _ else _) _ _ s
  rw [if_neg (by rw [show ((-1 : Int) == 1) = false from rfl, Bool.and_false, Bool.false_and]; exact Bool.false_ne_true), pick_rev]
  first
    | exact wpAny_bind (m := Builtin.Tuple.tupleExact _) (wpAny_newObj_type (wpAny_pure ⟨_, rfl, wpAny_pure h⟩) hzk)
    | exact wpAny_bind (m := Builtin.Tuple.tupleExact _) (wpAny_newObj_type (wpAny_bind (wpAny_pure (wpAny_pure ⟨_, rfl, wpAny_pure h⟩))) hzk)
    | exact wpAny_bind (wpAny_bind (m := Builtin.Tuple.tupleExact _) (wpAny_newObj_type (wpAny_pure (wpAny_pure ⟨_, rfl, wpAny_pure h⟩)) hzk))
end
def tRevT (K : Fr) (te : TE) : TE := fun σ H Q => te σ H fun x H1k => ∃ a xs, x = .ref a ∧ SqT K H1k a xs ∧ ∀ p, H1k p = none → Q (.ref p) (upd H1k p (.tup xs.reverse))
theorem pe_revT {X : Cx} {e : Expr} {te : TE} {k : Nat} {p1k p2k p3k pos : Pos} (he : PE X e te) : PE X (.Subscript e (.Slice none none (some (.UnaryOp .USub (.Constant (.int 1) k p1k) p2k)) p3k) pos) (tRevT X.K te) := by
  refine ⟨fun pins s σ H Q I h => ?_⟩; refine Subscript_ (thn (he.run pins s σ H _ I h) fun v s1k ⟨x, H1k, I1k, r1k, q1k⟩ => ?_)
  obtain ⟨a, xs, ex, hxk, q⟩ := q1k
  subst ex
  cases r1k
  have hst : PO X (some (.UnaryOp .USub (.Constant (.int 1) k p1k) p2k)) (tPart (tUn (rU fun i => .int (-i)) (tC (.int 1)))) := po_some (pe_un un_neg pe_int)
  refine wpAny_Slice (thn (po_none.run pins s1k σ H1k (fun o H2k => o = none ∧ H2k = H1k) I1k ⟨rfl, rfl⟩) fun vl s2k ⟨l, H2k, I2k, pl, el, e2k⟩ => ?_)
  subst el e2k
  refine thn (po_none.run pins s2k σ H2k (fun o H3k => o = none ∧ H3k = H2k) I2k ⟨rfl, rfl⟩) fun vu s3k ⟨u, H3k, I3k, pu, eu, e3k⟩ => ?_
  subst eu e3k
  refine thn (hst.run pins s3k σ H3k (fun o H4k => o = some (-1) ∧ H4k = H3k) I3k ⟨1, rfl, -1, rfl, rfl, rfl⟩) fun vs s4k ⟨o, H4k, I4k, ps, eo, e4k⟩ => ?_
  subst eo e4k
  cases pl
  cases pu
  cases ps with
  | int i tk =>
  have I5k : Inv X pins σ H4k { s4k with heap := s4k.heap.push { cls := .type "slice", data := .fields #[.none, .none, .int (-1) tk] } } := I4k.kept (t' := s4k.toks) fun b ob q => Heap.get?_push_of_some _ q
  obtain ⟨itsk, r, ht, hzk⟩ := I5k.tuple hxk
  have hlen := r.length
  show wpAny (model X.prog X.w) X.A (subscriptTail e (.Slice none none (some (.UnaryOp .USub (.Constant (.int 1) k p1k) p2k)) p3k) (.ref a) (.ref s4k.heap.objs.size)) (EP X pins σ Q) X.xe { s4k with heap := s4k.heap.push { cls := .type "slice", data := .fields #[.none, .none, .int (-1) tk] } }
  refine tail_any (ops := [.ref a, .ref s4k.heap.objs.size]) ht.typeIs PyProof.Rows.slot_tuple_getitem.lookup ?_ (by with_unfolding_all rfl)
  refine getItem_tuple_rev ht (Heap.IsSliceOf.new _ .none .none (.int (-1) tk)) ?_ (by rw [List.size_toArray]; omega)
  refine ⟨.ref _, _, I5k.laid (t' := s4k.toks) (o := .tup xs.reverse) (fun b ob q => Heap.get?_push_of_some _ q) (Nat.le_refl _) ?_, rfl, q _ (I5k.hok.fresh (Nat.le_refl _))⟩
  exact ⟨by rw [List.length_reverse]; exact hzk, _, r.reverse, IsTup.new _ _⟩
end K81
set_option Elab.async false
set_option linter.all false
set_option maxRecDepth 100000
set_option maxHeartbeats 3900000
namespace K81
open PySem L2 PyProof.Rows
/-! ### set(xs) of a list of ints, as sorted and len read it -/
abbrev eSet (w : World) : Obj := { cls := .type "set", dict := none, data := .set #[] 0 (.fresh 0 0 (!w.params.followText "set-order")) }
section
variable {w : World} {P : Program} {A : Around} {E : Value → Shared → Prop} {s : Shared}
theorem set_lstI {l : Addr} {xs : Array Value} (ns : List Int) {Q : Value → Shared → Prop} (hh : A.handled = none) (hl : s.heap.IsList l xs) (hxk : IntsAre xs.toList ns) (hb : ns.length + 1 < scanBound)
    (h : ∀ (h' : Heap) (tk c : Nat), SetR w h' s.heap.objs.size (fun j => decide (j ∈ ns)) c → c ≤ ns.length → (∀ b o, s.heap.get? b = some o → h'.get? b = some o) → Q (.ref s.heap.objs.size) { s with heap := h', toks := tk }) :
    wpAny (model P w) A (call (.type "set") [.ref l]) Q E s := by
  have nx : xs.size = ns.length := by
    have q := IntsAre.length hxk
    rwa [Array.length_toList] at q
  obtain ⟨c, tl, m0k⟩ := F.called_set.mro
  have m1k := F.called_set.made
  have m2k := F.called_set.sub
  refine wpAny_call (codeAny_of_tree ?_); show wpAny _ _ (callAny (.type "set") _) _ _ _
  refine wpAny_pure ⟨Code.quiet_builtin _ (by decide +kernel), codeAny_builtin F.entry_type_call ?_⟩; rw [Around.under_plain (weight_type_call_type "set" [.ref l] []) rfl]
  have m3k := F.called_set.notType
  have m4k := F.called_set.canCreate
  have m5k := F.typeCall_set_1 (.ref l)
  repeat any_goals (first | assumption | wp_step)
  refine codeAny_mono (code_set_led1 (.ref l) (E := E) (Q₁ := fun obj s1k => obj = .ref s.heap.objs.size ∧ s1k = { s with heap := s.heap.push (eSet w) }) ⟨rfl, rfl⟩) fun r s1k hr => ?_
  cases r with
  | error e => exact hr
  | ok fl =>
    cases fl with
    | next => exact hr.elim
    | brk => exact hr.elim
    | cont => exact hr.elim
    | ret obj =>
      obtain ⟨rfl, rfl⟩ := hr
      have gS : (s.heap.push (eSet w)).get? s.heap.objs.size = some (eSet w) := Heap.get?_push_size _ rfl
      have tS : Shared.TypeIs { s with heap := s.heap.push (eSet w) } (.ref s.heap.objs.size) "set" := ⟨_, gS, rfl⟩
      have i1k := F.called_set.init.lookup
      have i2k := F.called_set.init.bind (.ref s.heap.objs.size)
      repeat any_goals (first | assumption | wp_step)
      refine codeAny_mono (codeAny_call_builtin (R := wants (fun r s2k => r = .none ∧ ∃ h' tk c, s2k = { s with heap := h', toks := tk } ∧ SetR w h' s.heap.objs.size (fun j => decide (j ∈ ns)) c ∧ c ≤ ns.length ∧
          (∀ b o, s.heap.get? b = some o → h'.get? b = some o)) E) F.called_set.init.plain F.entry_set_init (check_set_init_1 tS ?_)) fun r2k s2k hr2 => ?_
      · obtain ⟨ol, hol, hcl, nl, hdl⟩ := id hl
        obtain ⟨oc, odk, odata, osl⟩ := ol
        simp only at hcl hdl
        subst hcl; subst hdl
        have gL : (s.heap.push (eSet w)).get? l = some { cls := .type "list", dict := odk, data := .seq xs nl, slots := osl } := Heap.get?_push_of_some _ hol
        have u1k := F.sub_list_set
        have u2k := F.sub_list_frozenset
        have u3k : (Value.type "list" == Value.type "dict") = false := by decide
        have isl : (s.heap.push (eSet w)).IsList l xs := ⟨_, gL, rfl, nl, rfl⟩; unfold Builtin.«set.__init__» noKeywords Builtin.Frozenset.updateFrom
        generalize hPI : pyIter = PI
        wp_walk
        subst hPI
        refine wpAny_pyIter_list isl ?_
        refine wpAny_bind (wpAny_runValue ?_); have lS : l < s.heap.objs.size := Heap.lt_size hol
        have nI : l ≠ (s.heap.push (eSet w)).objs.size := by
          rw [Heap.size_push]
          exact Nat.ne_of_lt (Nat.lt_succ_of_lt lS)
        have sF : s.heap.objs.size ∉ [(s.heap.push (eSet w)).objs.size, l] := by
          rw [Heap.size_push]
          simp only [List.mem_cons, List.not_mem_nil, or_false, not_or]
          exact ⟨Nat.ne_of_lt (Nat.lt_succ_self _), Nat.ne_of_gt lS⟩
        have vals : ∀ (i : Nat) (v : Value), xs[i]? = some v → ∃ k t, ns[i]? = some k ∧ v = .int k t := fun i v hv => by
          have hi : i < ns.length := by rw [← nx]; exact (Array.getElem?_eq_some_iff.mp hv).1
          obtain ⟨t, e⟩ := PyProof.Rows.IntsAre.int_at hxk i v (by rw [Array.getElem?_toList]; exact hv)
          refine ⟨ns[i], t, List.getElem?_eq_getElem hi, ?_⟩; rw [e, List.getD_eq_getElem?_getD, List.getElem?_eq_getElem hi]
          rfl
        refine set_update_ints ((Walks.list (by simp [hh]) _ l nI xs).toS) s.heap.objs.size sF ns nx hb vals (xs.size - 0) 0 _ (by omega) (Nat.zero_le _)
          ⟨⟨_, Heap.get?_push_size _ rfl, rfl, rfl⟩, (isl.push _)⟩ ?hS0 ?hR
        case hS0 =>
          have g2k : ((s.heap.push (eSet w)).push { cls := .type "list_iterator", data := .fields #[.ref l, .int 0 0] }).get? s.heap.objs.size = some (eSet w) := Heap.get?_push_of_some _ gS
          exact ⟨0, Nat.le_refl 0, setR_new_at g2k⟩
        case hR =>
          intro s3k c3k hm hc3 hS3
          obtain ⟨h3k, g3k, d3k, k3k, o3k⟩ := s3k
          have eg : g3k = s.gens := hm.gens
          have ed : d3k = s.drawn := hm.drawn
          have eo : o3k = s.os := hm.os
          subst eg; subst ed; subst eo
          refine wpAny_pure ?_
          show wpAny _ _ (ret Value.none) _ _ _; rw [nx] at hc3
          refine wpAny_pure ⟨rfl, h3k, k3k, c3k, rfl, hS3, hc3, fun b o e => ?_⟩
          have b0k : b < s.heap.objs.size := Heap.lt_size e
          refine hm.heap b o ?_ (Heap.get?_push_of_some _ (Heap.get?_push_of_some _ e))
          rw [Heap.size_push]
          simp only [List.mem_cons, List.not_mem_nil, or_false, not_or]
          exact ⟨Nat.ne_of_lt b0k, Nat.ne_of_lt (Nat.lt_succ_of_lt b0k)⟩
      · cases r2k with
        | error e => exact hr2
        | ok fl2 =>
          cases fl2 with
          | next => exact hr2.elim
          | brk => exact hr2.elim
          | cont => exact hr2.elim
          | ret r =>
            obtain ⟨rfl, h', tk, c', rfl, q1k, q2k, q3k⟩ := hr2
            repeat any_goals (first | assumption | wp_step)
            exact h _ _ _ q1k q2k q3k
end
section
variable {X : Cx}
/-- set(xs), xs a list of ints -/
def rSetI (K : Fr) (w : World) : List V → Hp → VK → Prop := fun vs H Q => ∃ (a : Addr) (ns : List Int), vs = [.ref a] ∧ SqL K H a (ns.map V.int) ∧ ns.length ≤ 1000 ∧
  ∀ p n, H p = none → n ≤ ns.length → Q (.ref p) (upd H p (SetO w p (fun j => decide (j ∈ ns)) n))
theorem cr_setI (hc : X.calm = true) : CallR X (.type "set") (rSetI X.K X.w) := by
  intro pins s σ H xs us Q I r h; obtain ⟨a, ns, rfl, ha, hzk, q⟩ := h
  cases r with
  | cons r1k r2k =>
    cases r2k
    cases r1k
    obtain ⟨itsk, r, pl, _⟩ := I.list ha
    refine set_lstI ns (I.ok.hd hc) pl.isList (by simpa using intsAre_of r) (by unfold scanBound; omega) fun h' tk c R hc2 hk => ?_
    have new : ObjOk X.prog X.w (upd H s.heap.objs.size (SetO X.w s.heap.objs.size (fun j => decide (j ∈ ns)) c)) h' s.heap.objs.size (SetO X.w s.heap.objs.size (fun j => decide (j ∈ ns)) c) := setO_new R
    exact ⟨.ref _, upd H s.heap.objs.size (SetO X.w s.heap.objs.size (fun j => decide (j ∈ ns)) c), I.laid (t' := tk) hk (Nat.le_refl _) new, rfl, q _ c (I.hok.fresh (Nat.le_refl _)) hc2⟩
end
end K81
set_option Elab.async false
set_option linter.all false
set_option maxRecDepth 100000
set_option maxHeartbeats 3900000
namespace K81
open PySem L2
/-! ### enumerate(t), t a tuple -/
theorem enumNewT (t : Addr) (items : Array Value) :
    Meets (Builtin.«enumerate.__new__» ⟨[.type "enumerate", .ref t], []⟩) (fun _ R s => s.heap.IsTuple t items ∧
      R (.ok (.ret (.ref (s.heap.push { cls := .type "tuple_iterator", data := .fields #[.ref t, .int 0 0] }).objs.size)))
        { s with heap := (s.heap.push { cls := .type "tuple_iterator", data := .fields #[.ref t, .int 0 0] }).push { cls := .type "enumerate", data := .fields #[.none, .bool false, .ref s.heap.objs.size, rawInt 0, .none, .none] } }) :=
  .of_wp fun prog w A Rs s h => by
    obtain ⟨hp, g, d, tk, osk⟩ := s; obtain ⟨h1k, h⟩ := h
    have hsub := sub_enumerate
    have q1k : ∀ {A' : Around} {E : Value → Shared → Prop} {Q : Value → Shared → Prop}, Q (.ref hp.objs.size) ⟨hp.push { cls := .type "tuple_iterator", data := .fields #[.ref t, .int 0 0] }, g, d, tk, osk⟩ → wpAny (model prog w) A' (pyIter (.ref t)) Q E ⟨hp, g, d, tk, osk⟩ :=
      fun q => (begins_tuple t items).iter prog w _ _ ⟨hp, g, d, tk, osk⟩ _ h1k q
    wp_walk using q1k
    refine wpAny_stack_any fun stk => wpAny_pure ?_
    split
    · rename_i c _ _ _ _ _
      cases (c == Value.type "enumerate")
      · wp_walk using q1k
        exact ⟨_, rfl, h⟩
      · wp_walk using q1k
        exact ⟨_, rfl, h⟩
    · wp_walk using q1k
      exact ⟨_, rfl, h⟩
section
variable {w : World} {prog : Program} {A : Around} {E : Value → Shared → Prop} {s : Shared}
theorem enumT {t : Addr} {items : Array Value} {Q : Value → Shared → Prop} (h1k : s.heap.IsTuple t items)
    (h : ∀ h', IsEnum h' (s.heap.objs.size + 1) s.heap.objs.size 0 .none → h'.IsTupleIter s.heap.objs.size t 0 → h'.objs.size = s.heap.objs.size + 2 →
      (∀ b o, s.heap.get? b = some o → h'.get? b = some o) → Q (.ref (s.heap.objs.size + 1)) { s with heap := h' }) :
    wpAny (model prog w) A (call (.type "enumerate") [.ref t]) Q E s := by
  refine callType_new F.called_enumerate (by decide) (F.typeCall_enumerate_1 _) (F.newCall_enumerate_1 _) (fun obj => F.args_object_init_2 obj _) F.entry_enumerate_new (enumNewT t items) ⟨h1k, ?_⟩
  have z : (s.heap.push { cls := .type "tuple_iterator", data := .fields #[.ref t, .int 0 0] }).objs.size = s.heap.objs.size + 1 := Heap.size_push ..
  show _ ∧ _
  rw [z]
  have he : IsEnum ((s.heap.push { cls := .type "tuple_iterator", data := .fields #[.ref t, .int 0 0] }).push { cls := .type "enumerate", data := .fields #[.none, .bool false, .ref s.heap.objs.size, rawInt 0, .none, .none] }) (s.heap.objs.size + 1) s.heap.objs.size 0 .none := by
    have q := Heap.get?_push_size (s.heap.push { cls := .type "tuple_iterator", data := .fields #[.ref t, .int 0 0] }) (o := { cls := .type "enumerate", data := .fields #[.none, .bool false, .ref s.heap.objs.size, rawInt 0, .none, .none] }) rfl
    rw [z] at q
    exact q
  exact ⟨⟨_, he, rfl⟩, h _ he ⟨_, Heap.get?_push_of_some _ (Heap.get?_push_size _ rfl), rfl, rfl⟩ (by rw [Heap.size_push, z]) fun b o x => Heap.get?_push_of_some _ (Heap.get?_push_of_some _ x)⟩
end
/-- the tuple at a, each item in a new pair with itsk number -/
def IteT (K : Fr) (a : Addr) : It :=
  ⟨fun i H => ∃ (xs : List V) (x : V), SqT K H a xs ∧ xs[i]? = some x, fun i H v H' => ∃ T x, v = .ref T ∧ H T = none ∧ H' = upd H T (.tup [.int (i : Nat), x]) ∧ ∀ xs, SqT K H a xs → xs[i]? = some x, fun i H => ∃ xs : List V, SqT K H a xs ∧ xs.length = i⟩
theorem turn_enumT {P : Program} {w : World} {K : Fr} {elts : List Expr} {kk : Nat} {tpos : Pos} (a e it : Addr) :
    Turn P w K (.Tuple elts kk tpos) (IteT K a) [e, it] e (fun i h => (∃ oldk, IsEnum h e it ((i : Nat) : Int) oldk) ∧ h.IsTupleIter it a i ∧ e ≠ it ∧ a ≠ it ∧ e ≠ a) where
  mem := by simp
  obj := fun i h st b hb => by
    obtain ⟨⟨oldk, he⟩, ⟨o, ho, hc, hd⟩, _⟩ := st
    have z : b = e ∨ b = it := by simpa using hb
    rcases z with z | z
    · rw [z]; exact ⟨_, he, fun v g => nomatch g⟩
    · rw [z]; exact ⟨o, ho, fun v g => by rw [hd] at g; cases g⟩
  keep := fun i h h' st k => let ⟨⟨oldk, he⟩, hi, hn⟩ := st; ⟨⟨oldk, k e (by simp) _ he⟩, hi.at fun o q => k it (by simp) o q, hn⟩
  item := by
    intro X hP hw hK hc i pz s σ H E I hf st hg
    subst hP hw hK
    obtain ⟨⟨oldk, he⟩, hit, n1, n2, n3k⟩ := st
    obtain ⟨xs, x, hqk, hxk⟩ := hg
    obtain ⟨itsk, rvk, pt, _⟩ := I.tuple hqk
    obtain ⟨u, hu, ruk⟩ := rvk.get hxk
    have le : e < s.heap.objs.size := Heap.lt_size he
    have li : it < s.heap.objs.size := by obtain ⟨_, q, _⟩ := hit; exact Heap.lt_size q
    have D := Draws.tuple (prog := X.prog) (w := X.w) (A := X.A.in1) (I.ok.hd hc) it a n2 itsk.toArray
    refine wpAny_pyNext_enum_itemD D he ⟨hit, pt⟩ (by have := rvk.length; have := (List.getElem?_eq_some_iff.mp hxk).1; simp; omega) n1 (by simp [n1, n3k]) fun y h' tk hyk ho hst hT hsz hk => ?_
    have eyu : y = u := by
      have z : itsk.toArray[i]? = some u := by simpa using hu
      exact Option.some.inj (hyk.symm.trans z)
    subst eyu
    refine ⟨_, rfl, wpAny_letOwnedTupleGo_enum (s := { s with heap := h', toks := tk + 1 }) ho fun h2k he2 sb => ?_⟩
    have hT2 : h2k.get? s.heap.objs.size = some { cls := .type "tuple", data := .seq #[.int i tk, y] } := (sb.2 _ (Nat.ne_of_gt le)).trans hT
    have new : ObjOk X.prog X.w (upd H s.heap.objs.size (.tup [.int (i : Nat), x])) h2k s.heap.objs.size (.tup [.int (i : Nat), x]) :=
      ⟨by show 2 ≤ sizeLine; decide, [.int i tk, y], .cons ⟨_, rfl⟩ (.cons ruk .nil), ⟨_, hT2, rfl, _, rfl⟩⟩
    have I1k : Inv X pz σ (upd H s.heap.objs.size (.tup [.int (i : Nat), x])) { s with heap := h2k, toks := tk + 1 } :=
      I.turnedNew (ch := [e, it]) (fun b ob hb q => (sb.2 b (fun z => hb (by simp [z]))).trans (hk b ob (fun z => hb (by simp [z])) (fun z => hb (by simp [z])) q)) hf (Nat.le_refl _) new
    refine ⟨.ref s.heap.objs.size, _, I1k, rfl, ⟨_, x, rfl, I.hok.fresh (Nat.le_refl _), rfl, fun ys hyk => by rw [I.tuple_inj hyk hqk]; exact hxk⟩, ⟨⟨y, ?_⟩, hst.1.at fun o q => (sb.2 it (Ne.symm n1)).trans q, n1, n2, n3k⟩, fun b hb => ?_⟩
    · have e1k : ((i + 1 : Nat) : Int) = (i : Int) + 1 := by omega
      rw [e1k]; exact he2
    · have hb' : s.heap.objs.size > b := by
        have z : b = e ∨ b = it := by simpa using hb
        rcases z with z | z
        · rw [z]; exact le
        · rw [z]; exact li
      rw [upd_ne (Nat.ne_of_lt hb')]; exact (hf b hb).1
  done := by
    intro X hP hw hK hc i pz s σ H E I hf st hg
    subst hP hw hK
    obtain ⟨⟨oldk, he⟩, hit, n1, n2, n3k⟩ := st
    obtain ⟨xs, hqk, hxk⟩ := hg
    obtain ⟨itsk, rvk, pt, _⟩ := I.tuple hqk
    obtain ⟨f0k, f1k, f2k, f3k, f4k, f5k⟩ := hf it (by simp)
    have D := Draws.tuple (prog := X.prog) (w := X.w) (A := X.A.in1) (I.ok.hd hc) it a n2 itsk.toArray
    have ei : i = itsk.toArray.size := by rw [List.size_toArray, ← rvk.length, hxk]
    subst ei
    exact wpAny_pyNext_enum_endD D he ⟨hit, pt⟩ fun h' eb => ⟨rfl, I.turned (t' := s.toks) (fun b o hb q => eb b o hb q) f0k f1k f3k f4k f5k⟩
  self := fun Ar i s Q E st h => let ⟨⟨_, he⟩, _⟩ := st; wpAny_pyIter_enum he h
def iEnumT (K : Fr) (ta : TA) : TI := fun σ H R => ta σ H fun vs H1k => ∃ a xs, vs = [.ref a] ∧ SqT K H1k a xs ∧ R (IteT K a) H1k
theorem pi_enumT {X : Cx} {e : Expr} {ta : TA} {p pos tpos : Pos} {elts : List Expr} {kk : Nat} (hg : Gl X "enumerate") (hm : X.mg "enumerate" = none) (ha : PA X [e] ta) (hs : starEach [e] X.env = [(false, eval e X.env)] := by rfl) :
    PI X (.Tuple elts kk tpos) (.Call (.Name "enumerate" p) [e] [] pos) (iEnumT X.K ta) := by
  refine ⟨fun pins s σ H R I h => ?_⟩; refine PyProof.Rows.Call_ (ld_blt I hg hm PyProof.Rows.boot_enumerate (PyProof.Rows.callWith_type1 (thn (ha.run pos pins s σ H _ I h) fun us s1k ⟨vs, H1k, I1k, r1k, q1k⟩ => ?_) hs rfl))
  obtain ⟨a, xs, ex, hqk, q⟩ := q1k
  subst ex
  cases r1k with
  | cons r rr =>
    cases rr
    cases r
    obtain ⟨itsk, rvk, pt, _⟩ := I1k.tuple hqk
    have la : a < s1k.heap.objs.size := by
      obtain ⟨_, o, _⟩ := pt
      exact Heap.lt_size o
    refine enumT pt fun h' he hit hsz hk => wpAny_pyIter_enum he ?_
    have I2k : Inv X pins σ H1k { s1k with heap := h' } := I1k.kept (t' := s1k.toks) hk
    refine ⟨s1k.heap.objs.size + 1, [s1k.heap.objs.size + 1, s1k.heap.objs.size], _, _, H1k, rfl, I2k, turn_enumT a (s1k.heap.objs.size + 1) s1k.heap.objs.size, ⟨⟨.none, he⟩, hit, Nat.succ_ne_self _, Nat.ne_of_lt la, Nat.ne_of_gt (Nat.lt_succ_of_lt la)⟩, fun b hb => ?_, q⟩
    have z : b = s1k.heap.objs.size + 1 ∨ b = s1k.heap.objs.size := by simpa using hb
    have hlek : s1k.heap.objs.size ≤ b := by
      rcases z with z | z
      · (rw [z]; exact Nat.le_add_right _ _)
      · rw [z]; exact Nat.le_refl _
    exact I1k.fpOk hlek (I1k.hok.fresh hlek)
/-! ### zip(xs, t), a list and a tuple -/
def ItzM (K : Fr) (a b : Addr) : It :=
  ⟨fun i H => ∃ (xs ys : List V) (x y : V), SqL K H a xs ∧ SqT K H b ys ∧ xs.length = ys.length ∧ xs[i]? = some x ∧ ys[i]? = some y,
    fun i H v H' => ∃ T x y, v = .ref T ∧ H T = none ∧ H' = upd H T (.tup [x, y]) ∧ (∀ xs, SqL K H a xs → xs[i]? = some x) ∧ ∀ ys, SqT K H b ys → ys[i]? = some y,
    fun i H => ∃ xs ys : List V, SqL K H a xs ∧ SqT K H b ys ∧ xs.length = i ∧ ys.length = i⟩
theorem turn_zipM {P : Program} {w : World} {K : Fr} {elts : List Expr} {kk : Nat} {tpos : Pos} {a b z TI TO i1k i2k : Addr} (S : ZipSep2 z TI TO i1k i2k [i1k, a] [i2k, b]) (na : a ≠ i1k) (nb : b ≠ i2k) :
    Turn P w K (.Tuple elts kk tpos) (ItzM K a b) [z, TI, TO, i1k, i2k] z (fun i h => IsZip h z TI TO .none ∧ IsTupOf2 h TI (.ref i1k) (.ref i2k) ∧ (∃ x y, IsTupOf2 h TO x y) ∧ h.IsListIter i1k a i ∧ h.IsTupleIter i2k b i) where
  mem := by simp
  obj := fun i h st c hc => by
    obtain ⟨hzk, hTIk, ⟨x, y, hTOk⟩, ⟨o1k, e1k, _, d1k⟩, ⟨o2k, e2k, _, d2k⟩⟩ := st
    have e' : c = z ∨ c = TI ∨ c = TO ∨ c = i1k ∨ c = i2k := by simpa using hc
    rcases id e' with q | q | q | q | q
    · rw [q]; exact ⟨_, hzk, fun v q => nomatch q⟩
    · rw [q]; exact ⟨_, hTIk, fun v q => nomatch q⟩
    · rw [q]; exact ⟨_, hTOk, fun v q => nomatch q⟩
    · rw [q]; exact ⟨o1k, e1k, fun v q => by rw [d1k] at q; cases q⟩
    · rw [q]; exact ⟨o2k, e2k, fun v q => by rw [d2k] at q; cases q⟩
  keep := fun i h h' st k => by
    obtain ⟨hzk, hTIk, ⟨x, y, hTOk⟩, h1k, h2k⟩ := st
    exact ⟨k z (by simp) _ hzk, k TI (by simp) _ hTIk, ⟨x, y, k TO (by simp) _ hTOk⟩, h1k.at fun o q => k i1k (by simp) o q, h2k.at fun o q => k i2k (by simp) o q⟩
  item := by
    intro X hP hw hK hc i pz s σ H E I hf st hg
    subst hP hw hK
    obtain ⟨hzk, hTIk, hTOk, h1k, h2k⟩ := st
    obtain ⟨xs, ys, x, y, hqxk, hqyk, hxy, hxk, hyk⟩ := hg
    obtain ⟨itsk, rvk, p1k, _⟩ := I.list hqxk
    obtain ⟨its2k, rv2k, p2k, _⟩ := I.tuple hqyk
    obtain ⟨u, hu, ruk⟩ := rvk.get hxk
    obtain ⟨u2k, hu2, ru2k⟩ := rv2k.get hyk
    have D1 := Draws.list (prog := X.prog) (w := X.w) (A := X.A.in1) (I.ok.hd hc) i1k a na itsk.toArray
    have D2 := Draws.tuple (prog := X.prog) (w := X.w) (A := X.A.in1) (I.ok.hd hc) i2k b nb its2k.toArray
    have W := WalksT.zipD2 S D1 D2
    have li : i < min itsk.toArray.size its2k.toArray.size := by
      have := rvk.length
      have := rv2k.length
      have := (List.getElem?_eq_some_iff.mp hxk).1
      simp
      omega
    refine W.item i s _ _ li ⟨hzk, hTIk, hTOk, ⟨h1k, p1k.isList⟩, ⟨h2k, p2k⟩⟩ fun T vals h' tk hv hT0 hT hm hk => ?_
    obtain ⟨x1k, x2k, hx1, hx2, rfl⟩ := hv
    have e1k : x1k = u := by
      have z : itsk.toArray[i]? = some u := by simpa using hu
      exact Option.some.inj (hx1.symm.trans z)
    have e2k : x2k = u2k := by
      have z : its2k.toArray[i]? = some u2k := by simpa using hu2
      exact Option.some.inj (hx2.symm.trans z)
    subst e1k e2k
    have apT := W.apart _ _ _ hm
    refine ⟨_, rfl, W.go elts kk tpos i T { s with heap := h', toks := tk } _ _ hm fun h2k' st2 hk2 => ?_⟩
    have hT2 : h2k'.IsTuple T #[x1k, x2k] := hT.at fun o q => hk2 T o apT q
    have new : ObjOk X.prog X.w (upd H T (.tup [x, y])) h2k' T (.tup [x, y]) := ⟨by show 2 ≤ sizeLine; decide, [x1k, x2k], .cons ruk (.cons ru2k .nil), hT2⟩
    have I1k : Inv X pz σ (upd H T (.tup [x, y])) { s with heap := h2k', toks := tk } :=
      I.turnedNew (ch := [z, TI, TO, i1k, i2k]) (fun c o hb q => hk2 c o (fun z' => hb (by rcases (show c = z ∨ c = TO ∨ c = i1k ∨ c = i2k by simpa using z') with q | q | q | q <;> simp [q])) (hk c o (fun z' => hb (by rcases (show c = z ∨ c = TO ∨ c = i1k ∨ c = i2k by simpa using z') with q | q | q | q <;> simp [q])) q)) hf hT0 new
    refine ⟨.ref T, _, I1k, rfl, ⟨T, x, y, rfl, I.hok.fresh hT0, rfl, fun zs hz' => by rw [I.list_inj hz' hqxk]; exact hxk, fun zs hz' => by rw [I.tuple_inj hz' hqyk]; exact hyk⟩, ⟨st2.1, st2.2.1, st2.2.2.1, st2.2.2.2.1.1, st2.2.2.2.2.1⟩, fun c hc' => ?_⟩
    have lc : c < s.heap.objs.size := by
      have e' : c = z ∨ c = TI ∨ c = TO ∨ c = i1k ∨ c = i2k := by simpa using hc'
      obtain ⟨t1k, t2k, hTOk⟩ := hTOk; rcases e' with q | q | q | q | q
      · rw [q]; exact Heap.lt_size hzk
      · rw [q]; exact Heap.lt_size hTIk
      · rw [q]; exact Heap.lt_size hTOk
      · rw [q]; obtain ⟨_, q, _⟩ := h1k; exact Heap.lt_size q
      · rw [q]; obtain ⟨_, q, _⟩ := h2k; exact Heap.lt_size q
    rw [upd_ne (Nat.ne_of_lt (Nat.lt_of_lt_of_le lc hT0))]
    exact (hf c hc').1
  done := by
    intro X hP hw hK hc i pz s σ H E I hf st hg
    subst hP hw hK
    obtain ⟨hzk, hTIk, hTOk, h1k, h2k⟩ := st
    obtain ⟨xs, ys, hqxk, hqyk, e1k, e2k⟩ := hg
    obtain ⟨itsk, rvk, p1k, _⟩ := I.list hqxk
    obtain ⟨its2k, rv2k, p2k, _⟩ := I.tuple hqyk
    have D1 := Draws.list (prog := X.prog) (w := X.w) (A := X.A.in1) (I.ok.hd hc) i1k a na itsk.toArray
    have D2 := Draws.tuple (prog := X.prog) (w := X.w) (A := X.A.in1) (I.ok.hd hc) i2k b nb its2k.toArray
    have W := WalksT.zipD2 S D1 D2
    have s1k : itsk.toArray.size = i := by rw [List.size_toArray, ← rvk.length, e1k]
    have s2k : its2k.toArray.size = i := by rw [List.size_toArray, ← rv2k.length, e2k]
    refine W.done s _ _ (by rw [s1k, s2k, Nat.min_self]; exact ⟨hzk, hTIk, hTOk, ⟨h1k, p1k.isList⟩, ⟨h2k, p2k⟩⟩) fun h' tk hk => ⟨rfl, ?_⟩
    exact I.turnedL (ch := [z, TI, TO, i1k, i2k]) (fun c o hb q => hk c o (fun z' => hb (by
      have e' : c = z ∨ c = TO ∨ c = i1k ∨ c = i2k := by simpa using z'
      rcases e' with q | q | q | q <;> simp [q])) q) hf
  self := fun Ar i s Q E st h => wpAny_pyIter_zip st.1 h
def iZipM (K : Fr) (ta : TA) : TI := fun σ H R => ta σ H fun vs H1k => ∃ a b xs ys, vs = [.ref a, .ref b] ∧ SqL K H1k a xs ∧ SqT K H1k b ys ∧ R (ItzM K a b) H1k
theorem pi_zipM {X : Cx} {e e2k : Expr} {ta : TA} {p pos tpos : Pos} {elts : List Expr} {kk : Nat} (hg : Gl X "zip") (hm : X.mg "zip" = none) (ha : PA X [e, e2k] ta)
    (hs : starEach [e, e2k] X.env = (false, eval e X.env) :: starEach [e2k] X.env := by rfl) (hpl : (backTo pos (starEach [e2k] X.env)).any (·.1) = false := by rfl) :
    PI X (.Tuple elts kk tpos) (.Call (.Name "zip" p) [e, e2k] [] pos) (iZipM X.K ta) := by
  refine ⟨fun pins s σ H R I h => ?_⟩; refine PyProof.Rows.Call_ (ld_blt I hg hm PyProof.Rows.boot_zip (PyProof.Rows.callWith_type1 (thn (ha.run pos pins s σ H _ I h) fun us s1k ⟨vs, H1k, I1k, r1k, q1k⟩ => ?_) hs hpl))
  obtain ⟨a, b, xs, ys, ex, hqxk, hqyk, q⟩ := q1k
  subst ex
  cases r1k with
  | cons r rr =>
    cases rr with
    | cons r' rr =>
      cases rr
      cases r
      cases r'
      obtain ⟨itsk, rvk, p1k, _⟩ := I1k.list hqxk
      obtain ⟨its2k, rv2k, p2k, _⟩ := I1k.tuple hqyk
      have la : a < s1k.heap.objs.size := p1k.lt
      have lb : b < s1k.heap.objs.size := by
        obtain ⟨_, o, _⟩ := id p2k
        exact Heap.lt_size o
      refine zip_begins2 (begins_list a itsk.toArray) (begins_tuple b its2k.toArray) p1k.isList p2k fun h' hzk hTIk hTOk h1k h2k hsz hk => wpAny_pyIter_zip hzk ?_
      have I2k : Inv X pins σ H1k { s1k with heap := h' } := I1k.kept (t' := s1k.toks) hk
      have S : ZipSep2 (s1k.heap.objs.size + 4) (s1k.heap.objs.size + 2) (s1k.heap.objs.size + 3) s1k.heap.objs.size (s1k.heap.objs.size + 1) [s1k.heap.objs.size, a] [s1k.heap.objs.size + 1, b] := by
        constructor <;> simp only [List.mem_cons, List.not_mem_nil, or_false, ne_eq, not_or, true_or] <;> grind
      refine ⟨s1k.heap.objs.size + 4, [s1k.heap.objs.size + 4, s1k.heap.objs.size + 2, s1k.heap.objs.size + 3, s1k.heap.objs.size, s1k.heap.objs.size + 1], _, _, H1k, rfl, I2k, turn_zipM S (Nat.ne_of_lt la) (Nat.ne_of_lt (Nat.lt_succ_of_lt lb)), ⟨hzk, hTIk, ⟨_, _, hTOk⟩, ⟨_, h1k, rfl, rfl⟩, ⟨_, h2k, rfl, rfl⟩⟩, fun c hcm => ?_, q⟩
      have e' : c = s1k.heap.objs.size + 4 ∨ c = s1k.heap.objs.size + 2 ∨ c = s1k.heap.objs.size + 3 ∨ c = s1k.heap.objs.size ∨ c = s1k.heap.objs.size + 1 := by simpa using hcm
      have hlek : s1k.heap.objs.size ≤ c := by
        rcases e' with z | z | z | z | z <;> (rw [z]; first | exact Nat.le_refl _ | exact Nat.le_add_right _ _)
      exact I1k.fpOk hlek (I1k.hok.fresh hlek)
end K81
set_option Elab.async false
set_option linter.all false
set_option maxRecDepth 100000
set_option maxHeartbeats 1900000
namespace L2
open PySem PyProof.Rows PySem.Spec
/-! dict comprehensions whose keys are tuples of ints and texts -/
section
variable {X : Cx} {s : Shared} {σ : St} {H : Hp} {pins : List (Addr × Obj)}
theorem d_setT {E : Value → Shared → Prop} {R : Unit → Shared → Prop} {d b : Addr} {ks : List (List Key × V)} {k : List Key} {z : V} {zv : Value} (hu : X.A.units < cLine) (I : Inv X pins σ H s) (ed : H d = some (.dT ks)) (eb : H b = some (.tup (k.map kV))) (hltk : ks.length < sizeLine) (rz : RelV z zv)
    (fin : ∀ s', Inv X pins σ (upd H d (.dT (putK ks k z))) s' → R () s') : wpAny (model X.prog X.w) X.A (dictSet d (.ref b) zv) R E s := by
  obtain ⟨hzk, hd, xs, rel, dd⟩ := dt_of I.hok ed
  have hxs : xs.length ≤ sizeLine := (Paired.length rel).symm ▸ hzk
  have hl : (putK ks k z).length ≤ sizeLine := Nat.le_trans (length_putK ks k z) hltk
  refine wpAny_dictSet_heap (hsz := hxs) (knd := tupleKind (mixKind X.prog X.w)) hu (key_of I.hok eb) dd fun hp dd2 sb => fin _ ?_
  obtain ⟨ob, en, ep, g1k, g2k, g3k, g4k, _, g5k⟩ := dd2
  exact d_write I (by rw [ed]; exact True.intro) sb ⟨ob, g1k⟩ ⟨hl, hd, _, (rel.put k eb rz).keeps fun c ys ec => by rw [upd_ne (ne_of ec ed (fun q => nomatch q))]; exact ec, ob, en, ep, g1k, g2k, g3k, g4k, g5k⟩
/-- {k: v for tg in iter}, each key a tuple that is tracked: d the new dict -/
def tDcT (wi : TI) (g : TG) (tt : TT) (tk tv : TE) (vs : List Nat) : TE := fun σ H Q => wi σ H fun J H1k => ∀ d, H1k d = none → ∃ W : Nat → Nat → Hp → Prop, (∃ m, W 0 m (upd H1k d (.dT []))) ∧ ∀ i m H, W i m H →
  (J.stop i H ∧ Q (.ref d) H) ∨ (J.go i H ∧ ∃ Nx : Hp → Prop, (∀ H', Nx H' → ∃ m', m' < m ∧ W (i + 1) m' H') ∧ ∀ x H', J.yld i H x H' → g x (wipe σ vs) H' fun σ2 H2k => wipe σ2 vs = wipe σ vs ∧ tt σ2 H2k fun c H3k =>
    if c = true then tk σ2 H3k fun y H4k => tv σ2 H4k fun z H5k => ∃ ks k b, y = .ref b ∧ H5k b = some (.tup (k.map kV)) ∧ H5k d = some (.dT ks) ∧ ks.length < sizeLine ∧ Nx (upd H5k d (.dT (putK ks k z))) else Nx H3k)
end
section
variable {X : Cx}
theorem pe_dcT {kxk vx tg iter : Expr} {ifs : List Expr} {scope : Scope} {own : List (Str × Nat)} {pos : Pos} {wi : TI} {g : TG} {tt : TT} {tk tv : TE} (hu : X.A.units < cLine) (hc : X.calm = true) (hN : X.N.Nodup) (hi : PI X tg iter wi) (ok : BlkOk X.N X.env.scope scope own)
    (hg : ∀ (s : Shared) (H : Hp) (C : Addr) (cq : List (Str × Addr)) (fp : List Addr), PG (X.blk s H scope (compEnvC scope cq C X.env) fp) tg g) (ht : ∀ (s : Shared) (H : Hp) (C : Addr) (cq : List (Str × Addr)) (fp : List Addr), PTs (X.blk s H scope (compEnvC scope cq C X.env) fp) ifs tt)
    (hk : ∀ (s : Shared) (H : Hp) (C : Addr) (cl : List (Str × Addr)) (fp : List Addr), PE (X.blk s H scope (compEnvC scope cl C X.env) fp) kxk tk)
    (hv : ∀ (s : Shared) (H : Hp) (C : Addr) (cl : List (Str × Addr)) (fp : List Addr), PE (X.blk s H scope (compEnvC scope cl C X.env) fp) vx tv) (hs : ∀ x, foldedSetIterable iter X.env x = pure x := by intro _; rfl) :
    PE X (.DictComp kxk vx [⟨tg, iter, ifs, 0⟩] scope pos) (tDcT wi g tt tk tv (own.map (·.2))) := by
  refine ⟨fun pins s σ H Q I hqk => ?_⟩
  rw [arm_eval_DictComp]
  have hfree : ∀ y ∈ scope.names, y.2 = .free → ∃ c, X.env.cells.lookup y.1 = some c := fun y hyk e => (ok.free y hyk e).elim (fun k => I.ok.has _ (.inl k)) fun k => I.ok.has _ (.inr k)
  refine wpAny_comprehension_free (use := none) rfl hs (closure_ok hfree) ok.kind (fun y hyk e => (ok.uniq y hyk).trans (congrArg some e)) (thn (hi.run pins s σ H _ I hqk) fun xv s1k hxk => thn hxk fun itv s2k h2k => ?_)
  obtain ⟨it, fp, tn, J, H2k, rfl, I2k, T, st2, f2k, q⟩ := h2k; refine wpAny_newObj_type (newEnv_comp ?_)
  generalize hD : s2k.heap.objs.size = d
  have hDn : H2k d = none := I2k.hok.fresh (Nat.le_of_eq hD)
  obtain ⟨W, ⟨m0k, w0k⟩, turn⟩ := q d hDn
  generalize hs3 : ({ s2k with heap := s2k.heap.push { cls := .type "dict", data := .dict #[] } } : Shared) = s3k
  have h3k : s3k.heap = s2k.heap.push { cls := .type "dict", data := .dict #[] } := by rw [← hs3]
  have I3k : Inv X pins σ (upd H2k d (.dT [])) s3k := by
    rw [← hs3]
    exact I2k.laid (t' := s2k.toks) (fun b o e => Heap.get?_push_of_some _ e) (Nat.le_of_eq hD) (hD ▸ dt_empty s2k.heap I2k.big)
  have f3k : ∀ b ∈ fp, FpOk X pins (upd H2k d (.dT [])) b ∧ b < s3k.heap.objs.size := fun b hb => by
    obtain ⟨ob, e, _⟩ := T.obj _ _ st2 b hb
    have hltk := Heap.lt_size e
    refine ⟨⟨?_, (f2k b hb).2⟩, by rw [h3k, Heap.size_push]; exact Nat.lt_succ_of_lt hltk⟩
    rw [upd_ne (fun z => Nat.ne_of_lt hltk (z.trans hD.symm))]
    exact (f2k b hb).1
  have st3 : tn 0 s3k.heap := T.keep _ _ _ st2 fun b _ o e => h3k ▸ Heap.get?_push_of_some _ e
  have I4k := block_start I3k ok hN f3k
  generalize hcl : cellsFrom (s3k.heap.objs.size + 1) scope.names (cloFrom X.env.cells scope.names []) = cl at I4k ⊢
  have pg := hg s3k (upd H2k d (.dT [])) s3k.heap.objs.size cl fp
  have pt := ht s3k (upd H2k d (.dT [])) s3k.heap.objs.size cl fp
  have pk := hk s3k (upd H2k d (.dT [])) s3k.heap.objs.size cl fp
  have pv := hv s3k (upd H2k d (.dT [])) s3k.heap.objs.size cl fp
  show codeAny _ _ (.compStart (.DictComp kxk vx [⟨tg, iter, ifs, 0⟩] scope pos) 0 (.ref it) (.ref d) (compEnvC scope cl s3k.heap.objs.size X.env)) (compPost (model X.prog X.w) X.A X.xe none (EP X pins σ Q) (.ref d) s3k.heap.objs.size) { s3k with heap := pushCells (s3k.heap.push { cls := .type "dict", data := .dict #[] }) scope.names }
  have nfp : ∀ b ∈ fp, (upd H2k d (.dT [])) b = none := fun b hb => (f3k b hb).1.1
  generalize hce : compEnvC scope cl s3k.heap.objs.size X.env = ce at I4k pg pt pk pv ⊢
  have cL : ce.locals = s3k.heap.objs.size := hce ▸ rfl
  generalize hH3 : upd H2k d (.dT []) = H3k at I3k I4k pg pt pk pv w0k nfp f3k
  generalize hs4 : ({ s3k with heap := pushCells (s3k.heap.push { cls := .type "dict", data := .dict #[] }) scope.names } : Shared) = s4k at I4k ⊢
  have st4 : tn 0 s4k.heap := T.keep _ _ _ st3 fun b _ o e => hs4 ▸ pushCells_keeps _ _ _ _ (Heap.get?_push_of_some _ e)
  let Y : Cx := X.blk s3k H3k scope ce fp
  have stat : ∀ {τ : St} {G : Hp} {s' : Shared}, Inv Y [] τ G s' → (∀ b ∈ fp, G b = none) → ∀ b ∈ fp, FpOk Y [] G b := fun {τ G s'} I' hn b hb =>
    ⟨hn b hb, (I'.ok.exf b hb).1, I'.ok.exfs b hb, .inl hb, fun x cq eq => (I'.ok.exf b hb).2 x cq eq, fun p hp => absurd (show p ∈ ([] : List (Addr × Obj)) ++ [] from hp) (by simp)⟩
  have loop : codeAny (model X.prog X.w) X.A (.compLoop (.DictComp kxk vx [⟨tg, iter, ifs, 0⟩] scope pos) 0 (.ref it) (.ref d) ce) (compPost (model X.prog X.w) X.A X.xe none (EP X pins σ Q) (.ref d) s3k.heap.objs.size) s4k := by
    refine compLoop_anyD (fun n s' => ∃ i G, Inv Y [] (wipe σ (own.map (·.2))) G s' ∧ tn i s'.heap ∧ (∀ b ∈ fp, G b = none) ∧ W i n G) ?_ m0k ⟨0, H3k, I4k, st4, nfp, w0k⟩
    rintro n s5k ⟨i, H5k, I5k, st5, n5k, w5k⟩
    rcases turn i n H5k w5k with ⟨stop, qq⟩ | ⟨go, Nx, hNx, step⟩
    · refine thnF (T.done Y rfl rfl rfl hc i [] s5k _ H5k (fun _ _ => False) I5k (stat I5k n5k) st5 stop) fun r s6k ⟨hr, I6k⟩ => ?_
      subst hr
      have I7k : Inv X pins σ H5k s6k := I3k.call' (ch := fp) I6k.os I6k.base I6k.hok I6k.bare fun b hb => ⟨(f3k b hb).1.2.2.2.1, (f3k b hb).1.2.1, (f3k b hb).1.2.2.2.2.1, (f3k b hb).1.2.2.2.2.2⟩
      have nC : H5k s3k.heap.objs.size = none := cL ▸ (show H5k ce.locals = none from I6k.free)
      obtain ⟨m, hn, _⟩ := I6k.loc
      have hn : s6k.heap.Ns ce.locals m := hn
      rw [cL] at hn
      obtain ⟨f0k, f1k, _, f3k', f4k, f5k⟩ := I3k.fpOk (Nat.le_refl _) nC
      exact ⟨m, hn, fun _ sb => ⟨.ref d, H5k, I7k.turned (t' := s6k.toks) (fun b o hb e => (sb.2 b hb).trans e) f0k f1k f3k' f4k f5k, rfl, qq⟩⟩
    · refine thnF (T.item Y rfl rfl rfl hc i [] s5k _ H5k (fun _ _ => False) I5k (stat I5k n5k) st5 go) fun r s6k ⟨u, hr, h6k⟩ => ?_
      subst hr
      refine thnF h6k fun _ s7k ⟨x, H7k, I7k, r7k, y7k, st7, n7k⟩ => ?_
      refine thnF (pg.run _ s7k _ H7k x u _ (I7k.pinned (stat I7k n7k) (T.obj _ _ st7)) r7k (step x H7k y7k)) fun _ s8k ⟨σ8, H8k, I8k, hw8, q8k⟩ => ?_
      refine thnF (pt.run _ s8k σ8 H8k _ I8k q8k) fun c s9k ⟨H9k, I9k, q9k⟩ => ?_
      have back : ∀ {s' : Shared} {G : Hp}, Inv Y ([] ++ pinsAt fp s7k.heap) σ8 G s' → Nx G → ∃ m, m < n ∧ ∃ i G, Inv Y [] (wipe σ (own.map (·.2))) G s' ∧ tn i s'.heap ∧ (∀ b ∈ fp, G b = none) ∧ W i m G := fun {s' G} I' nx => by
        obtain ⟨m', hm, w'⟩ := hNx G nx
        have pin : ∀ b ∈ fp, ∀ o, s7k.heap.get? b = some o → s'.heap.get? b = some o ∧ G b = none := fun b hb o e =>
          let z := I'.pin (b, o) (List.mem_append_right _ (List.mem_append_right _ (mem_pinsAt hb e)))
          ⟨z.1, z.2.1⟩
        refine ⟨m', hm, i + 1, G, (I'.unpinned (pins := [])).weak (by rw [← hw8, wipe_length]) (fun j v e => ?_), T.keep _ _ _ st7 fun b hb o e => (pin b hb o e).1, fun b hb => ?_, w'⟩
        · rw [← hw8] at e
          exact (wipe_some e).1
        · obtain ⟨ob, e, _⟩ := T.obj _ _ st7 b hb
          exact (pin b hb ob e).2
      cases c with
      | false =>
        rw [if_neg Bool.false_ne_true] at q9k ⊢
        exact back I9k q9k
      | true =>
        rw [if_pos rfl] at q9k ⊢
        refine thnF (pk.run _ s9k σ8 H9k _ I9k q9k) fun z s10k ⟨yk, H10k, I10k, r10k, q10k⟩ => ?_
        refine thnF (pv.run _ s10k σ8 H10k _ I10k q10k) fun z2k s11k ⟨yv, H11k, I11k, r11k, ks, k, b, ek, eb, ed, hltk, nx⟩ => ?_
        subst ek
        obtain rfl : z = Value.ref b := r10k
        exact d_setT (X := Y) hu I11k ed eb hltk r11k fun s12k I12k => back I12k nx
  refine codeAny_compStart_dict loop (T.self X.A 0 _ _ _ st4 loop)
end
end L2
set_option Elab.async false
set_option linter.all false
set_option maxRecDepth 100000
set_option maxHeartbeats 1900000
namespace K81
open PySem
/-! ### sorted(d.items()), the keys ints, the values ints -/
section
variable {P : Program} {w : World} {κ : Type} [DecidableEq κ] {knd : KeyKind P w κ} {A : Around} {E : Value → Shared → Prop} {s : Shared} {r d : Addr} {kvs : List (κ × Value)} {ep : Nat}
theorem collect_itm {Q : List Value → Shared → Prop} (hh : A.handled = none) (hv : s.heap.IsItemsView r d) (hm : s.heap.DictAt knd d kvs ep) (hn : kvs.length ≤ sizeLine)
    (hQ : ∀ (h' : Heap) (tk : Nat) (as : List Addr), (∀ b o, s.heap.get? b = some o → h'.get? b = some o) → as.length = kvs.length → W.KdxG knd kvs s.heap.objs.size h' as → (∃ acc c, h'.get? s.heap.objs.size = some { cls := .type "list", dict := none, data := .seq acc c, slots := #[] } ∧ acc.toList = as.map Value.ref) → Q (as.map Value.ref) { s with heap := h', toks := tk }) :
    wpAny (model P w) A (collect (.ref r)) Q E s := by
  have hr : r < s.heap.objs.size := let ⟨_, ho, _⟩ := hv; Heap.lt_size ho; have hd : d < s.heap.objs.size := hm.lt_size
  unfold collect
  refine wpAny_bind (wpAny_runValue (codeAny_builtin F.entry_proto_collect ?_)); rw [Around.under_plainId F.plain_proto_collect _]
  show wpAny _ A.in1 (newList [] >>= fun l => again (.builtin "list.__iadd__" ⟨[l, .ref r], []⟩)) _ _ s; refine wpAny_bind (wpAny_newObj_type ?_)
  refine wpAny_pure ⟨plainId_quiet F.plain_list_iadd _, codeAny_builtin F.entry_list_iadd ?_⟩; rw [Around.under_plainId F.plain_list_iadd _]; have hS : (s.heap.push { cls := .type "list", data := .seq #[] }).get? s.heap.objs.size = some { cls := .type "list", data := .seq #[] } := Heap.get?_push_size _ rfl
  refine W.kdx_extend (knd := knd) (kvs := kvs) (ep := ep) (A := A) (R := fun r s' => match r with
      | .ok (.ret v) => wpAny (model P w) A (match v with
        | .ref a => do
          let o ← load a
          match o.data with
          | .seq xs _ => pure xs.toList
          | _ => unsupported "internal:collect"
        | _ => unsupported "internal:collect") Q E s'
      | .ok _ => False
      | .error e => E e s') (s := { s with heap := s.heap.push { cls := .type "list", data := .seq #[] } }) hh (let ⟨o, ho, x⟩ := hv; ⟨o, Heap.get?_push_of_some _ ho, x⟩) (hm.push _) s.heap.objs.size (Nat.ne_of_gt hr) (Nat.ne_of_lt hd) (.ref s.heap.objs.size) 0 hS
    (fun h' tk acc c as hk hS' hl hG hacc => ?_) hn
  show wpAny (model P w) A (do
      let o ← load s.heap.objs.size
      match o.data with
      | .seq xs _ => pure xs.toList
      | _ => unsupported "internal:collect") Q E { s with heap := h', toks := tk }
  refine wpAny_bind (wpAny_load hS' ?_); show wpAny _ _ (pure acc.toList) Q E _
  rw [hacc]
  exact wpAny_pure (hQ h' tk as (fun b o e => hk b o (Nat.ne_of_lt (Heap.lt_size e)) (Heap.get?_push_of_some _ e)) hl (hG.low (by show s.heap.objs.size ≤ (s.heap.push _).objs.size; rw [Heap.size_push]; exact Nat.le_succ _)) ⟨acc, c, hS', hacc⟩)
end
open PySem.Spec PyProof.Rows L2 SrtO
/-- the int pair of a tuple that H tracks -/
def pairAt (H : Hp) (v : Value) : Int × Int := match v with
  | .ref a => match H a with
    | some (.tup [.int i, .int j]) => (i, j)
    | _ => (0, 0)
  | _ => (0, 0)
/-- d.items() at r -/
theorem call_sortItm {X : Cx} {pins : List (Addr × Obj)} {σ : L2.St} {H : Hp} {s : Shared} {r d : Addr} {ks : List (Int × Int)} {Q : VK} (hc : X.calm = true) (I : Inv X pins σ H s) (hv : s.heap.IsItemsView r d) (hd : H d = some (.dK (ks.map fun p => (Sum.inl p.1, V.int p.2))))
    (q : ∀ (H' : Hp) (p : Addr) (ts : List Addr) (ys : List (Int × Int)), (∀ b o, H b = some o → H' b = some o) → H p = none → H' p = some (.lst (ts.map V.ref)) → Paired (fun (t : Addr) (y : Int × Int) => H t = none ∧ H' t = some (.tup [.int y.1, .int y.2])) ts ys → ys.Perm ks → ys.Pairwise (fun a b => lexB b a = false) → Q (.ref p) H') :
    wpAny (model X.prog X.w) X.A (call (.builtin "sorted") [.ref r]) (EP X pins σ Q) X.xe s := by
  obtain ⟨hzk, hs0, vs, kv, hdo⟩ := I.hok d _ hd
  obtain ⟨ep, hatk⟩ := hdo.dictAt
  have lk : (ks.map fun p => ((Sum.inl p.1 : Key), V.int p.2)).length = vs.length := Paired.length kv
  refine Calls.call_function_entry kind_sorted plain_sorted entry_sorted (args_sorted1 _) ?_; unfold Builtin.«sorted»
  refine wpAny_bind (m := checkCount "sorted" 1 1 _) (wpAny_pure ?_); refine wpAny_bind (collect_itm (knd := mixKind X.prog X.w) (kvs := vs) (ep := ep) (A := X.A.in1) (I.ok.hd hc) hv hatk (by omega) fun h' tk as hk hl hG ⟨acc, c, hS, hacc⟩ => ?_)
  obtain ⟨H', k1k, k2k, k3k, k4k, k5k, k6k, J⟩ := LiI.items_laid (tk := tk) I hzk kv hk hS hl hG hacc
  have hal : (as.map Value.ref).length = ks.length := by
    rw [List.length_map, hl, ← lk, List.length_map]
  have hsz : (as.map Value.ref).length ≤ sizeLine := by
    rw [hal]
    rw [List.length_map] at hzk
    exact hzk
  -- each of them: itsk pair
  have hpr : ∀ (j : Nat) (a : Addr), as[j]? = some a → ∃ y, ks[j]? = some y ∧ H' a = some (.tup [.int y.1, .int y.2]) := fun j a hj => by
    obtain ⟨kxk, e1k, e2k⟩ := LiI.paired_get k6k hj
    rw [List.getElem?_map] at e1k
    cases e3k : ks[j]? with
    | none => rw [e3k] at e1k; cases e1k
    | some y =>
      rw [e3k] at e1k
      cases e1k
      exact ⟨y, rfl, e2k⟩
  have hpa : ∀ a ∈ as, H' a = some (.tup [.int (pairAt H' (.ref a)).1, .int (pairAt H' (.ref a)).2]) := fun a ha => by
    obtain ⟨j, hj⟩ := List.mem_iff_getElem?.mp ha; obtain ⟨y, _, e⟩ := hpr j a hj
    unfold pairAt
    simp only [e]
  have hip : ∀ v ∈ as.map Value.ref, Srt.IsPair h' v (pairAt H' v).1 (pairAt H' v).2 := fun v hv => by
    obtain ⟨a, ha, rfl⟩ := List.mem_map.mp hv
    obtain ⟨_, itsk, r2k, o, ho, hcl, n, hdd⟩ := J.hok _ _ (hpa a ha)
    obtain ⟨u1k, u2k, rfl, ri, rj⟩ := vals2 r2k
    obtain ⟨t1k, rfl⟩ := ri
    obtain ⟨t2k, rfl⟩ := rj
    exact ⟨a, o, t1k, t2k, n, rfl, ho, hcl, hdd⟩
  refine wpAny_bind (wpAny_newList ?_ hsz)
  have hoL : (h'.push (seqObj "list" (as.map Value.ref).toArray 0)).get? h'.objs.size = some (seqObj "list" (as.map Value.ref).toArray 0) := Heap.get?_push_size _ rfl
  refine wpAny_bind (wpAny_holding (wpAny_call_entry slot_list_sort ⟨_, hoL, rfl⟩ entry_list_sort (list_sort_ord (SrtO.swo_lex (pairAt H')) hoL hsz (fun h2k => ?_) fun out a1k a2k => ⟨_, rfl, ?_⟩) (args_list_sort _)))
  · refine pairs_sortableO (by omega) (fun v hm => (hip v hm).keeps fun b o e _ => Heap.get?_push_of_some _ e) fun o e => ?_
    have e' : some o = some (seqObj "list" (as.map Value.ref).toArray 0) := e.symm.trans hoL
    cases e'
    intro cc
    exact absurd (Value.type.inj cc) (by decide)
  · obtain ⟨c2k, hc2⟩ := sortedHeap_at (vs := as.map Value.ref) (out := out.toArray) hoL
    have kp : ∀ b o, h'.get? b = some o → (sortedHeap (h'.push (seqObj "list" (as.map Value.ref).toArray 0)) h'.objs.size (as.map Value.ref) out.toArray).get? b = some o := fun b u e => by
      have hltk := Heap.lt_size e
      rw [sortedHeap_old (Nat.ne_of_lt hltk) (by rw [size_push']; exact Nat.lt_succ_of_lt hltk)]; exact Heap.get?_push_of_some _ e
    have hmem : ∀ u ∈ out, ∃ a ∈ as, u = Value.ref a := fun u hu => by
      obtain ⟨a, ha, e⟩ := List.mem_map.mp (a2k.perm.mem_iff.mp hu)
      exact ⟨a, ha, e.symm⟩
    -- the addresses of out
    obtain ⟨bs, ebs⟩ : ∃ bs : List Addr, out = bs.map Value.ref := by
      clear a1k a2k hc2 kp
      induction out with
      | nil => exact ⟨[], rfl⟩
      | cons u us ih =>
        obtain ⟨bs, e⟩ := ih fun v hv => hmem v (List.mem_cons_of_mem _ hv)
        obtain ⟨a, _, e2k⟩ := hmem u List.mem_cons_self
        exact ⟨a :: bs, by rw [e, e2k]; rfl⟩
    have hpm : bs.Perm as := by
      have z := a2k.perm
      rw [ebs] at z
      have inj : ∀ l : List Addr, (l.map Value.ref).map (fun v => match v with | Value.ref a => a | _ => 0) = l := fun l => by
        rw [List.map_map]
        exact List.map_id l
      have z2k := z.map (fun v => match v with | Value.ref a => a | _ => 0)
      rw [inj, inj] at z2k
      exact z2k
    have new : ObjOk X.prog X.w (upd H' h'.objs.size (.lst (bs.map V.ref))) (sortedHeap (h'.push (seqObj "list" (as.map Value.ref).toArray 0)) h'.objs.size (as.map Value.ref) out.toArray) h'.objs.size (.lst (bs.map V.ref)) := by
      refine ⟨?_, out, c2k, ?_, hc2⟩
      · rw [List.length_map, hpm.length_eq]
        rw [List.length_map] at hsz
        exact hsz
      · rw [ebs]
        exact LiI.vals_refs bs
    have nn : H' h'.objs.size = none := J.hok.fresh (Nat.le_refl _)
    have L : Inv X pins σ (upd H' h'.objs.size (.lst (bs.map V.ref))) { s with heap := sortedHeap (h'.push (seqObj "list" (as.map Value.ref).toArray 0)) h'.objs.size (as.map Value.ref) out.toArray, toks := tk } :=
      J.laid (t' := tk) kp (Nat.le_refl _) new
    have low : ∀ b o, H b = some o → b ≠ h'.objs.size := fun b o e z => by
      rw [z] at e
      have := k1k _ _ e
      rw [nn] at this
      cases this
    refine wpAny_pure ⟨_, rfl, .ref h'.objs.size, _, L, rfl, q _ _ bs (bs.map fun a => pairAt H' (.ref a)) (fun b o e => by rw [upd_ne (low b o e)]; exact k1k b o e) ?_ upd_same ?_ ?_ ?_⟩
    · cases z : H h'.objs.size with
      | none => rfl
      | some o => exact absurd rfl (low _ _ z)
    · have gen : ∀ l : List Addr, (∀ a ∈ l, a ∈ as) → Paired (fun (t : Addr) (y : Int × Int) => H t = none ∧ (upd H' h'.objs.size (.lst (bs.map V.ref))) t = some (.tup [.int y.1, .int y.2])) l (l.map fun a => pairAt H' (.ref a)) := by
        intro l
        induction l with
        | nil => exact fun _ => .nil
        | cons a l ih =>
          intro h
          have ha := h a List.mem_cons_self
          refine .cons ⟨k3k a ha, ?_⟩ (ih fun b hb => h b (List.mem_cons_of_mem _ hb))
          rw [upd_ne]
          · exact hpa a ha
          · intro z
            have e := hpa a ha
            rw [z, nn] at e
            cases e
      exact gen bs fun a ha => hpm.mem_iff.mp ha
    · have e1k : as.map (fun a => pairAt H' (.ref a)) = ks := by
        refine List.ext_getElem? fun j => ?_; rw [List.getElem?_map]
        cases z : as[j]? with
        | none =>
          have : ks.length ≤ j := by
            rw [← hal, List.length_map]
            exact List.getElem?_eq_none_iff.mp z
          rw [List.getElem?_eq_none this]
          rfl
        | some a =>
          obtain ⟨y, e, e2k⟩ := hpr j a z
          rw [e]
          show some (pairAt H' (.ref a)) = some y
          unfold pairAt
          simp only [e2k]
      rw [← e1k]
      exact hpm.map _
    · have z : out.Pairwise (fun a b => lexB (pairAt H' b) (pairAt H' a) = false) := a1k
      rw [ebs, List.pairwise_map] at z
      exact List.pairwise_map.mpr z
def tSortItm (te : TE) : TE := fun σ H Q => te σ H fun x H1k => ∃ (d : Addr) (ks : List (Int × Int)), x = .ref d ∧ H1k d = some (.dK (ks.map fun p => (Sum.inl p.1, V.int p.2))) ∧
  ∀ (H' : Hp) (p : Addr) (ts : List Addr) (ys : List (Int × Int)), (∀ b o, H1k b = some o → H' b = some o) → H1k p = none → H' p = some (.lst (ts.map V.ref)) → Paired (fun (t : Addr) (y : Int × Int) => H1k t = none ∧ H' t = some (.tup [.int y.1, .int y.2])) ts ys → ys.Perm ks → ys.Pairwise (fun a b => lexB b a = false) → Q (.ref p) H'
/-- sorted(e.items()) -/
theorem pe_sortItm {X : Cx} {e : Expr} {te : TE} {p apos cpos pos : Pos} (hc : X.calm = true) (he : PE X e te) (hm : X.mg "sorted" = none) (hg : Gl X "sorted" := by rfl) (hbase : attributeBase e "items" X.env (eval e X.env) = eval e X.env := by rfl) (hline : (apos.endLine == cpos.line) = true := by rfl)
    (hs : starEach [.Call (.Attribute e "items" apos) [] [] cpos] X.env = (false, eval (.Call (.Attribute e "items" apos) [] [] cpos) X.env) :: starEach [] X.env := by rfl) :
    PE X (.Call (.Name "sorted" p) [.Call (.Attribute e "items" apos) [] [] cpos] [] pos) (tSortItm te) := by
  refine ⟨fun pins s σ H Q I hqk => wpAny_Call_Name_kw (ld_blt I hg hm (u := .builtin "sorted") rfl (PyProof.Rows.callWith_builtin1 ?_ hs rfl))⟩
  rw [hs]
  show wpAny _ _ (spliced ((false, eval (.Call (.Attribute e "items" apos) [] [] cpos) X.env) :: backTo pos (starEach [] X.env))) _ _ s; refine Calls.spliced_cons (wpAny_Call_method (T := "dict") (id := "dict.items") hbase rfl hline F.plainAttrs_dict F.slot_dict_items F.type_dict_items (thn (he.run pins s σ H _ I hqk) fun u s1k ⟨x, H1k, I1k, rxk, d, ks, ex, hd, q⟩ => ?_))
  subst ex
  obtain rfl : u = Value.ref d := rxk
  obtain ⟨hzk, hs0, vs, kv, hdo⟩ := I1k.hok d _ hd
  have I2k : Inv X pins σ H1k { s1k with heap := s1k.heap.push { cls := .type "dict_items", data := .fields #[.ref d] } } := I1k.kept (t' := s1k.toks) fun b ob q => Heap.get?_push_of_some _ q
  refine ⟨hdo.typeIs, hdo.mapOf.noDict, ?_⟩; show wpAny _ _ (callWith cpos (.builtin "dict.items") [.ref d] [] []) _ X.xe s1k
  refine method_meetsIn F.slot_dict_items F.entry_dict_items rfl (PySem.evalArgs_none ⟨rfl, hdo.typeIs, F.args_dict_items_1 _, _, meets_dict_items (mixKind X.prog X.w) d hs0, ⟨vs, hdo⟩, ?_⟩); exact Calls.spliced_nil (call_sortItm hc I2k ⟨_, Heap.get?_push_size _ rfl, rfl, rfl⟩ hd q)
end K81
set_option Elab.async false
set_option linter.all false
set_option maxRecDepth 100000
set_option maxHeartbeats 1900000
namespace K81
open PySem L2
/-! ### the heap grows -/
def Ex (H H' : Hp) : Prop := ∀ p u, H p = some u → H' p = some u
theorem Ex.rfl' {H : Hp} : Ex H H := fun _ _ h => h
theorem Ex.tr {H H1 H2 : Hp} (a : Ex H H1) (b : Ex H1 H2) : Ex H H2 := fun x o h => b x o (a x o h)
theorem Ex.new {H : Hp} {p : Addr} {o : HO} (h : H p = none) : Ex H (upd H p o) := fun a u e => by
  rw [upd_ne (ne_of_none e h)]
  exact e
theorem Ex.back {H H' : Hp} {p : Addr} (e : Ex H H') (h : H' p = none) : H p = none := by
  cases h1 : H p with
  | none => rfl
  | some o => rw [e p o h1] at h; cases h
theorem Ex.rd {H H' : Hp} {a : Addr} {u : HO} (e : Ex H H') (h : Rd H a u) : Rd H' a u := by
  rcases h with h | ⟨o, h⟩
  · exact .inl (e a _ h)
  · exact .inr ⟨o, e a _ h⟩
theorem Ex.sqL {K : Fr} {H H' : Hp} {a : Addr} {xs : List V} (e : Ex H H') (h : SqL K H a xs) : SqL K H' a xs := by
  rcases h with h | h
  · exact .inl (e.rd h)
  · exact .inr h
theorem Ex.sqT {K : Fr} {H H' : Hp} {a : Addr} {xs : List V} (e : Ex H H') (h : SqT K H a xs) : SqT K H' a xs := by
  rcases h with h | h
  · exact .inl (e.rd h)
  · exact .inr h
theorem Ex.upd2 {B H : Hp} {p : Addr} {o : HO} (e : Ex B H) : Ex (upd B p o) (upd H p o) := fun a u h => by
  by_cases q : a = p
  · subst q; rw [upd_same] at h ⊢; exact h
  · rw [upd_ne q] at h ⊢; exact e a u h
/-- an object that B does not know may change -/
theorem Ex.mut {B H : Hp} {p : Addr} {o : HO} (e : Ex B H) (h : B p = none) : Ex B (upd H p o) := fun a u ha => by
  rw [upd_ne (ne_of_none ha h)]
  exact e a u ha

/-- from the known part B of the heap H to B2 of H2; w: what may have changed -/
structure Go (w : Addr → Prop) (B H B2 H2 : Hp) : Prop where
  b : Ex B B2
  h : ∀ a o, ¬ w a → H a = some o → H2 a = some o
  i : Ex B2 H2
  n : ∀ a, H a ≠ none → B a = none → B2 a = none
  e : ∀ a, H a ≠ none → H2 a ≠ none
abbrev no : Addr → Prop := fun _ => False
theorem Go.rf {w : Addr → Prop} {B H : Hp} (i : Ex B H) : Go w B H B H := ⟨Ex.rfl', fun _ _ _ e => e, i, fun _ _ q => q, fun _ q => q⟩
theorem Go.tr {w : Addr → Prop} {B H B1 H1 B2 H2 : Hp} (p : Go w B H B1 H1) (q : Go w B1 H1 B2 H2) : Go w B H B2 H2 :=
  ⟨p.b.tr q.b, fun a o hw e => q.h a o hw (p.h a o hw e), q.i, fun a h0 hb => q.n a (p.e a h0) (p.n a h0 hb), fun a h0 => q.e a (p.e a h0)⟩
theorem Go.w {w : Addr → Prop} {B H B1 H1 : Hp} (p : Go no B H B1 H1) : Go w B H B1 H1 := ⟨p.b, fun a o _ e => p.h a o (fun z => z) e, p.i, p.n, p.e⟩
theorem Go.ww {w w' : Addr → Prop} {B H B1 H1 : Hp} (p : Go w B H B1 H1) (h : ∀ a, w a → w' a) : Go w' B H B1 H1 := ⟨p.b, fun a o n e => p.h a o (fun z => n (h a z)) e, p.i, p.n, p.e⟩
theorem Go.hx {B H B1 H1 : Hp} (p : Go no B H B1 H1) : Ex H H1 := fun a o e => p.h a o (fun z => z) e
theorem ne_cell {H : Hp} {a p : Addr} (h0 : H a ≠ none) (hp : H p = none) : a ≠ p := by
  rintro rfl
  exact h0 hp
theorem Go.new {w : Addr → Prop} {B H : Hp} {p : Addr} {o : HO} (i : Ex B H) (hp : H p = none) : Go w B H (upd B p o) (upd H p o) :=
  ⟨Ex.new (i.back hp), fun a u _ e => Ex.new hp a u e, i.upd2, fun a h0 hb => by rw [upd_ne (ne_cell h0 hp)]; exact hb, fun a h0 => by rw [upd_ne (ne_cell h0 hp)]; exact h0⟩
/-- a new cell that is not told -/
theorem Go.newH {w : Addr → Prop} {B H : Hp} {p : Addr} {o : HO} (i : Ex B H) (hp : H p = none) : Go w B H B (upd H p o) :=
  ⟨Ex.rfl', fun a u _ e => Ex.new hp a u e, i.tr (Ex.new hp), fun a h0 hb => hb, fun a h0 => by rw [upd_ne (ne_cell h0 hp)]; exact h0⟩
/-- a hidden cell is changed -/
theorem Go.mut {w : Addr → Prop} {B0 H0 B H : Hp} {p : Addr} {o : HO} (g : Go w B0 H0 B H) (hp : B p = none) (h0 : H0 p = none ∨ w p) : Go w B0 H0 B (upd H p o) :=
  ⟨g.b, fun a u hw e => by
    by_cases q : a = p
    · subst q
      rcases h0 with h0 | h0
      · rw [h0] at e; cases e
      · exact absurd h0 hw
    · rw [upd_ne q]; exact g.h a u hw e, g.i.mut hp, g.n, fun a h0 => by
      by_cases q : a = p
      · subst q; rw [upd_same]; simp
      · rw [upd_ne q]; exact g.e a h0⟩

/-! ### types of data -/
structure RT (α : Type) where
  rep : Hp → V → α → Prop
  mono : ∀ {H H' : Hp} {v : V} {x : α}, Ex H H' → rep H v x → rep H' v x
inductive Vs {α : Type} (r : RT α) (H : Hp) : List V → List α → Prop
  | nil : Vs r H [] []
  | cons {v : V} {x : α} {vs : List V} {xs : List α} : r.rep H v x → Vs r H vs xs → Vs r H (v :: vs) (x :: xs)
section
variable {α : Type} {r : RT α} {H H' : Hp}
theorem Vs.mono (e : Ex H H') : ∀ {vs : List V} {xs : List α}, Vs r H vs xs → Vs r H' vs xs
  | _, _, .nil => .nil
  | _, _, .cons h t => .cons (r.mono e h) (Vs.mono e t)
theorem Vs.len : ∀ {vs : List V} {xs : List α}, Vs r H vs xs → vs.length = xs.length
  | _, _, .nil => rfl
  | _, _, .cons h t => by simp [Vs.len t]
theorem Vs.get : ∀ {vs : List V} {xs : List α} {i : Nat} {x : α}, Vs r H vs xs → xs[i]? = some x → ∃ v, vs[i]? = some v ∧ r.rep H v x
  | _, _, i, x, .nil, e => by simp at e
  | _, _, 0, x, .cons h t, e => by simp at e; subst e; exact ⟨_, rfl, h⟩
  | _, _, i + 1, x, .cons h t, e => by
    obtain ⟨v, h1, h2⟩ := Vs.get (i := i) t (by simpa using e)
    exact ⟨v, by simpa using h1, h2⟩
theorem Vs.getV : ∀ {vs : List V} {xs : List α} {i : Nat} {v : V}, Vs r H vs xs → vs[i]? = some v → ∃ x, xs[i]? = some x ∧ r.rep H v x
  | _, _, i, x, .nil, e => by simp at e
  | _, _, 0, x, .cons h t, e => by simp at e; subst e; exact ⟨_, rfl, h⟩
  | _, _, i + 1, x, .cons h t, e => by
    obtain ⟨v, h1, h2⟩ := Vs.getV (i := i) t (by simpa using e)
    exact ⟨v, by simpa using h1, h2⟩
theorem Vs.app : ∀ {vs us : List V} {xs ys : List α}, Vs r H vs xs → Vs r H us ys → Vs r H (vs ++ us) (xs ++ ys)
  | _, _, _, _, .nil, s => s
  | _, _, _, _, .cons h t, s => .cons h (Vs.app t s)
theorem Vs.take : ∀ {vs : List V} {xs : List α} (n : Nat), Vs r H vs xs → Vs r H (vs.take n) (xs.take n)
  | _, _, 0, _ => by simp; exact .nil
  | _, _, _ + 1, .nil => .nil
  | _, _, n + 1, .cons h t => .cons h (Vs.take n t)
theorem Vs.drop : ∀ {vs : List V} {xs : List α} (n : Nat), Vs r H vs xs → Vs r H (vs.drop n) (xs.drop n)
  | _, _, 0, h => h
  | _, _, _ + 1, .nil => .nil
  | _, _, n + 1, .cons _ t => Vs.drop n t
theorem Vs.rev {vs : List V} {xs : List α} (h : Vs r H vs xs) : Vs r H vs.reverse xs.reverse := by
  induction h with
  | nil => exact .nil
  | cons a t ih => simp only [List.reverse_cons]; exact ih.app (.cons a .nil)
theorem Vs.set {v : V} {x : α} (q : r.rep H v x) : ∀ {vs : List V} {xs : List α} (i : Nat), Vs r H vs xs → Vs r H (vs.set i v) (xs.set i x)
  | _, _, _, .nil => .nil
  | _, _, 0, .cons h t => .cons q t
  | _, _, i + 1, .cons h t => .cons h (Vs.set q i t)
theorem Vs.map {β : Type} {s : RT β} (f : α → β) {H' : Hp} (k : ∀ v x, r.rep H v x → s.rep H' v (f x)) : ∀ {vs : List V} {xs : List α}, Vs r H vs xs → Vs s H' vs (xs.map f)
  | _, _, .nil => .nil
  | _, _, .cons h t => .cons (k _ _ h) (Vs.map f k t)
theorem Vs.imp {β : Type} {s : RT α} {H' : Hp} : ∀ {vs : List V} {xs : List α}, (∀ v x, x ∈ xs → r.rep H v x → s.rep H' v x) → Vs r H vs xs → Vs s H' vs xs
  | _, _, k, .nil => .nil
  | _, _, k, .cons h t => .cons (k _ _ (by simp) h) (Vs.imp (β := β) (fun v x hx => k v x (by simp [hx])) t)
theorem Vs.of {vs : List V} {xs : List α} (hl : vs.length = xs.length) (h : ∀ (i : Nat) (v : V) (x : α), vs[i]? = some v → xs[i]? = some x → r.rep H v x) : Vs r H vs xs := by
  induction vs generalizing xs with
  | nil =>
    cases xs with
    | nil => exact .nil
    | cons x xs => simp at hl
  | cons v vs ih =>
    cases xs with
    | nil => simp at hl
    | cons x xs => exact .cons (h 0 v x rfl rfl) (ih (by simpa using hl) fun i v x a b => h (i + 1) v x (by simpa using a) (by simpa using b))
end

def rInt : RT Int := ⟨fun _ v x => v = .int x, fun _ h => h⟩
def rBl : RT Bool := ⟨fun _ v x => v = .bl x, fun _ h => h⟩
def rStr : RT Str := ⟨fun _ v x => v = .str x, fun _ h => h⟩
def rNon : RT Unit := ⟨fun _ v _ => v = .non, fun _ h => h⟩
/-- the very address -/
def rAdr (a : Addr) : RT Unit := ⟨fun _ v _ => v = .ref a, fun _ h => h⟩
def rOpt {α : Type} (r : RT α) : RT (Option α) := ⟨fun H v x => match x with | none => v = .non | some y => v ≠ .non ∧ r.rep H v y, fun {H H' v x} e h => by
  cases x with
  | none => exact h
  | some y => exact ⟨h.1, r.mono e h.2⟩⟩
def rTup (K : Fr) {α : Type} (r : RT α) : RT (List α) := ⟨fun H v x => ∃ a vs, v = .ref a ∧ SqT K H a vs ∧ Vs r H vs x, fun e ⟨a, vs, h1, h2, h3⟩ => ⟨a, vs, h1, e.sqT h2, h3.mono e⟩⟩
def rLst (K : Fr) {α : Type} (r : RT α) : RT (List α) := ⟨fun H v x => ∃ a vs, v = .ref a ∧ H a = some (.lst vs) ∧ Vs r H vs x, fun e ⟨a, vs, h1, h2, h3⟩ => ⟨a, vs, h1, e _ _ h2, h3.mono e⟩⟩
/-- a list that may be read only -/
def rLsF (K : Fr) {α : Type} (r : RT α) : RT (List α) := ⟨fun H v x => ∃ a vs, v = .ref a ∧ SqL K H a vs ∧ Vs r H vs x, fun e ⟨a, vs, h1, h2, h3⟩ => ⟨a, vs, h1, e.sqL h2, h3.mono e⟩⟩
theorem Ex.lst {K : Fr} {H H' : Hp} {a : Addr} {xs : List V} (e : Ex H H') (h : H a = some (.lst xs)) : SqL K H' a xs := .inl (.inl (e _ _ h))
def rSeq (K : Fr) {α : Type} (r : RT α) : RT (List α) := ⟨fun H v x => ∃ a vs, v = .ref a ∧ (SqL K H a vs ∨ SqT K H a vs) ∧ Vs r H vs x, fun e ⟨a, vs, h1, h2, h3⟩ => ⟨a, vs, h1, h2.imp e.sqL e.sqT, h3.mono e⟩⟩
def rPr (K : Fr) {α β : Type} (r : RT α) (s : RT β) : RT (α × β) := ⟨fun H v x => ∃ a u w, v = .ref a ∧ SqT K H a [u, w] ∧ r.rep H u x.1 ∧ s.rep H w x.2, fun e ⟨a, u, w, h1, h2, h3, h4⟩ => ⟨a, u, w, h1, e.sqT h2, r.mono e h3, s.mono e h4⟩⟩
def rTri (K : Fr) {α β γ : Type} (r : RT α) (s : RT β) (t : RT γ) : RT (α × β × γ) := ⟨fun H v x => ∃ a u w z, v = .ref a ∧ SqT K H a [u, w, z] ∧ r.rep H u x.1 ∧ s.rep H w x.2.1 ∧ t.rep H z x.2.2,
  fun e ⟨a, u, w, z, h1, h2, h3, h4, h5⟩ => ⟨a, u, w, z, h1, e.sqT h2, r.mono e h3, s.mono e h4, t.mono e h5⟩⟩
/-- a thing of type r, any that p holds of -/
def rAny {α : Type} (r : RT α) (p : α → Prop) : RT Unit := ⟨fun H v _ => ∃ x, p x ∧ r.rep H v x, fun e ⟨x, h, q⟩ => ⟨x, h, r.mono e q⟩⟩
/-- with a fact -/
def rFact {α : Type} (r : RT α) (p : α → Prop) : RT α := ⟨fun H v x => p x ∧ r.rep H v x, fun e ⟨h, q⟩ => ⟨h, r.mono e q⟩⟩
/-- told another way -/
def rVia {α β : Type} (r : RT α) (f : β → α) : RT β := ⟨fun H v x => r.rep H v (f x), fun e q => r.mono e q⟩

/-! ### types that need no list -/
def hide (H : Hp) (f : Addr) : Hp := fun a => if a = f then none else H a
theorem hide_ne {H : Hp} {f a : Addr} (h : a ≠ f) : hide H f a = H a := by unfold hide; rw [if_neg h]
theorem hide_same {H : Hp} {f : Addr} : hide H f f = none := by unfold hide; rw [if_pos rfl]
def isL : HO → Prop
  | .lst _ => True
  | .dK _ => True
  | _ => False
/-- an instance of the class C -/
def isI (C : Addr) : HO → Prop
  | .ins D _ _ => D = C
  | _ => False
/-- no tuple, nothing frozen -/
structure NoTup (z : HO → Prop) : Prop where
  t : ∀ xs, ¬ z (.tup xs)
  f : ∀ o u, ¬ z (.frz o u)
theorem noTupL : NoTup isL := ⟨fun _ h => h, fun _ _ h => h⟩
theorem noTupI {C : Addr} : NoTup (isI C) := ⟨fun _ h => h, fun _ _ h => h⟩
/-- r's things need no z at f -/
def Fz (z : HO → Prop) {α : Type} (r : RT α) : Prop := ∀ (H : Hp) (f : Addr) (o : HO) (v : V) (x : α), H f = some o → z o → r.rep H v x → r.rep (hide H f) v x
section
variable {z : HO → Prop} {K : Fr}
theorem fz_sqT (nt : NoTup z) {H : Hp} {f a : Addr} {o : HO} {vs : List V} (h : H f = some o) (hl : z o) (q : SqT K H a vs) : SqT K (hide H f) a vs := by
  rcases q with q | q
  · refine .inl ?_
    rcases q with q | ⟨u, q⟩
    · refine .inl ?_
      rw [hide_ne]
      · exact q
      · rintro rfl; rw [q] at h; cases h; exact nt.t _ hl
    · refine .inr ⟨u, ?_⟩
      rw [hide_ne]
      · exact q
      · rintro rfl; rw [q] at h; cases h; exact nt.f _ _ hl
  · exact .inr q
theorem fz_int : Fz z rInt := fun _ _ _ _ _ _ _ h => h
theorem fz_bl : Fz z rBl := fun _ _ _ _ _ _ _ h => h
theorem fz_str : Fz z rStr := fun _ _ _ _ _ _ _ h => h
theorem fz_non : Fz z rNon := fun _ _ _ _ _ _ _ h => h
theorem fz_opt {α : Type} {r : RT α} (k : Fz z r) : Fz z (rOpt r) := fun H f o v x h hl q => by
  cases x with
  | none => exact q
  | some y => exact ⟨q.1, k H f o v y h hl q.2⟩
theorem fz_vs {α : Type} {r : RT α} (k : Fz z r) {H : Hp} {f : Addr} {o : HO} (h : H f = some o) (hl : z o) : ∀ {vs : List V} {xs : List α}, Vs r H vs xs → Vs r (hide H f) vs xs
  | _, _, .nil => .nil
  | _, _, .cons a t => .cons (k H f o _ _ h hl a) (fz_vs k h hl t)
theorem fz_tup (nt : NoTup z) {α : Type} {r : RT α} (k : Fz z r) : Fz z (rTup K r) := fun H f o v x h hl ⟨a, vs, h1, h2, h3⟩ => ⟨a, vs, h1, fz_sqT nt h hl h2, fz_vs k h hl h3⟩
theorem fz_pr (nt : NoTup z) {α β : Type} {r : RT α} {s : RT β} (k : Fz z r) (y : Fz z s) : Fz z (rPr K r s) := fun H f o v x h hl ⟨a, u, w, h1, h2, h3, h4⟩ => ⟨a, u, w, h1, fz_sqT nt h hl h2, k _ _ _ _ _ h hl h3, y _ _ _ _ _ h hl h4⟩
theorem fz_tri (nt : NoTup z) {α β γ : Type} {r : RT α} {s : RT β} {t : RT γ} (k : Fz z r) (y : Fz z s) (x' : Fz z t) : Fz z (rTri K r s t) := fun H f o v x h hl ⟨a, u, w, q, h1, h2, h3, h4, h5⟩ =>
  ⟨a, u, w, q, h1, fz_sqT nt h hl h2, k _ _ _ _ _ h hl h3, y _ _ _ _ _ h hl h4, x' _ _ _ _ _ h hl h5⟩
end
/-! ### what the slots hold -/
abbrev Slot := Option ((α : Type) × RT α × α)
/-- the slot holds x of type r -/
abbrev sl {α : Type} (r : RT α) (x : α) : Slot := some ⟨α, r, x⟩
def SlotOk (s : Slot) (o : Option V) (B : Hp) : Prop := match s with
  | none => True
  | some ⟨_, r, x⟩ => ∃ v, o = some v ∧ r.rep B v x
inductive Env (B : Hp) : List Slot → St → Prop
  | nil : Env B [] []
  | cons {s : Slot} {o : Option V} {Γ : List Slot} {σ : St} : SlotOk s o B → Env B Γ σ → Env B (s :: Γ) (o :: σ)
theorem SlotOk.mono {s : Slot} {o : Option V} {B B' : Hp} (e : Ex B B') (h : SlotOk s o B) : SlotOk s o B' := by
  cases s with
  | none => trivial
  | some p => obtain ⟨v, h1, h2⟩ := h; exact ⟨v, h1, p.2.1.mono e h2⟩
theorem Env.mono {B B' : Hp} (e : Ex B B') : ∀ {Γ : List Slot} {σ : St}, Env B Γ σ → Env B' Γ σ
  | _, _, .nil => .nil
  | _, _, .cons h t => .cons (h.mono e) (t.mono e)
theorem Env.len {B : Hp} : ∀ {Γ : List Slot} {σ : St}, Env B Γ σ → Γ.length = σ.length
  | _, _, .nil => rfl
  | _, _, .cons h t => by simp [t.len]
theorem Env.set {B : Hp} {s : Slot} {o : Option V} (q : SlotOk s o B) : ∀ {Γ : List Slot} {σ : St} (i : Nat), Env B Γ σ → Env B (Γ.set i s) (σ.set i o)
  | _, _, _, .nil => .nil
  | _, _, 0, .cons h t => .cons q t
  | _, _, i + 1, .cons h t => .cons h (Env.set q i t)
theorem Env.get {B : Hp} : ∀ {Γ : List Slot} {σ : St} {i : Nat} {α : Type} {r : RT α} {x : α}, Env B Γ σ → Γ[i]? = some (some ⟨α, r, x⟩) → ∃ v, σ[i]? = some (some v) ∧ r.rep B v x
  | _, _, i, _, _, _, .nil, e => by simp at e
  | _, _, 0, _, _, _, .cons h t, e => by
    simp at e; subst e
    obtain ⟨v, h1, h2⟩ := h
    exact ⟨v, by rw [h1]; rfl, h2⟩
  | _, _, i + 1, _, _, _, .cons h t, e => by
    obtain ⟨v, h1, h2⟩ := Env.get (i := i) t (by simpa using e)
    exact ⟨v, by simpa using h1, h2⟩
/-- less is known -/
inductive Wkn : List Slot → List Slot → Prop
  | nil : Wkn [] []
  | keep {s : Slot} {Γ Γ' : List Slot} : Wkn Γ Γ' → Wkn (s :: Γ) (s :: Γ')
  | drop {s : Slot} {Γ Γ' : List Slot} : Wkn Γ Γ' → Wkn (s :: Γ) (none :: Γ')
theorem Wkn.refl : ∀ Γ : List Slot, Wkn Γ Γ
  | [] => .nil
  | _ :: Γ => .keep (Wkn.refl Γ)
theorem Env.wkn {B : Hp} : ∀ {Γ Γ' : List Slot} {σ : St}, Wkn Γ Γ' → Env B Γ σ → Env B Γ' σ
  | _, _, _, .nil, .nil => .nil
  | _, _, _, .keep k, .cons h t => .cons h (t.wkn k)
  | _, _, _, .drop k, .cons h t => .cons trivial (t.wkn k)
def gwipe (Γ : List Slot) : List Nat → List Slot
  | [] => Γ
  | v :: vs => (gwipe Γ vs).set v none
theorem Env.wipe {B : Hp} {Γ : List Slot} {σ : St} (h : Env B Γ σ) : ∀ vs : List Nat, Env B (gwipe Γ vs) (wipe σ vs)
  | [] => h
  | v :: vs => Env.set (s := none) (o := none) trivial v (h.wipe vs)

/-! ### an expression's value -/
theorem PE.imp {X : Cx} {e : Expr} {t t' : TE} (h : PE X e t) (k : ∀ σ H Q, t' σ H Q → t σ H Q) : PE X e t' := ⟨fun pins s σ H Q I q => h.run pins s σ H Q I (k σ H Q q)⟩
theorem PT.imp {X : Cx} {e : Expr} {t t' : TT} (h : PT X e t) (k : ∀ σ H Q, t' σ H Q → t σ H Q) : PT X e t' := ⟨fun pins s σ H Q I q => h.run pins s σ H Q I (k σ H Q q)⟩
theorem PA.imp {X : Cx} {e : List Expr} {t t' : TA} (h : PA X e t) (k : ∀ σ H Q, t' σ H Q → t σ H Q) : PA X e t' := ⟨fun pos pins s σ H Q I q => h.run pos pins s σ H Q I (k σ H Q q)⟩
theorem PI.imp {X : Cx} {tg e : Expr} {t t' : TI} (h : PI X tg e t) (k : ∀ σ H Q, t' σ H Q → t σ H Q) : PI X tg e t' := ⟨fun pins s σ H Q I q => h.run pins s σ H Q I (k σ H Q q)⟩
def tE (Γ : List Slot) {α : Type} (r : RT α) (x : α) : TE := fun σ H Q => ∃ B, Env B Γ σ ∧ Ex B H ∧ ∀ v B2 H2, Go no B H B2 H2 → r.rep B2 v x → Q v H2
def tBo (Γ : List Slot) (b : Bool) : TT := fun σ H Q => ∃ B, Env B Γ σ ∧ Ex B H ∧ ∀ B2 H2, Go no B H B2 H2 → Q b H2
abbrev Dat := (α : Type) × RT α × α
abbrev dt {α : Type} (r : RT α) (x : α) : Dat := ⟨α, r, x⟩
inductive Reps (B : Hp) : List V → List Dat → Prop
  | nil : Reps B [] []
  | cons {α : Type} {r : RT α} {x : α} {v : V} {vs : List V} {ds : List Dat} : r.rep B v x → Reps B vs ds → Reps B (v :: vs) (⟨α, r, x⟩ :: ds)
theorem Reps.mono {B B' : Hp} (e : Ex B B') : ∀ {vs : List V} {ds : List Dat}, Reps B vs ds → Reps B' vs ds
  | _, _, .nil => .nil
  | _, _, .cons h t => .cons (RT.mono _ e h) (t.mono e)
def tAr (Γ : List Slot) (ds : List Dat) : TA := fun σ H Q => ∃ B, Env B Γ σ ∧ Ex B H ∧ ∀ vs B2 H2, Go no B H B2 H2 → Reps B2 vs ds → Q vs H2
def tLs (Γ : List Slot) {α : Type} (r : RT α) (xs : List α) : TA := fun σ H Q => ∃ B, Env B Γ σ ∧ Ex B H ∧ ∀ vs B2 H2, Go no B H B2 H2 → Vs r B2 vs xs → Q vs H2
def EE (X : Cx) (Γ : List Slot) {α : Type} (r : RT α) (e : Expr) (x : α) : Prop := PE X e (tE Γ r x)
def EB (X : Cx) (Γ : List Slot) (e : Expr) (b : Bool) : Prop := PT X e (tBo Γ b)
def EA (X : Cx) (Γ : List Slot) (es : List Expr) (ds : List Dat) : Prop := PA X es (tAr Γ ds)
def EL (X : Cx) (Γ : List Slot) {α : Type} (r : RT α) (es : List Expr) (xs : List α) : Prop := PA X es (tLs Γ r xs)

section
variable {X : Cx} {Γ : List Slot} {α β γ : Type} {r : RT α} {s : RT β} {a b e : Expr} {es : List Expr} {pos : Pos}
theorem ee_eq {x y : α} (h : EE X Γ r e x) (q : x = y) : EE X Γ r e y := q ▸ h
theorem eb_eq {x y : Bool} (h : EB X Γ e x) (q : x = y) : EB X Γ e y := q ▸ h
/-- another type that is weaker -/
theorem ee_imp {x : α} {y : β} (h : EE X Γ r e x) (k : ∀ H v, r.rep H v x → s.rep H v y) : EE X Γ s e y :=
  PE.imp h fun σ H Q ⟨B, en, ex, q⟩ => ⟨B, en, ex, fun v B2 H2 g rp => q v B2 H2 g (k _ _ rp)⟩
theorem ee_var (i : Nat) {n : Str} {x : α} (h : Γ[i]? = some (some ⟨α, r, x⟩)) (hN : X.N[i]? = some n := by rfl) (hv : Vis X.env.scope n := by first | exact Or.inl rfl | exact Or.inr (Or.inl rfl) | exact Or.inr (Or.inr rfl)) (hd : (n == ("__debug__" : Str)) = false := by decide)
    (hcd : (n == ("__classdict__" : Str)) = false := by decide) : EE X Γ r (.Name n pos) x :=
  PE.imp (pe_var hN hv hd hcd) fun σ H Q ⟨B, en, ex, q⟩ => by
    obtain ⟨v, h1, h2⟩ := en.get h
    exact ⟨v, h1, q v B H (Go.rf ex) h2⟩
theorem ee_int {i : Int} {j : Nat} : EE X Γ rInt (.Constant (.int i) j pos) i := PE.imp pe_int fun σ H Q ⟨B, en, ex, q⟩ => q _ B H (Go.rf ex) rfl
theorem ee_bl {i : Bool} {j : Nat} : EE X Γ rBl (.Constant (.bool i) j pos) i := PE.imp pe_bl fun σ H Q ⟨B, en, ex, q⟩ => q _ B H (Go.rf ex) rfl
theorem ee_str {i : Str} {j : Nat} : EE X Γ rStr (.Constant (.str i) j pos) i := PE.imp pe_str fun σ H Q ⟨B, en, ex, q⟩ => q _ B H (Go.rf ex) rfl
theorem ee_non {j : Nat} : EE X Γ rNon (.Constant .none j pos) () := PE.imp pe_non fun σ H Q ⟨B, en, ex, q⟩ => q _ B H (Go.rf ex) rfl
theorem ee_none {j : Nat} : EE X Γ (rOpt r) (.Constant .none j pos) none := PE.imp pe_non fun σ H Q ⟨B, en, ex, q⟩ => q _ B H (Go.rf ex) rfl
theorem ee_glob {n : Str} {v : V} {u : Value} {x : α} (hg : Gl X n) (hm : X.mg n = some u) (hr : RelV v u) (h : ∀ H, r.rep H v x) (hd : (n == ("__debug__" : Str)) = false := by decide) : EE X Γ r (.Name n pos) x :=
  PE.imp (pe_glob hg hm hr hd) fun σ H Q ⟨B, en, ex, q⟩ => q v B H (Go.rf ex) (h B)
/-- two-place operations -/
theorem ee_op {op : Operator} {q2 : R2} {x : α} {y : β} {t : RT γ} {z : γ} (ho : OpR X (binaryOp op) q2) (ha : EE X Γ r a x) (hb : EE X Γ s b y)
    (k : ∀ u w B H (Q : VK), Ex B H → r.rep B u x → s.rep B w y → (∀ v B2 H2, Go no B H B2 H2 → t.rep B2 v z → Q v H2) → q2 u w H Q) : EE X Γ t (.BinOp a op b pos) z :=
  PE.imp (pe_op ho ha hb) fun σ H Q ⟨B, en, ex, q⟩ => ⟨B, en, ex, fun u B1 H1 g1 r1 => ⟨B1, en.mono g1.b, g1.i, fun w B2 H2 g2 r2 => k u w B2 H2 Q g2.i (r.mono g2.b r1) r2 fun v B3 H3 g3 r3 => q v B3 H3 ((g1.tr g2).tr g3) r3⟩⟩
theorem ee_cmp {op : CmpOp} {q2 : R2} {x : α} {y : β} {z : Bool} (ho : OpR X (compareOp op) q2) (ha : EE X Γ r a x) (hb : EE X Γ s b y)
    (k : ∀ u w B H (Q : VK), Ex B H → r.rep B u x → s.rep B w y → (∀ B2 H2, Go no B H B2 H2 → Q (.bl z) H2) → q2 u w H Q) (hm : behindInMarks op b = false) : EE X Γ rBl (.Compare a [op] [b] pos) z :=
  PE.imp (pe_cmpR ho ha hb hm) fun σ H Q ⟨B, en, ex, q⟩ => ⟨B, en, ex, fun u B1 H1 g1 r1 => ⟨B1, en.mono g1.b, g1.i, fun w B2 H2 g2 r2 => k u w B2 H2 Q g2.i (r.mono g2.b r1) r2 fun B3 H3 g3 => q _ B3 H3 ((g1.tr g2).tr g3) rfl⟩⟩
theorem eb_cmp {op : CmpOp} {q2 : R2} {x : α} {y : β} {z : Bool} (ho : OpR X (compareOp op) q2) (ha : EE X Γ r a x) (hb : EE X Γ s b y)
    (k : ∀ u w B H (Q : VK), Ex B H → r.rep B u x → s.rep B w y → (∀ B2 H2, Go no B H B2 H2 → Q (.bl z) H2) → q2 u w H Q) (hm : behindInMarks op b = false) : EB X Γ (.Compare a [op] [b] pos) z :=
  PT.imp (pt_cmpR ho ha hb hm) fun σ H Q ⟨B, en, ex, q⟩ => ⟨B, en, ex, fun u B1 H1 g1 r1 => ⟨B1, en.mono g1.b, g1.i, fun w B2 H2 g2 r2 => k u w B2 H2 _ g2.i (r.mono g2.b r1) r2 fun B3 H3 g3 => ⟨_, rfl, q B3 H3 ((g1.tr g2).tr g3)⟩⟩⟩
theorem kI0 {g : Int → Int → Int} {x y : Int} : ∀ u w B H (Q : VK), Ex B H → rInt.rep B u x → rInt.rep B w y → (∀ v B2 H2, Go no B H B2 H2 → rInt.rep B2 v (g x y) → Q v H2) → rI0 (fun i j => .int (g i j)) u w H Q :=
  fun u w B H Q ex e1 e2 q => ⟨x, y, e1, e2, q _ B H (Go.rf ex) rfl⟩
theorem kI {C : Int → Int → Prop} {g : Int → Int → Int} {x y : Int} (hc : C x y) : ∀ u w B H (Q : VK), Ex B H → rInt.rep B u x → rInt.rep B w y → (∀ v B2 H2, Go no B H B2 H2 → rInt.rep B2 v (g x y) → Q v H2) → rI C (fun i j => .int (g i j)) u w H Q :=
  fun u w B H Q ex e1 e2 q => ⟨x, y, e1, e2, hc, q _ B H (Go.rf ex) rfl⟩
theorem kC {g : Int → Int → Bool} {x y : Int} : ∀ u w B H (Q : VK), Ex B H → rInt.rep B u x → rInt.rep B w y → (∀ B2 H2, Go no B H B2 H2 → Q (.bl (g x y)) H2) → rI0 (fun i j => .bl (g i j)) u w H Q :=
  fun u w B H Q ex e1 e2 q => ⟨x, y, e1, e2, q B H (Go.rf ex)⟩
theorem ee_add {x y : Int} (ha : EE X Γ rInt a x) (hb : EE X Γ rInt b y) : EE X Γ rInt (.BinOp a .Add b pos) (x + y) := ee_op op_add ha hb kI0
theorem ee_sub {x y : Int} (ha : EE X Γ rInt a x) (hb : EE X Γ rInt b y) : EE X Γ rInt (.BinOp a .Sub b pos) (x - y) := ee_op op_sub ha hb kI0
theorem ee_mul {x y : Int} (ha : EE X Γ rInt a x) (hb : EE X Γ rInt b y) (hc : CMul x y) : EE X Γ rInt (.BinOp a .Mult b pos) (x * y) := ee_op op_mul ha hb (kI hc)
theorem ee_fdiv {x y : Int} (ha : EE X Γ rInt a x) (hb : EE X Γ rInt b y) (hc : CDiv x y) : EE X Γ rInt (.BinOp a .FloorDiv b pos) (x / y) := ee_op op_fdiv ha hb (kI hc)
theorem ee_mod {x y : Int} (ha : EE X Γ rInt a x) (hb : EE X Γ rInt b y) (hc : 0 < y) : EE X Γ rInt (.BinOp a .Mod b pos) (x % y) := ee_op op_mod ha hb (kI hc)
theorem ee_lt {x y : Int} (ha : EE X Γ rInt a x) (hb : EE X Γ rInt b y) : EE X Γ rBl (.Compare a [.Lt] [b] pos) (decide (x < y)) := ee_cmp op_lt ha hb (kC (g := fun i j => decide (i < j))) (nomark b)
theorem ee_le {x y : Int} (ha : EE X Γ rInt a x) (hb : EE X Γ rInt b y) : EE X Γ rBl (.Compare a [.LtE] [b] pos) (decide (x ≤ y)) := ee_cmp op_le ha hb (kC (g := fun i j => decide (i ≤ j))) (nomark b)
theorem ee_gt {x y : Int} (ha : EE X Γ rInt a x) (hb : EE X Γ rInt b y) : EE X Γ rBl (.Compare a [.Gt] [b] pos) (decide (y < x)) := ee_cmp op_gt ha hb (kC (g := fun i j => decide (j < i))) (nomark b)
theorem ee_ge {x y : Int} (ha : EE X Γ rInt a x) (hb : EE X Γ rInt b y) : EE X Γ rBl (.Compare a [.GtE] [b] pos) (decide (y ≤ x)) := ee_cmp op_ge ha hb (kC (g := fun i j => decide (j ≤ i))) (nomark b)
theorem eb_lt {x y : Int} (ha : EE X Γ rInt a x) (hb : EE X Γ rInt b y) : EB X Γ (.Compare a [.Lt] [b] pos) (decide (x < y)) := eb_cmp op_lt ha hb (kC (g := fun i j => decide (i < j))) (nomark b)
theorem eb_le {x y : Int} (ha : EE X Γ rInt a x) (hb : EE X Γ rInt b y) : EB X Γ (.Compare a [.LtE] [b] pos) (decide (x ≤ y)) := eb_cmp op_le ha hb (kC (g := fun i j => decide (i ≤ j))) (nomark b)
theorem eb_gt {x y : Int} (ha : EE X Γ rInt a x) (hb : EE X Γ rInt b y) : EB X Γ (.Compare a [.Gt] [b] pos) (decide (y < x)) := eb_cmp op_gt ha hb (kC (g := fun i j => decide (j < i))) (nomark b)
theorem eb_ge {x y : Int} (ha : EE X Γ rInt a x) (hb : EE X Γ rInt b y) : EB X Γ (.Compare a [.GtE] [b] pos) (decide (y ≤ x)) := eb_cmp op_ge ha hb (kC (g := fun i j => decide (j ≤ i))) (nomark b)
theorem kEqI {x y : Int} : ∀ u w B H (Q : VK), Ex B H → rInt.rep B u x → rInt.rep B w y → (∀ B2 H2, Go no B H B2 H2 → Q (.bl (decide (x = y))) H2) → rEq u w H Q := fun u w B H Q ex e1 e2 q => by
  cases e1; cases e2
  refine ⟨rfl, ?_⟩
  rw [show decide (V.int x = V.int y) = decide (x = y) from decide_eq_decide.mpr ⟨fun h => V.int.inj h, fun h => h ▸ rfl⟩]
  exact q B H (Go.rf ex)
theorem kNeI {x y : Int} : ∀ u w B H (Q : VK), Ex B H → rInt.rep B u x → rInt.rep B w y → (∀ B2 H2, Go no B H B2 H2 → Q (.bl (!decide (x = y))) H2) → rNe u w H Q := fun u w B H Q ex e1 e2 q => by
  cases e1; cases e2
  refine ⟨rfl, ?_⟩
  rw [show decide (V.int x = V.int y) = decide (x = y) from decide_eq_decide.mpr ⟨fun h => V.int.inj h, fun h => h ▸ rfl⟩]
  exact q B H (Go.rf ex)
theorem kEqS {x y : Str} : ∀ u w B H (Q : VK), Ex B H → rStr.rep B u x → rStr.rep B w y → (∀ B2 H2, Go no B H B2 H2 → Q (.bl (decide (x = y))) H2) → rEq u w H Q := fun u w B H Q ex e1 e2 q => by
  cases e1; cases e2
  refine ⟨rfl, ?_⟩
  rw [show decide (V.str x = V.str y) = decide (x = y) from decide_eq_decide.mpr ⟨fun h => V.str.inj h, fun h => h ▸ rfl⟩]
  exact q B H (Go.rf ex)
theorem kNeS {x y : Str} : ∀ u w B H (Q : VK), Ex B H → rStr.rep B u x → rStr.rep B w y → (∀ B2 H2, Go no B H B2 H2 → Q (.bl (!decide (x = y))) H2) → rNe u w H Q := fun u w B H Q ex e1 e2 q => by
  cases e1; cases e2
  refine ⟨rfl, ?_⟩
  rw [show decide (V.str x = V.str y) = decide (x = y) from decide_eq_decide.mpr ⟨fun h => V.str.inj h, fun h => h ▸ rfl⟩]
  exact q B H (Go.rf ex)
theorem kEqB {x y : Bool} : ∀ u w B H (Q : VK), Ex B H → rBl.rep B u x → rBl.rep B w y → (∀ B2 H2, Go no B H B2 H2 → Q (.bl (decide (x = y))) H2) → rEq u w H Q := fun u w B H Q ex e1 e2 q => by
  cases e1; cases e2
  refine ⟨rfl, ?_⟩
  rw [show decide (V.bl x = V.bl y) = decide (x = y) from decide_eq_decide.mpr ⟨fun h => V.bl.inj h, fun h => h ▸ rfl⟩]
  exact q B H (Go.rf ex)
theorem kNeB {x y : Bool} : ∀ u w B H (Q : VK), Ex B H → rBl.rep B u x → rBl.rep B w y → (∀ B2 H2, Go no B H B2 H2 → Q (.bl (!decide (x = y))) H2) → rNe u w H Q := fun u w B H Q ex e1 e2 q => by
  cases e1; cases e2
  refine ⟨rfl, ?_⟩
  rw [show decide (V.bl x = V.bl y) = decide (x = y) from decide_eq_decide.mpr ⟨fun h => V.bl.inj h, fun h => h ▸ rfl⟩]
  exact q B H (Go.rf ex)
theorem ee_eqI {x y : Int} (ha : EE X Γ rInt a x) (hb : EE X Γ rInt b y) : EE X Γ rBl (.Compare a [.Eq] [b] pos) (decide (x = y)) := ee_cmp op_eq ha hb kEqI (nomark b)
theorem ee_neI {x y : Int} (ha : EE X Γ rInt a x) (hb : EE X Γ rInt b y) : EE X Γ rBl (.Compare a [.NotEq] [b] pos) (!decide (x = y)) := ee_cmp op_ne ha hb kNeI (nomark b)
theorem eb_eqI {x y : Int} (ha : EE X Γ rInt a x) (hb : EE X Γ rInt b y) : EB X Γ (.Compare a [.Eq] [b] pos) (decide (x = y)) := eb_cmp op_eq ha hb kEqI (nomark b)
theorem eb_neI {x y : Int} (ha : EE X Γ rInt a x) (hb : EE X Γ rInt b y) : EB X Γ (.Compare a [.NotEq] [b] pos) (!decide (x = y)) := eb_cmp op_ne ha hb kNeI (nomark b)
theorem ee_eqS {x y : Str} (ha : EE X Γ rStr a x) (hb : EE X Γ rStr b y) : EE X Γ rBl (.Compare a [.Eq] [b] pos) (decide (x = y)) := ee_cmp op_eq ha hb kEqS (nomark b)
theorem eb_eqS {x y : Str} (ha : EE X Γ rStr a x) (hb : EE X Γ rStr b y) : EB X Γ (.Compare a [.Eq] [b] pos) (decide (x = y)) := eb_cmp op_eq ha hb kEqS (nomark b)
theorem eb_neS {x y : Str} (ha : EE X Γ rStr a x) (hb : EE X Γ rStr b y) : EB X Γ (.Compare a [.NotEq] [b] pos) (!decide (x = y)) := eb_cmp op_ne ha hb kNeS (nomark b)
theorem ee_eqB {x y : Bool} (ha : EE X Γ rBl a x) (hb : EE X Γ rBl b y) : EE X Γ rBl (.Compare a [.Eq] [b] pos) (decide (x = y)) := ee_cmp op_eq ha hb kEqB (nomark b)
theorem eb_neB {x y : Bool} (ha : EE X Γ rBl a x) (hb : EE X Γ rBl b y) : EB X Γ (.Compare a [.NotEq] [b] pos) (!decide (x = y)) := eb_cmp op_ne ha hb kNeB (nomark b)
/-- a <= b <= c -/
theorem ee_lele {c : Expr} {x y z : Int} (ha : EE X Γ rInt a x) (hb : EE X Γ rInt b y) (hc : EE X Γ rInt c z) (hm : lastMarks [CmpOp.LtE, CmpOp.LtE] [b, c] = false := by rfl) : EE X Γ rBl (.Compare a [.LtE, .LtE] [b, c] pos) (decide (x ≤ y) && decide (y ≤ z)) :=
  PE.imp (pe_chain op_le op_le ha hb hc hm) fun σ H Q ⟨B, en, ex, q⟩ => ⟨B, en, ex, fun u B1 H1 g1 r1 => ⟨B1, en.mono g1.b, g1.i, fun w B2 H2 g2 r2 => by
    cases r1; cases r2
    refine ⟨x, y, rfl, rfl, decide (x ≤ y), rfl, ?_⟩
    by_cases h : x ≤ y
    · simp only [h, decide_true, if_true, Bool.true_and] at q ⊢
      exact ⟨B2, en.mono (g1.tr g2).b, g2.i, fun w B3 H3 g3 r3 => by
        cases r3
        exact ⟨y, z, rfl, rfl, q _ B3 H3 ((g1.tr g2).tr g3) rfl⟩⟩
    · simp only [h, decide_false, Bool.false_and] at q ⊢
      refine iteF ?_
      exact q _ B2 H2 (g1.tr g2) rfl⟩⟩
/-- tests -/
theorem eb_val {x : Bool} (h : EE X Γ rBl e x) (he : ∀ whole, isTrue e X.env whole = (do let v ← whole; standAt e.pos; holding [v] (truthy v)) := by intro _; rfl) : EB X Γ e x :=
  PT.imp (pt_val h he) fun σ H Q ⟨B, en, ex, q⟩ => ⟨B, en, ex, fun v B1 H1 g1 r1 => ⟨x, r1, q B1 H1 g1⟩⟩
theorem eb_and {x y : Bool} (ha : EB X Γ a x) (hb : x = true → EB X Γ b y) : EB X Γ (.BoolOp .And [a, b] pos) (x && y) := by
  cases x with
  | true =>
    refine PT.imp (pw_and ha (pw_and1 (hb rfl))).pt fun σ H Q ⟨B, en, ex, q⟩ => ⟨B, en, ex, fun B1 H1 g1 => ?_⟩
    refine iteT ?_
    exact ⟨B1, en.mono g1.b, g1.i, fun B2 H2 g2 => q B2 H2 (g1.tr g2)⟩
  | false =>
    refine PT.imp (pw_and ha (tB' := fun _ _ _ => False) ⟨fun _ _ _ _ _ _ _ h => h.elim⟩).pt fun σ H Q ⟨B, en, ex, q⟩ => ⟨B, en, ex, fun B1 H1 g1 => ?_⟩
    refine iteF ?_
    exact q B1 H1 g1
theorem eb_or {x y : Bool} (ha : EB X Γ a x) (hb : x = false → EB X Γ b y) : EB X Γ (.BoolOp .Or [a, b] pos) (x || y) := by
  cases x with
  | false =>
    refine PT.imp (pw_or ha (pw_or1 (hb rfl))).pt fun σ H Q ⟨B, en, ex, q⟩ => ⟨B, en, ex, fun B1 H1 g1 => ?_⟩
    refine iteF ?_
    exact ⟨B1, en.mono g1.b, g1.i, fun B2 H2 g2 => q B2 H2 (g1.tr g2)⟩
  | true =>
    refine PT.imp (pw_or ha (tB' := fun _ _ _ => False) ⟨fun _ _ _ _ _ _ _ h => h.elim⟩).pt fun σ H Q ⟨B, en, ex, q⟩ => ⟨B, en, ex, fun B1 H1 g1 => ?_⟩
    refine iteT ?_
    exact q B1 H1 g1
theorem eb_not {x : Bool} (ha : EB X Γ a x) : EB X Γ (.UnaryOp .Not a pos) (!x) := PT.imp (pt_not ha) fun σ H Q ⟨B, en, ex, q⟩ => ⟨B, en, ex, fun B1 H1 g1 => q B1 H1 g1⟩
theorem ee_andV {x y : Bool} (ha : EE X Γ rBl a x) (hb : x = true → EE X Γ rBl b y) : EE X Γ rBl (.BoolOp .And [a, b] pos) (x && y) := by
  cases x with
  | true =>
    refine PE.imp (pe_and ha (pe_one (hb rfl))) fun σ H Q ⟨B, en, ex, q⟩ => ⟨B, en, ex, fun v B1 H1 g1 r1 => ⟨true, r1, ?_⟩⟩
    refine iteT ?_
    exact ⟨B1, en.mono g1.b, g1.i, fun v B2 H2 g2 => q v B2 H2 (g1.tr g2)⟩
  | false =>
    refine PE.imp (pe_and ha (tb := fun _ _ _ => False) ⟨fun _ _ _ _ _ _ h => h.elim⟩) fun σ H Q ⟨B, en, ex, q⟩ => ⟨B, en, ex, fun v B1 H1 g1 r1 => ⟨false, r1, ?_⟩⟩
    refine iteF ?_
    exact q _ B1 H1 g1 rfl
theorem ee_orV {x y : Bool} (ha : EE X Γ rBl a x) (hb : x = false → EE X Γ rBl b y) : EE X Γ rBl (.BoolOp .Or [a, b] pos) (x || y) := by
  cases x with
  | false =>
    refine PE.imp (pe_or ha (pe_one (hb rfl))) fun σ H Q ⟨B, en, ex, q⟩ => ⟨B, en, ex, fun v B1 H1 g1 r1 => ⟨false, r1, ?_⟩⟩
    refine iteF ?_
    exact ⟨B1, en.mono g1.b, g1.i, fun v B2 H2 g2 => q v B2 H2 (g1.tr g2)⟩
  | true =>
    refine PE.imp (pe_or ha (tb := fun _ _ _ => False) ⟨fun _ _ _ _ _ _ h => h.elim⟩) fun σ H Q ⟨B, en, ex, q⟩ => ⟨B, en, ex, fun v B1 H1 g1 r1 => ⟨true, r1, ?_⟩⟩
    refine iteT ?_
    exact q _ B1 H1 g1 rfl
theorem ee_notV {x : Bool} (ha : EE X Γ rBl a x) : EE X Γ rBl (.UnaryOp .Not a pos) (!x) := PE.imp (pe_not ha) fun σ H Q ⟨B, en, ex, q⟩ => ⟨B, en, ex, fun v B1 H1 g1 r1 => ⟨x, r1, q _ B1 H1 g1 rfl⟩⟩
/-- a if c else b -/
theorem ee_if {c : Expr} {x : Bool} {y z : α} (hc : EB X Γ c x) (ha : x = true → EE X Γ r a y) (hb : x = false → EE X Γ r b z) : EE X Γ r (.IfExp c a b pos) (if x then y else z) := by
  cases x with
  | true =>
    refine PE.imp (pe_ifExp hc (ha rfl) (tb := fun _ _ _ => False) ⟨fun _ _ _ _ _ _ h => h.elim⟩) fun σ H Q ⟨B, en, ex, q⟩ => ⟨B, en, ex, fun B1 H1 g1 => ?_⟩
    refine iteT ?_
    exact ⟨B1, en.mono g1.b, g1.i, fun v B2 H2 g2 => q v B2 H2 (g1.tr g2)⟩
  | false =>
    refine PE.imp (pe_ifExp hc (ta := fun _ _ _ => False) ⟨fun _ _ _ _ _ _ h => h.elim⟩ (hb rfl)) fun σ H Q ⟨B, en, ex, q⟩ => ⟨B, en, ex, fun B1 H1 g1 => ?_⟩
    refine iteF ?_
    exact ⟨B1, en.mono g1.b, g1.i, fun v B2 H2 g2 => q v B2 H2 (g1.tr g2)⟩
/-- is None, is not None -/
theorem eb_isN {x : Option α} {j : Nat} {p2 : Pos} (ha : EE X Γ (rOpt r) a x) : EB X Γ (.Compare a [.Is] [.Constant .none j p2] pos) x.isNone := by
  refine PT.imp (pt_cmp (pc_isN ha)) fun σ H Q ⟨B, en, ex, q⟩ => ⟨B, en, ex, fun v B1 H1 g1 r1 => ⟨_, rfl, ?_⟩⟩
  cases x with
  | none =>
    cases r1
    exact q B1 H1 g1
  | some y => rw [decide_eq_false r1.1]; exact q B1 H1 g1
theorem eb_notN {x : Option α} {j : Nat} {p2 : Pos} (ha : EE X Γ (rOpt r) a x) : EB X Γ (.Compare a [.IsNot] [.Constant .none j p2] pos) x.isSome := by
  refine PT.imp (pt_cmp (pc_notN ha)) fun σ H Q ⟨B, en, ex, q⟩ => ⟨B, en, ex, fun v B1 H1 g1 r1 => ⟨_, rfl, ?_⟩⟩
  cases x with
  | none =>
    cases r1
    exact q B1 H1 g1
  | some y => rw [decide_eq_false r1.1]; exact q B1 H1 g1
theorem ee_isN {x : Option α} {j : Nat} {p2 : Pos} (ha : EE X Γ (rOpt r) a x) : EE X Γ rBl (.Compare a [.Is] [.Constant .none j p2] pos) x.isNone := by
  refine PE.imp (pe_cmp (pc_isN ha)) fun σ H Q ⟨B, en, ex, q⟩ => ⟨B, en, ex, fun v B1 H1 g1 r1 => ?_⟩
  cases x with
  | none =>
    cases r1
    exact q _ B1 H1 g1 rfl
  | some y => rw [decide_eq_false r1.1]; exact q _ B1 H1 g1 rfl
/-- arguments -/
theorem ea_nil : EA X Γ [] [] := PA.imp pa_nil fun σ H Q ⟨B, en, ex, q⟩ => q [] B H (Go.rf ex) .nil
theorem ea_cons {x : α} {ds : List Dat} (ha : EE X Γ r a x) (hr : EA X Γ es ds) (hs : starEach (a :: es) X.env = (false, eval a X.env) :: starEach es X.env := by rfl) : EA X Γ (a :: es) (⟨α, r, x⟩ :: ds) :=
  PA.imp (pa_cons ha hr hs) fun σ H Q ⟨B, en, ex, q⟩ => ⟨B, en, ex, fun v B1 H1 g1 r1 => ⟨B1, en.mono g1.b, g1.i, fun vs B2 H2 g2 r2 => q _ B2 H2 (g1.tr g2) (.cons (r.mono g2.b r1) r2)⟩⟩
theorem el_nil : EL X Γ r [] [] := PA.imp pa_nil fun σ H Q ⟨B, en, ex, q⟩ => q [] B H (Go.rf ex) .nil
theorem el_cons {x : α} {xs : List α} (ha : EE X Γ r a x) (hr : EL X Γ r es xs) (hs : starEach (a :: es) X.env = (false, eval a X.env) :: starEach es X.env := by rfl) : EL X Γ r (a :: es) (x :: xs) :=
  PA.imp (pa_cons ha hr hs) fun σ H Q ⟨B, en, ex, q⟩ => ⟨B, en, ex, fun v B1 H1 g1 r1 => ⟨B1, en.mono g1.b, g1.i, fun vs B2 H2 g2 r2 => q _ B2 H2 (g1.tr g2) (.cons (r.mono g2.b r1) r2)⟩⟩
theorem el_star {p : Pos} {xs ys : List α} (ha : EE X Γ (rSeq X.K r) a xs) (hr : EL X Γ r es ys) : EL X Γ r (.Starred a p :: es) (xs ++ ys) :=
  PA.imp (StX.pa_star ha hr) fun σ H Q ⟨B, en, ex, q⟩ => ⟨B, en, ex, fun v B1 H1 g1 ⟨a, vs, e1, e2, e3⟩ => ⟨a, vs, e1, e2.symm.imp g1.i.sqT g1.i.sqL, B1, en.mono g1.b, g1.i, fun ws B2 H2 g2 r2 => q _ B2 H2 (g1.tr g2) ((e3.mono g2.b).app r2)⟩⟩
/-- list or tuple -/
theorem ee_seqL {K : Fr} {xs : List α} (h : EE X Γ (rLst K r) e xs) : EE X Γ (rSeq K r) e xs := ee_imp h fun H v ⟨a, vs, h1, h2, h3⟩ => ⟨a, vs, h1, .inl (.inl (.inl h2)), h3⟩
theorem ee_seqF {K : Fr} {xs : List α} (h : EE X Γ (rLsF K r) e xs) : EE X Γ (rSeq K r) e xs := ee_imp h fun H v ⟨a, vs, h1, h2, h3⟩ => ⟨a, vs, h1, .inl h2, h3⟩
theorem ee_lsF {K : Fr} {xs : List α} (h : EE X Γ (rLst K r) e xs) : EE X Γ (rLsF K r) e xs := ee_imp h fun H v ⟨a, vs, h1, h2, h3⟩ => ⟨a, vs, h1, .inl (.inl h2), h3⟩
theorem ee_seqT {K : Fr} {xs : List α} (h : EE X Γ (rTup K r) e xs) : EE X Γ (rSeq K r) e xs := ee_imp h fun H v ⟨a, vs, h1, h2, h3⟩ => ⟨a, vs, h1, .inr h2, h3⟩
/-- displays -/
theorem big {n : Nat} (h : n ≤ 100000) : n ≤ sizeLine := Nat.le_trans h (by decide)
theorem bigL {n : Nat} (h : n < 100000) : n < sizeLine := Nat.lt_of_lt_of_le h (by decide)
theorem ee_lst {xs : List α} (h : EL X Γ r es xs) (hl : xs.length ≤ 100000) : EE X Γ (rLst X.K r) (.List es pos) xs :=
  PE.imp (pe_lst h) fun σ H Q ⟨B, en, ex, q⟩ => ⟨B, en, ex, fun vs B1 H1 g1 r1 => ⟨by rw [r1.len]; exact big hl, fun p hp => q _ (upd B1 p (.lst vs)) _ (g1.tr (Go.new g1.i hp)) ⟨p, vs, rfl, upd_same, r1.mono (Ex.new (g1.i.back hp))⟩⟩⟩
theorem ee_tupL {k : Nat} {xs : List α} (h : EL X Γ r es xs) (hl : xs.length ≤ 100000) : EE X Γ (rTup X.K r) (.Tuple es k pos) xs :=
  PE.imp (pe_tup h) fun σ H Q ⟨B, en, ex, q⟩ => ⟨B, en, ex, fun vs B1 H1 g1 r1 => ⟨by rw [r1.len]; exact big hl, fun p hp => q _ (upd B1 p (.tup vs)) _ (g1.tr (Go.new g1.i hp)) ⟨p, vs, rfl, .inl (.inl upd_same), r1.mono (Ex.new (g1.i.back hp))⟩⟩⟩
theorem ee_pr {k : Nat} {x : α} {y : β} (ha : EE X Γ r a x) (hb : EE X Γ s b y) (h1 : starEach [a, b] X.env = (false, eval a X.env) :: starEach [b] X.env := by rfl) (h2 : starEach [b] X.env = (false, eval b X.env) :: starEach [] X.env := by rfl) : EE X Γ (rPr X.K r s) (.Tuple [a, b] k pos) (x, y) :=
  PE.imp (pe_tup (ea_cons ha (ea_cons hb ea_nil h2) h1)) fun σ H Q ⟨B, en, ex, q⟩ => ⟨B, en, ex, fun vs B1 H1 g1 r1 => by
    cases r1 with
    | cons r1 r2 =>
      cases r2 with
      | cons r2 r3 =>
        cases r3
        exact ⟨by show 2 ≤ sizeLine; decide, fun p hp => q _ (upd B1 p (.tup _)) _ (g1.tr (Go.new g1.i hp)) ⟨p, _, _, rfl, .inl (.inl upd_same), r.mono (Ex.new (g1.i.back hp)) r1, s.mono (Ex.new (g1.i.back hp)) r2⟩⟩⟩
theorem ee_tri {c : Expr} {k : Nat} {t : RT γ} {x : α} {y : β} {z : γ} (ha : EE X Γ r a x) (hb : EE X Γ s b y) (hc : EE X Γ t c z) (h1 : starEach [a, b, c] X.env = (false, eval a X.env) :: starEach [b, c] X.env := by rfl) (h2 : starEach [b, c] X.env = (false, eval b X.env) :: starEach [c] X.env := by rfl) (h3 : starEach [c] X.env = (false, eval c X.env) :: starEach [] X.env := by rfl) : EE X Γ (rTri X.K r s t) (.Tuple [a, b, c] k pos) (x, y, z) :=
  PE.imp (pe_tup (ea_cons ha (ea_cons hb (ea_cons hc ea_nil h3) h2) h1)) fun σ H Q ⟨B, en, ex, q⟩ => ⟨B, en, ex, fun vs B1 H1 g1 r1 => by
    cases r1 with
    | cons r1 r2 =>
      cases r2 with
      | cons r2 r3 =>
        cases r3 with
        | cons r3 r4 =>
          cases r4
          exact ⟨by show 3 ≤ sizeLine; decide, fun p hp => q _ (upd B1 p (.tup _)) _ (g1.tr (Go.new g1.i hp)) ⟨p, _, _, _, rfl, .inl (.inl upd_same), r.mono (Ex.new (g1.i.back hp)) r1, s.mono (Ex.new (g1.i.back hp)) r2, t.mono (Ex.new (g1.i.back hp)) r3⟩⟩⟩
end
end K81
set_option Elab.async false
set_option linter.all false
set_option maxRecDepth 100000
set_option maxHeartbeats 1900000
namespace K81
open PySem L2
theorem Go.show {w : Addr → Prop} {B0 H0 B H : Hp} {p : Addr} {o : HO} (g : Go w B0 H0 B H) (hp : B p = none) (h0 : H0 p = none) (h : H p = some o) : Go w B0 H0 (upd B p o) H :=
  ⟨g.b.tr (Ex.new hp), g.h, fun a u e => by
    by_cases q : a = p
    · subst q; rw [upd_same] at e; rw [h]; exact e
    · rw [upd_ne q] at e; exact g.i a u e, fun a h1 hb => by
    rw [upd_ne (ne_cell h1 h0)]; exact g.n a h1 hb, g.e⟩
/-! ### places, slices, lengths -/
theorem Vs.at {α : Type} {r : RT α} {H : Hp} {vs : List V} {xs : List α} {i : Int} {x : α} (h : Vs r H vs xs) (e : atI xs i = some x) : ∃ v, atI vs i = some v ∧ r.rep H v x := by
  unfold atI at e ⊢
  rw [h.len]
  cases q : ixN xs.length i with
  | none => rw [q] at e; cases e
  | some j =>
    rw [q] at e
    exact h.get (i := j) e
def cut {α : Type} (xs : List α) (lo hi : Option Int) : List α := (xs.drop (HT.sIx xs.length 0 lo)).take (HT.sIx xs.length xs.length hi - HT.sIx xs.length 0 lo)
theorem Vs.cut {α : Type} {r : RT α} {H : Hp} {vs : List V} {xs : List α} (lo hi : Option Int) (h : Vs r H vs xs) : Vs r H (cutV vs lo hi) (cut xs lo hi) := by
  unfold cutV K81.cut
  rw [h.len]
  exact (h.drop _).take _
theorem cut_from {α : Type} (xs : List α) (n : Nat) : cut xs (some (n : Int)) none = xs.drop n := by
  unfold cut
  rw [HT.sIx_nat, HT.sIx_none]
  by_cases h : n ≤ xs.length
  · rw [Nat.min_eq_left h]
    exact List.take_of_length_le (by rw [List.length_drop]; exact Nat.le_refl _)
  · rw [Nat.min_eq_right (by omega), List.drop_of_length_le (Nat.le_refl _), List.drop_of_length_le (by omega)]; simp
theorem cut_to {α : Type} (xs : List α) (n : Nat) : cut xs none (some (n : Int)) = xs.take n := by
  unfold cut
  rw [HT.sIx_nat, HT.sIx_none]
  simp [List.take_eq_take_iff]
def tPO (Γ : List Slot) (o : Option Int) : TO := fun σ H Q => ∃ B, Env B Γ σ ∧ Ex B H ∧ ∀ B2 H2, Go no B H B2 H2 → Q o H2
def EO (X : Cx) (Γ : List Slot) (e : Option Expr) (o : Option Int) : Prop := PO X e (tPO Γ o)
section
variable {X : Cx} {Γ : List Slot} {α β γ : Type} {r : RT α} {s : RT β} {a b e : Expr} {es : List Expr} {pos p2 p : Pos} {n : Str} {lo hi : Option Expr}
theorem eo_none : EO X Γ none none := ⟨fun pins s σ H Q I ⟨B, en, ex, q⟩ => po_none.run pins s σ H Q I (q B H (Go.rf ex))⟩
theorem eo_some {x : Int} (h : EE X Γ rInt e x) : EO X Γ (some e) (some x) :=
  ⟨fun pins s σ H Q I ⟨B, en, ex, q⟩ => (po_some h).run pins s σ H Q I ⟨B, en, ex, fun v B1 H1 g1 r1 => ⟨x, r1, q B1 H1 g1⟩⟩⟩
theorem ee_ixF {xs : List α} {i : Int} {x : α} (ha : EE X Γ (rLsF X.K r) a xs) (hb : EE X Γ rInt b i) (hx : atI xs i = some x) (hs : PlainIx b := by exact fun _ _ => rfl) : EE X Γ r (.Subscript a b pos) x :=
  PE.imp (pe_ix ix_list ha hb hs) fun σ H Q ⟨B, en, ex, q⟩ => ⟨B, en, ex, fun u B1 H1 g1 ⟨a, vs, e1, e2, e3⟩ => ⟨B1, en.mono g1.b, g1.i, fun w B2 H2 g2 r2 => by
    obtain ⟨v, h1, h2⟩ := (e3.mono g2.b).at hx
    exact ⟨a, vs, i, v, e1, r2, (g1.i.tr g2.hx).sqL e2, h1, q v B2 H2 (g1.tr g2) h2⟩⟩⟩
theorem ee_ixL {xs : List α} {i : Int} {x : α} (ha : EE X Γ (rLst X.K r) a xs) (hb : EE X Γ rInt b i) (hx : atI xs i = some x) (hs : PlainIx b := by exact fun _ _ => rfl) : EE X Γ r (.Subscript a b pos) x := ee_ixF (ee_lsF ha) hb hx hs
theorem ee_ixT {xs : List α} {i : Int} {x : α} (ha : EE X Γ (rTup X.K r) a xs) (hb : EE X Γ rInt b i) (hx : atI xs i = some x) (hs : PlainIx b := by exact fun _ _ => rfl) : EE X Γ r (.Subscript a b pos) x :=
  PE.imp (pe_ix ix_tup ha hb hs) fun σ H Q ⟨B, en, ex, q⟩ => ⟨B, en, ex, fun u B1 H1 g1 ⟨a, vs, e1, e2, e3⟩ => ⟨B1, en.mono g1.b, g1.i, fun w B2 H2 g2 r2 => by
    obtain ⟨v, h1, h2⟩ := (e3.mono g2.b).at hx
    exact ⟨a, vs, i, v, e1, r2, (g1.i.tr g2.hx).sqT e2, h1, q v B2 H2 (g1.tr g2) h2⟩⟩⟩
theorem ee_fst {x : α × β} (ha : EE X Γ (rPr X.K r s) a x) (hb : EE X Γ rInt b 0) (hs : PlainIx b := by exact fun _ _ => rfl) : EE X Γ r (.Subscript a b pos) x.1 :=
  PE.imp (pe_ix ix_tup ha hb hs) fun σ H Q ⟨B, en, ex, q⟩ => ⟨B, en, ex, fun u B1 H1 g1 ⟨a, v, w, e1, e2, e3, e4⟩ => ⟨B1, en.mono g1.b, g1.i, fun z B2 H2 g2 r2 =>
    ⟨a, [v, w], 0, v, e1, r2, (g1.i.tr g2.hx).sqT e2, rfl, q v B2 H2 (g1.tr g2) (r.mono g2.b e3)⟩⟩⟩
theorem ee_snd {x : α × β} (ha : EE X Γ (rPr X.K r s) a x) (hb : EE X Γ rInt b 1) (hs : PlainIx b := by exact fun _ _ => rfl) : EE X Γ s (.Subscript a b pos) x.2 :=
  PE.imp (pe_ix ix_tup ha hb hs) fun σ H Q ⟨B, en, ex, q⟩ => ⟨B, en, ex, fun u B1 H1 g1 ⟨a, v, w, e1, e2, e3, e4⟩ => ⟨B1, en.mono g1.b, g1.i, fun z B2 H2 g2 r2 =>
    ⟨a, [v, w], 1, w, e1, r2, (g1.i.tr g2.hx).sqT e2, rfl, q w B2 H2 (g1.tr g2) (s.mono g2.b e4)⟩⟩⟩
theorem ee_thd {t : RT γ} {x : α × β × γ} (ha : EE X Γ (rTri X.K r s t) a x) (hb : EE X Γ rInt b 2) (hs : PlainIx b := by exact fun _ _ => rfl) : EE X Γ t (.Subscript a b pos) x.2.2 :=
  PE.imp (pe_ix ix_tup ha hb hs) fun σ H Q ⟨B, en, ex, q⟩ => ⟨B, en, ex, fun u B1 H1 g1 ⟨a, v, w, y, e1, e2, e3, e4, e5⟩ => ⟨B1, en.mono g1.b, g1.i, fun z B2 H2 g2 r2 =>
    ⟨a, [v, w, y], 2, y, e1, r2, (g1.i.tr g2.hx).sqT e2, rfl, q y B2 H2 (g1.tr g2) (t.mono g2.b e5)⟩⟩⟩
theorem ee_slF {xs : List α} {i j : Option Int} (ha : EE X Γ (rLsF X.K r) a xs) (hl : EO X Γ lo i) (hh : EO X Γ hi j) : EE X Γ (rLst X.K r) (.Subscript a (.Slice lo hi none p2) pos) (cut xs i j) :=
  PE.imp (pe_slice sl_list ha hl hh) fun σ H Q ⟨B, en, ex, q⟩ => ⟨B, en, ex, fun u B1 H1 g1 ⟨a, vs, e1, e2, e3⟩ => ⟨B1, en.mono g1.b, g1.i, fun B2 H2 g2 => ⟨B2, en.mono (g1.tr g2).b, g2.i, fun B3 H3 g3 =>
    ⟨a, vs, e1, (g1.i.tr (g2.hx.tr g3.hx)).sqL e2, fun p hp => q _ (upd B3 p (.lst _)) _ (((g1.tr g2).tr g3).tr (Go.new g3.i hp)) ⟨p, _, rfl, upd_same, ((e3.mono (g2.tr g3).b).cut i j).mono (Ex.new (g3.i.back hp))⟩⟩⟩⟩⟩
theorem ee_slL {xs : List α} {i j : Option Int} (ha : EE X Γ (rLst X.K r) a xs) (hl : EO X Γ lo i) (hh : EO X Γ hi j) : EE X Γ (rLst X.K r) (.Subscript a (.Slice lo hi none p2) pos) (cut xs i j) := ee_slF (ee_lsF ha) hl hh
theorem cut_all {xs : List α} {i j : Option Int} (h1 : HT.sIx xs.length 0 i = 0) (h2 : HT.sIx xs.length xs.length j = xs.length) : cut xs i j = xs := by
  unfold cut
  rw [h1, h2]
  simp
theorem ee_slT {xs : List α} {i j : Option Int} (ha : EE X Γ (rTup X.K r) a xs) (hl : EO X Γ lo i) (hh : EO X Γ hi j) : EE X Γ (rTup X.K r) (.Subscript a (.Slice lo hi none p2) pos) (cut xs i j) :=
  PE.imp (pe_slice sl_tupA ha hl hh) fun σ H Q ⟨B, en, ex, q⟩ => ⟨B, en, ex, fun u B1 H1 g1 ⟨a, vs, e1, e2, e3⟩ => ⟨B1, en.mono g1.b, g1.i, fun B2 H2 g2 => ⟨B2, en.mono (g1.tr g2).b, g2.i, fun B3 H3 g3 =>
    ⟨a, vs, e1, (g1.i.tr (g2.hx.tr g3.hx)).sqT e2, fun ⟨h1, h2⟩ => q _ B3 _ ((g1.tr g2).tr g3) (by
      rw [cut_all (by rw [← e3.len]; exact h1) (by rw [← e3.len]; exact h2)]
      exact ⟨a, vs, rfl, (g2.tr g3).b.sqT e2, e3.mono (g2.tr g3).b⟩), fun _ p hp => q _ (upd B3 p (.tup _)) _ (((g1.tr g2).tr g3).tr (Go.new g3.i hp)) ⟨p, _, rfl, .inl (.inl upd_same), ((e3.mono (g2.tr g3).b).cut i j).mono (Ex.new (g3.i.back hp))⟩⟩⟩⟩⟩
theorem ee_revT {xs : List α} {j : Nat} {p3 p4 : Pos} (ha : EE X Γ (rTup X.K r) a xs) : EE X Γ (rTup X.K r) (.Subscript a (.Slice none none (some (.UnaryOp .USub (.Constant (.int 1) j p3) p4)) p2) pos) xs.reverse := by
  refine PE.imp (pe_revT ha) fun σ H Q ⟨B, en, ex, q⟩ => ⟨B, en, ex, fun u B1 H1 g1 r1 => ?_⟩
  obtain ⟨c, vs, e1, e2, e3⟩ := r1
  exact ⟨c, vs, e1, g1.i.sqT e2, fun p hp => q _ (upd B1 p (.tup vs.reverse)) _ (g1.tr (Go.new g1.i hp)) ⟨p, _, rfl, .inl (.inl upd_same), e3.rev.mono (Ex.new (g1.i.back hp))⟩⟩
theorem ee_catL {xs ys : List α} (ha : EE X Γ (rLst X.K r) a xs) (hb : EE X Γ (rLst X.K r) b ys) (hl : xs.length + ys.length ≤ 100000) : EE X Γ (rLst X.K r) (.BinOp a .Add b pos) (xs ++ ys) :=
  ee_op op_cat ha hb fun u w B H Q ex ⟨a, vs, e1, e2, e3⟩ ⟨c, ws, f1, f2, f3⟩ q => ⟨a, c, vs, ws, e1, f1, ex _ _ e2, ex _ _ f2, by rw [e3.len, f3.len]; exact big hl, fun p hp => q _ (upd B p (.lst _)) _ (Go.new ex hp) ⟨p, _, rfl, upd_same, (e3.app f3).mono (Ex.new (ex.back hp))⟩⟩
theorem ee_catT {xs ys : List α} (ha : EE X Γ (rTup X.K r) a xs) (hb : EE X Γ (rTup X.K r) b ys) (hl : xs.length + ys.length ≤ 100000) : EE X Γ (rTup X.K r) (.BinOp a .Add b pos) (xs ++ ys) :=
  ee_op op_catA ha hb fun u w B H Q ex ⟨a, vs, e1, e2, e3⟩ ⟨c, ws, f1, f2, f3⟩ q => ⟨a, c, vs, ws, e1, f1, ex.sqT e2, ex.sqT f2, by rw [e3.len, f3.len]; exact big hl, fun h0 => by
      subst h0
      cases e3
      exact q _ B H (Go.rf ex) ⟨c, ws, rfl, f2, f3⟩, fun _ h0 => by
      subst h0
      cases f3
      rw [List.append_nil] at q
      exact q _ B H (Go.rf ex) ⟨a, vs, rfl, e2, e3⟩, fun _ _ p hp => q _ (upd B p (.tup _)) _ (Go.new ex hp) ⟨p, _, rfl, .inl (.inl upd_same), (e3.app f3).mono (Ex.new (ex.back hp))⟩⟩
/-! ### built-in functions -/
theorem ee_cb1 {id : String} {rr : List V → Hp → VK → Prop} {x : α} {y : β} (hc : CallR X (.builtin id) rr) (hv : bootBuiltins n = some (.builtin id)) (hm : X.mg n = none) (ha : EE X Γ r a x)
    (k : ∀ v B H (Q : VK), Ex B H → r.rep B v x → (∀ w B2 H2, Go no B H B2 H2 → s.rep B2 w y → Q w H2) → rr [v] H Q) (hg : Gl X n := by rfl) (hn : n ≠ "__name__" := by decide) (hdb : (n == ("__debug__" : Str)) = false := by decide)
    (he : starEach [a] X.env = (false, eval a X.env) :: starEach [] X.env := by rfl) : EE X Γ s (.Call (.Name n p) [a] [] pos) y :=
  PE.imp (pe_callB hc hg hm hv (ea_cons ha ea_nil he) hn hdb he) fun σ H Q ⟨B, en, ex, q⟩ => ⟨B, en, ex, fun vs B1 H1 g1 r1 => by
    cases r1 with
    | cons r1 r2 =>
      cases r2
      exact k _ B1 H1 _ g1.i r1 fun w B2 H2 g2 r3 => q w B2 H2 (g1.tr g2) r3⟩
theorem ee_ct1 {T : String} {rr : List V → Hp → VK → Prop} {x : α} {y : β} (hc : CallR X (.type T) rr) (hv : bootBuiltins n = some (.type T)) (hm : X.mg n = none) (ha : EE X Γ r a x)
    (k : ∀ v B H (Q : VK), Ex B H → r.rep B v x → (∀ w B2 H2, Go no B H B2 H2 → s.rep B2 w y → Q w H2) → rr [v] H Q) (hg : Gl X n := by rfl) (hn : n ≠ "__name__" := by decide) (hdb : (n == ("__debug__" : Str)) = false := by decide)
    (he : starEach [a] X.env = (false, eval a X.env) :: starEach [] X.env := by rfl) : EE X Γ s (.Call (.Name n p) [a] [] pos) y :=
  PE.imp (pe_callTy hc hg hm hv (ea_cons ha ea_nil he) hn hdb he) fun σ H Q ⟨B, en, ex, q⟩ => ⟨B, en, ex, fun vs B1 H1 g1 r1 => by
    cases r1 with
    | cons r1 r2 =>
      cases r2
      exact k _ B1 H1 _ g1.i r1 fun w B2 H2 g2 r3 => q w B2 H2 (g1.tr g2) r3⟩
theorem ee_cb2 {id : String} {rr : List V → Hp → VK → Prop} {x : α} {y : β} {t : RT γ} {z : γ} (hc : CallR X (.builtin id) rr) (hv : bootBuiltins n = some (.builtin id)) (hm : X.mg n = none) (ha : EE X Γ r a x) (hb : EE X Γ s b y)
    (k : ∀ v u B H (Q : VK), Ex B H → r.rep B v x → s.rep B u y → (∀ w B2 H2, Go no B H B2 H2 → t.rep B2 w z → Q w H2) → rr [v, u] H Q) (hg : Gl X n := by rfl) (hn : n ≠ "__name__" := by decide) (hdb : (n == ("__debug__" : Str)) = false := by decide)
    (he : starEach [a, b] X.env = (false, eval a X.env) :: starEach [b] X.env := by rfl) (he2 : starEach [b] X.env = (false, eval b X.env) :: starEach [] X.env := by rfl) (hpl : (backTo pos (starEach [b] X.env)).any (·.1) = false := by rfl) : EE X Γ t (.Call (.Name n p) [a, b] [] pos) z :=
  PE.imp (pe_callB hc hg hm hv (ea_cons ha (ea_cons hb ea_nil he2) he) hn hdb he hpl) fun σ H Q ⟨B, en, ex, q⟩ => ⟨B, en, ex, fun vs B1 H1 g1 r1 => by
    cases r1 with
    | cons r1 r2 =>
      cases r2 with
      | cons r2 r3 =>
        cases r3
        exact k _ _ B1 H1 _ g1.i r1 r2 fun w B2 H2 g2 r3 => q w B2 H2 (g1.tr g2) r3⟩
theorem vs_int {B : Hp} : ∀ {vs : List V} {xs : List Int}, Vs rInt B vs xs → vs = xs.map V.int
  | _, _, .nil => rfl
  | _, _, .cons h t => by rw [vs_int t]; cases h; rfl
theorem vs_bl {B : Hp} : ∀ {vs : List V} {xs : List Bool}, Vs rBl B vs xs → vs = xs.map V.bl
  | _, _, .nil => rfl
  | _, _, .cons h t => by rw [vs_bl t]; cases h; rfl
theorem vs_ints (B : Hp) : ∀ xs : List Int, Vs rInt B (xs.map V.int) xs
  | [] => .nil
  | _ :: xs => .cons rfl (vs_ints B xs)
theorem ee_len {xs : List α} (hm : X.mg "len" = none) (ha : EE X Γ (rSeq X.K r) a xs) (hg : Gl X "len" := by rfl) (he : starEach [a] X.env = (false, eval a X.env) :: starEach [] X.env := by rfl) : EE X Γ rInt (.Call (.Name "len" p) [a] [] pos) (xs.length : Int) :=
  ee_cb1 call_len_seq PySem.boot_len hm ha (fun v B H Q ex ⟨a, vs, e1, e2, e3⟩ q => ⟨a, vs, by rw [e1], e2.imp ex.sqL ex.sqT, q _ B H (Go.rf ex) (by rw [e3.len]; rfl)⟩) hg (by decide) (by decide) he
theorem ee_sum {xs : List Int} (hc : X.calm = true) (hm : X.mg "sum" = none) (ha : EE X Γ (rLst X.K rInt) a xs) (hg : Gl X "sum" := by rfl) (he : starEach [a] X.env = (false, eval a X.env) :: starEach [] X.env := by rfl) : EE X Γ rInt (.Call (.Name "sum" p) [a] [] pos) xs.sum :=
  ee_cb1 (cr_sum hc) PyProof.Rows.boot_sum hm ha (fun v B H Q ex ⟨a, vs, e1, e2, e3⟩ q => ⟨a, xs, by rw [e1], by rw [← vs_int e3]; exact ex.lst e2, q _ B H (Go.rf ex) rfl⟩) hg (by decide) (by decide) he
theorem ee_any {xs : List Bool} (hc : X.calm = true) (hm : X.mg "any" = none) (ha : EE X Γ (rLst X.K rBl) a xs) (hg : Gl X "any" := by rfl) (he : starEach [a] X.env = (false, eval a X.env) :: starEach [] X.env := by rfl) : EE X Γ rBl (.Call (.Name "any" p) [a] [] pos) (xs.any id) :=
  ee_cb1 (cr_any hc) PyProof.Rows.boot_any hm ha (fun v B H Q ex ⟨a, vs, e1, e2, e3⟩ q => ⟨a, xs, by rw [e1], by rw [← vs_bl e3]; exact ex.lst e2, q _ B H (Go.rf ex) rfl⟩) hg (by decide) (by decide) he
theorem ee_all {xs : List Bool} (hc : X.calm = true) (hm : X.mg "all" = none) (ha : EE X Γ (rLst X.K rBl) a xs) (hg : Gl X "all" := by rfl) (he : starEach [a] X.env = (false, eval a X.env) :: starEach [] X.env := by rfl) : EE X Γ rBl (.Call (.Name "all" p) [a] [] pos) (xs.all id) :=
  ee_cb1 (cr_all hc) PyProof.Rows.boot_all hm ha (fun v B H Q ex ⟨a, vs, e1, e2, e3⟩ q => ⟨a, xs, by rw [e1], by rw [← vs_bl e3]; exact ex.lst e2, q _ B H (Go.rf ex) rfl⟩) hg (by decide) (by decide) he
theorem ee_maxL {xs : List Int} {m : Int} (hc : X.calm = true) (hm : X.mg "max" = none) (ha : EE X Γ (rLst X.K rInt) a xs) (h0 : 0 < xs.length) (hx : ∀ m', m' ∈ xs → (∀ y ∈ xs, y ≤ m') → m' = m) (hg : Gl X "max" := by rfl) (he : starEach [a] X.env = (false, eval a X.env) :: starEach [] X.env := by rfl) :
    EE X Γ rInt (.Call (.Name "max" p) [a] [] pos) m :=
  ee_cb1 (cr_max hc) PyProof.Rows.boot_max hm ha (fun v B H Q ex ⟨a, vs, e1, e2, e3⟩ q => ⟨a, xs, by rw [e1], by rw [← vs_int e3]; exact ex.lst e2, h0, fun m' h1 h2 => q _ B H (Go.rf ex) (by rw [hx m' h1 h2]; rfl)⟩) hg (by decide) (by decide) he
theorem ee_minL {xs : List Int} {m : Int} (hc : X.calm = true) (hm : X.mg "min" = none) (ha : EE X Γ (rLst X.K rInt) a xs) (h0 : 0 < xs.length) (hx : ∀ m', m' ∈ xs → (∀ y ∈ xs, m' ≤ y) → m' = m) (hg : Gl X "min" := by rfl) (he : starEach [a] X.env = (false, eval a X.env) :: starEach [] X.env := by rfl) :
    EE X Γ rInt (.Call (.Name "min" p) [a] [] pos) m :=
  ee_cb1 (cr_min hc) PyProof.Rows.boot_min hm ha (fun v B H Q ex ⟨a, vs, e1, e2, e3⟩ q => ⟨a, xs, by rw [e1], by rw [← vs_int e3]; exact ex.lst e2, h0, fun m' h1 h2 => q _ B H (Go.rf ex) (by rw [hx m' h1 h2]; rfl)⟩) hg (by decide) (by decide) he
theorem ee_max2 {x y : Int} (hc : X.calm = true) (hm : X.mg "max" = none) (ha : EE X Γ rInt a x) (hb : EE X Γ rInt b y) (hg : Gl X "max" := by rfl)
    (he : starEach [a, b] X.env = (false, eval a X.env) :: starEach [b] X.env := by rfl) (he2 : starEach [b] X.env = (false, eval b X.env) :: starEach [] X.env := by rfl) (hpl : (backTo pos (starEach [b] X.env)).any (·.1) = false := by rfl) : EE X Γ rInt (.Call (.Name "max" p) [a, b] [] pos) (max x y) :=
  ee_cb2 (call_max2 hc) PyProof.Rows.boot_max hm ha hb (fun v u B H Q ex e1 e2 q => ⟨x, y, by cases e1; cases e2; rfl, q _ B H (Go.rf ex) (by show V.int _ = V.int _; congr 1; omega)⟩) hg (by decide) (by decide) he he2 hpl
theorem ee_min2 {x y : Int} (hc : X.calm = true) (hm : X.mg "min" = none) (ha : EE X Γ rInt a x) (hb : EE X Γ rInt b y) (hg : Gl X "min" := by rfl)
    (he : starEach [a, b] X.env = (false, eval a X.env) :: starEach [b] X.env := by rfl) (he2 : starEach [b] X.env = (false, eval b X.env) :: starEach [] X.env := by rfl) (hpl : (backTo pos (starEach [b] X.env)).any (·.1) = false := by rfl) : EE X Γ rInt (.Call (.Name "min" p) [a, b] [] pos) (min x y) :=
  ee_cb2 (call_min2 hc) PyProof.Rows.boot_min hm ha hb (fun v u B H Q ex e1 e2 q => ⟨x, y, by cases e1; cases e2; rfl, q _ B H (Go.rf ex) (by show V.int _ = V.int _; congr 1; omega)⟩) hg (by decide) (by decide) he he2 hpl
theorem ee_tupleOf {xs : List α} (hm : X.mg "tuple" = none) (ha : EE X Γ (rSeq X.K r) a xs) (hg : Gl X "tuple" := by rfl) (he : starEach [a] X.env = (false, eval a X.env) :: starEach [] X.env := by rfl) : EE X Γ (rTup X.K r) (.Call (.Name "tuple" p) [a] [] pos) xs :=
  ee_ct1 call_tuple_of (by rfl) hm ha (fun v B H Q ex ⟨a, vs, e1, e2, e3⟩ q => ⟨a, vs, by rw [e1], e2.imp (fun e2 => ⟨ex.sqL e2, fun l hl => q _ (upd B l (.tup vs)) _ (Go.new ex hl) ⟨l, vs, rfl, .inl (.inl upd_same), e3.mono (Ex.new (ex.back hl))⟩⟩) (fun e2 => ⟨ex.sqT e2, q _ B H (Go.rf ex) ⟨a, vs, rfl, e2, e3⟩⟩)⟩) hg (by decide) (by decide) he
theorem ee_listOf {xs : List α} (hm : X.mg "list" = none) (ha : EE X Γ (rSeq X.K r) a xs) (hg : Gl X "list" := by rfl) (he : starEach [a] X.env = (false, eval a X.env) :: starEach [] X.env := by rfl) : EE X Γ (rLst X.K r) (.Call (.Name "list" p) [a] [] pos) xs :=
  ee_ct1 call_list_of (by rfl) hm ha (fun v B H Q ex ⟨a, vs, e1, e2, e3⟩ q => ⟨a, vs, by rw [e1], e2.imp ex.sqL ex.sqT, fun l hl => q _ (upd B l (.lst vs)) _ (Go.new ex hl) ⟨l, vs, rfl, upd_same, e3.mono (Ex.new (ex.back hl))⟩⟩) hg (by decide) (by decide) he
theorem ee_intB {x : Bool} (hm : X.mg "int" = none) (ha : EE X Γ rBl a x) (hg : Gl X "int" := by rfl) (he : starEach [a] X.env = (false, eval a X.env) :: starEach [] X.env := by rfl) : EE X Γ rInt (.Call (.Name "int" p) [a] [] pos) (if x then 1 else 0) :=
  ee_ct1 call_int1 (by rfl) hm ha (fun v B H Q ex e1 q => .inr ⟨x, by rw [e1], q _ B H (Go.rf ex) rfl⟩) hg (by decide) (by decide) he
theorem ee_intI {x : Int} (hm : X.mg "int" = none) (ha : EE X Γ rInt a x) (hg : Gl X "int" := by rfl) (he : starEach [a] X.env = (false, eval a X.env) :: starEach [] X.env := by rfl) : EE X Γ rInt (.Call (.Name "int" p) [a] [] pos) x :=
  ee_ct1 call_int1 (by rfl) hm ha (fun v B H Q ex e1 q => .inl ⟨x, by rw [e1], q _ B H (Go.rf ex) rfl⟩) hg (by decide) (by decide) he
theorem ee_abs {x : Int} (hm : X.mg "abs" = none) (ha : EE X Γ rInt a x) (hg : Gl X "abs" := by rfl) (he : starEach [a] X.env = (false, eval a X.env) :: starEach [] X.env := by rfl) : EE X Γ rInt (.Call (.Name "abs" p) [a] [] pos) (if x < 0 then -x else x) :=
  ee_cb1 call_abs (by rfl) hm ha (fun v B H Q ex e1 q => ⟨x, by rw [e1], q _ B H (Go.rf ex) rfl⟩) hg (by decide) (by decide) he
end
end K81
set_option Elab.async false
set_option linter.all false
set_option maxRecDepth 100000
set_option maxHeartbeats 1900000
namespace K81
open PySem L2
/-! ### what is walked -/
structure Its (J : It) {α : Type} (r : RT α) (xs : List α) (B1 : Hp) : Prop where
  stop : ∀ H, Ex B1 H → J.stop xs.length H
  go : ∀ i H, Ex B1 H → i < xs.length → J.go i H
  yld : ∀ i H v H' B x, Ex B1 B → Ex B H → xs[i]? = some x → J.yld i H v H' → ∃ B', Go no B H B' H' ∧ r.rep B' v x
def tIt (Γ : List Slot) {α : Type} (r : RT α) (xs : List α) : TI := fun σ H R => ∃ B, Env B Γ σ ∧ Ex B H ∧ ∀ J B1 H1, Go no B H B1 H1 → Its J r xs B1 → R J H1
def EI (X : Cx) (Γ : List Slot) {α : Type} (tg e : Expr) (r : RT α) (xs : List α) : Prop := PI X tg e (tIt Γ r xs)
section
variable {X : Cx} {Γ : List Slot} {α β γ : Type} {r : RT α} {s : RT β} {tg a b e : Expr} {es : List Expr} {pos p2 p : Pos} {n : Str}
theorem ei_list {xs : List α} (h : EE X Γ (rLsF X.K r) e xs) : EI X Γ tg e r xs :=
  PI.imp (pi_list h) fun σ H R ⟨B, en, ex, q⟩ => ⟨B, en, ex, fun v B1 H1 g1 ⟨a, vs, e1, e2, e3⟩ => ⟨a, e1, ⟨vs, g1.i.sqL e2⟩, q _ B1 H1 g1 ⟨fun H e => ⟨vs, e.sqL e2, by rw [e3.len]; exact Nat.le_refl _⟩, fun i H e hi => ⟨vs, vs[i]'(by rw [e3.len]; exact hi), e.sqL e2, List.getElem?_eq_getElem _⟩,
    fun i H v H' B x eb eh hx hy => ⟨B, by rw [hy.1]; exact Go.rf eh, by
      obtain ⟨w, h1, h2⟩ := e3.get hx
      have h3 := hy.2 vs ((eb.tr eh).sqL e2)
      rw [h1] at h3; cases h3
      exact r.mono eb h2⟩⟩⟩⟩
theorem ei_lst {xs : List α} (h : EE X Γ (rLst X.K r) e xs) : EI X Γ tg e r xs := ei_list (ee_lsF h)
theorem ei_tup {xs : List α} (h : EE X Γ (rTup X.K r) e xs) : EI X Γ tg e r xs :=
  PI.imp (pi_tup h) fun σ H R ⟨B, en, ex, q⟩ => ⟨B, en, ex, fun v B1 H1 g1 ⟨a, vs, e1, e2, e3⟩ => ⟨a, e1, ⟨vs, g1.i.sqT e2⟩, q _ B1 H1 g1 ⟨fun H e => ⟨vs, e.sqT e2, by rw [e3.len]; exact Nat.le_refl _⟩, fun i H e hi => ⟨vs, vs[i]'(by rw [e3.len]; exact hi), e.sqT e2, List.getElem?_eq_getElem _⟩,
    fun i H v H' B x eb eh hx hy => ⟨B, by rw [hy.1]; exact Go.rf eh, by
      obtain ⟨w, h1, h2⟩ := e3.get hx
      have h3 := hy.2 vs ((eb.tr eh).sqT e2)
      rw [h1] at h3; cases h3
      exact r.mono eb h2⟩⟩⟩⟩
theorem PI.or {t t' : TI} (h : PI X tg e t) (h' : PI X tg e t') : PI X tg e (fun σ H R => t σ H R ∨ t' σ H R) := ⟨fun pins s σ H R I q => q.elim (h.run pins s σ H R I) (h'.run pins s σ H R I)⟩
/-- a list or a tuple -/
theorem ei_seq {xs : List α} (h : EE X Γ (rSeq X.K r) e xs) : EI X Γ tg e r xs := by
  refine ⟨fun pins s σ H R I ⟨B, en, ex, q⟩ => thn (h.run pins s σ H (fun v H1 => ∃ B1, Go no B H B1 H1 ∧ (rSeq X.K r).rep B1 v xs) I ⟨B, en, ex, fun v B1 H1 g1 r1 => ⟨B1, g1, r1⟩⟩) fun u s1 ⟨v, H1, I1, rv, B1, g1, a, vs, e1, e2, e3⟩ => ?_⟩
  subst e1
  cases rv
  rcases e2 with e2 | e2
  · obtain ⟨its, _, pl, _⟩ := I1.list (g1.i.sqL e2)
    exact wpAny_pyIter_list pl.isList ⟨_, [s1.heap.objs.size], _, Itl X.K a, H1, rfl, I1.kept (t' := s1.toks) fun _ _ z => Heap.get?_push_of_some _ z, turn_list a _, ⟨_, Heap.get?_push_size _ rfl, rfl, rfl⟩, fun b hb => by
      cases (show b = s1.heap.objs.size by simpa using hb)
      exact I1.fpOk (Nat.le_refl _) (I1.hok.fresh (Nat.le_refl _)), q _ B1 H1 g1 ⟨fun H e => ⟨vs, e.sqL e2, by rw [e3.len]; exact Nat.le_refl _⟩, fun i H e hi => ⟨vs, vs[i]'(by rw [e3.len]; exact hi), e.sqL e2, List.getElem?_eq_getElem _⟩,
    fun i H v H' B x eb eh hx hy => ⟨B, by rw [hy.1]; exact Go.rf eh, by
      obtain ⟨w, h1, h2⟩ := e3.get hx
      have h3 := hy.2 vs ((eb.tr eh).sqL e2)
      rw [h1] at h3; cases h3
      exact r.mono eb h2⟩⟩⟩
  · obtain ⟨its, _, pl, _⟩ := I1.tuple (g1.i.sqT e2)
    exact wpAny_pyIter_tuple (items := its.toArray) pl ⟨_, [s1.heap.objs.size], _, Itt X.K a, H1, rfl, I1.kept (t' := s1.toks) fun _ _ z => Heap.get?_push_of_some _ z, turn_tuple a _, ⟨_, Heap.get?_push_size _ rfl, rfl, rfl⟩, fun b hb => by
      cases (show b = s1.heap.objs.size by simpa using hb)
      exact I1.fpOk (Nat.le_refl _) (I1.hok.fresh (Nat.le_refl _)), q _ B1 H1 g1 ⟨fun H e => ⟨vs, e.sqT e2, by rw [e3.len]; exact Nat.le_refl _⟩, fun i H e hi => ⟨vs, vs[i]'(by rw [e3.len]; exact hi), e.sqT e2, List.getElem?_eq_getElem _⟩,
    fun i H v H' B x eb eh hx hy => ⟨B, by rw [hy.1]; exact Go.rf eh, by
      obtain ⟨w, h1, h2⟩ := e3.get hx
      have h3 := hy.2 vs ((eb.tr eh).sqT e2)
      rw [h1] at h3; cases h3
      exact r.mono eb h2⟩⟩⟩
theorem ei_range1 {m : Int} (hm : X.mg "range" = none) (h : EE X Γ rInt a m) (h0 : -(2 ^ 62) ≤ m ∧ m < 2 ^ 62) (hg : Gl X "range" := by rfl) (he : starEach [a] X.env = (false, eval a X.env) :: starEach [] X.env := by rfl) :
    EI X Γ tg (.Call (.Name "range" p) [a] [] pos) rInt ((List.range m.toNat).map fun i : Nat => (i : Int)) :=
  PI.imp (pi_range1 hg hm (ea_cons h ea_nil he) he) fun σ H R ⟨B, en, ex, q⟩ => ⟨B, en, ex, fun vs B1 H1 g1 r1 => by
    cases r1 with
    | cons r1 r2 =>
      cases r2
      refine ⟨m, by rw [show _ = V.int m from r1], h0.1, h0.2, q _ B1 H1 g1 ⟨fun H e => by show m.toNat ≤ _; simp, fun i H e hi => by show i < m.toNat; simpa using hi, fun i H v H' B x eb eh hx hy => ⟨B, by rw [hy.1]; exact Go.rf eh, ?_⟩⟩⟩
      show v = .int x
      rw [hy.2]
      rw [List.getElem?_map] at hx
      cases q : (List.range m.toNat)[i]? with
      | none => rw [q] at hx; cases hx
      | some j =>
        rw [q] at hx
        have e1 : (j : Int) = x := Option.some.inj hx
        obtain ⟨h1, h2⟩ := List.getElem?_eq_some_iff.mp q
        rw [List.getElem_range] at h2
        subst h2
        rw [← e1, Int.zero_add]⟩
def rangeI (lo hi : Int) : List Int := (List.range (hi - lo).toNat).map fun i : Nat => lo + (i : Int)
theorem ei_range2 {l m : Int} (hm : X.mg "range" = none) (h : EE X Γ rInt a l) (h' : EE X Γ rInt b m) (h0 : -(2 ^ 62) ≤ l ∧ l < 2 ^ 62 ∧ -(2 ^ 62) ≤ m ∧ m < 2 ^ 62) (hg : Gl X "range" := by rfl)
    (he : starEach [a, b] X.env = (false, eval a X.env) :: starEach [b] X.env := by rfl) (he2 : starEach [b] X.env = (false, eval b X.env) :: starEach [] X.env := by rfl) (he3 : starEach [a, b] X.env = [(false, eval a X.env), (false, eval b X.env)] := by rfl) (he4 : starEach [b] X.env = [(false, eval b X.env)] := by rfl) :
    EI X Γ tg (.Call (.Name "range" p) [a, b] [] pos) rInt (rangeI l m) :=
  PI.imp (pi_range2 hg hm (ea_cons h (ea_cons h' ea_nil he2) he) he3 he4) fun σ H R ⟨B, en, ex, q⟩ => ⟨B, en, ex, fun vs B1 H1 g1 r1 => by
    cases r1 with
    | cons r1 r2 =>
      cases r2 with
      | cons r2 r3 =>
        cases r3
        refine ⟨l, m, by rw [show _ = V.int l from r1, show _ = V.int m from r2], h0, q _ B1 H1 g1 ⟨fun H e => by show (m - l).toNat ≤ _; simp [rangeI], fun i H e hi => by show i < (m - l).toNat; simpa [rangeI] using hi, fun i H v H' B x eb eh hx hy => ⟨B, by rw [hy.1]; exact Go.rf eh, ?_⟩⟩⟩
        show v = .int x
        rw [hy.2]
        unfold rangeI at hx
        rw [List.getElem?_map] at hx
        cases q : (List.range (m - l).toNat)[i]? with
        | none => rw [q] at hx; cases hx
        | some j =>
          rw [q] at hx
          have e1 : l + (j : Int) = x := Option.some.inj hx
          obtain ⟨h1, h2⟩ := List.getElem?_eq_some_iff.mp q
          rw [List.getElem_range] at h2
          subst h2
          rw [← e1]⟩
/-! ### targets -/
theorem wipe_set {σ : St} {i : Nat} {o : Option V} : ∀ {vs : List Nat}, i ∈ vs → wipe (σ.set i o) vs = wipe σ vs
  | [], h => by simp at h
  | v :: vs, h => by
    unfold wipe
    by_cases e : i ∈ vs
    · rw [wipe_set e]
    · have e2 : i = v := by simpa [e] using h
      subst e2
      have : ∀ (us : List Nat), i ∉ us → wipe (σ.set i o) us = (wipe σ us).set i o := by
        intro us
        induction us with
        | nil => intro _; rfl
        | cons u us ih =>
          intro hu
          simp only [List.mem_cons, not_or] at hu
          unfold wipe
          rw [ih hu.2, List.set_comm _ _ (fun z => hu.1 z)]
      rw [this vs e, List.set_set]
theorem wipe_wipe {σ : St} : ∀ {vs us : List Nat}, (∀ i ∈ us, i ∈ vs) → wipe (wipe σ us) vs = wipe σ vs
  | vs, [], _ => rfl
  | vs, u :: us, h => by
    show wipe ((wipe σ us).set u none) vs = wipe σ vs
    rw [wipe_set (σ := wipe σ us) (h u (by simp))]
    exact wipe_wipe fun i hi => h i (by simp [hi])
/-- v is put at the target: f tells what is known then -/
def tTg (ts : List Nat) {α : Type} (r : RT α) (f : α → List Slot → List Slot) : TG := fun v σ H Q => ∃ Γ B x, Env B Γ σ ∧ Ex B H ∧ r.rep B v x ∧ ∀ σ', Env B (f x Γ) σ' → (∀ vs, (∀ i ∈ ts, i ∈ vs) → wipe σ' vs = wipe σ vs) → Q σ' H
def ET (X : Cx) (tg : Expr) (ts : List Nat) {α : Type} (r : RT α) (f : α → List Slot → List Slot) : Prop := PG X tg (tTg ts r f)
theorem PG.imp {t t' : TG} (h : PG X tg t) (k : ∀ v σ H Q, t' v σ H Q → t v σ H Q) : PG X tg t' := ⟨fun pins s σ H v u Q I rv q => h.run pins s σ H v u Q I rv (k v σ H Q q)⟩
theorem et_name (i : Nat) {x : Str} (hN : X.N.Nodup) (hi : X.N[i]? = some x := by rfl) (hx : Loc X.env.scope x := by first | exact Or.inl rfl | exact Or.inr rfl) (hf : X.fn x = true ∨ X.env.scope.names.lookup x = some .local := by first | exact .inl rfl | exact .inr rfl) :
    ET X (.Name x pos) [i] r (fun y Γ => Γ.set i (sl r y)) :=
  PG.imp (pg_name hN hi hx hf) fun v σ H Q ⟨Γ, B, x, en, ex, rv, q⟩ => q (σ.set i (some v)) (en.set (s := sl r x) (o := some v) ⟨v, rfl, rv⟩ i) fun vs h => wipe_set (h i (by simp))
/-- a name that is not used -/
theorem et_skip (i : Nat) {x : Str} (hN : X.N.Nodup) (hi : X.N[i]? = some x := by rfl) (hx : Loc X.env.scope x := by first | exact Or.inl rfl | exact Or.inr rfl) (hf : X.fn x = true ∨ X.env.scope.names.lookup x = some .local := by first | exact .inl rfl | exact .inr rfl) :
    ET X (.Name x pos) [i] r (fun y Γ => Γ.set i none) :=
  PG.imp (pg_name hN hi hx hf) fun v σ H Q ⟨Γ, B, x, en, ex, rv, q⟩ => q (σ.set i (some v)) (en.set (s := none) (o := some v) trivial i) fun vs h => wipe_set (h i (by simp))
theorem et_pr {k : Nat} {t1 t2 : Expr} {is js : List Nat} {f : α → List Slot → List Slot} {g : β → List Slot → List Slot} (hc : X.calm = true) (h1 : ET X t1 is r f) (h2 : ET X t2 js s g)
    (hs1 : (assignEach [t1, t2] X.env).map (·.2) = assign t1 X.env :: (assignEach [t2] X.env).map (·.2) := by rfl) (hs2 : (assignEach [t2] X.env).map (·.2) = assign t2 X.env :: (assignEach [] X.env).map (·.2) := by rfl)
    (hn : (assignEach [t1, t2] X.env).length = 2 := by rfl) (hst : (assignEach [t1, t2] X.env).findIdx? (·.1) = none := by rfl) :
    ET X (.Tuple [t1, t2] k pos) (is ++ js) (rPr X.K r s) (fun x Γ => g x.2 (f x.1 Γ)) :=
  PG.imp (pg_tup hc (pgs_cons h1 (pgs_cons h2 pgs_nil hs2) hs1) hn hst) fun v σ H Q ⟨Γ, B, x, en, ex, ⟨a, u, w, e1, e2, e3, e4⟩, q⟩ => ⟨a, [u, w], e1, ex.sqT e2, rfl, u, [w], rfl, Γ, B, x.1, en, ex, e3, fun σ1 en1 hw1 => ⟨w, [], rfl, _, B, x.2, en1, ex, e4, fun σ2 en2 hw2 =>
    ⟨rfl, q σ2 en2 fun vs h => (hw2 vs fun i hi => h i (by simp [hi])).trans (hw1 vs fun i hi => h i (by simp [hi]))⟩⟩⟩
theorem et_tri {k : Nat} {t : RT γ} {t1 t2 t3 : Expr} {is js ks : List Nat} {f : α → List Slot → List Slot} {g : β → List Slot → List Slot} {l : γ → List Slot → List Slot} (hc : X.calm = true) (h1 : ET X t1 is r f) (h2 : ET X t2 js s g) (h3 : ET X t3 ks t l)
    (hs1 : (assignEach [t1, t2, t3] X.env).map (·.2) = assign t1 X.env :: (assignEach [t2, t3] X.env).map (·.2) := by rfl) (hs2 : (assignEach [t2, t3] X.env).map (·.2) = assign t2 X.env :: (assignEach [t3] X.env).map (·.2) := by rfl) (hs3 : (assignEach [t3] X.env).map (·.2) = assign t3 X.env :: (assignEach [] X.env).map (·.2) := by rfl)
    (hn : (assignEach [t1, t2, t3] X.env).length = 3 := by rfl) (hst : (assignEach [t1, t2, t3] X.env).findIdx? (·.1) = none := by rfl) :
    ET X (.Tuple [t1, t2, t3] k pos) (is ++ js ++ ks) (rTri X.K r s t) (fun x Γ => l x.2.2 (g x.2.1 (f x.1 Γ))) :=
  PG.imp (pg_tup hc (pgs_cons h1 (pgs_cons h2 (pgs_cons h3 pgs_nil hs3) hs2) hs1) hn hst) fun v σ H Q ⟨Γ, B, x, en, ex, ⟨a, u, w, z, e1, e2, e3, e4, e5⟩, q⟩ => ⟨a, [u, w, z], e1, ex.sqT e2, rfl, u, [w, z], rfl, Γ, B, x.1, en, ex, e3, fun σ1 en1 hw1 => ⟨w, [z], rfl, _, B, x.2.1, en1, ex, e4, fun σ2 en2 hw2 =>
    ⟨z, [], rfl, _, B, x.2.2, en2, ex, e5, fun σ3 en3 hw3 => ⟨rfl, q σ3 en3 fun vs h => ((hw3 vs fun i hi => h i (by simp [hi])).trans (hw2 vs fun i hi => h i (by simp [hi]))).trans (hw1 vs fun i hi => h i (by simp [hi]))⟩⟩⟩⟩
/-! ### list comprehensions -/
/-- where a comprehension's block stands -/
structure BlkA where
  s : Shared
  H : Hp
  C : Addr
  cl : List (Str × Addr)
  fp : List Addr
abbrev bk (X : Cx) (scope : Scope) (q : BlkA) : Cx := X.blk q.s q.H scope (compEnvC scope q.cl q.C X.env) q.fp
theorem lc_read {wi : TI} {ts vs : List Nat} {xs : List α} {f : α → List Slot → List Slot} {p : α → Bool} {g : α → β} {σ : St} {H : Hp} {Q : VK} (hts : ∀ i ∈ ts, i ∈ vs) (hl : xs.length ≤ 100000)
    (hw : wi = tIt Γ r xs) (h : tE Γ (rLst X.K s) ((xs.filter p).map g) σ H Q) :
    tLc wi (tTg ts r f) (fun σ H Q => ∃ x, x ∈ xs ∧ tBo (f x (gwipe Γ vs)) (p x) σ H Q) (fun σ H Q => ∃ x, x ∈ xs ∧ p x = true ∧ tE (f x (gwipe Γ vs)) s (g x) σ H Q) vs σ H Q := by
  subst hw
  obtain ⟨B, en, ex, q⟩ := h
  refine ⟨B, en, ex, fun J B1 H1 g1 it D hD => ?_⟩
  have hB1 : B1 D = none := g1.i.back hD
  refine ⟨fun i m H => m = xs.length - i ∧ i ≤ xs.length ∧ ∃ Bi acc, Go no B1 H1 Bi H ∧ Bi D = none ∧ H D = some (.lst acc) ∧ Vs s Bi acc (((xs.take i).filter p).map g), ⟨xs.length, rfl, Nat.zero_le _, B1, [], Go.newH g1.i hD, hB1, upd_same, by rw [List.take_zero]; exact .nil⟩, ?_⟩
  rintro i m H ⟨rfl, hi, Bi, acc, gi, hbi, hDi, hv⟩
  by_cases hlt : i < xs.length
  · refine .inr ⟨it.go i H (gi.b.tr gi.i) hlt, fun H' => ∃ B' acc', Go no B1 H1 B' H' ∧ B' D = none ∧ H' D = some (.lst acc') ∧ Vs s B' acc' (((xs.take (i + 1)).filter p).map g), fun H' ⟨B', acc', k1, k2, k3, k4⟩ => ⟨xs.length - (i + 1), by omega, rfl, hlt, B', acc', k1, k2, k3, k4⟩, fun v H' hy => ?_⟩
    have hx : xs[i]? = some xs[i] := List.getElem?_eq_getElem hlt
    have hmem : xs[i] ∈ xs := List.getElem_mem hlt
    have htk : xs.take (i + 1) = xs.take i ++ [xs[i]] := by rw [List.take_add_one, hx]; rfl
    obtain ⟨B', g', rv⟩ := it.yld i H v H' Bi _ gi.b gi.i hx hy
    have hb' : B' D = none := g'.n D (by rw [hDi]; simp) hbi
    have hd' : H' D = some (.lst acc) := g'.hx _ _ hDi
    refine ⟨gwipe Γ vs, B', xs[i], ((en.mono (g1.tr (gi.tr g')).b).wipe vs), g'.i, rv, fun σ2 en2 hw2 => ⟨(hw2 vs hts).trans (wipe_wipe fun i hi => hi), xs[i], hmem, B', en2, g'.i, fun B2 H2 g2 => ?_⟩⟩
    have hb2 : B2 D = none := g2.n D (by rw [hd']; simp) hb'
    have hd2 : H2 D = some (.lst acc) := g2.hx _ _ hd'
    cases hp : p xs[i] with
    | true =>
      refine iteT ⟨xs[i], hmem, hp, B2, en2.mono g2.b, g2.i, fun w B3 H3 g3 rw3 => ?_⟩
      have hb3 : B3 D = none := g3.n D (by rw [hd2]; simp) hb2
      have hd3 : H3 D = some (.lst acc) := g3.hx _ _ hd2
      have gg : Go no B1 H1 B3 H3 := ((gi.tr g').tr g2).tr g3
      refine ⟨acc, hd3, ?_, B3, acc ++ [w], gg.mut hb3 (.inl hD), hb3, upd_same, ?_⟩
      · rw [hv.len, List.length_map]
        have e1 : ((xs.take i).filter p).length ≤ (xs.take i).length := List.length_filter_le _ _
        have e2 : (xs.take i).length ≤ i := by rw [List.length_take]; omega
        exact bigL (by omega)
      · rw [htk, List.filter_append, List.map_append]
        refine (hv.mono (((g'.tr g2).tr g3).b)).app ?_
        rw [List.filter_cons_of_pos hp]
        exact .cons rw3 .nil
    | false =>
      refine iteF ⟨B2, acc, (gi.tr g').tr g2, hb2, hd2, ?_⟩
      rw [htk, List.filter_append, List.map_append, List.filter_cons_of_neg (by rw [hp]; simp)]
      simp only [List.filter_nil, List.map_nil, List.append_nil]
      exact hv.mono ((g'.tr g2).b)
  · have e : i = xs.length := by omega
    subst e
    rw [List.take_length] at hv
    refine .inl ⟨it.stop H (gi.b.tr gi.i), q _ _ H (g1.tr (gi.show hbi hD hDi)) ⟨D, acc, rfl, upd_same, hv.mono (Ex.new hbi)⟩⟩
theorem PE.ex {ι : Type} {P : ι → Prop} {t : ι → TE} (h : ∀ i, P i → PE X e (t i)) : PE X e (fun σ H Q => ∃ i, P i ∧ t i σ H Q) := ⟨fun pins s σ H Q I ⟨i, hp, q⟩ => (h i hp).run pins s σ H Q I q⟩
theorem PE.ex2 {ι : Type} {P P' : ι → Prop} {t : ι → TE} (h : ∀ i, P i → P' i → PE X e (t i)) : PE X e (fun σ H Q => ∃ i, P i ∧ P' i ∧ t i σ H Q) := ⟨fun pins s σ H Q I ⟨i, hp, hp', q⟩ => (h i hp hp').run pins s σ H Q I q⟩
theorem PTs.ex {ι : Type} {P : ι → Prop} {es : List Expr} {t : ι → TT} (h : ∀ i, P i → PTs X es (t i)) : PTs X es (fun σ H Q => ∃ i, P i ∧ t i σ H Q) := ⟨fun pins s σ H Q I ⟨i, hp, q⟩ => (h i hp).run pins s σ H Q I q⟩
theorem pts_yes {Γ : List Slot} : PTs X [] (tBo Γ true) := ⟨fun pins s σ H Q I ⟨B, en, ex, q⟩ => pts_nil.run pins s σ H Q I (q B H (Go.rf ex))⟩
theorem filter_all {xs : List α} : xs.filter (fun _ => true) = xs := by induction xs with
  | nil => rfl
  | cons x xs ih => simp
/-- [elt for tg in iter if c] -/
theorem ee_lcIf {elt iter c : Expr} {scope : Scope} {own : List (Str × Nat)} {xs : List α} {ts : List Nat} {f : α → List Slot → List Slot} {p : α → Bool} {g : α → β} (hc : X.calm = true) (hN : X.N.Nodup) {N : List Str} {sc : Scope} (ok : blkC N sc scope own = true) (hi : EI X Γ tg iter r xs)
    (ht : ∀ q : BlkA, ET (bk X scope q) tg ts r f) (hp : ∀ q : BlkA, ∀ x ∈ xs, EB (bk X scope q) (f x (gwipe Γ (own.map (·.2)))) c (p x)) (he : ∀ q : BlkA, ∀ x ∈ xs, p x = true → EE (bk X scope q) (f x (gwipe Γ (own.map (·.2)))) s elt (g x))
    (hl : xs.length ≤ 100000) (hts : ∀ i ∈ ts, i ∈ own.map (·.2) := by decide) (hs : ∀ x, foldedSetIterable iter X.env x = pure x := by intro _; rfl) (eN : X.N = N := by rfl) (eS : X.env.scope = sc := by rfl) : EE X Γ (rLst X.K s) (.ListComp elt [⟨tg, iter, [c], 0⟩] scope pos) ((xs.filter p).map g) :=
  PE.imp (pe_lc hc hN hi (blkOk_by (by rw [eN, eS]; exact ok)) (fun s H C cl fp => ht ⟨s, H, C, cl, fp⟩) (fun s H C cl fp => PTs.ex fun x hx => pts_one (hp ⟨s, H, C, cl, fp⟩ x hx)) (fun s H C cl fp => PE.ex2 fun x hx hpx => he ⟨s, H, C, cl, fp⟩ x hx hpx) hs) fun σ H Q h => lc_read hts hl rfl h
/-- [elt for tg in iter] -/
theorem ee_lc {elt iter : Expr} {scope : Scope} {own : List (Str × Nat)} {xs : List α} {ts : List Nat} {f : α → List Slot → List Slot} {g : α → β} (hc : X.calm = true) (hN : X.N.Nodup) {N : List Str} {sc : Scope} (ok : blkC N sc scope own = true) (hi : EI X Γ tg iter r xs)
    (ht : ∀ q : BlkA, ET (bk X scope q) tg ts r f) (he : ∀ q : BlkA, ∀ x ∈ xs, EE (bk X scope q) (f x (gwipe Γ (own.map (·.2)))) s elt (g x))
    (hl : xs.length ≤ 100000) (hts : ∀ i ∈ ts, i ∈ own.map (·.2) := by decide) (hs : ∀ x, foldedSetIterable iter X.env x = pure x := by intro _; rfl) (eN : X.N = N := by rfl) (eS : X.env.scope = sc := by rfl) : EE X Γ (rLst X.K s) (.ListComp elt [⟨tg, iter, [], 0⟩] scope pos) (xs.map g) :=
  PE.imp (pe_lc hc hN hi (blkOk_by (by rw [eN, eS]; exact ok)) (fun s H C cl fp => ht ⟨s, H, C, cl, fp⟩) (fun s H C cl fp => PTs.ex (P := fun x => x ∈ xs) fun x hx => pts_yes) (fun s H C cl fp => PE.ex2 (P' := fun _ => true = true) fun x hx _ => he ⟨s, H, C, cl, fp⟩ x hx) hs) fun σ H Q h => lc_read (p := fun _ => true) hts hl rfl (by rw [filter_all]; exact h)
/-- name = [..]: the form of its own -/
def EAs (X : Cx) (Γ : List Slot) (st : Stmt) (i : Nat) {α : Type} (r : RT α) (x : α) : Prop := PS X st (tAsg (tE Γ r x) (gName i))
theorem PS.imp {st : Stmt} {t t' : TS} (h : PS X st t) (k : ∀ D σ H, t' D σ H → t D σ H) : PS X st t' := ⟨fun pins s σ H D I q => h.run pins s σ H D I (k D σ H q)⟩
theorem ea_lcIf (i : Nat) {elt iter c : Expr} {py : Pos} {y : Str} {scope : Scope} {own : List (Str × Nat)} {xs : List α} {ts : List Nat} {f : α → List Slot → List Slot} {p : α → Bool} {g : α → β} (hc : X.calm = true) (hN : X.N.Nodup) {N : List Str} {sc : Scope} (ok : blkC N sc scope own = true) (hi : EI X Γ tg iter r xs)
    (ht : ∀ q : BlkA, ET (bk X scope q) tg ts r f) (hp : ∀ q : BlkA, ∀ x ∈ xs, EB (bk X scope q) (f x (gwipe Γ (own.map (·.2)))) c (p x)) (he : ∀ q : BlkA, ∀ x ∈ xs, p x = true → EE (bk X scope q) (f x (gwipe Γ (own.map (·.2)))) s elt (g x))
    (hl : xs.length ≤ 100000) (hsw : swapsWith (.ListComp elt [⟨tg, iter, [c], 0⟩] scope pos) (some (.Name y py)) p2.line X.env = pure true := by exact sw_true rfl rfl rfl (by decide +kernel)) (hy : X.N[i]? = some y := by rfl) (hyl : X.env.scope.names.lookup y = some .local := by rfl) (hts : ∀ i ∈ ts, i ∈ own.map (·.2) := by decide) (hs : ∀ x, foldedSetIterable iter X.env x = pure x := by intro _; rfl) (eN : X.N = N := by rfl) (eS : X.env.scope = sc := by rfl) :
    EAs X Γ (.Assign [.Name y py] (.ListComp elt [⟨tg, iter, [c], 0⟩] scope pos) p2) i (rLst X.K s) ((xs.filter p).map g) :=
  PS.imp (ps_setLc hc hN hy hyl hsw hi (blkOk_by (by rw [eN, eS]; exact ok)) (fun s H C cl fp => ht ⟨s, H, C, cl, fp⟩) (fun s H C cl fp => PTs.ex fun x hx => pts_one (hp ⟨s, H, C, cl, fp⟩ x hx)) (fun s H C cl fp => PE.ex2 fun x hx hpx => he ⟨s, H, C, cl, fp⟩ x hx hpx) hs) fun D σ H h => lc_read hts hl rfl h
theorem ea_lc (i : Nat) {elt iter : Expr} {py : Pos} {y : Str} {scope : Scope} {own : List (Str × Nat)} {xs : List α} {ts : List Nat} {f : α → List Slot → List Slot} {g : α → β} (hc : X.calm = true) (hN : X.N.Nodup) {N : List Str} {sc : Scope} (ok : blkC N sc scope own = true) (hi : EI X Γ tg iter r xs)
    (ht : ∀ q : BlkA, ET (bk X scope q) tg ts r f) (he : ∀ q : BlkA, ∀ x ∈ xs, EE (bk X scope q) (f x (gwipe Γ (own.map (·.2)))) s elt (g x))
    (hl : xs.length ≤ 100000) (hsw : swapsWith (.ListComp elt [⟨tg, iter, [], 0⟩] scope pos) (some (.Name y py)) p2.line X.env = pure true := by exact sw_true rfl rfl rfl (by decide +kernel)) (hy : X.N[i]? = some y := by rfl) (hyl : X.env.scope.names.lookup y = some .local := by rfl) (hts : ∀ i ∈ ts, i ∈ own.map (·.2) := by decide) (hs : ∀ x, foldedSetIterable iter X.env x = pure x := by intro _; rfl) (eN : X.N = N := by rfl) (eS : X.env.scope = sc := by rfl) :
    EAs X Γ (.Assign [.Name y py] (.ListComp elt [⟨tg, iter, [], 0⟩] scope pos) p2) i (rLst X.K s) (xs.map g) :=
  PS.imp (ps_setLc hc hN hy hyl hsw hi (blkOk_by (by rw [eN, eS]; exact ok)) (fun s H C cl fp => ht ⟨s, H, C, cl, fp⟩) (fun s H C cl fp => PTs.ex (P := fun x => x ∈ xs) fun x hx => pts_yes) (fun s H C cl fp => PE.ex2 (P' := fun _ => true = true) fun x hx _ => he ⟨s, H, C, cl, fp⟩ x hx) hs) fun D σ H h => lc_read (p := fun _ => true) hts hl rfl (by rw [filter_all]; exact h)
end
end K81
set_option Elab.async false
set_option linter.all false
set_option maxRecDepth 100000
set_option maxHeartbeats 1900000
namespace K81
open PySem L2
/-! ### statements -/
/-- what else is held: cells that the slots' things don't know -/
structure Mem where
  ok : Hp → Hp → Prop
  st : ∀ {B H B2 H2 : Hp}, Go no B H B2 H2 → ok B H → ok B2 H2
def mE : Mem := ⟨fun _ _ => True, fun _ _ => trivial⟩
/-- the list at f, to be changed -/
def mL (w : Addr → Prop) (H0 : Hp) (f : Addr) {α : Type} (r : RT α) (xs : List α) : Mem := ⟨fun B H => B f = none ∧ (H0 f = none ∨ w f) ∧ ∃ vs, H f = some (.lst vs) ∧ Vs r B vs xs, fun g ⟨h1, h2, vs, h3, h4⟩ => ⟨g.n f (by rw [h3]; simp) h1, h2, vs, g.hx _ _ h3, h4.mono g.b⟩⟩
def mA (m n : Mem) : Mem := ⟨fun B H => m.ok B H ∧ n.ok B H, fun g ⟨a, b⟩ => ⟨m.st g a, n.st g b⟩⟩
/-- the state: since B0, H0 only w has changed -/
def At (w : Addr → Prop) (B0 H0 BX : Hp) (Γ : List Slot) (M : Mem) : St → Hp → Prop := fun σ H => ∃ B, Go w B0 H0 B H ∧ Ex BX B ∧ Env B Γ σ ∧ M.ok B H
/-- an expression that may read what M holds -/
def tEm (Γ : List Slot) (M : Mem) {α : Type} (r : RT α) (x : α) : TE := fun σ H Q => ∃ B, Env B Γ σ ∧ Ex B H ∧ M.ok B H ∧ ∀ v B2 H2, Go no B H B2 H2 → r.rep B2 v x → Q v H2
def EM (X : Cx) (Γ : List Slot) (M : Mem) {α : Type} (r : RT α) (e : Expr) (x : α) : Prop := PE X e (tEm Γ M r x)
def tBm (Γ : List Slot) (M : Mem) (b : Bool) : TT := fun σ H Q => ∃ B, Env B Γ σ ∧ Ex B H ∧ M.ok B H ∧ ∀ B2 H2, Go no B H B2 H2 → Q b H2
def EBM (X : Cx) (Γ : List Slot) (M : Mem) (e : Expr) (b : Bool) : Prop := PT X e (tBm Γ M b)
/-- the triple -/
def Tr (X : Cx) (I : St → Hp → Prop) (ss : List Stmt) (D : Ends) : Prop := ∀ (pins : List (Addr × Obj)) (s : Shared) (σ : St) (H : Hp), Inv X pins σ H s → I σ H → wpAny (model X.prog X.w) X.A (execs ss X.env) (SP X pins D) X.xe s
/-- what the rest wants -/
def Wk (X : Cx) (ss : List Stmt) (D : Ends) : St → Hp → Prop := fun σ H => ∀ (pins : List (Addr × Obj)) (s : Shared), Inv X pins σ H s → wpAny (model X.prog X.w) X.A (execs ss X.env) (SP X pins D) X.xe s
section
variable {X : Cx} {Γ Γ' : List Slot} {M : Mem} {α β γ : Type} {r : RT α} {s : RT β} {tg a b e : Expr} {es : List Expr} {pos p2 p : Pos} {n : Str} {w : Addr → Prop} {B0 H0 BX : Hp} {I J : St → Hp → Prop} {D : Ends} {ss rest : List Stmt} {st : Stmt}
theorem EE.m {x : α} (h : EE X Γ r e x) : EM X Γ M r e x := PE.imp h fun σ H Q ⟨B, en, ex, _, q⟩ => ⟨B, en, ex, q⟩
theorem EB.m {x : Bool} (h : EB X Γ e x) : EBM X Γ M e x := PT.imp h fun σ H Q ⟨B, en, ex, _, q⟩ => ⟨B, en, ex, q⟩
/-- the list itself is read: i is its slot -/
theorem Env.put {B : Hp} {f : Addr} {o : HO} {σ : St} (hf : B f = none) : ∀ {Γ : List Slot}, Env B Γ σ → Env (upd B f o) Γ σ := fun h => h.mono (Ex.new hf)
theorem open_go {B H B2 H2 : Hp} {f : Addr} {o : HO} (ex : Ex B H) (hf : B f = none) (hH : H f = some o) (g : Go no (upd B f o) H B2 H2) : Go no B H (hide B2 f) H2 ∧ B2 f = some o :=
  ⟨⟨fun a u e => by rw [hide_ne (ne_of_none e hf)]; exact g.b a u (Ex.new hf a u e), g.h, fun a u e => by
      by_cases q : a = f
      · subst q; rw [hide_same] at e; cases e
      · rw [hide_ne q] at e; exact g.i a u e, fun a h0 hb => by
      by_cases q : a = f
      · subst q; exact hide_same
      · rw [hide_ne q]; exact g.n a h0 (by rw [upd_ne q]; exact hb), g.e⟩, g.b f o upd_same⟩
theorem EE.op {N : Mem} {f : Addr} {xs : List β} {x : α} (i : Nat) (h : EE X (Γ.set i (sl (rLst X.K s) xs)) r e x) (hz : Fz isL r) (hi : Γ[i]? = some (sl (rAdr f) ())) : EM X Γ (mA N (mL w H0 f s xs)) r e x :=
  PE.imp h fun σ H Q ⟨B, en, ex, ⟨_, hf, _, vs, hH, hv⟩, q⟩ => by
    obtain ⟨v, h1, h2⟩ := en.get hi
    have h2 : v = .ref f := h2
    subst h2
    have en2 := Env.set (s := sl (rLst X.K s) xs) (o := some (V.ref f)) ⟨_, rfl, f, vs, rfl, upd_same, hv.mono (Ex.new hf)⟩ i (en.put (o := .lst vs) hf)
    have e3 : σ.set i (some (V.ref f)) = σ := by
      obtain ⟨hl, hh⟩ := List.getElem?_eq_some_iff.mp h1
      rw [← hh]; exact List.set_getElem_self hl
    rw [e3] at en2
    refine ⟨upd B f (.lst vs), en2, fun a u ha => ?_, fun v B2 H2 g rv => ?_⟩
    · by_cases q : a = f
      · subst q; rw [upd_same] at ha; rw [hH]; exact ha
      · rw [upd_ne q] at ha; exact ex a u ha
    · obtain ⟨g2, h4⟩ := open_go ex hf hH g
      exact q v _ H2 g2 (hz _ f _ v x h4 trivial rv)
theorem EB.op {N : Mem} {f : Addr} {xs : List β} {x : Bool} (i : Nat) (h : EB X (Γ.set i (sl (rLst X.K s) xs)) e x) (hi : Γ[i]? = some (sl (rAdr f) ())) : EBM X Γ (mA N (mL w H0 f s xs)) e x :=
  PT.imp h fun σ H Q ⟨B, en, ex, ⟨_, hf, _, vs, hH, hv⟩, q⟩ => by
    obtain ⟨v, h1, h2⟩ := en.get hi
    have h2 : v = .ref f := h2
    subst h2
    have en2 := Env.set (s := sl (rLst X.K s) xs) (o := some (V.ref f)) ⟨_, rfl, f, vs, rfl, upd_same, hv.mono (Ex.new hf)⟩ i (en.put (o := .lst vs) hf)
    have e3 : σ.set i (some (V.ref f)) = σ := by
      obtain ⟨hl, hh⟩ := List.getElem?_eq_some_iff.mp h1
      rw [← hh]; exact List.set_getElem_self hl
    rw [e3] at en2
    refine ⟨upd B f (.lst vs), en2, fun a u ha => ?_, fun B2 H2 g => ?_⟩
    · by_cases q : a = f
      · subst q; rw [upd_same] at ha; rw [hH]; exact ha
      · rw [upd_ne q] at ha; exact ex a u ha
    · obtain ⟨g2, h4⟩ := open_go ex hf hH g
      exact q _ H2 g2
/-! ### the triples' rules -/
theorem tr_of {t : TS} (h : PSs X ss t) (k : ∀ σ H, I σ H → t D σ H) : Tr X I ss D := fun pins s σ H J i => h.run pins s σ H D J (k σ H i)
theorem tr_cons {t : TS} (h : PS X st t) (k : ∀ σ H, I σ H → t { D with nx := Wk X rest D } σ H) : Tr X I (st :: rest) D := fun pins s σ H i hi =>
  wpAny_execs_cons (thn (h.run pins s σ H { D with nx := Wk X rest D } i (k σ H hi)) fun f s1 q => by
    cases f with
    | next =>
      obtain ⟨σ', H', i', q⟩ := q
      exact q pins s1 i'
    | ret v => exact q
    | brk => exact q
    | cont => exact q)
theorem tr_nil (h : ∀ σ H, I σ H → D.nx σ H) : Tr X I [] D := tr_of pss_nil h
theorem Tr.wk (h : Tr X I ss D) : ∀ σ H, I σ H → Wk X ss D σ H := fun σ H i pins s J => h pins s σ H J i
theorem tr_wk (h : ∀ σ H, I σ H → Wk X ss D σ H) : Tr X I ss D := fun pins s σ H J i => h σ H i pins s J
/-- the block is over: what comes behind it -/
theorem tr_end (h : Tr X I rest J') (e : D.nx = Wk X rest J') : Tr X I [] D := tr_nil fun σ H i => by rw [e]; exact h.wk σ H i
theorem tr_imp (h : Tr X J ss D) (k : ∀ σ H, I σ H → J σ H) : Tr X I ss D := fun pins s σ H i hi => h pins s σ H i (k σ H hi)
theorem tr_ex {ι : Type} {P : ι → Prop} {I : ι → St → Hp → Prop} (h : ∀ i, P i → Tr X (I i) ss D) : Tr X (fun σ H => ∃ i, P i ∧ I i σ H) ss D := fun pins s σ H j ⟨i, hp, hi⟩ => h i hp pins s σ H j hi
theorem tr_false (h : ∀ σ H, I σ H → False) : Tr X I ss D := fun pins s σ H _ hi => (h σ H hi).elim
/-- x = e -/
theorem tr_as {i : Nat} {x : α} (h : PS X st (tAsg (tEm Γ M r x) (gName i))) (k : Tr X (At w B0 H0 BX (Γ.set i (sl r x)) M) rest D) : Tr X (At w B0 H0 BX Γ M) (st :: rest) D :=
  tr_cons h fun σ H ⟨B, g, bx, en, m⟩ => ⟨B, en, g.i, m, fun v B2 H2 g2 rv => k.wk _ _ ⟨B2, g.tr g2.w, bx.tr g2.b, (en.mono g2.b).set (s := sl r x) (o := some v) ⟨v, rfl, rv⟩ i, M.st g2 m⟩⟩
theorem tr_set (i : Nat) {x : Str} {y : α} (hN : X.N.Nodup) (h : EM X Γ M r e y) (k : Tr X (At w B0 H0 BX (Γ.set i (sl r y)) M) rest D) (hi : X.N[i]? = some x := by rfl) (hx : Loc X.env.scope x := by first | exact Or.inl rfl | exact Or.inr rfl)
    (hs : swapsWith e (some (.Name x p)) pos.line X.env = pure false := by rfl) (hf : X.fn x = true ∨ X.env.scope.names.lookup x = some .local := by first | exact .inl rfl | exact .inr rfl) :
    Tr X (At w B0 H0 BX Γ M) (.Assign [.Name x p] e pos :: rest) D := tr_as (ps_set hN hi hx h hs hf) k
theorem tr_setc {i : Nat} {x : α} (h : EAs X Γ st i r x) (k : Tr X (At w B0 H0 BX (Γ.set i (sl r x)) M) rest D) : Tr X (At w B0 H0 BX Γ M) (st :: rest) D :=
  tr_as (PS.imp h fun D σ H ⟨B, en, ex, _, q⟩ => ⟨B, en, ex, q⟩) k
/-- a, b = e -/
theorem tr_tg {ts : List Nat} {x : α} {f : α → List Slot → List Slot} (h : EM X Γ M r e x) (ht : ET X tg ts r f) (k : Tr X (At w B0 H0 BX (f x Γ) M) rest D) (hs : swapsWithSole [tg] e pos.line X.env = pure false := by rfl) (hsw : swappedStores [tg] e X.env = pure none := by rfl)
    (h1 : (assignEach [tg] X.env).map (·.2) = [assign tg X.env] := by rfl) : Tr X (At w B0 H0 BX Γ M) (.Assign [tg] e pos :: rest) D :=
  tr_cons (ps_asg h ht hs hsw h1) fun σ H ⟨B, g, bx, en, m⟩ => ⟨B, en, g.i, m, fun v B2 H2 g2 rv => ⟨Γ, B2, x, en.mono g2.b, g2.i, rv, fun σ' en' _ => k.wk _ _ ⟨B2, g.tr g2.w, bx.tr g2.b, en', M.st g2 m⟩⟩⟩
/-- a, b = x, y: two locals -/
theorem tr_par (i j : Nat) {x y : Str} {px py pt : Pos} {kt k2 : Nat} {pt2 : Pos} {u : α} {v : β} (hc : X.calm = true) (hN : X.N.Nodup) (h1 : EE X Γ r a u) (h2 : EE X Γ s b v) (k : Tr X (At w B0 H0 BX ((Γ.set i (sl r u)).set j (sl s v)) M) rest D)
    (hw : swappedStores [.Tuple [.Name x px, .Name y py] kt pt] (.Tuple [a, b] k2 pt2) X.env = pure (some [x, y])) (hi : X.N[i]? = some x := by rfl) (hj : X.N[j]? = some y := by rfl) (hij : i ≠ j := by decide)
    (hx : X.env.scope.names.lookup x = some .local := by rfl) (hy : X.env.scope.names.lookup y = some .local := by rfl)
    (e1 : starEach [a, b] X.env = (false, eval a X.env) :: starEach [b] X.env := by rfl) (e2 : starEach [b] X.env = (false, eval b X.env) :: starEach [] X.env := by rfl)
    (hs : swapsWithSole [.Tuple [.Name x px, .Name y py] kt pt] (.Tuple [a, b] k2 pt2) pos.line X.env = pure false := by rfl) :
    Tr X (At w B0 H0 BX Γ M) (.Assign [.Tuple [.Name x px, .Name y py] kt pt] (.Tuple [a, b] k2 pt2) pos :: rest) D :=
  tr_cons (ps_par hc hN hi hj hij hx hy (ea_cons h1 (ea_cons h2 ea_nil e2) e1) hw hs) fun σ H ⟨B, g, bx, en, m⟩ => ⟨B, en, g.i, fun vs B2 H2 g2 rv => by
    cases rv with
    | cons r1 r2 =>
      cases r2 with
      | cons r2 r3 =>
        cases r3
        exact ⟨_, _, rfl, k.wk _ _ ⟨B2, g.tr g2.w, bx.tr g2.b, ((en.mono g2.b).set (s := sl r u) (o := some _) ⟨_, rfl, r1⟩ i).set (s := sl s v) (o := some _) ⟨_, rfl, r2⟩ j, M.st g2 m⟩⟩⟩
theorem tr_ret {x : α} (h : EM X Γ M r e x) (k : ∀ v B H, Go w B0 H0 B H → M.ok B H → r.rep B v x → D.rt v H) : Tr X (At w B0 H0 BX Γ M) (.Return (some e) pos :: rest) D :=
  tr_cons (ps_ret h) fun σ H ⟨B, g, bx, en, m⟩ => ⟨B, en, g.i, m, fun v B2 H2 g2 rv => k v B2 H2 (g.tr g2.w) (M.st g2 m) rv⟩
theorem tr_if {c : Expr} {p q : List Stmt} {x : Bool} (h : EBM X Γ M c x) (k1 : x = true → Tr X (At w B0 H0 BX Γ M) p { D with nx := Wk X rest D }) (k2 : x = false → Tr X (At w B0 H0 BX Γ M) q { D with nx := Wk X rest D }) : Tr X (At w B0 H0 BX Γ M) (.If c p q pos :: rest) D := by
  have hp : PSs X p (fun D' σ H => D' = { D with nx := Wk X rest D } ∧ x = true ∧ At w B0 H0 BX Γ M σ H) := ⟨fun pins s σ H D' j ⟨e1, e2, i⟩ => by subst e1; exact k1 e2 pins s σ H j i⟩
  have hq : PSs X q (fun D' σ H => D' = { D with nx := Wk X rest D } ∧ x = false ∧ At w B0 H0 BX Γ M σ H) := ⟨fun pins s σ H D' j ⟨e1, e2, i⟩ => by subst e1; exact k2 e2 pins s σ H j i⟩
  refine tr_cons (ps_if h hp hq) fun σ H ⟨B, g, bx, en, m⟩ => ⟨B, en, g.i, m, fun B2 H2 g2 => ?_⟩
  cases x with
  | true => exact iteT ⟨rfl, rfl, B2, g.tr g2.w, bx.tr g2.b, en.mono g2.b, M.st g2 m⟩
  | false => exact iteF ⟨rfl, rfl, B2, g.tr g2.w, bx.tr g2.b, en.mono g2.b, M.st g2 m⟩
theorem tr_cont (h : ∀ σ H, I σ H → D.ct σ H) : Tr X I (.Continue pos :: rest) D := tr_cons ps_continue h
/-- behind a block: nothing is left -/
theorem tr_on (h : ∀ σ H, I σ H → Wk X rest D σ H) : Tr X I [] { D with nx := Wk X rest D } := tr_nil h
/-- f = [..], to be changed -/
theorem tr_new (i : Nat) {x : Str} {xs : List β} (hN : X.N.Nodup) (h : EL X Γ s es xs) (hl : xs.length ≤ 100000) (k : ∀ f, H0 f = none → Tr X (At w B0 H0 BX (Γ.set i (sl (rAdr f) ())) (mA M (mL w H0 f s xs))) rest D) (hi : X.N[i]? = some x := by rfl) (hx : Loc X.env.scope x := by first | exact Or.inl rfl | exact Or.inr rfl)
    (hs : swapsWith (.List es p2) (some (.Name x p)) pos.line X.env = pure false := by rfl) (hf : X.fn x = true ∨ X.env.scope.names.lookup x = some .local := by first | exact .inl rfl | exact .inr rfl) :
    Tr X (At w B0 H0 BX Γ M) (.Assign [.Name x p] (.List es p2) pos :: rest) D :=
  tr_cons (ps_set hN hi hx (pe_lst h) hs hf) fun σ H ⟨B, g, bx, en, m⟩ => ⟨B, en, g.i, fun vs B2 H2 g2 rv => ⟨by rw [rv.len]; exact big hl, fun f hf => by
    have hB := g2.i.back hf
    have h0 : ∀ w', ¬ w' → H0 f = none ∨ w' := fun w' _ => .inl (by
      cases q : H0 f with
      | none => rfl
      | some o => exact absurd hf (g2.e f (g.e f (by rw [q]; simp))))
    have h00 : H0 f = none := by
      cases q : H0 f with
      | none => rfl
      | some o => exact absurd hf (g2.e f (g.e f (by rw [q]; simp)))
    exact (k f h00).wk _ _ ⟨B2, (g.tr g2.w).mut hB (.inl h00), bx.tr g2.b, (en.mono g2.b).set (s := sl (rAdr f) ()) (o := some (V.ref f)) ⟨_, rfl, rfl⟩ i, M.st (g2.tr (Go.newH g2.i hf)) m, hB, .inl h00, vs, upd_same, rv⟩⟩⟩
/-- N does not know the cell f -/
def MFree (M : Mem) (f : Addr) : Prop := ∀ B H o, M.ok B H → M.ok B (upd H f o)
theorem mE_free {f : Addr} : MFree mE f := fun _ _ _ _ => trivial
/-- f.append(e) -/
theorem tr_app {N : Mem} {f : Addr} {xs : List β} {x : β} (h : EM X Γ (mA N (mL w H0 f s xs)) s e x) (hf : EE X Γ (rAdr f) a ()) (hl : xs.length < 100000) (hN : MFree N f) (k : Tr X (At w B0 H0 BX Γ (mA N (mL w H0 f s (xs ++ [x])))) rest D)
    {apos : Pos} (hb : attributeBase a "append" X.env (eval a X.env) = eval a X.env := by rfl)
    (hfew : ((backTo p2 (starEach [e] X.env)).all (fun x => !x.1) && (backToKw p2 (keywordEach [] X.env)).all (fun x => x.1.isSome)
      && decide ([e].length + ([] : List Keyword).length + (if ([] : List Keyword).isEmpty then 0 else 1) < 30)) = true := by rfl)
    (hline : (apos.endLine == p2.line) = true := by rfl) (hs : starEach [e] X.env = (false, eval e X.env) :: starEach [] X.env := by rfl) :
    Tr X (At w B0 H0 BX Γ (mA N (mL w H0 f s xs))) (.Expr (.Call (.Attribute a "append" apos) [e] [] p2) pos :: rest) D :=
  tr_cons (ps_expr (pe_bm PySem.F.plainAttrs_list PySem.F.slot_list_append PySem.F.type_list_append mt_append hf (pa_cons h pa_nil hs) hb hfew hline hs)) fun σ H ⟨B, g, bx, en, m⟩ => ⟨B, en, g.i, fun v B1 H1 g1 rv => by
    have rv : v = .ref f := rv
    subst rv
    have m1 := (mA N (mL w H0 f s xs)).st g1 m
    obtain ⟨mn, hB, hw, vs, hH, hv⟩ := m1
    refine ⟨.inl ⟨rfl, vs, .inl (.inl hH)⟩, B1, en.mono g1.b, g1.i, ⟨mn, hB, hw, vs, hH, hv⟩, fun u B2 H2 g2 ru => ?_⟩
    obtain ⟨mn2, hB2, hw2, vs2, hH2, hv2⟩ := (mA N (mL w H0 f s xs)).st g2 ⟨mn, hB, hw, vs, hH, hv⟩
    exact ⟨f, vs2, u, rfl, rfl, hH2, by rw [hv2.len]; exact bigL hl, k.wk _ _ ⟨B2, ((g.tr g1.w).tr g2.w).mut hB2 hw2, bx.tr (g1.tr g2).b, en.mono (g1.tr g2).b, hN _ _ _ mn2, hB2, hw2, _, upd_same, hv2.app (.cons ru .nil)⟩⟩⟩
/-- f[i] = e -/
theorem tr_put {N : Mem} {f : Addr} {xs : List β} {x : β} {y : Int} {j : Nat} (h : EM X Γ (mA N (mL w H0 f s xs)) s e x) (hf : EE X Γ (rAdr f) a ()) (hi : EE X Γ rInt b y) (hj : ixN xs.length y = some j) (hN : MFree N f) (k : Tr X (At w B0 H0 BX Γ (mA N (mL w H0 f s (xs.set j x)))) rest D)
    {apos : Pos} (ha : ∀ v, assign (.Subscript a b apos) X.env v = (do
      let ov ← holding [v] (eval a X.env)
      let iv ← holding [v, ov] (eval b X.env)
      standAt apos
      holding [v, ov, iv] (setItem ov iv v)
      release [v, ov, iv] []) := by intro _; rfl)
    (hs : swapsWithSole [.Subscript a b apos] e pos.line X.env = pure false := by rfl) (hsw : swappedStores [.Subscript a b apos] e X.env = pure none := by rfl)
    (h1 : (assignEach [.Subscript a b apos] X.env).map (·.2) = [assign (.Subscript a b apos) X.env] := by rfl) :
    Tr X (At w B0 H0 BX Γ (mA N (mL w H0 f s xs))) (.Assign [.Subscript a b apos] e pos :: rest) D :=
  tr_cons (ps_asg h (pg_sub hf hi set_list ha) hs hsw h1) fun σ H ⟨B, g, bx, en, m⟩ => ⟨B, en, g.i, m, fun u B1 H1 g1 ru => ⟨B1, en.mono g1.b, g1.i, fun v B2 H2 g2 rv => ⟨B2, en.mono (g1.tr g2).b, g2.i, fun z B3 H3 g3 rz => by
    have rv : v = .ref f := rv
    subst rv
    obtain ⟨mn2, hB2, hw2, vs2, hH2, hv2⟩ := (mA N (mL w H0 f s xs)).st ((g1.tr g2).tr g3) m
    exact ⟨f, vs2, y, j, rfl, rz, hH2, by rw [hv2.len]; exact hj, k.wk _ _ ⟨B3, (((g.tr g1.w).tr g2.w).tr g3.w).mut hB2 hw2, bx.tr ((g1.tr g2).tr g3).b, en.mono ((g1.tr g2).tr g3).b, hN _ _ _ mn2, hB2, hw2, _, upd_same, hv2.set (s.mono (g2.tr g3).b ru) j⟩⟩⟩⟩⟩
/-- for .. in .. -/
theorem tr_for {ι : Type} {ts : List Nat} {iter : Expr} {body : List Stmt} {xs : List α} {f : α → List Slot → List Slot} (G : ι → List Slot) (Mm : ι → Mem) (P : Nat → ι → Prop) (k0 : ι) (hc : X.calm = true) (hi : EI X Γ tg iter r xs) (ht : ET X tg ts r f)
    (h0 : P 0 k0) (hw0 : Wkn Γ (G k0)) (hm0 : ∀ B H, M.ok B H → (Mm k0).ok B H)
    (hb : ∀ BX', Ex BX BX' → ∀ i x k, xs[i]? = some x → P i k → Tr X (At w B0 H0 BX' (f x (G k)) (Mm k)) body { D with nx := fun σ H => ∃ k', P (i + 1) k' ∧ At w B0 H0 BX' (G k') (Mm k') σ H, ct := fun σ H => ∃ k', P (i + 1) k' ∧ At w B0 H0 BX' (G k') (Mm k') σ H, bk := Wk X rest D })
    (hr : ∀ k, P xs.length k → Tr X (At w B0 H0 BX (G k) (Mm k)) rest D) (hs : ∀ x, foldedSetIterable iter X.env x = pure x := by intro _; rfl) (hp : PassesOwn (model X.prog X.w) X.A X.env X.xe := by exact PassesOwn.never) :
    Tr X (At w B0 H0 BX Γ M) (.For tg iter body [] pos :: rest) D := by
  -- the body's reading, at any entry
  have hbody : PSs X body (fun D' σ H => ∃ BX' i x k, Ex BX BX' ∧ xs[i]? = some x ∧ P i k ∧ D' = { D with nx := fun σ H => ∃ k', P (i + 1) k' ∧ At w B0 H0 BX' (G k') (Mm k') σ H, ct := fun σ H => ∃ k', P (i + 1) k' ∧ At w B0 H0 BX' (G k') (Mm k') σ H, bk := Wk X rest D } ∧ At w B0 H0 BX' (f x (G k)) (Mm k) σ H) :=
    ⟨fun pins s σ H D' j ⟨BX', i, x, k, e1, e2, e3, e4, e5⟩ => by subst e4; exact hb BX' e1 i x k e2 e3 pins s σ H j e5⟩
  refine tr_cons (ps_for hp hc hi ht hbody hs) fun σ H ⟨B, g, bx, en, m⟩ => ⟨B, en, g.i, fun J B1 H1 g1 it => ?_⟩
  have gB : Ex BX B1 := bx.tr g1.b
  refine ⟨fun i m σ H => m = xs.length - i ∧ i ≤ xs.length ∧ ∃ k, P i k ∧ At w B0 H0 B1 (G k) (Mm k) σ H, ⟨xs.length, rfl, Nat.zero_le _, k0, h0, B1, g.tr g1.w, Ex.rfl', (en.mono g1.b).wkn hw0, hm0 _ _ (M.st g1 m)⟩, ?_⟩
  rintro i m σ H ⟨rfl, hi, k, hk, Bi, gi, bi, eni, mi⟩
  by_cases hlt : i < xs.length
  · have hx : xs[i]? = some xs[i] := List.getElem?_eq_getElem hlt
    refine .inr ⟨it.go i H (bi.tr gi.i) hlt, fun σ' H' => ∃ k', P (i + 1) k' ∧ At w B0 H0 B1 (G k') (Mm k') σ' H', fun σ' H' q => ⟨xs.length - (i + 1), by omega, rfl, hlt, q⟩, fun v H' hy => ?_⟩
    obtain ⟨B', g', rv⟩ := it.yld i H v H' Bi _ bi gi.i hx hy
    exact ⟨G k, B', xs[i], eni.mono g'.b, g'.i, rv, fun σ2 en2 _ => ⟨B1, i, xs[i], k, gB, hx, hk, rfl, B', gi.tr g'.w, bi.tr g'.b, en2, (Mm k).st g' mi⟩⟩
  · have e : i = xs.length := by omega
    subst e
    exact .inl ⟨it.stop H (bi.tr gi.i), (hr k hk).wk _ _ ⟨Bi, gi, gB.tr bi, eni, mi⟩⟩
end
end K81
set_option Elab.async false
set_option linter.all false
set_option maxRecDepth 100000
set_option maxHeartbeats 1900000
namespace K81
open PySem L2
/-! ### instances -/
inductive FOk (B : Hp) : List (Str × V) → List (Str × Dat) → Prop
  | nil : FOk B [] []
  | cons {α : Type} {r : RT α} {x : α} {f : Str} {v : V} {vs : List (Str × V)} {ds : List (Str × Dat)} : r.rep B v x → FOk B vs ds → FOk B ((f, v) :: vs) ((f, ⟨α, r, x⟩) :: ds)
theorem FOk.mono {B B' : Hp} (e : Ex B B') : ∀ {vs : List (Str × V)} {ds : List (Str × Dat)}, FOk B vs ds → FOk B' vs ds
  | _, _, .nil => .nil
  | _, _, .cons h t => .cons (RT.mono _ e h) (t.mono e)
theorem FOk.names {B : Hp} : ∀ {vs : List (Str × V)} {ds : List (Str × Dat)}, FOk B vs ds → vs.map (·.1) = ds.map (·.1)
  | _, _, .nil => rfl
  | _, _, .cons h t => by simp [t.names]
theorem FOk.len {B : Hp} {vs : List (Str × V)} {ds : List (Str × Dat)} (h : FOk B vs ds) : vs.length = ds.length := by
  have := congrArg List.length h.names
  simpa using this
theorem FOk.look {B : Hp} {f : Str} {α : Type} {r : RT α} {x : α} : ∀ {vs : List (Str × V)} {ds : List (Str × Dat)}, FOk B vs ds → ds.lookup f = some ⟨α, r, x⟩ → ∃ v, vs.lookup f = some v ∧ r.rep B v x
  | _, _, .nil, e => by cases e
  | (g, v) :: vs, (_, d) :: ds, .cons h t, e => by
    simp only [List.lookup] at e ⊢
    by_cases q : f == g
    · rw [q] at e ⊢
      have e := Option.some.inj e
      cases e
      exact ⟨v, rfl, h⟩
    · have q : (f == g) = false := by simpa using q
      rw [q] at e ⊢
      exact FOk.look t e
theorem FOk.lookN {B : Hp} {f : Str} : ∀ {vs : List (Str × V)} {ds : List (Str × Dat)}, FOk B vs ds → ds.lookup f = none → vs.lookup f = none
  | _, _, .nil, e => rfl
  | (g, v) :: vs, (_, d) :: ds, .cons h t, e => by
    simp only [List.lookup] at e ⊢
    by_cases q : f == g
    · rw [q] at e; cases e
    · have q : (f == g) = false := by simpa using q
      rw [q] at e ⊢
      exact FOk.lookN t e
def putD (f : Str) (d : Dat) : List (Str × Dat) → List (Str × Dat)
  | [] => [(f, d)]
  | (g, x) :: r => if g = f then (g, d) :: r else (g, x) :: putD f d r
theorem FOk.put {B : Hp} {f : Str} {α : Type} {r : RT α} {x : α} {v : V} (q : r.rep B v x) : ∀ {vs : List (Str × V)} {ds : List (Str × Dat)}, FOk B vs ds → FOk B (putF f v vs) (putD f ⟨α, r, x⟩ ds)
  | _, _, .nil => .cons q .nil
  | (g, v') :: vs, (_, d) :: ds, .cons h t => by
    unfold putF putD
    by_cases e : g = f
    · rw [if_pos e, if_pos e]; exact .cons q t
    · rw [if_neg e, if_neg e]; exact .cons h (t.put q)
/-- an instance of the class C, of which p holds -/
def rIns (C : Addr) {α : Type} (fds : α → List (Str × Dat)) (p : α → Prop) : RT α := ⟨fun H v x => p x ∧ ∃ a dx vs, v = .ref a ∧ H a = some (.ins C dx vs) ∧ FOk H vs (fds x), fun e ⟨h0, a, dx, vs, h1, h2, h3⟩ => ⟨h0, a, dx, vs, h1, e _ _ h2, h3.mono e⟩⟩
/-- each field's thing needs no z -/
def FzD (z : HO → Prop) (ds : List (Str × Dat)) : Prop := ∀ d ∈ ds, Fz z d.2.2.1
theorem fz_fok {z : HO → Prop} {H : Hp} {f : Addr} {o : HO} (h : H f = some o) (hl : z o) : ∀ {vs : List (Str × V)} {ds : List (Str × Dat)}, FzD z ds → FOk H vs ds → FOk (hide H f) vs ds
  | _, _, _, .nil => .nil
  | _, _, k, .cons a t => .cons (k _ List.mem_cons_self H f o _ _ h hl a) (fz_fok h hl (fun d hd => k d (by simp [hd])) t)
theorem fz_ins {z : HO → Prop} {C : Addr} {α : Type} {fds : α → List (Str × Dat)} {p : α → Prop} (hz : ∀ dx vs, ¬ z (.ins C dx vs)) (k : ∀ x, FzD z (fds x)) : Fz z (rIns C fds p) := fun H f o v x h hl ⟨h0, a, dx, vs, h1, h2, h3⟩ => by
  refine ⟨h0, a, dx, vs, h1, ?_, fz_fok h hl (k x) h3⟩
  rw [hide_ne]
  · exact h2
  · rintro rfl; rw [h2] at h; cases h; exact hz _ _ hl
/-! ### defs -/
/-- a def that keeps sp at every call with all its arguments -/
def FnE (P : Program) (w : World) (K : Fr) (mg : Str → Option Value) (base : Heap) (k : Nat) (f : Addr) (sp : Sp) : Prop := ∃ fd ps, FnOk P w K mg base CX0 k f fd ps sp ∧ Binds K fd ps []
section
variable {P : Program} {w : World} {K : Fr} {mg : Str → Option Value} {base : Heap} {j k : Nat} {f : Addr} {sp sp' : Sp}
theorem FnE.mono (F : FnE P w K mg base j f sp) (h : j ≤ k) : FnE P w K mg base k f sp := let ⟨fd, ps, F, b⟩ := F; ⟨fd, ps, F.mono h, b⟩
theorem FnE.imp (F : FnE P w K mg base k f sp) (h : ∀ vs H Q E, sp' vs H Q E → sp vs H Q E) : FnE P w K mg base k f sp' := let ⟨fd, ps, F, b⟩ := F; ⟨fd, ps, F.imp h, b⟩
theorem FnE.r (F : FnE P w K mg base k f sp) : FnR P w K mg base CX0 k f sp := let ⟨fd, ps, F, b⟩ := F
  FnR.imp (F.raw b (dvs := []) .nil) fun vs H Q E h => by rw [List.append_nil]; exact h
end
/-- a pure promise: of the arguments ds x the answer is g x -/
def Pm {A β : Type} (ds : A → List Dat) (s : RT β) (pre : A → Prop) (g : A → β) : Sp := fun vs H Q _ => ∃ B x, Ex B H ∧ Reps B vs (ds x) ∧ pre x ∧ ∀ u B2 H2, Go no B H B2 H2 → s.rep B2 u (g x) → Q u H2
abbrev Pm1 {α β : Type} (r : RT α) (s : RT β) (pre : α → Prop) (g : α → β) : Sp := Pm (fun x => [dt r x]) s pre g
abbrev Pm2 {α β γ : Type} (r : RT α) (t : RT β) (s : RT γ) (pre : α → β → Prop) (g : α → β → γ) : Sp := Pm (A := α × β) (fun x => [dt r x.1, dt t x.2]) s (fun x => pre x.1 x.2) (fun x => g x.1 x.2)
abbrev Pm3 {α β γ δ : Type} (r : RT α) (t : RT β) (u : RT γ) (s : RT δ) (pre : α → β → γ → Prop) (g : α → β → γ → δ) : Sp := Pm (A := α × β × γ) (fun x => [dt r x.1, dt t x.2.1, dt u x.2.2]) s (fun x => pre x.1 x.2.1 x.2.2) (fun x => g x.1 x.2.1 x.2.2)
theorem Reps.len {B : Hp} : ∀ {vs : List V} {ds : List Dat}, Reps B vs ds → vs.length = ds.length
  | _, _, .nil => rfl
  | _, _, .cons _ t => by simp [t.len]
/-- an entry -/
structure Ent where
  cdv : Value
  A : Around
  outer : List PySem.Env
  s : Shared
  H : Hp
  E : XK
abbrev cxE (P : Program) (w : World) (K : Fr) (mg : Str → Option Value) (base : Heap) (N : List Str) (qual : Str) (st : Stmt) (f : Addr) (q : Ent) : Cx := (cxOf CX0 P w K mg base N qual (defScope st) f q.cdv q.A q.outer q.s q.H q.E).nox
/-- the answer y -/
def Rt (w : Addr → Prop) (B0 H0 : Hp) {β : Type} (s : RT β) (y : β) : VK := fun v H => ∃ B, Go w B0 H0 B H ∧ s.rep B v y
def endsR (w : Addr → Prop) (B0 H0 : Hp) {β : Type} (s : RT β) (y : β) : Ends := { nx := fun _ H => Rt w B0 H0 s y .non H, rt := Rt w B0 H0 s y }
def g0 (ds : List Dat) (n : Nat) : List Slot := ds.map (fun d => some d) ++ List.replicate (n - ds.length) none
theorem env0 {B : Hp} : ∀ {vs : List V} {ds : List Dat} (N : List Str), Reps B vs ds → Env B (g0 ds N.length) (L2.start N vs) := by
  intro vs ds N h
  unfold g0 L2.start
  rw [← h.len]
  generalize N.length - vs.length = m
  induction h with
  | nil =>
    induction m with
    | zero => exact .nil
    | succ m ih => exact .cons trivial ih
  | cons a t ih => exact .cons ⟨_, rfl, a⟩ ih
section
variable {P : Program} {w : World} {K : Fr} {mg : Str → Option Value} {base : Heap} {k : Nat} {f : Addr} {fd : FuncData} {N ps : List Str} {x qual : Str} {st : Stmt}
/-- a def keeps its pure promise -/
theorem fn_pm {A β : Type} {ds : A → List Dat} {s : RT β} {pre : A → Prop} {g : A → β} (F : Fun K x qual st f fd) (S : FnScope N ps (defScope st)) (hl : ∀ x, (ds x).length = ps.length)
    (hb : ∀ (kV doc pm : Value) (an : Option Addr) (cdv ct : Value) (us : List Value), us.length = ps.length → bindArgs (PySem.W.fnOf x qual (defArgs st) (defBody st) (defScope st) .none kV doc pm an cdv ct) ⟨us, []⟩ = pure (ps.zip us))
    (body : ∀ (q : Ent) (B0 H0 : Hp) (y : A), Room k (cxE P w K mg base N qual st f q).A → pre y → Tr (cxE P w K mg base N qual st f q) (At no B0 H0 B0 (g0 (ds y) N.length) mE) (defBody st) (endsR no B0 H0 s (g y))) : FnE P w K mg base (k + 1) f (Pm ds s pre g) := by
  refine ⟨fd, ps, F.ok S (fun vs H Q E ⟨B, y, _, r, _⟩ => by rw [r.len, hl]) (fun cdv A outer s0 H vs Q E hr ⟨B, y, ex, r, hp, q⟩ => ?_), F.binds hb⟩
  refine ⟨fun D σ H1 => D = { nx := fun _ H' => Q .non H', rt := Q } ∧ σ = L2.start N vs ∧ H1 = H, ⟨fun pins s1 σ H1 D I ⟨e1, e2, e3⟩ => ?_⟩, rfl, rfl, rfl⟩
  subst e1 e2 e3
  refine wpAny_mono (body ⟨cdv, A, outer, s0, H1, E⟩ B H1 y hr hp pins s1 (L2.start N vs) H1 I ⟨B, Go.rf ex, Ex.rfl', env0 N r, trivial⟩) (fun fl s2 hq => ?_) fun _ _ z => z
  cases fl with
  | ret u =>
    obtain ⟨v, σ', H', J, rv, B2, g2, z⟩ := hq
    exact ⟨v, σ', H', J, rv, q v B2 H' g2 z⟩
  | next =>
    obtain ⟨σ', H', J, B2, g2, z⟩ := hq
    exact ⟨σ', H', J, q _ B2 H' g2 z⟩
  | brk =>
    obtain ⟨_, _, _, z⟩ := hq
    exact z.elim
  | cont =>
    obtain ⟨_, _, _, z⟩ := hq
    exact z.elim
end
/-- a def of the module, by its name -/
def Cal (P : Program) (w : World) (K : Fr) (mg : Str → Option Value) (base : Heap) (k : Nat) (n : Str) (sp : Sp) : Prop := ∃ f, mg n = some (.ref f) ∧ PySem.W.keepIn K (.ref f) = true ∧ FnE P w K mg base k f sp
theorem Cal.imp {P : Program} {w : World} {K : Fr} {mg : Str → Option Value} {base : Heap} {k : Nat} {n : Str} {sp sp' : Sp} (c : Cal P w K mg base k n sp) (h : ∀ vs H Q E, sp' vs H Q E → sp vs H Q E) : Cal P w K mg base k n sp' :=
  let ⟨f, h1, h2, F⟩ := c; ⟨f, h1, h2, F.imp h⟩
section
variable {X : Cx} {Γ Γ' : List Slot} {M : Mem} {α β γ δ : Type} {r : RT α} {s : RT β} {t : RT γ} {u : RT δ} {tg a b c e : Expr} {es : List Expr} {pos p2 p : Pos} {n m : Str} {w : Addr → Prop} {B0 H0 BX : Hp} {D : Ends} {rest : List Stmt} {st : Stmt} {j k : Nat}
/-- f(..) -/
theorem ee_callA {A : Type} {ds : A → List Dat} {pre : A → Prop} {g : A → β} (cl : Cal X.prog X.w X.K X.mg X.base j n (Pm ds s pre g)) (hr : Room k X.A) (hk : j ≤ k) (x : A) (ha : EA X Γ (a :: es) (ds x)) (hp : pre x) (hg : Gl X n := by rfl) (hdb : (n == ("__debug__" : Str)) = false := by decide)
    (he : starEach (a :: es) X.env = (false, eval a X.env) :: starEach es X.env := by rfl) (hpl : (backTo pos (starEach es X.env)).any (·.1) = false := by rfl) : EE X Γ s (.Call (.Name n p) (a :: es) [] pos) (g x) := by
  obtain ⟨f, h1, h2, fd, ps, F, b⟩ := cl
  exact PE.imp (pe_call F (hr.mono hk) hg h1 h2 b (dvs := []) .nil (pass0 (X := X)) ha hdb he hpl) fun σ H Q ⟨B, en, ex, q⟩ => ⟨B, en, ex, fun vs B1 H1 g1 rv => ⟨B1, x, g1.i, by rw [List.append_nil]; exact rv, hp, fun v B2 H2 g2 rr => q v B2 H2 (g1.tr g2) rr⟩⟩
theorem ee_call1 {x : α} {pre : α → Prop} {g : α → β} (cl : Cal X.prog X.w X.K X.mg X.base j n (Pm1 r s pre g)) (hr : Room k X.A) (ha : EE X Γ r a x) (hp : pre x) (hk : j ≤ k := by decide) (hg : Gl X n := by rfl) (hdb : (n == ("__debug__" : Str)) = false := by decide)
    (he : starEach [a] X.env = (false, eval a X.env) :: starEach [] X.env := by rfl) : EE X Γ s (.Call (.Name n p) [a] [] pos) (g x) := ee_callA cl hr hk x (ea_cons ha ea_nil he) hp hg hdb he
theorem ee_call2 {x : α} {y : γ} {pre : α → γ → Prop} {g : α → γ → β} (cl : Cal X.prog X.w X.K X.mg X.base j n (Pm2 r t s pre g)) (hr : Room k X.A) (ha : EE X Γ r a x) (hb : EE X Γ t b y) (hp : pre x y) (hk : j ≤ k := by decide) (hg : Gl X n := by rfl) (hdb : (n == ("__debug__" : Str)) = false := by decide)
    (he : starEach [a, b] X.env = (false, eval a X.env) :: starEach [b] X.env := by rfl) (he2 : starEach [b] X.env = (false, eval b X.env) :: starEach [] X.env := by rfl) (hpl : (backTo pos (starEach [b] X.env)).any (·.1) = false := by rfl) :
    EE X Γ s (.Call (.Name n p) [a, b] [] pos) (g x y) := ee_callA cl hr hk (x, y) (ea_cons ha (ea_cons hb ea_nil he2) he) hp hg hdb he hpl
theorem ee_call3 {x : α} {y : γ} {z : δ} {pre : α → γ → δ → Prop} {g : α → γ → δ → β} (cl : Cal X.prog X.w X.K X.mg X.base j n (Pm3 r t u s pre g)) (hr : Room k X.A) (ha : EE X Γ r a x) (hb : EE X Γ t b y) (hc : EE X Γ u c z) (hp : pre x y z) (hk : j ≤ k := by decide) (hg : Gl X n := by rfl) (hdb : (n == ("__debug__" : Str)) = false := by decide)
    (he : starEach [a, b, c] X.env = (false, eval a X.env) :: starEach [b, c] X.env := by rfl) (he2 : starEach [b, c] X.env = (false, eval b X.env) :: starEach [c] X.env := by rfl) (he3 : starEach [c] X.env = (false, eval c X.env) :: starEach [] X.env := by rfl) (hpl : (backTo pos (starEach [b, c] X.env)).any (·.1) = false := by rfl) :
    EE X Γ s (.Call (.Name n p) [a, b, c] [] pos) (g x y z) := ee_callA cl hr hk (x, y, z) (ea_cons ha (ea_cons hb (ea_cons hc ea_nil he3) he2) he) hp hg hdb he hpl
/-- x.f, an attribute of its own -/
theorem ee_fld {C : Addr} {fds : α → List (Str × Dat)} {pr : α → Prop} {x : α} {y : β} (ha : EE X Γ (rIns C fds pr) a x) (hC : Cls X.K C) (hn : NoAttr X.K C n) (hy : (fds x).lookup n = some ⟨β, s, y⟩) (hb : attributeBase a n X.env (eval a X.env) = eval a X.env := by rfl) : EE X Γ s (.Attribute a n pos) y :=
  PE.imp (pe_fld ha hb) fun σ H Q ⟨B, en, ex, q⟩ => ⟨B, en, ex, fun v B1 H1 g1 ⟨_, p, dx, vs, e1, e2, e3⟩ => by
    obtain ⟨w, h1, h2⟩ := e3.look hy
    exact ⟨p, C, dx, vs, w, e1, g1.i _ _ e2, hC, hn, h1, q w B1 H1 g1 h2⟩⟩
/-- a property of a class, a method -/
def Prp (P : Program) (w : World) (K : Fr) (mg : Str → Option Value) (base : Heap) (k : Nat) (C : Addr) (n : Str) (sp : Sp) : Prop := ∃ p g, PropOf K C n p g ∧ FnE P w K mg base k g sp
def Mth (P : Program) (w : World) (K : Fr) (mg : Str → Option Value) (base : Heap) (k : Nat) (C : Addr) (n : Str) (sp : Sp) : Prop := ∃ g, Meth K C n g ∧ FnE P w K mg base k g sp
theorem ee_prop {C : Addr} {fds : α → List (Str × Dat)} {pr : α → Prop} {x : α} {pre : α → Prop} {g : α → β} (cl : Prp X.prog X.w X.K X.mg X.base j C n (Pm1 (rIns C fds pr) s pre g)) (hr : Room k X.A) (hC : Cls X.K C) (ha : EE X Γ (rIns C fds pr) a x) (hp : pre x) (hk : j + 1 ≤ k := by decide)
    (hb : attributeBase a n X.env (eval a X.env) = eval a X.env := by rfl) : EE X Γ s (.Attribute a n pos) (g x) := by
  obtain ⟨p, gg, h1, fd, ps, F, b⟩ := cl
  exact PE.imp (pe_prop ha hC h1 F (hr.mono hk) b (dvs := []) .nil (pass0 (X := X.nox)) hb) fun σ H Q ⟨B, en, ex, q⟩ => ⟨B, en, ex, fun v B1 H1 g1 rv => by
    obtain ⟨h0, a, dx, vs, e1, e2, e3⟩ := id rv
    subst e1
    exact ⟨a, dx, vs, rfl, g1.i _ _ e2, B1, x, g1.i, .cons rv .nil, hp, fun v B2 H2 g2 rr => q v B2 H2 (g1.tr g2) rr⟩⟩
/-- o.m(..) -/
theorem ee_methA {A : Type} {C : Addr} {fds : α → List (Str × Dat)} {pr : α → Prop} {x : α} {ds : A → List Dat} {pre : A → Prop} {g : A → β} {apos : Pos} {pl : Sem Bool} (cl : Mth X.prog X.w X.K X.mg X.base j C n (Pm ds s pre g)) (hr : Room k X.A) (hC : Cls X.K C) (ha : EE X Γ (rIns C fds pr) a x) (hn : (fds x).lookup n = none) (y : A) {ds' : List Dat} (hd : ds y = dt (rIns C fds pr) x :: ds')
    (hes : EA X Γ (e :: es) ds') (hp : pre y) (hk : j ≤ k)
    (hst : starEach (e :: es) X.env = (false, eval e X.env) :: starEach es X.env := by rfl) (hpl : (backTo pos (starEach es X.env)).any (·.1) = false := by rfl)
    (ht : eval (.Call (.Attribute a n apos) (e :: es) [] pos) X.env = (do
      let ov ← eval a X.env
      standAt apos.atName
      let (f, first) ← holding [ov] (getMethod ov n pl)
      callWith pos f first (backTo pos (starEach (e :: es) X.env)) (backToKw pos (keywordEach [] X.env))) := by rfl) : EE X Γ s (.Call (.Attribute a n apos) (e :: es) [] pos) (g y) := by
  obtain ⟨gg, h1, F⟩ := cl
  exact PE.imp (pe_methR ha hC h1 F.r (hr.mono hk) (pass0 (X := X)) hes hst hpl ht) fun σ H Q ⟨B, en, ex, q⟩ => ⟨B, en, ex, fun v B1 H1 g1 rv => by
    obtain ⟨h0, a, dx, vs, e1, e2, e3⟩ := id rv
    subst e1
    exact ⟨a, dx, vs, rfl, g1.i _ _ e2, e3.lookN hn, B1, en.mono g1.b, g1.i, fun us B2 H2 g2 ru => ⟨B2, y, g2.i, by rw [hd]; exact .cons (RT.mono _ g2.b rv) ru, hp, fun v B3 H3 g3 rr => q v B3 H3 ((g1.tr g2).tr g3) rr⟩⟩⟩
theorem ee_meth1 {C : Addr} {fds : α → List (Str × Dat)} {pr : α → Prop} {x : α} {y : γ} {pre : α → γ → Prop} {g : α → γ → β} {apos : Pos} {pl : Sem Bool} (cl : Mth X.prog X.w X.K X.mg X.base j C n (Pm2 (rIns C fds pr) t s pre g)) (hr : Room k X.A) (hC : Cls X.K C) (ha : EE X Γ (rIns C fds pr) a x) (hn : (fds x).lookup n = none)
    (hes : EE X Γ t e y) (hp : pre x y) (hk : j ≤ k := by decide)
    (hst : starEach [e] X.env = (false, eval e X.env) :: starEach [] X.env := by rfl)
    (ht : eval (.Call (.Attribute a n apos) [e] [] pos) X.env = (do
      let ov ← eval a X.env
      standAt apos.atName
      let (f, first) ← holding [ov] (getMethod ov n pl)
      callWith pos f first (backTo pos (starEach [e] X.env)) (backToKw pos (keywordEach [] X.env))) := by rfl) : EE X Γ s (.Call (.Attribute a n apos) [e] [] pos) (g x y) :=
  ee_methA cl hr hC ha hn (x, y) rfl (ea_cons hes ea_nil hst) hp hk hst rfl ht
theorem ee_meth2 {C : Addr} {fds : α → List (Str × Dat)} {pr : α → Prop} {x : α} {y : γ} {z : δ} {pre : α → γ → δ → Prop} {g : α → γ → δ → β} {apos : Pos} {pl : Sem Bool} (cl : Mth X.prog X.w X.K X.mg X.base j C n (Pm3 (rIns C fds pr) t u s pre g)) (hr : Room k X.A) (hC : Cls X.K C) (ha : EE X Γ (rIns C fds pr) a x) (hn : (fds x).lookup n = none)
    (hb : EE X Γ t b y) (hc : EE X Γ u c z) (hp : pre x y z) (hk : j ≤ k := by decide)
    (hst : starEach [b, c] X.env = (false, eval b X.env) :: starEach [c] X.env := by rfl) (hst2 : starEach [c] X.env = (false, eval c X.env) :: starEach [] X.env := by rfl) (hpl : (backTo pos (starEach [c] X.env)).any (·.1) = false := by rfl)
    (ht : eval (.Call (.Attribute a n apos) [b, c] [] pos) X.env = (do
      let ov ← eval a X.env
      standAt apos.atName
      let (f, first) ← holding [ov] (getMethod ov n pl)
      callWith pos f first (backTo pos (starEach [b, c] X.env)) (backToKw pos (keywordEach [] X.env))) := by rfl) : EE X Γ s (.Call (.Attribute a n apos) [b, c] [] pos) (g x y z) :=
  ee_methA cl hr hC ha hn (x, y, z) rfl (ea_cons hb (ea_cons hc ea_nil hst2) hst) hp hk hst hpl ht
/-- o(..) -/
def Cll (P : Program) (w : World) (K : Fr) (mg : Str → Option Value) (base : Heap) (k : Nat) (C : Addr) (sp : Sp) : Prop := ∃ g, StX.CallO K C g ∧ FnE P w K mg base k g sp
theorem ee_callO {C : Addr} {fds : α → List (Str × Dat)} {pr : α → Prop} {x : α} {y : γ} {pre : α → γ → Prop} {g : α → γ → β} (cl : Cll X.prog X.w X.K X.mg X.base j C (Pm2 (rIns C fds pr) t s pre g)) (hr : Room k X.A) (ha : EE X Γ (rIns C fds pr) a x)
    (hes : EE X Γ t e y) (hp : pre x y) (hk : j ≤ k := by decide)
    (ht : eval (.Call a [e] [] pos) X.env = (do callWith pos (← eval a X.env) [] (backTo pos (starEach [e] X.env)) (backToKw pos (keywordEach [] X.env))) := by rfl)
    (he : starEach [e] X.env = (false, eval e X.env) :: starEach [] X.env := by rfl) : EE X Γ s (.Call a [e] [] pos) (g x y) := by
  obtain ⟨gg, h1, F⟩ := cl
  exact PE.imp (StX.pe_callO ha h1 F.r (hr.mono hk) (pass0 (X := X)) (ea_cons hes ea_nil he) ht he) fun σ H Q ⟨B, en, ex, q⟩ => ⟨B, en, ex, fun v B1 H1 g1 rv => by
    obtain ⟨h0, a, dx, vs, e1, e2, e3⟩ := id rv
    subst e1
    exact ⟨a, rfl, B1, en.mono g1.b, g1.i, fun us B2 H2 g2 ru => ⟨.inr ⟨dx, vs, g2.hx _ _ (g1.i _ _ e2)⟩, B2, (x, y), g2.i, .cons (RT.mono _ g2.b rv) ru, hp, fun v B3 H3 g3 rr => q v B3 H3 ((g1.tr g2).tr g3) rr⟩⟩⟩
end
end K81
set_option Elab.async false
set_option linter.all false
set_option maxRecDepth 100000
set_option maxHeartbeats 1900000
namespace K81
open PySem L2
section
variable {X : Cx} {Γ : List Slot} {α β γ : Type} {r : RT α} {s : RT β} {tg a b e : Expr} {es elts : List Expr} {pos p2 p tpos : Pos} {n : Str} {kk : Nat}
theorem zip_at {xs : List α} {ys : List β} {i : Nat} {x : α × β} (h : (xs.zip ys)[i]? = some x) : xs[i]? = some x.1 ∧ ys[i]? = some x.2 := by
  rw [List.getElem?_zip_eq_some] at h
  exact h
/-- a pair just made -/
theorem pair_new {B H : Hp} {T : Addr} {u v : V} {x : α} {y : β} (eh : Ex B H) (hT : H T = none) (hu : r.rep B u x) (hv : s.rep B v y) : ∃ B', Go no B H B' (upd H T (.tup [u, v])) ∧ (rPr X.K r s).rep B' (.ref T) (x, y) :=
  ⟨upd B T (.tup [u, v]), Go.new eh hT, T, u, v, rfl, .inl (.inl upd_same), r.mono (Ex.new (eh.back hT)) hu, s.mono (Ex.new (eh.back hT)) hv⟩
theorem ei_zipL {xs : List α} {ys : List β} (hm : X.mg "zip" = none) (ha : EE X Γ (rLst X.K r) a xs) (hb : EE X Γ (rLst X.K s) b ys) (hg : Gl X "zip" := by rfl)
    (hs : starEach [a, b] X.env = (false, eval a X.env) :: starEach [b] X.env := by rfl) (hs2 : starEach [b] X.env = (false, eval b X.env) :: starEach [] X.env := by rfl) (hpl : (backTo pos (starEach [b] X.env)).any (·.1) = false := by rfl) :
    EI X Γ (.Tuple elts kk tpos) (.Call (.Name "zip" p) [a, b] [] pos) (rPr X.K r s) (xs.zip ys) :=
  PI.imp (pi_zip hg hm (ea_cons ha (ea_cons hb ea_nil hs2) hs) hs hpl) fun σ H R ⟨B, en, ex, q⟩ => ⟨B, en, ex, fun vs B1 H1 g1 rv => by
    cases rv with
    | cons r1 r2 =>
      cases r2 with
      | cons r2 r3 =>
        cases r3
        obtain ⟨c, us, e1, e2, e3⟩ := r1
        obtain ⟨d, ws, f1, f2, f3⟩ := r2
        subst e1 f1
        refine ⟨c, d, us, ws, rfl, g1.i.lst e2, g1.i.lst f2, q _ B1 H1 g1 ⟨fun H e => ⟨us, ws, e.lst e2, e.lst f2, ?_⟩, fun i H e hi => ?_, fun i H v H' B x eb eh hx hy => ?_⟩⟩
        · rw [e3.len, f3.len, List.length_zip]; omega
        · rw [List.length_zip] at hi
          exact ⟨us, ws, us[i]'(by rw [e3.len]; omega), ws[i]'(by rw [f3.len]; omega), e.lst e2, e.lst f2, List.getElem?_eq_getElem _, List.getElem?_eq_getElem _⟩
        · obtain ⟨h1, h2⟩ := zip_at hx
          obtain ⟨T, u, v2, rfl, hT, rfl, k1, k2⟩ := hy
          obtain ⟨z1, y1, y2⟩ := e3.get h1
          obtain ⟨z2, y3, y4⟩ := f3.get h2
          have k1 := k1 us ((eb.tr eh).lst e2)
          have k2 := k2 ws ((eb.tr eh).lst f2)
          rw [y1] at k1; cases k1
          rw [y3] at k2; cases k2
          exact pair_new (X := X) eh hT (r.mono eb y2) (s.mono eb y4)⟩
theorem ei_zipT {xs : List α} {ys : List β} (hm : X.mg "zip" = none) (ha : EE X Γ (rTup X.K r) a xs) (hb : EE X Γ (rTup X.K s) b ys) (hg : Gl X "zip" := by rfl)
    (hs : starEach [a, b] X.env = (false, eval a X.env) :: starEach [b] X.env := by rfl) (hs2 : starEach [b] X.env = (false, eval b X.env) :: starEach [] X.env := by rfl) (hpl : (backTo pos (starEach [b] X.env)).any (·.1) = false := by rfl) :
    EI X Γ (.Tuple elts kk tpos) (.Call (.Name "zip" p) [a, b] [] pos) (rPr X.K r s) (xs.zip ys) :=
  PI.imp (RZ.pi_zipA hg hm (ea_cons ha (ea_cons hb ea_nil hs2) hs) hs hpl) fun σ H R ⟨B, en, ex, q⟩ => ⟨B, en, ex, fun vs B1 H1 g1 rv => by
    cases rv with
    | cons r1 r2 =>
      cases r2 with
      | cons r2 r3 =>
        cases r3
        obtain ⟨c, us, e1, e2, e3⟩ := r1
        obtain ⟨d, ws, f1, f2, f3⟩ := r2
        subst e1 f1
        refine ⟨c, d, us, ws, rfl, .inr ⟨g1.i.sqT e2, g1.i.sqT f2, q _ B1 H1 g1 ⟨fun H e => ⟨us, ws, e.sqT e2, e.sqT f2, ?_⟩, fun i H e hi => ?_, fun i H v H' B x eb eh hx hy => ?_⟩⟩⟩
        · rw [e3.len, f3.len, List.length_zip]; omega
        · rw [List.length_zip] at hi
          exact ⟨us, ws, us[i]'(by rw [e3.len]; omega), ws[i]'(by rw [f3.len]; omega), e.sqT e2, e.sqT f2, List.getElem?_eq_getElem _, List.getElem?_eq_getElem _⟩
        · obtain ⟨h1, h2⟩ := zip_at hx
          obtain ⟨T, u, v2, rfl, hT, rfl, k1, k2⟩ := hy
          obtain ⟨z1, y1, y2⟩ := e3.get h1
          obtain ⟨z2, y3, y4⟩ := f3.get h2
          have k1 := k1 us ((eb.tr eh).sqT e2)
          have k2 := k2 ws ((eb.tr eh).sqT f2)
          rw [y1] at k1; cases k1
          rw [y3] at k2; cases k2
          exact pair_new (X := X) eh hT (r.mono eb y2) (s.mono eb y4)⟩
/-- a list and a tuple of one length -/
theorem ei_zipM {xs : List α} {ys : List β} (hm : X.mg "zip" = none) (ha : EE X Γ (rLst X.K r) a xs) (hb : EE X Γ (rTup X.K s) b ys) (hl : xs.length = ys.length) (hg : Gl X "zip" := by rfl)
    (hs : starEach [a, b] X.env = (false, eval a X.env) :: starEach [b] X.env := by rfl) (hs2 : starEach [b] X.env = (false, eval b X.env) :: starEach [] X.env := by rfl) (hpl : (backTo pos (starEach [b] X.env)).any (·.1) = false := by rfl) :
    EI X Γ (.Tuple elts kk tpos) (.Call (.Name "zip" p) [a, b] [] pos) (rPr X.K r s) (xs.zip ys) :=
  PI.imp (pi_zipM hg hm (ea_cons ha (ea_cons hb ea_nil hs2) hs) hs hpl) fun σ H R ⟨B, en, ex, q⟩ => ⟨B, en, ex, fun vs B1 H1 g1 rv => by
    cases rv with
    | cons r1 r2 =>
      cases r2 with
      | cons r2 r3 =>
        cases r3
        obtain ⟨c, us, e1, e2, e3⟩ := r1
        obtain ⟨d, ws, f1, f2, f3⟩ := r2
        subst e1 f1
        refine ⟨c, d, us, ws, rfl, g1.i.lst e2, g1.i.sqT f2, q _ B1 H1 g1 ⟨fun H e => ⟨us, ws, e.lst e2, e.sqT f2, ?_, ?_⟩, fun i H e hi => ?_, fun i H v H' B x eb eh hx hy => ?_⟩⟩
        · rw [e3.len, List.length_zip]; omega
        · rw [f3.len, List.length_zip]; omega
        · rw [List.length_zip] at hi
          exact ⟨us, ws, us[i]'(by rw [e3.len]; omega), ws[i]'(by rw [f3.len]; omega), e.lst e2, e.sqT f2, by rw [e3.len, f3.len]; exact hl, List.getElem?_eq_getElem _, List.getElem?_eq_getElem _⟩
        · obtain ⟨h1, h2⟩ := zip_at hx
          obtain ⟨T, u, v2, rfl, hT, rfl, k1, k2⟩ := hy
          obtain ⟨z1, y1, y2⟩ := e3.get h1
          obtain ⟨z2, y3, y4⟩ := f3.get h2
          have k1 := k1 us ((eb.tr eh).lst e2)
          have k2 := k2 ws ((eb.tr eh).sqT f2)
          rw [y1] at k1; cases k1
          rw [y3] at k2; cases k2
          exact pair_new (X := X) eh hT (r.mono eb y2) (s.mono eb y4)⟩
/-- each with its number -/
def enumI {α : Type} (xs : List α) : List (Int × α) := ((List.range xs.length).map fun i : Nat => (i : Int)).zip xs
theorem enumI_len {xs : List α} : (enumI xs).length = xs.length := by unfold enumI; simp
theorem enumI_at {xs : List α} {i : Nat} {x : Int × α} (h : (enumI xs)[i]? = some x) : x.1 = i ∧ xs[i]? = some x.2 := by
  obtain ⟨h1, h2⟩ := zip_at h
  refine ⟨?_, h2⟩
  rw [List.getElem?_map] at h1
  cases q : (List.range xs.length)[i]? with
  | none => rw [q] at h1; cases h1
  | some j =>
    rw [q] at h1
    obtain ⟨h3, h4⟩ := List.getElem?_eq_some_iff.mp q
    rw [List.getElem_range] at h4
    subst h4
    exact (Option.some.inj h1).symm
theorem ei_enumT {xs : List α} (hm : X.mg "enumerate" = none) (ha : EE X Γ (rTup X.K r) a xs) (hg : Gl X "enumerate" := by rfl) (hs : starEach [a] X.env = [(false, eval a X.env)] := by rfl) (he : starEach [a] X.env = (false, eval a X.env) :: starEach [] X.env := by rfl) :
    EI X Γ (.Tuple elts kk tpos) (.Call (.Name "enumerate" p) [a] [] pos) (rPr X.K rInt r) (enumI xs) :=
  PI.imp (pi_enumT hg hm (ea_cons ha ea_nil he) hs) fun σ H R ⟨B, en, ex, q⟩ => ⟨B, en, ex, fun vs B1 H1 g1 rv => by
    cases rv with
    | cons r1 r2 =>
      cases r2
      obtain ⟨c, us, e1, e2, e3⟩ := r1
      subst e1
      refine ⟨c, us, rfl, g1.i.sqT e2, q _ B1 H1 g1 ⟨fun H e => ⟨us, e.sqT e2, by rw [e3.len, enumI_len]⟩, fun i H e hi => ?_, fun i H v H' B x eb eh hx hy => ?_⟩⟩
      · rw [enumI_len] at hi
        exact ⟨us, us[i]'(by rw [e3.len]; exact hi), e.sqT e2, List.getElem?_eq_getElem _⟩
      · obtain ⟨h1, h2⟩ := enumI_at hx
        obtain ⟨T, u, rfl, hT, rfl, k1⟩ := hy
        obtain ⟨z1, y1, y2⟩ := e3.get h2
        have k1 := k1 us ((eb.tr eh).sqT e2)
        rw [y1] at k1; cases k1
        exact pair_new (X := X) eh hT (show V.int _ = V.int x.1 by rw [h1]) (r.mono eb y2)⟩
theorem ei_enumL {xs : List α} (hm : X.mg "enumerate" = none) (ha : EE X Γ (rLst X.K r) a xs) (hg : Gl X "enumerate" := by rfl) (hs : starEach [a] X.env = [(false, eval a X.env)] := by rfl) (he : starEach [a] X.env = (false, eval a X.env) :: starEach [] X.env := by rfl) :
    EI X Γ (.Tuple elts kk tpos) (.Call (.Name "enumerate" p) [a] [] pos) (rPr X.K rInt r) (enumI xs) :=
  PI.imp (pi_enum hg hm (ea_cons ha ea_nil he) hs) fun σ H R ⟨B, en, ex, q⟩ => ⟨B, en, ex, fun vs B1 H1 g1 rv => by
    cases rv with
    | cons r1 r2 =>
      cases r2
      obtain ⟨c, us, e1, e2, e3⟩ := r1
      subst e1
      refine ⟨c, us, rfl, g1.i.lst e2, q _ B1 H1 g1 ⟨fun H e => ⟨us, e.lst e2, by rw [e3.len, enumI_len]; exact Nat.le_refl _⟩, fun i H e hi => ?_, fun i H v H' B x eb eh hx hy => ?_⟩⟩
      · rw [enumI_len] at hi
        exact ⟨us, us[i]'(by rw [e3.len]; exact hi), e.lst e2, List.getElem?_eq_getElem _⟩
      · obtain ⟨h1, h2⟩ := enumI_at hx
        obtain ⟨T, u, rfl, hT, rfl, k1⟩ := hy
        obtain ⟨z1, y1, y2⟩ := e3.get h2
        have k1 := k1 us ((eb.tr eh).lst e2)
        rw [y1] at k1; cases k1
        exact pair_new (X := X) eh hT (show V.int _ = V.int x.1 by rw [h1]) (r.mono eb y2)⟩
/-! ### two generators -/
theorem flat_cut {δ : Type} {F : α → List δ} {xs : List α} {i : Nat} (h : i < xs.length) : (xs.take (i + 1)).flatMap F = (xs.take i).flatMap F ++ F xs[i] ∧ ((xs.take i).flatMap F).length + (F xs[i]).length ≤ (xs.flatMap F).length := by
  have htk : xs.take (i + 1) = xs.take i ++ [xs[i]] := by rw [List.take_add_one, List.getElem?_eq_getElem h]; rfl
  refine ⟨by rw [htk, List.flatMap_append]; simp, ?_⟩
  have e : xs.flatMap F = (xs.take i).flatMap F ++ (F xs[i] ++ (xs.drop (i + 1)).flatMap F) := by
    conv => lhs; rw [← List.take_append_drop i xs, List.drop_eq_getElem_cons h]
    rw [List.flatMap_append, List.flatMap_cons]
  rw [e, List.length_append, List.length_append]
  omega
theorem lc2_read {wi wi1 : TI} {δ : Type} {u : RT δ} {ts ts1 vs vs1 : List Nat} {xs : List α} {f : α → List Slot → List Slot} {ys : α → List β} {f1 : β → List Slot → List Slot} {g : α → β → δ} {σ : L2.St} {H : Hp} {Q : VK} (hts : ∀ i ∈ ts, i ∈ vs) (hts1 : ∀ i ∈ ts1, i ∈ vs1)
    (hl : (xs.flatMap fun x => (ys x).map (g x)).length ≤ 100000) (hw : wi = tIt Γ r xs) (hw1 : wi1 = fun σ H R => ∃ x, x ∈ xs ∧ tIt (f x (gwipe Γ vs)) s (ys x) σ H R) (h : tE Γ (rLst X.K u) (xs.flatMap fun x => (ys x).map (g x)) σ H Q) :
    tLc2 wi (tTg ts r f) (fun σ H Q => ∃ x, x ∈ xs ∧ tBo (f x (gwipe Γ vs)) true σ H Q) wi1 (tTg ts1 s f1) (fun σ H Q => ∃ p : α × β, (p.1 ∈ xs ∧ p.2 ∈ ys p.1) ∧ tBo (f1 p.2 (gwipe (f p.1 (gwipe Γ vs)) vs1)) true σ H Q)
      (fun σ H Q => ∃ p : α × β, (p.1 ∈ xs ∧ p.2 ∈ ys p.1) ∧ tE (f1 p.2 (gwipe (f p.1 (gwipe Γ vs)) vs1)) u (g p.1 p.2) σ H Q) vs vs1 σ H Q := by
  subst hw hw1
  obtain ⟨B, en, ex, q⟩ := h
  refine ⟨B, en, ex, fun J B1 H1 g1 it D hD => ?_⟩
  have hB1 : B1 D = none := g1.i.back hD
  refine ⟨fun i m H => m = xs.length - i ∧ i ≤ xs.length ∧ ∃ Bi acc, Go no B1 H1 Bi H ∧ Bi D = none ∧ H D = some (.lst acc) ∧ Vs u Bi acc ((xs.take i).flatMap fun x => (ys x).map (g x)), ⟨xs.length, rfl, Nat.zero_le _, B1, [], Go.newH g1.i hD, hB1, upd_same, by rw [List.take_zero]; exact .nil⟩, ?_⟩
  rintro i m H ⟨rfl, hi, Bi, acc, gi, hbi, hDi, hv⟩
  by_cases hlt : i < xs.length
  · obtain ⟨ct1, ct2⟩ := flat_cut (F := fun x => (ys x).map (g x)) hlt
    refine .inr ⟨it.go i H (gi.b.tr gi.i) hlt, fun H' => ∃ B' acc', Go no B1 H1 B' H' ∧ B' D = none ∧ H' D = some (.lst acc') ∧ Vs u B' acc' ((xs.take (i + 1)).flatMap fun x => (ys x).map (g x)), fun H' ⟨B', acc', k1, k2, k3, k4⟩ => ⟨xs.length - (i + 1), by omega, rfl, hlt, B', acc', k1, k2, k3, k4⟩, fun v H' hy => ?_⟩
    have hx : xs[i]? = some xs[i] := List.getElem?_eq_getElem hlt
    have hmem : xs[i] ∈ xs := List.getElem_mem hlt
    obtain ⟨B', g', rv⟩ := it.yld i H v H' Bi _ gi.b gi.i hx hy
    have hb' : B' D = none := g'.n D (by rw [hDi]; simp) hbi
    have hd' : H' D = some (.lst acc) := g'.hx _ _ hDi
    refine ⟨gwipe Γ vs, B', xs[i], ((en.mono (g1.tr (gi.tr g')).b).wipe vs), g'.i, rv, fun σ2 en2 hw2 => ⟨(hw2 vs hts).trans (wipe_wipe fun i hi => hi), xs[i], hmem, B', en2, g'.i, fun B2 H2 g2 => iteT ?_⟩⟩
    have hb2 : B2 D = none := g2.n D (by rw [hd']; simp) hb'
    have hd2 : H2 D = some (.lst acc) := g2.hx _ _ hd'
    refine ⟨xs[i], hmem, B2, en2.mono g2.b, g2.i, fun J1 B3 H3 g3 it1 => ?_⟩
    have hb3 : B3 D = none := g3.n D (by rw [hd2]; simp) hb2
    have hd3 : H3 D = some (.lst acc) := g3.hx _ _ hd2
    have en3 := en2.mono (g2.tr g3).b
    refine ⟨fun j k H => k = (ys xs[i]).length - j ∧ j ≤ (ys xs[i]).length ∧ ∃ Bj acc', Go no B1 H1 Bj H ∧ Ex B3 Bj ∧ Bj D = none ∧ H D = some (.lst acc') ∧ Vs u Bj acc' (((xs.take i).flatMap fun x => (ys x).map (g x)) ++ ((ys xs[i]).take j).map (g xs[i])),
      ⟨_, rfl, Nat.zero_le _, B3, acc, ((gi.tr g').tr g2).tr g3, Ex.rfl', hb3, hd3, by rw [List.take_zero, List.map_nil, List.append_nil]; exact hv.mono ((g'.tr g2).tr g3).b⟩, ?_⟩
    rintro j k H4 ⟨rfl, hj, Bj, acc', gj, ej, hbj, hdj, hvj⟩
    by_cases hjl : j < (ys xs[i]).length
    · refine .inr ⟨it1.go j H4 (ej.tr gj.i) hjl, fun H' => ∃ B' acc2, Go no B1 H1 B' H' ∧ Ex B3 B' ∧ B' D = none ∧ H' D = some (.lst acc2) ∧ Vs u B' acc2 (((xs.take i).flatMap fun x => (ys x).map (g x)) ++ ((ys xs[i]).take (j + 1)).map (g xs[i])),
        fun H' ⟨B', acc2, k1, k2, k3, k4, k5⟩ => ⟨(ys xs[i]).length - (j + 1), by omega, rfl, hjl, B', acc2, k1, k2, k3, k4, k5⟩, fun v1 H5 hy1 => ?_⟩
      have hx1 : (ys xs[i])[j]? = some (ys xs[i])[j] := List.getElem?_eq_getElem hjl
      have hmem1 : (ys xs[i])[j] ∈ ys xs[i] := List.getElem_mem hjl
      obtain ⟨B5, g5, rv5⟩ := it1.yld j H4 v1 H5 Bj _ ej gj.i hx1 hy1
      have hb5 : B5 D = none := g5.n D (by rw [hdj]; simp) hbj
      have hd5 : H5 D = some (.lst acc') := g5.hx _ _ hdj
      refine ⟨gwipe (f xs[i] (gwipe Γ vs)) vs1, B5, (ys xs[i])[j], ((en3.mono (ej.tr g5.b)).wipe vs1), g5.i, rv5, fun σ3 en6 hw3 => ⟨(hw3 vs1 hts1).trans (wipe_wipe fun i hi => hi), (xs[i], (ys xs[i])[j]), ⟨hmem, hmem1⟩, B5, en6, g5.i, fun B6 H6 g6 => iteT ⟨(xs[i], (ys xs[i])[j]), ⟨hmem, hmem1⟩, B6, en6.mono g6.b, g6.i, fun w B7 H7 g7 rw7 => ?_⟩⟩⟩
      have hb6 : B6 D = none := g6.n D (by rw [hd5]; simp) hb5
      have hd6 : H6 D = some (.lst acc') := g6.hx _ _ hd5
      have hb7 : B7 D = none := g7.n D (by rw [hd6]; simp) hb6
      have hd7 : H7 D = some (.lst acc') := g7.hx _ _ hd6
      have gg : Go no B1 H1 B7 H7 := ((gj.tr g5).tr g6).tr g7
      refine ⟨acc', hd7, ?_, B7, acc' ++ [w], gg.mut hb7 (.inl hD), ej.tr ((g5.tr g6).tr g7).b, hb7, upd_same, ?_⟩
      · have e0 : (((xs.take i).flatMap fun x => (ys x).map (g x)).length + ((ys xs[i]).map (g xs[i])).length) ≤ 100000 := Nat.le_trans ct2 hl
        rw [hvj.len, List.length_append, List.length_map, List.length_take]
        rw [List.length_map] at e0
        exact bigL (by omega)
      · rw [List.take_add_one, hx1, List.map_append, ← List.append_assoc]
        exact (hvj.mono ((g5.tr g6).tr g7).b).app (.cons rw7 .nil)
    · have e : j = (ys xs[i]).length := by omega
      subst e
      refine .inl ⟨it1.stop H4 (ej.tr gj.i), Bj, acc', gj, hbj, hdj, ?_⟩
      rw [ct1]
      rw [List.take_length] at hvj
      exact hvj
  · have e : i = xs.length := by omega
    subst e
    rw [List.take_length] at hv
    exact .inl ⟨it.stop H (gi.b.tr gi.i), q _ _ H (g1.tr (gi.show hbi hD hDi)) ⟨D, acc, rfl, upd_same, hv.mono (Ex.new hbi)⟩⟩
theorem PI.ex {ι : Type} {tg e : Expr} {P : ι → Prop} {t : ι → TI} (h : ∀ i, P i → PI X tg e (t i)) : PI X tg e (fun σ H R => ∃ i, P i ∧ t i σ H R) := ⟨fun pins s σ H R I ⟨i, hp, q⟩ => (h i hp).run pins s σ H R I q⟩
/-- [elt for tg in iter for tg1 in iter1] -/
theorem ee_lc2 {elt iter tg1 iter1 : Expr} {scope : Scope} {own : List (Str × Nat)} {vs1 : List Nat} {δ : Type} {u : RT δ} {xs : List α} {ts ts1 : List Nat} {f : α → List Slot → List Slot} {ys : α → List β} {f1 : β → List Slot → List Slot} {g : α → β → δ} (hc : X.calm = true) (hN : X.N.Nodup) {N : List Str} {sc : Scope} (ok : blkC N sc scope own = true) (hi : EI X Γ tg iter r xs)
    (ht : ∀ q : BlkA, ET (bk X scope q) tg ts r f) (hi1 : ∀ q : BlkA, ∀ x ∈ xs, EI (bk X scope q) (f x (gwipe Γ (own.map (·.2)))) tg1 iter1 s (ys x)) (ht1 : ∀ q : BlkA, ET (bk X scope q) tg1 ts1 s f1)
    (he : ∀ q : BlkA, ∀ x ∈ xs, ∀ y ∈ ys x, EE (bk X scope q) (f1 y (gwipe (f x (gwipe Γ (own.map (·.2)))) vs1)) u elt (g x y))
    (hl : (xs.flatMap fun x => (ys x).map (g x)).length ≤ 100000) (hv1 : ∀ i ∈ vs1, i ∈ own.map (·.2) := by decide) (hts : ∀ i ∈ ts, i ∈ own.map (·.2) := by decide) (hts1 : ∀ i ∈ ts1, i ∈ vs1 := by decide) (hs : ∀ x, foldedSetIterable iter X.env x = pure x := by intro _; rfl) (hs1 : ∀ env x, foldedSetIterable iter1 env x = pure x := by intro _ _; rfl)
    (eN : X.N = N := by rfl) (eS : X.env.scope = sc := by rfl) : EE X Γ (rLst X.K u) (.ListComp elt [⟨tg, iter, [], 0⟩, ⟨tg1, iter1, [], 0⟩] scope pos) (xs.flatMap fun x => (ys x).map (g x)) :=
  PE.imp (pe_lc2 (vs1 := vs1) hc hN hi (blkOk_by (by rw [eN, eS]; exact ok)) hv1 (fun s H C cl fp => ht ⟨s, H, C, cl, fp⟩) (fun s H C cl fp => PTs.ex (P := fun x => x ∈ xs) fun x hx => pts_yes) (fun s H C cl fp => PI.ex fun x hx => hi1 ⟨s, H, C, cl, fp⟩ x hx) (fun s H C cl fp => ht1 ⟨s, H, C, cl, fp⟩)
    (fun s H C cl fp => PTs.ex (P := fun p : α × β => p.1 ∈ xs ∧ p.2 ∈ ys p.1) fun p hp => pts_yes) (fun s H C cl fp => PE.ex (P := fun p : α × β => p.1 ∈ xs ∧ p.2 ∈ ys p.1) (t := fun p => tE (f1 p.2 (gwipe (f p.1 (gwipe Γ (own.map (fun x : Str × Nat => x.2)))) vs1)) u (g p.1 p.2)) fun p hp => he ⟨s, H, C, cl, fp⟩ p.1 hp.1 p.2 hp.2) hs hs1) fun σ H Q h => lc2_read hts hts1 hl rfl rfl h
theorem ea_lc2 (i : Nat) {elt iter tg1 iter1 : Expr} {py : Pos} {y : Str} {scope : Scope} {own : List (Str × Nat)} {vs1 : List Nat} {δ : Type} {u : RT δ} {xs : List α} {ts ts1 : List Nat} {f : α → List Slot → List Slot} {ys : α → List β} {f1 : β → List Slot → List Slot} {g : α → β → δ} (hc : X.calm = true) (hN : X.N.Nodup) {N : List Str} {sc : Scope} (ok : blkC N sc scope own = true) (hi : EI X Γ tg iter r xs)
    (ht : ∀ q : BlkA, ET (bk X scope q) tg ts r f) (hi1 : ∀ q : BlkA, ∀ x ∈ xs, EI (bk X scope q) (f x (gwipe Γ (own.map (·.2)))) tg1 iter1 s (ys x)) (ht1 : ∀ q : BlkA, ET (bk X scope q) tg1 ts1 s f1)
    (he : ∀ q : BlkA, ∀ x ∈ xs, ∀ y ∈ ys x, EE (bk X scope q) (f1 y (gwipe (f x (gwipe Γ (own.map (·.2)))) vs1)) u elt (g x y))
    (hl : (xs.flatMap fun x => (ys x).map (g x)).length ≤ 100000) (hsw : swapsWith (.ListComp elt [⟨tg, iter, [], 0⟩, ⟨tg1, iter1, [], 0⟩] scope pos) (some (.Name y py)) p2.line X.env = pure true := by exact sw_true rfl rfl rfl (by decide +kernel)) (hy : X.N[i]? = some y := by rfl) (hyl : X.env.scope.names.lookup y = some .local := by rfl)
    (hv1 : ∀ i ∈ vs1, i ∈ own.map (·.2) := by decide) (hts : ∀ i ∈ ts, i ∈ own.map (·.2) := by decide) (hts1 : ∀ i ∈ ts1, i ∈ vs1 := by decide) (hs : ∀ x, foldedSetIterable iter X.env x = pure x := by intro _; rfl) (hs1 : ∀ env x, foldedSetIterable iter1 env x = pure x := by intro _ _; rfl)
    (eN : X.N = N := by rfl) (eS : X.env.scope = sc := by rfl) : EAs X Γ (.Assign [.Name y py] (.ListComp elt [⟨tg, iter, [], 0⟩, ⟨tg1, iter1, [], 0⟩] scope pos) p2) i (rLst X.K u) (xs.flatMap fun x => (ys x).map (g x)) :=
  PS.imp (ps_setLc2 (vs1 := vs1) hc hN hy hyl hsw hi (blkOk_by (by rw [eN, eS]; exact ok)) hv1 (fun s H C cl fp => ht ⟨s, H, C, cl, fp⟩) (fun s H C cl fp => PTs.ex (P := fun x => x ∈ xs) fun x hx => pts_yes) (fun s H C cl fp => PI.ex fun x hx => hi1 ⟨s, H, C, cl, fp⟩ x hx) (fun s H C cl fp => ht1 ⟨s, H, C, cl, fp⟩)
    (fun s H C cl fp => PTs.ex (P := fun p : α × β => p.1 ∈ xs ∧ p.2 ∈ ys p.1) fun p hp => pts_yes) (fun s H C cl fp => PE.ex (P := fun p : α × β => p.1 ∈ xs ∧ p.2 ∈ ys p.1) (t := fun p => tE (f1 p.2 (gwipe (f p.1 (gwipe Γ (own.map (fun x : Str × Nat => x.2)))) vs1)) u (g p.1 p.2)) fun p hp => he ⟨s, H, C, cl, fp⟩ p.1 hp.1 p.2 hp.2) hs hs1) fun D σ H h => lc2_read hts hts1 hl rfl rfl h
end
end K81
set_option Elab.async false
set_option linter.all false
set_option maxRecDepth 100000
set_option maxHeartbeats 1900000
namespace K81
open PySem L2
/-! ### sorted ints, each once -/
def insU (x : Int) : List Int → List Int
  | [] => [x]
  | y :: ys => if x < y then x :: y :: ys else if x = y then y :: ys else y :: insU x ys
def sortU : List Int → List Int
  | [] => []
  | x :: xs => insU x (sortU xs)
theorem mem_insU {x k : Int} : ∀ {ys : List Int}, k ∈ insU x ys ↔ k = x ∨ k ∈ ys
  | [] => by simp [insU]
  | y :: ys => by
    unfold insU
    by_cases h : x < y
    · rw [if_pos h]; simp
    · rw [if_neg h]
      by_cases h2 : x = y
      · rw [if_pos h2]; subst h2; simp
      · rw [if_neg h2]
        simp only [List.mem_cons, mem_insU (ys := ys)]
        grind
theorem mem_sortU {k : Int} : ∀ {xs : List Int}, k ∈ sortU xs ↔ k ∈ xs
  | [] => by simp [sortU]
  | x :: xs => by unfold sortU; rw [mem_insU, mem_sortU (xs := xs)]; simp
theorem lt_insU {x : Int} : ∀ {ys : List Int}, ys.Pairwise (· < ·) → (insU x ys).Pairwise (· < ·)
  | [], _ => by simp [insU]
  | y :: ys, h => by
    obtain ⟨h1, h2⟩ := List.pairwise_cons.mp h
    unfold insU
    by_cases h3 : x < y
    · rw [if_pos h3]
      refine List.pairwise_cons.mpr ⟨fun z hz => ?_, h⟩
      rcases List.mem_cons.mp hz with e | hz
      · omega
      · have := h1 z hz; omega
    · rw [if_neg h3]
      by_cases h4 : x = y
      · rw [if_pos h4]; exact h
      · rw [if_neg h4]
        refine List.pairwise_cons.mpr ⟨fun z hz => ?_, lt_insU h2⟩
        rcases mem_insU.mp hz with e | hz
        · omega
        · exact h1 z hz
theorem lt_sortU : ∀ xs : List Int, (sortU xs).Pairwise (· < ·)
  | [] => .nil
  | x :: xs => lt_insU (lt_sortU xs)
theorem lt_uniq : ∀ {l m : List Int}, l.Pairwise (· < ·) → m.Pairwise (· < ·) → (∀ k, k ∈ l ↔ k ∈ m) → l = m
  | [], [], _, _, _ => rfl
  | [], y :: m, _, _, h => by have := (h y).mpr (by simp); simp at this
  | x :: l, [], _, _, h => by have := (h x).mp (by simp); simp at this
  | x :: l, y :: m, hl, hm, h => by
    obtain ⟨h1, h2⟩ := List.pairwise_cons.mp hl
    obtain ⟨h3, h4⟩ := List.pairwise_cons.mp hm
    have e : x = y := by
      have a := (h x).mp (by simp)
      have b := (h y).mpr (by simp)
      rcases List.mem_cons.mp a with a | a
      · exact a
      · rcases List.mem_cons.mp b with b | b
        · exact b.symm
        · have := h1 y b; have := h3 x a; omega
    subst e
    rw [lt_uniq h2 h4 fun k => ?_]
    constructor
    · intro hk
      have := (h k).mp (by simp [hk])
      rcases List.mem_cons.mp this with e | q
      · have := h1 k hk; omega
      · exact q
    · intro hk
      have := (h k).mpr (by simp [hk])
      rcases List.mem_cons.mp this with e | q
      · have := h3 k hk; omega
      · exact q
/-! ### sorted pairs -/
def insP (x : Int × Int) : List (Int × Int) → List (Int × Int)
  | [] => [x]
  | y :: ys => if SrtO.lexB y x then y :: insP x ys else x :: y :: ys
def sortP : List (Int × Int) → List (Int × Int)
  | [] => []
  | x :: xs => insP x (sortP xs)
theorem perm_insP {x : Int × Int} : ∀ {ys : List (Int × Int)}, (insP x ys).Perm (x :: ys)
  | [] => List.Perm.refl _
  | y :: ys => by
    unfold insP
    by_cases h : SrtO.lexB y x
    · rw [if_pos h]; exact (List.Perm.cons y perm_insP).trans (List.Perm.swap x y ys)
    · rw [if_neg h]
theorem perm_sortP : ∀ {xs : List (Int × Int)}, (sortP xs).Perm xs
  | [] => List.Perm.refl _
  | x :: xs => perm_insP.trans (List.Perm.cons x perm_sortP)
abbrev SrtdP (l : List (Int × Int)) : Prop := l.Pairwise fun a b => SrtO.lexB b a = false
theorem srtd_insP {x : Int × Int} : ∀ {ys : List (Int × Int)}, SrtdP ys → SrtdP (insP x ys)
  | [], _ => List.pairwise_singleton _ _
  | y :: ys, h => by
    obtain ⟨h1, h2⟩ := List.pairwise_cons.mp h
    unfold insP
    by_cases h3 : SrtO.lexB y x = true
    · rw [if_pos h3]
      refine List.pairwise_cons.mpr ⟨fun z hz => ?_, srtd_insP h2⟩
      rcases List.mem_cons.mp (perm_insP.mem_iff.mp hz) with e | hz
      · subst e
        have := SrtO.lexB_iff.mp h3
        exact SrtO.lexB_no.mpr (by omega)
      · exact h1 z hz
    · rw [if_neg h3]
      have h3 : SrtO.lexB y x = false := by simpa using h3
      refine List.pairwise_cons.mpr ⟨fun z hz => ?_, h⟩
      rcases List.mem_cons.mp hz with e | hz
      · subst e; exact h3
      · have a := SrtO.lexB_no.mp h3
        have b := SrtO.lexB_no.mp (h1 z hz)
        exact SrtO.lexB_no.mpr (by omega)
theorem srtd_sortP : ∀ xs : List (Int × Int), SrtdP (sortP xs)
  | [] => .nil
  | x :: xs => srtd_insP (srtd_sortP xs)
theorem srtd_uniq : ∀ {l m : List (Int × Int)}, SrtdP l → SrtdP m → l.Perm m → l = m
  | [], m, _, _, h => (List.Perm.eq_nil h.symm).symm
  | x :: l, [], _, _, h => absurd h.length_eq (by simp)
  | x :: l, y :: m, hl, hm, h => by
    obtain ⟨h1, h2⟩ := List.pairwise_cons.mp hl
    obtain ⟨h3, h4⟩ := List.pairwise_cons.mp hm
    have e : x = y := by
      have a := h.mem_iff.mp (List.mem_cons_self (a := x) (l := l))
      have b := h.mem_iff.mpr (List.mem_cons_self (a := y) (l := m))
      rcases List.mem_cons.mp a with a | a
      · exact a
      · rcases List.mem_cons.mp b with b | b
        · exact b.symm
        · have p := SrtO.lexB_no.mp (h1 y b)
          have q := SrtO.lexB_no.mp (h3 x a)
          exact Prod.ext (by omega) (by omega)
    subst e
    rw [srtd_uniq h2 h4 (List.Perm.cons_inv h)]
theorem srt_is {ys xs : List (Int × Int)} (h : SrtdP ys) (p : ys.Perm xs) : ys = sortP xs := srtd_uniq h (srtd_sortP xs) (p.trans perm_sortP.symm)
/-! ### types -/
/-- a set of the ints ns -/
def rSetOf (w : World) : RT (List Int) := ⟨fun H v ns => ∃ a n, v = .ref a ∧ H a = some (SetO w a (fun j => decide (j ∈ ns)) n) ∧ n ≤ ns.length, fun e ⟨a, n, h1, h2, h3⟩ => ⟨a, n, h1, e _ _ h2, h3⟩⟩
/-- a pair, its tuple made here -/
def rPn {α β : Type} (r : RT α) (s : RT β) : RT (α × β) := ⟨fun H v x => ∃ a u w, v = .ref a ∧ H a = some (.tup [u, w]) ∧ r.rep H u x.1 ∧ s.rep H w x.2, fun e ⟨a, u, w, h1, h2, h3, h4⟩ => ⟨a, u, w, h1, e _ _ h2, r.mono e h3, s.mono e h4⟩⟩
def embK (ks : List (Int × Int)) : List (Key × V) := ks.map fun p => (Sum.inl p.1, V.int p.2)
/-- a dict of ints by ints -/
def rDk : RT (List (Int × Int)) := ⟨fun H v ks => ∃ a, v = .ref a ∧ H a = some (.dK (embK ks)), fun e ⟨a, h1, h2⟩ => ⟨a, h1, e _ _ h2⟩⟩
def putI (ks : List (Int × Int)) (k v : Int) : List (Int × Int) := if (ks.any fun p => decide (p.1 = k)) = true then ks.map (fun p => if p.1 = k then (p.1, v) else p) else ks ++ [(k, v)]
def getI (ks : List (Int × Int)) (k : Int) : Option Int := (ks.find? fun p => decide (p.1 = k)).map (·.2)
theorem valV_emb (ks : List (Int × Int)) (k : Int) : valV (embK ks) (Sum.inl k) = (getI ks k).map V.int := by
  induction ks with
  | nil => rfl
  | cons p ks ih =>
    by_cases h : p.1 = k
    · have e1 : valV (embK (p :: ks)) (Sum.inl k) = some (V.int p.2) := valV_pos (p := ((Sum.inl p.1 : Key), V.int p.2)) (by rw [h])
      rw [e1]
      unfold getI
      rw [List.find?_cons_of_pos (by simpa using h)]
      rfl
    · have e1 : valV (embK (p :: ks)) (Sum.inl k) = valV (embK ks) (Sum.inl k) := valV_neg (p := ((Sum.inl p.1 : Key), V.int p.2)) fun z => h (Sum.inl.inj z)
      rw [e1, ih]
      unfold getI
      rw [List.find?_cons_of_neg (by simpa using h)]
theorem putK_emb (ks : List (Int × Int)) (k v : Int) : putK (embK ks) (Sum.inl k) (V.int v) = embK (putI ks k v) := by
  unfold putK putI
  have e : ((embK ks).any fun kv => decide (kv.1 = (Sum.inl k : Key))) = ks.any fun p => decide (p.1 = k) := by
    unfold embK
    rw [List.any_map]
    congr 1
    funext p
    show decide ((Sum.inl p.1 : Key) = Sum.inl k) = decide (p.1 = k)
    exact decide_eq_decide.mpr ⟨fun z => Sum.inl.inj z, fun z => by rw [z]⟩
  rw [e]
  by_cases h : (ks.any fun p => decide (p.1 = k)) = true
  · rw [if_pos h, if_pos h]
    unfold embK
    rw [List.map_map, List.map_map]
    congr 1
    funext p
    show (if (Sum.inl p.1 : Key) = Sum.inl k then ((Sum.inl p.1 : Key), V.int v) else (Sum.inl p.1, V.int p.2)) = _
    by_cases q : p.1 = k
    · rw [if_pos (by rw [q])]
      show _ = ((Sum.inl (if p.1 = k then (p.1, v) else p).1 : Key), V.int (if p.1 = k then (p.1, v) else p).2)
      rw [if_pos q]
    · rw [if_neg (fun z => q (Sum.inl.inj z))]
      show _ = ((Sum.inl (if p.1 = k then (p.1, v) else p).1 : Key), V.int (if p.1 = k then (p.1, v) else p).2)
      rw [if_neg q]
  · rw [if_neg h, if_neg h]
    unfold embK
    rw [List.map_append]
    rfl
section
variable {X : Cx} {Γ : List Slot} {M : Mem} {α β γ : Type} {r : RT α} {s : RT β} {tg a b e : Expr} {es elts : List Expr} {pos p2 p tpos apos : Pos} {n : Str} {kk : Nat} {w : Addr → Prop} {B0 H0 BX : Hp} {D : Ends} {rest : List Stmt}
theorem ee_setOf {ns : List Int} (hc : X.calm = true) (hm : X.mg "set" = none) (ha : EE X Γ (rLst X.K rInt) a ns) (hl : ns.length ≤ 1000) (hg : Gl X "set" := by rfl) (he : starEach [a] X.env = (false, eval a X.env) :: starEach [] X.env := by rfl) : EE X Γ (rSetOf X.w) (.Call (.Name "set" p) [a] [] pos) ns :=
  ee_ct1 (cr_setI hc) (by rfl) hm ha (fun v B H Q ex ⟨a, vs, e1, e2, e3⟩ q => ⟨a, ns, by rw [e1], by rw [← vs_int e3]; exact ex.lst e2, hl, fun l m hl hm => q _ (upd B l _) _ (Go.new ex hl) ⟨l, m, rfl, upd_same, hm⟩⟩) hg (by decide) (by decide) he
theorem ee_sortSet {ns : List Int} (hc : X.calm = true) (hm : X.mg "sorted" = none) (ha : EE X Γ (rSetOf X.w) a ns) (hl : ns.length < 64) (hg : Gl X "sorted" := by rfl) (he : starEach [a] X.env = (false, eval a X.env) :: starEach [] X.env := by rfl) : EE X Γ (rLst X.K rInt) (.Call (.Name "sorted" p) [a] [] pos) (sortU ns) :=
  ee_cb1 (cr_sortedSet hc) (by rfl) hm ha (fun v B H Q ex ⟨a, m, e1, e2, e3⟩ q => ⟨a, _, m, by rw [e1], ex _ _ e2, by omega, fun ys l h1 h2 h3 hl => by
    have e : ys = sortU ns := lt_uniq h1 (lt_sortU ns) fun k => by rw [h2, mem_sortU]; simp
    subst e
    exact q _ (upd B l _) _ (Go.new ex hl) ⟨l, _, rfl, upd_same, vs_ints _ _⟩⟩) hg (by decide) (by decide) he
theorem ee_lenSet {p3 q3 : Pos} {ns : List Int} (hc : X.calm = true) (hm : X.mg "len" = none) (hm2 : X.mg "set" = none) (ha : EE X Γ (rLst X.K rInt) a ns) (hl : ns.length ≤ 4000) (hd : ns.Nodup) (hg : Gl X "len" := by rfl) (hg2 : Gl X "set" := by rfl) (he : starEach [a] X.env = (false, eval a X.env) :: starEach [] X.env := by rfl) :
    EE X Γ rInt (.Call (.Name "len" p) [.Call (.Name "set" p3) [a] [] q3] [] pos) (ns.length : Int) :=
  PE.imp (RZ.pe_lenSetI hg hm hg2 hm2 ha hc he) fun σ H Q ⟨B, en, ex, q⟩ => ⟨B, en, ex, fun v B1 H1 g1 ⟨a, vs, e1, e2, e3⟩ => ⟨a, ns, e1, by rw [← vs_int e3]; exact g1.i.lst e2, hd, hl, q _ B1 H1 g1 rfl⟩⟩
theorem ee_prN {k : Nat} {x : α} {y : β} (ha : EE X Γ r a x) (hb : EE X Γ s b y) (h1 : starEach [a, b] X.env = (false, eval a X.env) :: starEach [b] X.env := by rfl) (h2 : starEach [b] X.env = (false, eval b X.env) :: starEach [] X.env := by rfl) : EE X Γ (rPn r s) (.Tuple [a, b] k pos) (x, y) :=
  PE.imp (pe_tup (ea_cons ha (ea_cons hb ea_nil h2) h1)) fun σ H Q ⟨B, en, ex, q⟩ => ⟨B, en, ex, fun vs B1 H1 g1 r1 => by
    cases r1 with
    | cons r1 r2 =>
      cases r2 with
      | cons r2 r3 =>
        cases r3
        exact ⟨by show 2 ≤ sizeLine; decide, fun p hp => q _ (upd B1 p (.tup _)) _ (g1.tr (Go.new g1.i hp)) ⟨p, _, _, rfl, upd_same, r.mono (Ex.new (g1.i.back hp)) r1, s.mono (Ex.new (g1.i.back hp)) r2⟩⟩⟩
/-- the pair of ints that a value is in B -/
def backP (B : Hp) (v : V) : Int × Int := match v with
  | .ref a => match B a with
    | some (.tup [.int i, .int j]) => (i, j)
    | _ => (0, 0)
  | _ => (0, 0)
theorem backP_of {B : Hp} {v : V} {x : Int × Int} (h : (rPn rInt rInt).rep B v x) : backP B v = x ∧ ∃ t, v = .ref t ∧ B t = some (.tup [.int x.1, .int x.2]) := by
  obtain ⟨a, u, z, rfl, h2, h3, h4⟩ := h
  cases h3
  cases h4
  refine ⟨?_, a, rfl, h2⟩
  unfold backP
  simp only [h2]
theorem vs_back {B : Hp} : ∀ {vs : List V} {xs : List (Int × Int)}, Vs (rPn rInt rInt) B vs xs → xs = vs.map (backP B) ∧ ∀ v ∈ vs, ∃ t, v = .ref t ∧ B t = some (.tup [.int (backP B v).1, .int (backP B v).2])
  | _, _, .nil => ⟨rfl, fun _ h => nomatch h⟩
  | _, _, .cons h t => by
    obtain ⟨e1, u, e2, e3⟩ := backP_of h
    obtain ⟨e4, e5⟩ := vs_back t
    refine ⟨by rw [List.map_cons, e1, ← e4], fun v hv => ?_⟩
    rcases List.mem_cons.mp hv with z | hv
    · subst z; exact ⟨u, e2, by rw [e1]; exact e3⟩
    · exact e5 v hv
theorem vs_of_back {K : Fr} {B B' : Hp} (e : Ex B B') : ∀ (vs : List V), (∀ v ∈ vs, ∃ t, v = .ref t ∧ B t = some (.tup [.int (backP B v).1, .int (backP B v).2])) → Vs (rPr K rInt rInt) B' vs (vs.map (backP B))
  | [], _ => .nil
  | v :: vs, h => by
    obtain ⟨t, e1, e2⟩ := h v (by simp)
    exact .cons ⟨t, _, _, e1, .inl (.inl (e _ _ e2)), rfl, rfl⟩ (vs_of_back e vs fun u hu => h u (by simp [hu]))
theorem ee_sortP {xs : List (Int × Int)} (hm : X.mg "sorted" = none) (ha : EE X Γ (rLst X.K (rPn rInt rInt)) a xs) (hg : Gl X "sorted" := by rfl) (he : starEach [a] X.env = (false, eval a X.env) :: starEach [] X.env := by rfl) : EE X Γ (rLst X.K (rPr X.K rInt rInt)) (.Call (.Name "sorted" p) [a] [] pos) (sortP xs) :=
  ee_cb1 cr_sortedPO (by rfl) hm ha (fun v B H Q ex ⟨a, vs, e1, e2, e3⟩ q => by
    obtain ⟨ex1, ex2⟩ := vs_back e3
    refine ⟨a, vs, backP B, by rw [e1], ex.lst e2, fun x hx => ?_, fun ys l h1 h2 hl => ?_⟩
    · obtain ⟨t, k1, k2⟩ := ex2 x hx
      exact ⟨t, k1, ex _ _ k2⟩
    · have hy : ∀ v ∈ ys, ∃ t, v = .ref t ∧ B t = some (.tup [.int (backP B v).1, .int (backP B v).2]) := fun v hv => ex2 v (h2.perm.mem_iff.mp hv)
      have e4 : ys.map (backP B) = sortP xs := srt_is (List.pairwise_map.mpr h1) (by rw [ex1]; exact h2.perm.map _)
      exact q _ (upd B l (.lst ys)) _ (Go.new ex hl) ⟨l, ys, rfl, upd_same, by rw [← e4]; exact vs_of_back (Ex.new (ex.back hl)) ys hy⟩) hg (by decide) (by decide) he
/-- sorted(d.items()) -/
theorem ee_sortItm {cpos : Pos} {ks : List (Int × Int)} (hc : X.calm = true) (hm : X.mg "sorted" = none) (ha : EE X Γ rDk a ks) (hg : Gl X "sorted" := by rfl) (hbase : attributeBase a "items" X.env (eval a X.env) = eval a X.env := by rfl) (hline : (apos.endLine == cpos.line) = true := by rfl)
    (hs : starEach [.Call (.Attribute a "items" apos) [] [] cpos] X.env = (false, eval (.Call (.Attribute a "items" apos) [] [] cpos) X.env) :: starEach [] X.env := by rfl) : EE X Γ (rLst X.K (rPr X.K rInt rInt)) (.Call (.Name "sorted" p) [.Call (.Attribute a "items" apos) [] [] cpos] [] pos) (sortP ks) :=
  PE.imp (pe_sortItm hc ha hm hg hbase hline hs) fun σ H Q ⟨B, en, ex, q⟩ => ⟨B, en, ex, fun v B1 H1 g1 ⟨d, e1, e2⟩ => ⟨d, ks, e1, g1.i _ _ e2, fun H' l ts ys k1 k2 k3 k4 k5 k6 => by
    have e : ys = sortP ks := srt_is k6 k5
    subst e
    -- what is known behind: the list and its tuples
    let B2 : Hp := fun a => if a = l ∨ a ∈ ts then H' a else B1 a
    have nl : ∀ a o, B1 a = some o → ¬ (a = l ∨ a ∈ ts) := fun a o h z => by
      have h1 := g1.i a o h
      rcases z with z | z
      · rw [z, k2] at h1; cases h1
      · obtain ⟨j, y, _, _, f3⟩ := LiI.paired_ix k4 z
        rw [f3.1] at h1; cases h1
    have eb : Ex B1 B2 := fun a o h => by show (if _ then _ else _) = _; rw [if_neg (nl a o h)]; exact h
    have ei : Ex B2 H' := fun a o h => by
      have h : (if a = l ∨ a ∈ ts then H' a else B1 a) = some o := h
      by_cases z : a = l ∨ a ∈ ts
      · rw [if_pos z] at h; exact h
      · rw [if_neg z] at h; exact k1 a o (g1.i a o h)
    have gg : Go no B1 H1 B2 H' := ⟨eb, fun a o _ h => k1 a o h, ei, fun a h0 hb => by
      show (if _ then _ else _) = _
      rw [if_neg, hb]
      rintro (z | z)
      · rw [z] at h0; exact h0 k2
      · obtain ⟨j, y, _, _, f3⟩ := LiI.paired_ix k4 z
        exact h0 f3.1, fun a h0 => by
        cases z : H1 a with
        | none => exact absurd z h0
        | some o => rw [k1 a o z]; simp⟩
    refine q _ B2 H' (g1.tr gg) ⟨l, ts.map V.ref, rfl, by show (if _ then _ else _) = _; rw [if_pos (.inl rfl)]; exact k3, ?_⟩
    have gen : ∀ (us : List Addr) (zs : List (Int × Int)), (∀ t ∈ us, t ∈ ts) → Paired (fun (t : Addr) (y : Int × Int) => H1 t = none ∧ H' t = some (.tup [.int y.1, .int y.2])) us zs → Vs (rPr X.K rInt rInt) B2 (us.map V.ref) zs := by
      intro us zs hu hp
      induction hp with
      | nil => exact .nil
      | @cons t y us zs h1 h2 ih =>
        refine .cons ⟨t, _, _, rfl, .inl (.inl ?_), rfl, rfl⟩ (ih fun t' ht => hu t' (by simp [ht]))
        show (if _ then _ else _) = _
        rw [if_pos (.inr (hu t (by simp)))]
        exact h1.2
    exact gen ts _ (fun _ h => h) k4⟩⟩
/-- d.get(k, x) -/
theorem ee_get2 {ks : List (Int × Int)} {k z : Int} {cpos : Pos} (hu : X.A.units + 1 < cLine) (ha : EE X Γ rDk a ks) (hb : EE X Γ rInt b k) (hd : EE X Γ rInt e z) (m : M2 X a "get" apos b e cpos := by exact ⟨rfl, rfl, rfl, rfl⟩) : EE X Γ rInt (.Call (.Attribute a "get" apos) [b, e] [] cpos) ((getI ks k).getD z) :=
  PE.imp (pe_dget2 hu ha hb hd m) fun σ H Q ⟨B, en, ex, q⟩ => ⟨B, en, ex, fun v B1 H1 g1 ⟨d, e1, e2⟩ => ⟨d, e1, .inl ⟨_, .inl (g1.i _ _ e2)⟩, B1, en.mono g1.b, g1.i, fun y B2 H2 g2 ry => ⟨B2, en.mono (g1.tr g2).b, g2.i, fun u B3 H3 g3 ru => by
    cases ry
    cases ru
    refine ⟨_, DGet.k (k := Sum.inl k) ((g2.tr g3).hx _ _ (g1.i _ _ e2)), ?_⟩
    rw [valV_emb]
    have : ((getI ks k).map V.int).getD (V.int z) = V.int ((getI ks k).getD z) := by cases getI ks k <;> rfl
    rw [this]
    exact q _ B3 H3 ((g1.tr g2).tr g3) rfl⟩⟩⟩
/-- the dict at f, to be changed -/
def mD (w : Addr → Prop) (H0 : Hp) (f : Addr) (ks : List (Int × Int)) : Mem := ⟨fun B H => B f = none ∧ (H0 f = none ∨ w f) ∧ H f = some (.dK (embK ks)), fun g ⟨h1, h2, h3⟩ => ⟨g.n f (by rw [h3]; simp) h1, h2, g.hx _ _ h3⟩⟩
theorem EE.opD {N : Mem} {f : Addr} {ks : List (Int × Int)} {x : α} (i : Nat) (h : EE X (Γ.set i (sl rDk ks)) r e x) (hz : Fz isL r) (hi : Γ[i]? = some (sl (rAdr f) ())) : EM X Γ (mA N (mD w H0 f ks)) r e x :=
  PE.imp h fun σ H Q ⟨B, en, ex, ⟨_, hf, _, hH⟩, q⟩ => by
    obtain ⟨v, h1, h2⟩ := en.get hi
    have h2 : v = .ref f := h2
    subst h2
    have en2 := Env.set (s := sl rDk ks) (o := some (V.ref f)) ⟨_, rfl, f, rfl, upd_same⟩ i (en.put (o := .dK (embK ks)) hf)
    have e3 : σ.set i (some (V.ref f)) = σ := by
      obtain ⟨hl, hh⟩ := List.getElem?_eq_some_iff.mp h1
      rw [← hh]; exact List.set_getElem_self hl
    rw [e3] at en2
    refine ⟨upd B f _, en2, fun a u ha => ?_, fun v B2 H2 g rv => ?_⟩
    · by_cases q : a = f
      · subst q; rw [upd_same] at ha; rw [hH]; exact ha
      · rw [upd_ne q] at ha; exact ex a u ha
    · obtain ⟨g2, h4⟩ := open_go ex hf hH g
      exact q v _ H2 g2 (hz _ f _ v x h4 trivial rv)
/-- d = {} -/
theorem tr_newD (i : Nat) {x : Str} (hN : X.N.Nodup) (k : ∀ f, H0 f = none → Tr X (At w B0 H0 BX (Γ.set i (sl (rAdr f) ())) (mA M (mD w H0 f []))) rest D) (hi : X.N[i]? = some x := by rfl) (hx : Loc X.env.scope x := by first | exact Or.inl rfl | exact Or.inr rfl)
    (hs : swapsWith (.Dict [] [] p2) (some (.Name x p)) pos.line X.env = pure false := by rfl) (hf : X.fn x = true ∨ X.env.scope.names.lookup x = some .local := by first | exact .inl rfl | exact .inr rfl) :
    Tr X (At w B0 H0 BX Γ M) (.Assign [.Name x p] (.Dict [] [] p2) pos :: rest) D :=
  tr_cons (ps_set hN hi hx pe_dnewK hs hf) fun σ H ⟨B, g, bx, en, m⟩ => fun f hf => by
    have hB := g.i.back hf
    have h00 : H0 f = none := by
      cases q : H0 f with
      | none => rfl
      | some o => exact absurd hf (g.e f (by rw [q]; simp))
    exact (k f h00).wk _ _ ⟨B, g.mut hB (.inl h00), bx, en.set (s := sl (rAdr f) ()) (o := some (V.ref f)) ⟨_, rfl, rfl⟩ i, M.st (Go.newH g.i hf) m, hB, .inl h00, upd_same⟩
/-- d[k] = e -/
theorem tr_dput {N : Mem} {f : Addr} {ks : List (Int × Int)} {k x : Int} (hu : X.A.units + 1 < cLine) (h : EM X Γ (mA N (mD w H0 f ks)) rInt e x) (hf : EE X Γ (rAdr f) a ()) (hi : EE X Γ rInt b k) (hN : MFree N f) (hl : ks.length < 100000) (kk : Tr X (At w B0 H0 BX Γ (mA N (mD w H0 f (putI ks k x)))) rest D)
    (hs : swapsWith e (some (.Subscript a b apos)) pos.line X.env = pure false := by rfl) :
    Tr X (At w B0 H0 BX Γ (mA N (mD w H0 f ks))) (.Assign [.Subscript a b apos] e pos :: rest) D :=
  tr_cons (ps_dput hu hf hi h hs) fun σ H ⟨B, g, bx, en, m⟩ => ⟨B, en, g.i, m, fun u B1 H1 g1 ru => ⟨B1, en.mono g1.b, g1.i, fun v B2 H2 g2 rv => ⟨B2, en.mono (g1.tr g2).b, g2.i, fun z B3 H3 g3 rz => by
    have rv : v = .ref f := rv
    subst rv
    cases ru
    cases rz
    obtain ⟨mn2, hB2, hw2, hH2⟩ := (mA N (mD w H0 f ks)).st ((g1.tr g2).tr g3) m
    refine ⟨f, _, rfl, DPut.k (k := Sum.inl k) hH2 (by unfold embK; rw [List.length_map]; exact bigL hl), ?_⟩
    rw [putK_emb]
    exact kk.wk _ _ ⟨B3, (((g.tr g1.w).tr g2.w).tr g3.w).mut hB2 hw2, bx.tr ((g1.tr g2).tr g3).b, en.mono ((g1.tr g2).tr g3).b, hN _ _ _ mn2, hB2, hw2, upd_same⟩⟩⟩⟩
end
end K81
set_option Elab.async false
set_option linter.all false
set_option maxRecDepth 100000
set_option maxHeartbeats 1900000
namespace K81
open PySem L2
/-! ### the text -/
abbrev N2 : List Str := ["form", "least", "low", "high"]
theorem sc2 : FnScope N2 ["form", "least"] (defScope (tS 2)) := ⟨rfl, rfl, rfl, by decide +kernel, rfl, by decide +kernel, by decide +kernel⟩
abbrev N3 : List Str := ["form", "number", "low", "high"]
theorem sc3 : FnScope N3 ["form", "number"] (defScope (tS 3)) := ⟨rfl, rfl, rfl, by decide +kernel, rfl, by decide +kernel, by decide +kernel⟩
abbrev N4 : List Str := ["one", "other", "low", "high", "place"]
theorem sc4 : FnScope N4 ["one", "other"] (defScope (tS 4)) := ⟨rfl, rfl, rfl, by decide +kernel, rfl, by decide +kernel, by decide +kernel⟩
abbrev N5 : List Str := ["runs", "found", "low", "high"]
theorem sc5 : FnScope N5 ["runs"] (defScope (tS 5)) := ⟨rfl, rfl, rfl, by decide +kernel, rfl, by decide +kernel, by decide +kernel⟩
abbrev N6 : List Str := ["one", "other", "place"]
theorem sc6 : FnScope N6 ["one", "other"] (defScope (tS 6)) := ⟨rfl, rfl, rfl, by decide +kernel, rfl, by decide +kernel, by decide +kernel⟩
abbrev N7 : List Str := ["one", "other", "is_most", "found", "places", "here", "after", "near", "far", "turn"]
theorem sc7 : FnScope N7 ["one", "other", "is_most"] (defScope (tS 7)) := ⟨rfl, rfl, rfl, by decide +kernel, rfl, by decide +kernel, by decide +kernel⟩
abbrev N8 : List Str := ["one", "other"]
theorem sc8 : FnScope N8 ["one", "other"] (defScope (tS 8)) := ⟨rfl, rfl, rfl, by decide +kernel, rfl, by decide +kernel, by decide +kernel⟩
abbrev N9 : List Str := ["one", "other"]
theorem sc9 : FnScope N9 ["one", "other"] (defScope (tS 9)) := ⟨rfl, rfl, rfl, by decide +kernel, rfl, by decide +kernel, by decide +kernel⟩
abbrev N10 : List Str := ["form", "found", "place", "low", "high"]
theorem sc10 : FnScope N10 ["form"] (defScope (tS 10)) := ⟨rfl, rfl, rfl, by decide +kernel, rfl, by decide +kernel, by decide +kernel⟩
abbrev N12 : List Str := ["thing"]
theorem sc12 : FnScope N12 ["thing"] (defScope (tS 12)) := ⟨rfl, rfl, rfl, by decide +kernel, rfl, by decide +kernel, by decide +kernel⟩
abbrev N13 : List Str := ["thing", "part"]
theorem sc13 : FnScope N13 ["thing"] (defScope (tS 13)) := ⟨rfl, rfl, rfl, by decide +kernel, rfl, by decide +kernel, by decide +kernel⟩
abbrev N14 : List Str := ["text", "sign"]
theorem sc14 : FnScope N14 ["text"] (defScope (tS 14)) := ⟨rfl, rfl, rfl, by decide +kernel, rfl, by decide +kernel, by decide +kernel⟩
abbrev N27 : List Str := ["pairs", "table", "size", "many"]
theorem sc27 : FnScope N27 ["pairs"] (defScope (tS 27)) := ⟨rfl, rfl, rfl, by decide +kernel, rfl, by decide +kernel, by decide +kernel⟩
abbrev N28 : List Str := ["text", "parts", "part"]
theorem sc28 : FnScope N28 ["text"] (defScope (tS 28)) := ⟨rfl, rfl, rfl, by decide +kernel, rfl, by decide +kernel, by decide +kernel⟩
abbrev N29 : List Str := ["run", "size", "many"]
theorem sc29 : FnScope N29 ["run"] (defScope (tS 29)) := ⟨rfl, rfl, rfl, by decide +kernel, rfl, by decide +kernel, by decide +kernel⟩
abbrev N30 : List Str := ["thing", "part"]
theorem sc30 : FnScope N30 ["thing"] (defScope (tS 30)) := ⟨rfl, rfl, rfl, by decide +kernel, rfl, by decide +kernel, by decide +kernel⟩
abbrev N31 : List Str := ["thing", "run", "later"]
theorem sc31 : FnScope N31 ["thing"] (defScope (tS 31)) := ⟨rfl, rfl, rfl, by decide +kernel, rfl, by decide +kernel, by decide +kernel⟩
abbrev N32_0 : List Str := ["self", "runs", "size", "many"]
theorem sc32_0 : FnScope N32_0 ["self", "runs"] (defScope (tM 32 0)) := ⟨rfl, rfl, rfl, by decide +kernel, rfl, by decide +kernel, by decide +kernel⟩
abbrev N32_1 : List Str := ["text", "runs", "part"]
theorem sc32_1 : FnScope N32_1 ["text"] (defScope (tM 32 1)) := ⟨rfl, rfl, rfl, by decide +kernel, rfl, by decide +kernel, by decide +kernel⟩
abbrev N32_2 : List Str := ["self"]
theorem sc32_2 : FnScope N32_2 ["self"] (defScope (tM 32 2)) := ⟨rfl, rfl, rfl, by decide +kernel, rfl, by decide +kernel, by decide +kernel⟩
abbrev N32_3 : List Str := ["self", "run"]
theorem sc32_3 : FnScope N32_3 ["self"] (defScope (tM 32 3)) := ⟨rfl, rfl, rfl, by decide +kernel, rfl, by decide +kernel, by decide +kernel⟩
abbrev N32_4 : List Str := ["self", "size", "many"]
theorem sc32_4 : FnScope N32_4 ["self"] (defScope (tM 32 4)) := ⟨rfl, rfl, rfl, by decide +kernel, rfl, by decide +kernel, by decide +kernel⟩
abbrev N32_5 : List Str := ["self", "size", "many"]
theorem sc32_5 : FnScope N32_5 ["self"] (defScope (tM 32 5)) := ⟨rfl, rfl, rfl, by decide +kernel, rfl, by decide +kernel, by decide +kernel⟩
abbrev N32_6 : List Str := ["self"]
theorem sc32_6 : FnScope N32_6 ["self"] (defScope (tM 32 6)) := ⟨rfl, rfl, rfl, by decide +kernel, rfl, by decide +kernel, by decide +kernel⟩
abbrev N32_7 : List Str := ["self", "size", "own", "many"]
theorem sc32_7 : FnScope N32_7 ["self", "size"] (defScope (tM 32 7)) := ⟨rfl, rfl, rfl, by decide +kernel, rfl, by decide +kernel, by decide +kernel⟩
abbrev N32_8 : List Str := ["self"]
theorem sc32_8 : FnScope N32_8 ["self"] (defScope (tM 32 8)) := ⟨rfl, rfl, rfl, by decide +kernel, rfl, by decide +kernel, by decide +kernel⟩
abbrev N32_9 : List Str := ["self", "size", "own", "many"]
theorem sc32_9 : FnScope N32_9 ["self", "size"] (defScope (tM 32 9)) := ⟨rfl, rfl, rfl, by decide +kernel, rfl, by decide +kernel, by decide +kernel⟩
abbrev N32_10 : List Str := ["self", "least", "size", "many"]
theorem sc32_10 : FnScope N32_10 ["self", "least"] (defScope (tM 32 10)) := ⟨rfl, rfl, rfl, by decide +kernel, rfl, by decide +kernel, by decide +kernel⟩
abbrev N32_11 : List Str := ["self", "least"]
theorem sc32_11 : FnScope N32_11 ["self", "least"] (defScope (tM 32 11)) := ⟨rfl, rfl, rfl, by decide +kernel, rfl, by decide +kernel, by decide +kernel⟩
abbrev N32_12 : List Str := ["self", "least", "run"]
theorem sc32_12 : FnScope N32_12 ["self", "least"] (defScope (tM 32 12)) := ⟨rfl, rfl, rfl, by decide +kernel, rfl, by decide +kernel, by decide +kernel⟩
abbrev N32_13 : List Str := ["self", "b", "size", "many"]
theorem sc32_13 : FnScope N32_13 ["self", "b"] (defScope (tM 32 13)) := ⟨rfl, rfl, rfl, by decide +kernel, rfl, by decide +kernel, by decide +kernel⟩
abbrev N32_14 : List Str := ["self", "other"]
theorem sc32_14 : FnScope N32_14 ["self", "other"] (defScope (tM 32 14)) := ⟨rfl, rfl, rfl, by decide +kernel, rfl, by decide +kernel, by decide +kernel⟩
abbrev N32_15 : List Str := ["self", "other"]
theorem sc32_15 : FnScope N32_15 ["self", "other"] (defScope (tM 32 15)) := ⟨rfl, rfl, rfl, by decide +kernel, rfl, by decide +kernel, by decide +kernel⟩
abbrev N33 : List Str := ["table", "county"]
theorem sc33 : FnScope N33 ["table"] (defScope (tS 33)) := ⟨rfl, rfl, rfl, by decide +kernel, rfl, by decide +kernel, by decide +kernel⟩
abbrev N38_0 : List Str := ["self", "kind", "least"]
theorem sc38_0 : FnScope N38_0 ["self", "kind", "least"] (defScope (tM 38 0)) := ⟨rfl, rfl, rfl, by decide +kernel, rfl, by decide +kernel, by decide +kernel⟩
abbrev N38_1 : List Str := ["text", "kind", "least"]
theorem sc38_1 : FnScope N38_1 ["text"] (defScope (tM 38 1)) := ⟨rfl, rfl, rfl, by decide +kernel, rfl, by decide +kernel, by decide +kernel⟩
abbrev N38_2 : List Str := ["self"]
theorem sc38_2 : FnScope N38_2 ["self"] (defScope (tM 38 2)) := ⟨rfl, rfl, rfl, by decide +kernel, rfl, by decide +kernel, by decide +kernel⟩
abbrev N38_3 : List Str := ["self"]
theorem sc38_3 : FnScope N38_3 ["self"] (defScope (tM 38 3)) := ⟨rfl, rfl, rfl, by decide +kernel, rfl, by decide +kernel, by decide +kernel⟩
abbrev N38_4 : List Str := ["self"]
theorem sc38_4 : FnScope N38_4 ["self"] (defScope (tM 38 4)) := ⟨rfl, rfl, rfl, by decide +kernel, rfl, by decide +kernel, by decide +kernel⟩
abbrev N38_5 : List Str := ["self", "county"]
theorem sc38_5 : FnScope N38_5 ["self", "county"] (defScope (tM 38 5)) := ⟨rfl, rfl, rfl, by decide +kernel, rfl, by decide +kernel, by decide +kernel⟩
abbrev N38_6 : List Str := ["self", "other"]
theorem sc38_6 : FnScope N38_6 ["self", "other"] (defScope (tM 38 6)) := ⟨rfl, rfl, rfl, by decide +kernel, rfl, by decide +kernel, by decide +kernel⟩
abbrev N41 : List Str := ["form", "first", "last"]
theorem sc41 : FnScope N41 ["form"] (defScope (tS 41)) := ⟨rfl, rfl, rfl, by decide +kernel, rfl, by decide +kernel, by decide +kernel⟩
abbrev N42 : List Str := ["form", "found", "size", "first", "last", "rows"]
theorem sc42 : FnScope N42 ["form"] (defScope (tS 42)) := ⟨rfl, rfl, rfl, by decide +kernel, rfl, by decide +kernel, by decide +kernel⟩
abbrev N43 : List Str := ["floors", "kept", "own", "later", "found", "before", "size", "rows"]
theorem sc43 : FnScope N43 ["floors"] (defScope (tS 43)) := ⟨rfl, rfl, rfl, by decide +kernel, rfl, by decide +kernel, by decide +kernel⟩
abbrev N44 : List Str := ["step"]
theorem sc44 : FnScope N44 ["step"] (defScope (tS 44)) := ⟨rfl, rfl, rfl, by decide +kernel, rfl, by decide +kernel, by decide +kernel⟩
abbrev N45 : List Str := ["one", "other", "most", "least", "ahead", "size", "rows"]
theorem sc45 : FnScope N45 ["one", "other"] (defScope (tS 45)) := ⟨rfl, rfl, rfl, by decide +kernel, rfl, by decide +kernel, by decide +kernel⟩
abbrev N46 : List Str := ["form", "times"]
theorem sc46 : FnScope N46 ["form", "times"] (defScope (tS 46)) := ⟨rfl, rfl, rfl, by decide +kernel, rfl, by decide +kernel, by decide +kernel⟩
abbrev N47 : List Str := ["form", "least", "found", "size", "rows"]
theorem sc47 : FnScope N47 ["form"] (defScope (tS 47)) := ⟨rfl, rfl, rfl, by decide +kernel, rfl, by decide +kernel, by decide +kernel⟩
abbrev N50 : List Str := ["steps", "found", "step"]
theorem sc50 : FnScope N50 ["steps"] (defScope (tS 50)) := ⟨rfl, rfl, rfl, by decide +kernel, rfl, by decide +kernel, by decide +kernel⟩
abbrev N51_0 : List Str := ["self", "steps"]
theorem sc51_0 : FnScope N51_0 ["self", "steps"] (defScope (tM 51 0)) := ⟨rfl, rfl, rfl, by decide +kernel, rfl, by decide +kernel, by decide +kernel⟩
abbrev N51_1 : List Str := ["text", "part"]
theorem sc51_1 : FnScope N51_1 ["text"] (defScope (tM 51 1)) := ⟨rfl, rfl, rfl, by decide +kernel, rfl, by decide +kernel, by decide +kernel⟩
abbrev N51_2 : List Str := ["self"]
theorem sc51_2 : FnScope N51_2 ["self"] (defScope (tM 51 2)) := ⟨rfl, rfl, rfl, by decide +kernel, rfl, by decide +kernel, by decide +kernel⟩
abbrev N51_3 : List Str := ["self", "step"]
theorem sc51_3 : FnScope N51_3 ["self"] (defScope (tM 51 3)) := ⟨rfl, rfl, rfl, by decide +kernel, rfl, by decide +kernel, by decide +kernel⟩
abbrev N51_4 : List Str := ["self"]
theorem sc51_4 : FnScope N51_4 ["self"] (defScope (tM 51 4)) := ⟨rfl, rfl, rfl, by decide +kernel, rfl, by decide +kernel, by decide +kernel⟩
abbrev N51_5 : List Str := ["self"]
theorem sc51_5 : FnScope N51_5 ["self"] (defScope (tM 51 5)) := ⟨rfl, rfl, rfl, by decide +kernel, rfl, by decide +kernel, by decide +kernel⟩
abbrev N51_6 : List Str := ["self"]
theorem sc51_6 : FnScope N51_6 ["self"] (defScope (tM 51 6)) := ⟨rfl, rfl, rfl, by decide +kernel, rfl, by decide +kernel, by decide +kernel⟩
abbrev N51_7 : List Str := ["self"]
theorem sc51_7 : FnScope N51_7 ["self"] (defScope (tM 51 7)) := ⟨rfl, rfl, rfl, by decide +kernel, rfl, by decide +kernel, by decide +kernel⟩
abbrev N51_8 : List Str := ["self", "size"]
theorem sc51_8 : FnScope N51_8 ["self", "size"] (defScope (tM 51 8)) := ⟨rfl, rfl, rfl, by decide +kernel, rfl, by decide +kernel, by decide +kernel⟩
abbrev N51_9 : List Str := ["self", "other"]
theorem sc51_9 : FnScope N51_9 ["self", "other"] (defScope (tM 51 9)) := ⟨rfl, rfl, rfl, by decide +kernel, rfl, by decide +kernel, by decide +kernel⟩
abbrev N51_10 : List Str := ["self", "table", "county"]
theorem sc51_10 : FnScope N51_10 ["self", "table"] (defScope (tM 51 10)) := ⟨rfl, rfl, rfl, by decide +kernel, rfl, by decide +kernel, by decide +kernel⟩
abbrev N51_11 : List Str := ["self", "county", "size"]
theorem sc51_11 : FnScope N51_11 ["self", "county", "size"] (defScope (tM 51 11)) := ⟨rfl, rfl, rfl, by decide +kernel, rfl, by decide +kernel, by decide +kernel⟩
abbrev N51_12 : List Str := ["self", "county", "found", "step"]
theorem sc51_12 : FnScope N51_12 ["self", "county"] (defScope (tM 51 12)) := ⟨rfl, rfl, rfl, by decide +kernel, rfl, by decide +kernel, by decide +kernel⟩
abbrev N51_13 : List Str := ["self"]
theorem sc51_13 : FnScope N51_13 ["self"] (defScope (tM 51 13)) := ⟨rfl, rfl, rfl, by decide +kernel, rfl, by decide +kernel, by decide +kernel⟩
abbrev N51_14 : List Str := ["self", "place"]
theorem sc51_14 : FnScope N51_14 ["self", "place"] (defScope (tM 51 14)) := ⟨rfl, rfl, rfl, by decide +kernel, rfl, by decide +kernel, by decide +kernel⟩
abbrev N51_15 : List Str := ["self"]
theorem sc51_15 : FnScope N51_15 ["self"] (defScope (tM 51 15)) := ⟨rfl, rfl, rfl, by decide +kernel, rfl, by decide +kernel, by decide +kernel⟩
abbrev N51_16 : List Str := ["self", "other"]
theorem sc51_16 : FnScope N51_16 ["self", "other"] (defScope (tM 51 16)) := ⟨rfl, rfl, rfl, by decide +kernel, rfl, by decide +kernel, by decide +kernel⟩
abbrev N51_17 : List Str := ["self", "times"]
theorem sc51_17 : FnScope N51_17 ["self", "times"] (defScope (tM 51 17)) := ⟨rfl, rfl, rfl, by decide +kernel, rfl, by decide +kernel, by decide +kernel⟩
abbrev N51_18 : List Str := ["self", "other"]
theorem sc51_18 : FnScope N51_18 ["self", "other"] (defScope (tM 51 18)) := ⟨rfl, rfl, rfl, by decide +kernel, rfl, by decide +kernel, by decide +kernel⟩
abbrev N51_19 : List Str := ["self", "other"]
theorem sc51_19 : FnScope N51_19 ["self", "other"] (defScope (tM 51 19)) := ⟨rfl, rfl, rfl, by decide +kernel, rfl, by decide +kernel, by decide +kernel⟩
abbrev N51_20 : List Str := ["self", "other"]
theorem sc51_20 : FnScope N51_20 ["self", "other"] (defScope (tM 51 20)) := ⟨rfl, rfl, rfl, by decide +kernel, rfl, by decide +kernel, by decide +kernel⟩
abbrev N53 : List Str := ["script", "number"]
theorem sc53 : FnScope N53 ["script", "number"] (defScope (tS 53)) := ⟨rfl, rfl, rfl, by decide +kernel, rfl, by decide +kernel, by decide +kernel⟩
abbrev N54 : List Str := ["script", "number"]
theorem sc54 : FnScope N54 ["script"] (defScope (tS 54)) := ⟨rfl, rfl, rfl, by decide +kernel, rfl, by decide +kernel, by decide +kernel⟩
abbrev N55 : List Str := ["county", "size"]
theorem sc55 : FnScope N55 ["county", "size"] (defScope (tS 55)) := ⟨rfl, rfl, rfl, by decide +kernel, rfl, by decide +kernel, by decide +kernel⟩
abbrev N56 : List Str := ["script", "county", "size", "here", "number", "step"]
theorem sc56 : FnScope N56 ["script", "county", "size"] (defScope (tS 56)) := ⟨rfl, rfl, rfl, by decide +kernel, rfl, by decide +kernel, by decide +kernel⟩
abbrev N57 : List Str := ["county", "size", "sizes", "own", "many"]
theorem sc57 : FnScope N57 ["county", "size"] (defScope (tS 57)) := ⟨rfl, rfl, rfl, by decide +kernel, rfl, by decide +kernel, by decide +kernel⟩
abbrev N58 : List Str := ["form"]
theorem sc58 : FnScope N58 ["form"] (defScope (tS 58)) := ⟨rfl, rfl, rfl, by decide +kernel, rfl, by decide +kernel, by decide +kernel⟩
abbrev N59 : List Str := ["script", "county", "place", "rows"]
theorem sc59 : FnScope N59 ["script", "county"] (defScope (tS 59)) := ⟨rfl, rfl, rfl, by decide +kernel, rfl, by decide +kernel, by decide +kernel⟩
abbrev N60 : List Str := ["county", "size", "own", "many"]
theorem sc60 : FnScope N60 ["county", "size"] (defScope (tS 60)) := ⟨rfl, rfl, rfl, by decide +kernel, rfl, by decide +kernel, by decide +kernel⟩
abbrev N61 : List Str := ["county", "rows", "found", "left", "size", "many", "wanted"]
theorem sc61 : FnScope N61 ["county", "rows"] (defScope (tS 61)) := ⟨rfl, rfl, rfl, by decide +kernel, rfl, by decide +kernel, by decide +kernel⟩
abbrev N62 : List Str := ["script", "county", "size", "others", "found", "place", "rows"]
theorem sc62 : FnScope N62 ["script", "county", "size"] (defScope (tS 62)) := ⟨rfl, rfl, rfl, by decide +kernel, rfl, by decide +kernel, by decide +kernel⟩
abbrev N63 : List Str := ["script", "county", "size", "lacks", "place", "rows"]
theorem sc63 : FnScope N63 ["script", "county", "size"] (defScope (tS 63)) := ⟨rfl, rfl, rfl, by decide +kernel, rfl, by decide +kernel, by decide +kernel⟩
abbrev N65 : List Str := ["script", "looks", "county", "size", "shown"]
theorem sc65 : FnScope N65 ["script", "looks"] (defScope (tS 65)) := ⟨rfl, rfl, rfl, by decide +kernel, rfl, by decide +kernel, by decide +kernel⟩
abbrev N66 : List Str := ["looks", "found", "county", "size", "shown", "own"]
theorem sc66 : FnScope N66 ["looks"] (defScope (tS 66)) := ⟨rfl, rfl, rfl, by decide +kernel, rfl, by decide +kernel, by decide +kernel⟩
abbrev N67 : List Str := ["looks", "county", "size", "shown"]
theorem sc67 : FnScope N67 ["looks"] (defScope (tS 67)) := ⟨rfl, rfl, rfl, by decide +kernel, rfl, by decide +kernel, by decide +kernel⟩
abbrev N68 : List Str := ["form", "banned", "own"]
theorem sc68 : FnScope N68 ["form", "banned"] (defScope (tS 68)) := ⟨rfl, rfl, rfl, by decide +kernel, rfl, by decide +kernel, by decide +kernel⟩
abbrev N69 : List Str := ["looks", "low", "banned"]
theorem sc69 : FnScope N69 ["looks"] (defScope (tS 69)) := ⟨rfl, rfl, rfl, by decide +kernel, rfl, by decide +kernel, by decide +kernel⟩
abbrev N70 : List Str := ["looks", "low"]
theorem sc70 : FnScope N70 ["looks"] (defScope (tS 70)) := ⟨rfl, rfl, rfl, by decide +kernel, rfl, by decide +kernel, by decide +kernel⟩
abbrev N71 : List Str := ["looks", "low", "banned", "form"]
theorem sc71 : FnScope N71 ["looks"] (defScope (tS 71)) := ⟨rfl, rfl, rfl, by decide +kernel, rfl, by decide +kernel, by decide +kernel⟩
abbrev N72 : List Str := ["place", "rows", "many", "small"]
theorem sc72 : FnScope N72 ["place", "rows", "many"] (defScope (tS 72)) := ⟨rfl, rfl, rfl, by decide +kernel, rfl, by decide +kernel, by decide +kernel⟩
abbrev N73 : List Str := ["most", "sizes", "single", "size", "place", "rows"]
theorem sc73 : FnScope N73 ["most"] (defScope (tS 73)) := ⟨rfl, rfl, rfl, by decide +kernel, rfl, by decide +kernel, by decide +kernel⟩
abbrev N74 : List Str := ["most", "told", "shown", "sizes", "least", "size", "rows", "place", "stays", "pair", "county", "found", "enough", "form", "number"]
theorem sc74 : FnScope N74 ["most", "told"] (defScope (tS 74)) := ⟨rfl, rfl, rfl, by decide +kernel, rfl, by decide +kernel, by decide +kernel⟩
abbrev N75 : List Str := ["county", "pair"]
theorem sc75 : FnScope N75 ["county", "pair"] (defScope (tS 75)) := ⟨rfl, rfl, rfl, by decide +kernel, rfl, by decide +kernel, by decide +kernel⟩
abbrev N76_0 : List Str := ["self", "most"]
theorem sc76_0 : FnScope N76_0 ["self", "most"] (defScope (tM 76 0)) := ⟨rfl, rfl, rfl, by decide +kernel, rfl, by decide +kernel, by decide +kernel⟩
abbrev N76_1 : List Str := ["self", "middle"]
theorem sc76_1 : FnScope N76_1 ["self"] (defScope (tM 76 1)) := ⟨rfl, rfl, rfl, by decide +kernel, rfl, by decide +kernel, by decide +kernel⟩
abbrev N76_2 : List Str := ["self"]
theorem sc76_2 : FnScope N76_2 ["self"] (defScope (tM 76 2)) := ⟨rfl, rfl, rfl, by decide +kernel, rfl, by decide +kernel, by decide +kernel⟩
abbrev N76_3 : List Str := ["self"]
theorem sc76_3 : FnScope N76_3 ["self"] (defScope (tM 76 3)) := ⟨rfl, rfl, rfl, by decide +kernel, rfl, by decide +kernel, by decide +kernel⟩
abbrev N76_4 : List Str := ["self"]
theorem sc76_4 : FnScope N76_4 ["self"] (defScope (tM 76 4)) := ⟨rfl, rfl, rfl, by decide +kernel, rfl, by decide +kernel, by decide +kernel⟩
abbrev N76_5 : List Str := ["self", "shown", "middle"]
theorem sc76_5 : FnScope N76_5 ["self", "shown"] (defScope (tM 76 5)) := ⟨rfl, rfl, rfl, by decide +kernel, rfl, by decide +kernel, by decide +kernel⟩
abbrev N76_6 : List Str := ["self", "number", "rows"]
theorem sc76_6 : FnScope N76_6 ["self"] (defScope (tM 76 6)) := ⟨rfl, rfl, rfl, by decide +kernel, rfl, by decide +kernel, by decide +kernel⟩
abbrev N78 : List Str := ["_law_script", "_law_k", "_law_cell"]
theorem sc78 : FnScope N78 ["_law_script", "_law_k"] (defScope (tS 78)) := ⟨rfl, rfl, rfl, by decide +kernel, rfl, by decide +kernel, by decide +kernel⟩
abbrev N79 : List Str := ["_law_urn", "_law_low_so", "_law_drawn", "_law_once", "_law_far", "_law_twice"]
theorem sc79 : FnScope N79 ["_law_urn", "_law_low_so"] (defScope (tS 79)) := ⟨rfl, rfl, rfl, by decide +kernel, rfl, by decide +kernel, by decide +kernel⟩
abbrev N80 : List Str := ["_law_script", "_law_top", "_law_cells_here", "_law_k", "_law_cell", "_law_at_so"]
theorem sc80 : FnScope N80 ["_law_script", "_law_top"] (defScope (tS 80)) := ⟨rfl, rfl, rfl, by decide +kernel, rfl, by decide +kernel, by decide +kernel⟩
abbrev N81 : List Str := ["_law_urn", "_law_some_so"]
theorem sc81 : FnScope N81 ["_law_urn", "_law_some_so"] (defScope (tS 81)) := ⟨rfl, rfl, rfl, by decide +kernel, rfl, by decide +kernel, by decide +kernel⟩
abbrev N82 : List Str := ["_law_urn", "_law_kinds_so", "_law_high_so", "_law_many_so", "_law_table_so", "_law_turn", "_law_own"]
theorem sc82 : FnScope N82 ["_law_urn", "_law_kinds_so", "_law_high_so", "_law_many_so"] (defScope (tS 82)) := ⟨rfl, rfl, rfl, by decide +kernel, rfl, by decide +kernel, by decide +kernel⟩
abbrev N83 : List Str := ["_law_urn", "_law_high_so"]
theorem sc83 : FnScope N83 ["_law_urn", "_law_high_so"] (defScope (tS 83)) := ⟨rfl, rfl, rfl, by decide +kernel, rfl, by decide +kernel, by decide +kernel⟩
abbrev N84 : List Str := ["_law_urn", "_law_most_so", "_law_high_so", "_law_turn"]
theorem sc84 : FnScope N84 ["_law_urn", "_law_most_so", "_law_high_so"] (defScope (tS 84)) := ⟨rfl, rfl, rfl, by decide +kernel, rfl, by decide +kernel, by decide +kernel⟩
abbrev N85 : List Str := ["_law_some_here", "_law_own"]
theorem sc85 : FnScope N85 ["_law_some_here"] (defScope (tS 85)) := ⟨rfl, rfl, rfl, by decide +kernel, rfl, by decide +kernel, by decide +kernel⟩
abbrev N86 : List Str := ["_law_some_here"]
theorem sc86 : FnScope N86 ["_law_some_here"] (defScope (tS 86)) := ⟨rfl, rfl, rfl, by decide +kernel, rfl, by decide +kernel, by decide +kernel⟩
abbrev N87 : List Str := ["_law_bag_so"]
theorem sc87 : FnScope N87 ["_law_bag_so"] (defScope (tS 87)) := ⟨rfl, rfl, rfl, by decide +kernel, rfl, by decide +kernel, by decide +kernel⟩
abbrev N88 : List Str := ["_law_hidden_so", "_law_most_so", "_law_live", "_law_looks_so", "_law_page_so", "_law_size_so"]
theorem sc88 : FnScope N88 ["_law_hidden_so", "_law_most_so"] (defScope (tS 88)) := ⟨rfl, rfl, rfl, by decide +kernel, rfl, by decide +kernel, by decide +kernel⟩
abbrev N89 : List Str := ["_law_hidden_so", "_law_pages_so", "_law_page_so", "_law_size_so", "_law_own", "_law_is_so", "_law_much"]
theorem sc89 : FnScope N89 ["_law_hidden_so", "_law_pages_so"] (defScope (tS 89)) := ⟨rfl, rfl, rfl, by decide +kernel, rfl, by decide +kernel, by decide +kernel⟩
abbrev N90 : List Str := ["_law_some_here", "_law_pages_so", "_law_hidden_so", "_law_seen_so", "_law_own", "_law_found", "_law_looks_so", "_law_page_so", "_law_far"]
theorem sc90 : FnScope N90 ["_law_some_here", "_law_pages_so"] (defScope (tS 90)) := ⟨rfl, rfl, rfl, by decide +kernel, rfl, by decide +kernel, by decide +kernel⟩
abbrev N91 : List Str := ["_law_pages_so", "_law_own", "_law_cases"]
theorem sc91 : FnScope N91 [] (defScope (tS 91)) := ⟨rfl, rfl, rfl, by decide +kernel, rfl, by decide +kernel, by decide +kernel⟩
abbrev N92 : List Str := ["_law_urn", "_law_turn", "_law_pages_so", "_law_lap"]
theorem sc92 : FnScope N92 ["_law_urn"] (defScope (tS 92)) := ⟨rfl, rfl, rfl, by decide +kernel, rfl, by decide +kernel, by decide +kernel⟩
abbrev N93 : List Str := ["_law_script", "_law_cells_here", "_law_k"]
theorem sc93 : FnScope N93 ["_law_script"] (defScope (tS 93)) := ⟨rfl, rfl, rfl, by decide +kernel, rfl, by decide +kernel, by decide +kernel⟩
end K81
set_option Elab.async false
set_option linter.all false
set_option maxRecDepth 100000
set_option maxHeartbeats 1900000
namespace K81
open PySem L2
section
variable {X : Cx} {Γ Γ' : List Slot} {M M' : Mem} {α β γ : Type} {r : RT α} {s : RT β} {tg a b e : Expr} {es elts : List Expr} {pos p2 p tpos apos : Pos} {n : Str} {kk : Nat} {w : Addr → Prop} {B0 H0 BX : Hp} {D D' : Ends} {rest ss : List Stmt} {I : L2.St → Hp → Prop}
theorem At.wk (hw : Wkn Γ Γ') (hm : ∀ B H, M.ok B H → M'.ok B H) : ∀ σ H, At w B0 H0 BX Γ M σ H → At w B0 H0 BX Γ' M' σ H := fun σ H ⟨B, g, bx, en, m⟩ => ⟨B, g, bx, en.wkn hw, hm _ _ m⟩
theorem tr_wkn (hw : Wkn Γ Γ') (hm : ∀ B H, M.ok B H → M'.ok B H) (h : Tr X (At w B0 H0 BX Γ' M') ss D) : Tr X (At w B0 H0 BX Γ M) ss D := tr_imp h (At.wk hw hm)
/-- another end that asks less -/
theorem tr_ends (h : Tr X I ss D) (hn : ∀ σ H, D.nx σ H → D'.nx σ H) (hb : ∀ σ H, D.bk σ H → D'.bk σ H) (hc : ∀ σ H, D.ct σ H → D'.ct σ H) (hr : ∀ v H, D.rt v H → D'.rt v H) : Tr X I ss D' := fun pins s σ H i hi =>
  thn (h pins s σ H i hi) fun f s1 q => by
    cases f with
    | next =>
      obtain ⟨σ', H', i', q⟩ := q
      exact ⟨σ', H', i', hn _ _ q⟩
    | ret v =>
      obtain ⟨u, σ', H', i', rv, q⟩ := q
      exact ⟨u, σ', H', i', rv, hr _ _ q⟩
    | brk =>
      obtain ⟨σ', H', i', q⟩ := q
      exact ⟨σ', H', i', hb _ _ q⟩
    | cont =>
      obtain ⟨σ', H', i', q⟩ := q
      exact ⟨σ', H', i', hc _ _ q⟩
theorem fold_take {xs : List α} {i : Nat} {x : α} (f : β → α → β) (b : β) (h : xs[i]? = some x) : (xs.take (i + 1)).foldl f b = f ((xs.take i).foldl f b) x := by
  rw [List.take_add_one, h, List.foldl_append]; rfl
/-- a loop that folds -/
theorem tr_fold {ts : List Nat} {iter : Expr} {body : List Stmt} {xs : List α} {f : α → List Slot → List Slot} (step : β → α → β) (b0 : β) (G : β → List Slot) (Mm : β → Mem) (P : Nat → β → Prop) (hc : X.calm = true) (hi : EI X Γ tg iter r xs) (ht : ET X tg ts r f)
    (h0 : P 0 b0) (hP : ∀ i x b, xs[i]? = some x → P i b → P (i + 1) (step b x)) (hw0 : Wkn Γ (G b0)) (hm0 : ∀ B H, M.ok B H → (Mm b0).ok B H)
    (hb : ∀ BX', Ex BX BX' → ∀ i x b, xs[i]? = some x → P i b → Tr X (At w B0 H0 BX' (f x (G b)) (Mm b)) body { D with nx := At w B0 H0 BX' (G (step b x)) (Mm (step b x)), ct := At w B0 H0 BX' (G (step b x)) (Mm (step b x)), bk := Wk X rest D })
    (hr : P xs.length (xs.foldl step b0) → Tr X (At w B0 H0 BX (G (xs.foldl step b0)) (Mm (xs.foldl step b0))) rest D) (hs : ∀ x, foldedSetIterable iter X.env x = pure x := by intro _; rfl) (hp : PassesOwn (model X.prog X.w) X.A X.env X.xe := by exact PassesOwn.never) :
    Tr X (At w B0 H0 BX Γ M) (.For tg iter body [] pos :: rest) D := by
  refine tr_for (ι := β) G Mm (fun i b => b = (xs.take i).foldl step b0 ∧ P i b) b0 hc hi ht ⟨rfl, h0⟩ hw0 hm0 (fun BX' e i x b hx ⟨e1, hp1⟩ => ?_) (fun b ⟨e1, hp1⟩ => ?_) hs hp
  · have st : step b x = (xs.take (i + 1)).foldl step b0 := by rw [fold_take step b0 hx, ← e1]
    exact tr_ends (hb BX' e i x b hx hp1) (fun σ H q => ⟨_, ⟨st, hP i x b hx hp1⟩, q⟩) (fun _ _ q => q) (fun σ H q => ⟨_, ⟨st, hP i x b hx hp1⟩, q⟩) fun _ _ q => q
  · rw [List.take_length] at e1
    subst e1
    exact hr hp1
/-- the block's end -/
theorem tr_done (hn : D.nx = At w B0 H0 BX Γ' M') (hw : Wkn Γ Γ') (hm : ∀ B H, M.ok B H → M'.ok B H) : Tr X (At w B0 H0 BX Γ M) [] D := tr_nil fun σ H h => by rw [hn]; exact At.wk hw hm σ H h
theorem tr_next (hn : D.ct = At w B0 H0 BX Γ' M') (hw : Wkn Γ Γ') (hm : ∀ B H, M.ok B H → M'.ok B H) : Tr X (At w B0 H0 BX Γ M) (.Continue pos :: rest) D := tr_cont fun σ H h => by rw [hn]; exact At.wk hw hm σ H h
/-- a branch's end: the rest goes on -/
theorem tr_go {I : L2.St → Hp → Prop} (h : Tr X I rest D) : Tr X I [] { D with nx := Wk X rest D } := tr_nil h.wk
/-- return e -/
theorem tr_rt {x : β} (h : EM X Γ M s e x) (hD : D.rt = Rt w B0 H0 s x := by rfl) : Tr X (At w B0 H0 BX Γ M) (.Return (some e) pos :: rest) D := tr_ret h fun v B H g _ r => by rw [hD]; exact ⟨B, g, r⟩
theorem tr_rtE {x y : β} (h : EM X Γ M s e x) (hx : x = y) (hD : D.rt = Rt w B0 H0 s y := by rfl) : Tr X (At w B0 H0 BX Γ M) (.Return (some e) pos :: rest) D := tr_rt (hx ▸ h) hD
theorem ee_neg {i : Int} (ha : EE X Γ rInt a i) : EE X Γ rInt (.UnaryOp .USub a pos) (-i) := PE.imp (pe_un un_neg ha) fun σ H Q ⟨B, en, ex, q⟩ => ⟨B, en, ex, fun v B1 H1 g1 r1 => ⟨i, r1, q _ B1 H1 g1 rfl⟩⟩
theorem atI_last' {xs : List α} {x : α} (h : xs.getLast? = some x) : atI xs (-1) = some x := by
  have e : xs = xs.dropLast ++ [x] := by
    have := List.getLast?_eq_some_iff.mp h
    obtain ⟨ys, rfl⟩ := this
    simp
  rw [e]
  exact atI_last _ _
/-- a test's answer is known -/
theorem tr_ifT {c : Expr} {p q : List Stmt} (h : EBM X Γ M c true) (k : Tr X (At w B0 H0 BX Γ M) p { D with nx := Wk X rest D }) : Tr X (At w B0 H0 BX Γ M) (.If c p q pos :: rest) D := tr_if h (fun _ => k) fun z => nomatch z
theorem tr_ifF {c : Expr} {p q : List Stmt} (h : EBM X Γ M c false) (k : Tr X (At w B0 H0 BX Γ M) q { D with nx := Wk X rest D }) : Tr X (At w B0 H0 BX Γ M) (.If c p q pos :: rest) D := tr_if h (fun z => nomatch z) fun _ => k
end
/-- a list of int pairs; the built-in names, which the text does not bind -/
abbrev Form := List (Int × Int)
abbrev rForm (K : Fr) : RT Form := rTup K (rPr K rInt rInt)
structure Bn (mg : Str → Option Value) : Prop where
  sum : mg "sum" = none
  max : mg "max" = none
  min : mg "min" = none
  any : mg "any" = none
  all : mg "all" = none
  len : mg "len" = none
  range : mg "range" = none
  tuple : mg "tuple" = none
  list : mg "list" = none
  sorted : mg "sorted" = none
  set : mg "set" = none
  zip : mg "zip" = none
  enumerate : mg "enumerate" = none
  isinstance : mg "isinstance" = none
  int : mg "int" = none
  str : mg "str" = none
  abs : mg "abs" = none
end K81
set_option Elab.async false
set_option linter.all false
set_option maxRecDepth 100000
namespace K81
/-! ### what the lattice's and the stairs' defs compute -/
def manyFrom (form : Form) (least : Int) : Int := ((form.filter fun p => decide (least ≤ p.2)).map fun p => p.2 - max p.1 least + 1).sum
def hasN (form : Form) (n : Int) : Bool := (form.map fun p => decide (p.1 ≤ n) && decide (n ≤ p.2)).any id
def placesOf (one other : Form) : List Int := sortU (1 :: ((one ++ other).flatMap fun p => [p.1, p.2 + 1].map fun q => q))
def lastD (acc : Form) : Int × Int := acc.getLastD (0, 0)
def jStep (acc : Form) (p : Int × Int) : Form :=
  if decide (p.2 < p.1) then acc else if (decide ((0 : Int) < (acc.length : Int)) && decide ((lastD acc).2 = p.1 - 1)) then acc.set (acc.length - 1) ((lastD acc).1, p.2) else acc ++ [(p.1, p.2)]
def joined (runs : Form) : Form := runs.foldl jStep []
def isWithin (one other : Form) : Bool := ((placesOf one other).map fun p => decide (manyFrom other p ≤ manyFrom one p)).all id
def bStep (one other : Form) (m : Bool) (acc : Form) (q : Int × Int) : Form :=
  if hasN one q.1 && hasN other q.1 then acc ++ [(q.1, q.2 - 1)]
  else if hasN one q.1 || hasN other q.1 then
    acc ++ [if m then (q.1, min q.2 (q.1 + (if hasN one q.1 then manyFrom one q.1 - manyFrom other q.1 else manyFrom other q.1 - manyFrom one q.1)) - 1)
      else (max q.1 (q.1 + (if hasN one q.1 then manyFrom one q.1 - manyFrom other q.1 else manyFrom other q.1 - manyFrom one q.1)), q.2 - 1)]
  else acc
def blended (one other : Form) (m : Bool) : Form := joined (((placesOf one other).zip ((placesOf one other).drop 1)).foldl (bStep one other m) [])
def leastAround (one other : Form) : Form := blended one other false
def firstD (form : Form) : Int × Int := form.headD (0, 0)
def aStep (form : Form) (acc : List Form) (q : Int × Int × Int) : List Form :=
  if decide (1 < q.2.1) then acc ++ [joined (form.take q.1.toNat ++ ((q.2.1 - 1, q.2.1 - 1) :: (q.2.1 + 1, q.2.2) :: (form.drop (q.1.toNat + 1) ++ [])))] else acc
def justAbove (form : Form) : List Form :=
  (enumI form).foldl (aStep form) (if hasN form 1 && decide (1 < manyFrom form 1) then [joined ((2, (firstD form).2) :: (form.drop 1 ++ []))] else [])
def leastIn (form : Form) : Int := (form.map fun p => p.2 - p.1 + 1).sum
def fStep (acc : Form × Int) (p : Int × Int) : Form × Int := (acc.1 ++ [(acc.2 + p.2 - p.1 + 1, p.2 + acc.2)], acc.2 + p.2 - p.1 + 1)
def floorsIn (form : Form) : Form := (form.reverse.foldl fStep ([], 0)).1
def wStep (acc : Form × Int) (p : Int × Int) : Form × Int := (acc.1 ++ [(p.2 - p.1 + 1, p.2 - acc.2)], p.1)
def keptOf (floors : Form) : Form := ((floors.zip (floors.drop 1 ++ [((0 : Int), (0 : Int))])).filter fun q => !decide (q.2.2 = q.1.2)).map fun q => q.1
def formWith (floors : Form) : Form := ((keptOf floors).foldl wStep ([], 0)).1.reverse
def formBehind (one other : Form) : Form :=
  formWith (((floorsIn one).map fun q => (q.1, max q.2 (lastD other).2)) ++ (((floorsIn other).filter fun q => decide (leastIn one < q.1)).map fun q => (q.1, q.2)))
end K81
set_option Elab.async false
set_option linter.all false
set_option maxRecDepth 100000
set_option maxHeartbeats 1900000
namespace K81
open PySem L2
section
variable {P : Program} {w : World} {K : Fr} {mg : Str → Option Value} {base : Heap} {f : Addr} {fd : FuncData}
abbrev FL (form : Form) : Prop := form.length ≤ 15
theorem ok_many_from (T : Bn mg) (F : Fun K "many_from" "many_from" (tS 2) f fd) : FnE P w K mg base 1 f (Pm2 (rForm K) rInt rInt (fun form _ => FL form) manyFrom) := by
  refine fn_pm F sc2 (fun _ => rfl) (fun _ _ _ _ _ _ us hl => match us, hl with | [_, _], _ => rfl) fun q B0 H0 y hr hp => ?_
  exact tr_rt (EE.m (ee_sum rfl T.sum (ee_lcIf (own := [("low", 2), ("high", 3)]) (N := N2) (sc := defScope (tS 2)) rfl sc2.nd (by decide +kernel) (ei_tup (ee_var 0 rfl)) (fun q => et_pr rfl (et_name 2 sc2.nd) (et_name 3 sc2.nd))
    (fun q x hx => eb_ge (ee_var 3 rfl) (ee_var 1 rfl)) (fun q x hx hpx => ee_add (ee_sub (ee_var 3 rfl) (ee_max2 rfl T.max (ee_var 2 rfl) (ee_var 1 rfl))) ee_int) (Nat.le_trans hp (by decide)))))
theorem ok_has (T : Bn mg) (F : Fun K "has" "has" (tS 3) f fd) : FnE P w K mg base 1 f (Pm2 (rForm K) rInt rBl (fun form _ => FL form) hasN) := by
  refine fn_pm F sc3 (fun _ => rfl) (fun _ _ _ _ _ _ us hl => match us, hl with | [_, _], _ => rfl) fun q B0 H0 y hr hp => ?_
  exact tr_rt (EE.m (ee_any rfl T.any (ee_lc (own := [("low", 2), ("high", 3)]) (N := N3) (sc := defScope (tS 3)) rfl sc3.nd (by decide +kernel) (ei_tup (ee_var 0 rfl)) (fun q => et_pr rfl (et_name 2 sc3.nd) (et_name 3 sc3.nd))
    (fun q x hx => ee_lele (ee_var 2 rfl) (ee_var 1 rfl) (ee_var 3 rfl)) (Nat.le_trans hp (by decide)))))
theorem ok_places_of (T : Bn mg) (F : Fun K "places_of" "places_of" (tS 4) f fd) : FnE P w K mg base 1 f (Pm2 (rForm K) (rForm K) (rLst K rInt) (fun one other => FL one ∧ FL other) placesOf) := by
  refine fn_pm F sc4 (fun _ => rfl) (fun _ _ _ _ _ _ us hl => match us, hl with | [_, _], _ => rfl) fun q B0 H0 y hr hp => ?_
  have hl : ((y.1 ++ y.2).flatMap fun p => [p.1, p.2 + 1].map fun q => q).length ≤ 60 := by
    rw [List.length_flatMap]
    have h1 := hp.1
    have h2 := hp.2
    simp only [List.map_cons, List.map_nil, List.length_cons, List.length_nil]
    rw [List.map_const', List.sum_replicate_nat, List.length_append]
    omega
  exact tr_rt (EE.m (ee_sortSet rfl T.sorted (ee_setOf rfl T.set (ee_lst (el_cons ee_int (el_star (ee_seqL (ee_lc2 (own := [("low", 2), ("high", 3), ("place", 4)]) (vs1 := [4]) (N := N4) (sc := defScope (tS 4)) rfl sc4.nd (by decide +kernel)
    (ei_tup (ee_catT (ee_var 0 rfl) (ee_var 1 rfl) (by have := hp.1; have := hp.2; omega))) (fun q => et_pr rfl (et_name 2 sc4.nd) (et_name 3 sc4.nd)) (fun q x hx => ei_tup (ee_tupL (el_cons (ee_var 2 rfl) (el_cons (ee_add (ee_var 3 rfl) ee_int) el_nil)) (by simp)))
    (fun q => et_name 4 sc4.nd) (fun q x hx z hz => ee_var 4 rfl) (by omega))) el_nil)) (by simp only [List.append_nil, List.length_cons]; omega)) (by simp only [List.append_nil, List.length_cons]; omega)) (by simp only [List.append_nil, List.length_cons]; omega))) (by rw [List.append_nil]; rfl)
end
end K81
set_option Elab.async false
set_option linter.all false
set_option maxRecDepth 100000
set_option maxHeartbeats 1900000
namespace K81
open PySem L2
theorem lastD_get {acc : Form} (h : 0 < acc.length) : acc.getLast? = some (lastD acc) := by
  unfold lastD
  cases acc with
  | nil => simp at h
  | cons a l => simp [List.getLast?_cons, List.getLastD_cons]
section
variable {P : Program} {w : World} {K : Fr} {mg : Str → Option Value} {base : Heap} {f : Addr} {fd : FuncData}
theorem jStep_len (acc : Form) (p : Int × Int) : (jStep acc p).length ≤ acc.length + 1 := by
  unfold jStep
  split
  · omega
  · split
    · rw [List.length_set]; omega
    · rw [List.length_append]; simp
theorem ok_joined (T : Bn mg) (F : Fun K "joined" "joined" (tS 5) f fd) : FnE P w K mg base 1 f (Pm1 (rSeq K (rPr K rInt rInt)) (rForm K) (fun runs => runs.length ≤ 1000) joined) := by
  refine fn_pm F sc5 (fun _ => rfl) (fun _ _ _ _ _ _ us hl => match us, hl with | [_], _ => rfl) fun q B0 H0 y hr hp => ?_
  refine tr_new (s := rPr K rInt rInt) (xs := []) 1 sc5.nd el_nil (by decide) fun o ho => ?_
  refine tr_fold jStep [] (fun _ => [sl (rSeq K (rPr K rInt rInt)) y, sl (rAdr o) (), none, none]) (fun acc => mA mE (mL no H0 o (rPr K rInt rInt) acc)) (fun i acc => acc.length ≤ i) rfl (ei_seq (ee_var 0 rfl)) (et_pr rfl (et_name 2 sc5.nd) (et_name 3 sc5.nd))
    (Nat.le_refl _) (fun i x b hx hb => Nat.le_trans (jStep_len b x) (by omega)) (by repeat constructor) (fun _ _ h => h) (fun BX e i x b hx hb => ?_) fun hb => ?_
  · have hi : i < 1000 := by
      have := (List.getElem?_eq_some_iff.mp hx).1
      omega
    refine tr_if (EB.m (eb_gt (ee_var 2 rfl) (ee_var 3 rfl))) (fun h => ?_) fun h => tr_go ?_
    · exact tr_next rfl (by repeat constructor) (fun _ _ z => by rw [show jStep b x = b by unfold jStep; rw [if_pos h]]; exact z)
    · refine tr_if (EB.op 1 (eb_and (eb_gt (ee_len T.len (ee_seqL (ee_var 1 rfl))) ee_int) (fun h2 => eb_eqI (ee_snd (ee_ixL (ee_var 1 rfl) (ee_neg ee_int) (atI_last' (lastD_get (by simpa using h2)))) ee_int) (ee_sub (ee_var 2 rfl) ee_int))) rfl) (fun h2 => ?_) fun h2 => ?_
      · have hl : 0 < b.length := by
          rw [Bool.and_eq_true] at h2
          simpa using h2.1
        refine tr_put (j := b.length - 1) (EE.op 1 (ee_pr (ee_fst (ee_ixL (ee_var 1 rfl) (ee_neg ee_int) (atI_last' (lastD_get hl))) ee_int) (ee_var 3 rfl)) (fz_pr noTupL fz_int fz_int) rfl) (ee_var 1 rfl) (ee_neg ee_int) ?_ mE_free (tr_go (tr_done rfl (by repeat constructor) fun _ _ z => ?_))
        · unfold ixN
          rw [if_neg (by omega), if_pos (by omega)]
          congr 1
          omega
        · rw [show jStep b x = b.set (b.length - 1) ((lastD b).1, x.2) by unfold jStep; rw [if_neg (by rw [h]; simp), if_pos h2]]
          exact z
      · refine tr_app (EE.m (ee_pr (ee_var 2 rfl) (ee_var 3 rfl))) (ee_var 1 rfl) (by omega) mE_free (tr_go (tr_done rfl (by repeat constructor) fun _ _ z => ?_))
        rw [show jStep b x = b ++ [(x.1, x.2)] by unfold jStep; rw [if_neg (by rw [h]; simp), if_neg (by rw [h2]; simp)]]
        exact z
  · exact tr_rt (EE.op 1 (ee_tupleOf T.tuple (ee_seqL (ee_var 1 rfl))) (fz_tup noTupL (fz_pr noTupL fz_int fz_int)) rfl)
end
end K81
set_option Elab.async false
set_option linter.all false
set_option maxRecDepth 100000
set_option maxHeartbeats 1900000
namespace K81
open PySem L2
abbrev spMany (K : Fr) : Sp := Pm2 (rForm K) rInt rInt (fun form _ => FL form) manyFrom
abbrev spHas (K : Fr) : Sp := Pm2 (rForm K) rInt rBl (fun form _ => FL form) hasN
abbrev spPlaces (K : Fr) : Sp := Pm2 (rForm K) (rForm K) (rLst K rInt) (fun one other => FL one ∧ FL other) placesOf
abbrev spJoined (K : Fr) : Sp := Pm1 (rSeq K (rPr K rInt rInt)) (rForm K) (fun runs => runs.length ≤ 1000) joined
abbrev spWithin (K : Fr) : Sp := Pm2 (rForm K) (rForm K) rBl (fun one other => FL one ∧ FL other) isWithin
abbrev spBlended (K : Fr) : Sp := Pm3 (rForm K) (rForm K) rBl (rForm K) (fun one other _ => FL one ∧ FL other) blended
abbrev spAround (K : Fr) : Sp := Pm2 (rForm K) (rForm K) (rForm K) (fun one other => FL one ∧ FL other) leastAround
abbrev spAbove (K : Fr) : Sp := Pm1 (rForm K) (rLst K (rForm K)) (fun form => FL form ∧ 0 < form.length) justAbove
theorem insU_len (x : Int) : ∀ ys : List Int, (insU x ys).length ≤ ys.length + 1
  | [] => by simp [insU]
  | y :: ys => by
    unfold insU
    split
    · simp
    · split
      · simp
      · have := insU_len x ys
        simp only [List.length_cons]
        omega
theorem sortU_len : ∀ xs : List Int, (sortU xs).length ≤ xs.length
  | [] => by simp [sortU]
  | x :: xs => by
    unfold sortU
    have := insU_len x (sortU xs)
    have := sortU_len xs
    simp only [List.length_cons]
    omega
theorem places_len {one other : Form} (h1 : FL one) (h2 : FL other) : (placesOf one other).length ≤ 61 := by
  unfold placesOf
  refine Nat.le_trans (sortU_len _) ?_
  rw [List.length_cons, List.length_flatMap]
  simp only [List.map_cons, List.map_nil, List.length_cons, List.length_nil]
  rw [List.map_const', List.sum_replicate_nat, List.length_append]
  omega
theorem bStep_len (one other : Form) (m : Bool) (acc : Form) (q : Int × Int) : (bStep one other m acc q).length ≤ acc.length + 1 := by
  unfold bStep
  split
  · simp
  · split
    · simp
    · omega
section
variable {P : Program} {w : World} {K : Fr} {mg : Str → Option Value} {base : Heap} {f : Addr} {fd : FuncData}
theorem ok_is_within (T : Bn mg) (c2 : Cal P w K mg base 1 "many_from" (spMany K)) (c4 : Cal P w K mg base 1 "places_of" (spPlaces K)) (F : Fun K "is_within" "is_within" (tS 6) f fd) : FnE P w K mg base 2 f (spWithin K) := by
  refine fn_pm F sc6 (fun _ => rfl) (fun _ _ _ _ _ _ us hl => match us, hl with | [_, _], _ => rfl) fun q B0 H0 y hr hp => ?_
  exact tr_rt (EE.m (ee_all rfl T.all (ee_lc (own := [("place", 2)]) (N := N6) (sc := defScope (tS 6)) rfl sc6.nd (by decide +kernel) (ei_lst (ee_call2 c4 hr (ee_var 0 rfl) (ee_var 1 rfl) hp)) (fun q => et_name 2 sc6.nd)
    (fun q x hx => ee_ge (ee_call2 c2 hr (ee_var 0 rfl) (ee_var 2 rfl) hp.1) (ee_call2 c2 hr (ee_var 1 rfl) (ee_var 2 rfl) hp.2)) (Nat.le_trans (places_len hp.1 hp.2) (by decide)))))
theorem ok_blended (T : Bn mg) (c2 : Cal P w K mg base 1 "many_from" (spMany K)) (c3 : Cal P w K mg base 1 "has" (spHas K)) (c4 : Cal P w K mg base 1 "places_of" (spPlaces K)) (c5 : Cal P w K mg base 1 "joined" (spJoined K)) (F : Fun K "blended" "blended" (tS 7) f fd) :
    FnE P w K mg base 2 f (spBlended K) := by
  refine fn_pm F sc7 (fun _ => rfl) (fun _ _ _ _ _ _ us hl => match us, hl with | [_, _, _], _ => rfl) fun q B0 H0 y hr hp => ?_
  obtain ⟨one, other, m⟩ := y
  have hp : FL one ∧ FL other := hp
  have hpl : (placesOf one other).length ≤ 61 := places_len hp.1 hp.2
  have hzl : ((placesOf one other).zip ((placesOf one other).drop 1)).length ≤ 61 := by rw [List.length_zip]; omega
  refine tr_new (s := rPr K rInt rInt) (xs := []) 3 sc7.nd el_nil (by decide) fun o ho => ?_
  refine tr_set 4 sc7.nd (EE.m (ee_call2 c4 hr (ee_var 0 rfl) (ee_var 1 rfl) hp)) ?_
  refine tr_fold (bStep one other m) [] (fun _ => [sl (rForm K) one, sl (rForm K) other, sl rBl m, sl (rAdr o) (), sl (rLst K rInt) (placesOf one other), none, none, none, none, none]) (fun acc => mA mE (mL no H0 o (rPr K rInt rInt) acc)) (fun i acc => acc.length ≤ i) rfl
    (ei_zipL T.zip (ee_var 4 rfl) (ee_eq (ee_slL (ee_var 4 rfl) (eo_some ee_int) eo_none) (cut_from _ 1))) (et_pr rfl (et_name 5 sc7.nd) (et_name 6 sc7.nd))
    (Nat.le_refl _) (fun i x b hx hb => Nat.le_trans (bStep_len one other m b x) (by omega)) (by repeat constructor) (fun _ _ h => h) (fun BX e i x b hx hb => ?_) fun hb => ?_
  · have hi : i < 61 := Nat.lt_of_lt_of_le (List.getElem?_eq_some_iff.mp hx).1 hzl
    refine tr_par 7 8 rfl sc7.nd (ee_call2 c2 hr (ee_var 0 rfl) (ee_var 5 rfl) hp.1) (ee_call2 c2 hr (ee_var 1 rfl) (ee_var 5 rfl) hp.2) ?_ rfl
    refine tr_if (EB.m (eb_and (eb_val (ee_call2 c3 hr (ee_var 0 rfl) (ee_var 5 rfl) hp.1)) fun _ => eb_val (ee_call2 c3 hr (ee_var 1 rfl) (ee_var 5 rfl) hp.2))) (fun h => ?_) fun h => ?_
    · refine tr_app (EE.m (ee_pr (ee_var 5 rfl) (ee_sub (ee_var 6 rfl) ee_int))) (ee_var 3 rfl) (by omega) mE_free (tr_go (tr_done rfl (by repeat constructor) fun _ _ z => ?_))
      rw [show bStep one other m b x = b ++ [(x.1, x.2 - 1)] by unfold bStep; rw [if_pos h]]
      exact z
    · refine tr_if (EB.m (eb_or (eb_val (ee_call2 c3 hr (ee_var 0 rfl) (ee_var 5 rfl) hp.1)) fun _ => eb_val (ee_call2 c3 hr (ee_var 1 rfl) (ee_var 5 rfl) hp.2))) (fun h2 => ?_) fun h2 => ?_
      · refine tr_set 9 sc7.nd (EE.m (ee_add (ee_var 5 rfl) (ee_if (eb_val (ee_call2 c3 hr (ee_var 0 rfl) (ee_var 5 rfl) hp.1)) (fun _ => ee_sub (ee_var 7 rfl) (ee_var 8 rfl)) fun _ => ee_sub (ee_var 8 rfl) (ee_var 7 rfl)))) ?_
        refine tr_app (EE.m (ee_if (eb_val (ee_var 2 rfl)) (fun _ => ee_pr (ee_var 5 rfl) (ee_sub (ee_min2 rfl T.min (ee_var 6 rfl) (ee_var 9 rfl)) ee_int)) fun _ => ee_pr (ee_max2 rfl T.max (ee_var 5 rfl) (ee_var 9 rfl)) (ee_sub (ee_var 6 rfl) ee_int))) (ee_var 3 rfl) (by omega) mE_free
          (tr_go (tr_go (tr_done rfl (by repeat constructor) fun _ _ z => ?_)))
        unfold bStep
        rw [if_neg (by rw [h]; simp), if_pos h2]
        exact z
      · refine tr_go (tr_go (tr_done rfl (by repeat constructor) fun _ _ z => ?_))
        unfold bStep
        rw [if_neg (by rw [h]; simp), if_neg (by rw [h2]; simp)]
        exact z
  · exact tr_rt (EE.op 3 (ee_call1 c5 hr (ee_seqL (ee_var 3 rfl)) (Nat.le_trans hb (Nat.le_trans hzl (by decide)))) (fz_tup noTupL (fz_pr noTupL fz_int fz_int)) rfl)
theorem ok_least_around (c7 : Cal P w K mg base 2 "blended" (spBlended K)) (F : Fun K "least_around" "least_around" (tS 9) f fd) : FnE P w K mg base 3 f (spAround K) := by
  refine fn_pm F sc9 (fun _ => rfl) (fun _ _ _ _ _ _ us hl => match us, hl with | [_, _], _ => rfl) fun q B0 H0 y hr hp => ?_
  exact tr_rt (EE.m (ee_call3 c7 hr (ee_var 0 rfl) (ee_var 1 rfl) ee_bl hp))
end
end K81
set_option Elab.async false
set_option linter.all false
set_option maxRecDepth 100000
set_option maxHeartbeats 1900000
namespace K81
open PySem L2
theorem cut_toI {α : Type} (xs : List α) {z : Int} (h : 0 ≤ z) : cut xs none (some z) = xs.take z.toNat := by
  obtain ⟨n, rfl⟩ := Int.eq_ofNat_of_zero_le h
  exact cut_to xs n
theorem cut_fromI {α : Type} (xs : List α) {z : Int} (h : 0 ≤ z) : cut xs (some z) none = xs.drop z.toNat := by
  obtain ⟨n, rfl⟩ := Int.eq_ofNat_of_zero_le h
  exact cut_from xs n
/-- a list made here: it is told last -/
def tN (Γ : List Slot) {α : Type} (r : RT α) (xs : List α) : TE := fun σ H Q => ∃ B, Env B Γ σ ∧ Ex B H ∧ ∀ B2 H2 f vs, Go no B H B2 H2 → B2 f = none → H f = none → H2 f = some (.lst vs) → Vs r B2 vs xs → Q (.ref f) H2
def EN (X : Cx) (Γ : List Slot) {α : Type} (r : RT α) (e : Expr) (xs : List α) : Prop := PE X e (tN Γ r xs)
section
variable {X : Cx} {Γ Γ' : List Slot} {M M' : Mem} {α β γ : Type} {r : RT α} {s : RT β} {tg a b e : Expr} {es elts : List Expr} {pos p2 p tpos apos : Pos} {n : Str} {kk : Nat} {w : Addr → Prop} {B0 H0 BX : Hp} {D D' : Ends} {rest ss : List Stmt} {I : L2.St → Hp → Prop}
theorem ee_revL {xs : List α} {j : Nat} {p3 p4 : Pos} (ha : EE X Γ (rLst X.K r) a xs) : EE X Γ (rLst X.K r) (.Subscript a (.Slice none none (some (.UnaryOp .USub (.Constant (.int 1) j p3) p4)) p2) pos) xs.reverse := by
  refine PE.imp (pe_revL ha) fun σ H Q ⟨B, en, ex, q⟩ => ⟨B, en, ex, fun u B1 H1 g1 r1 => ?_⟩
  obtain ⟨c, vs, e1, e2, e3⟩ := r1
  exact ⟨c, vs, e1, g1.i.lst e2, fun p hp => q _ (upd B1 p (.lst vs.reverse)) _ (g1.tr (Go.new g1.i hp)) ⟨p, _, rfl, upd_same, e3.rev.mono (Ex.new (g1.i.back hp))⟩⟩
theorem en_lst {xs : List α} (h : EL X Γ r es xs) (hl : xs.length ≤ 100000) : EN X Γ r (.List es pos) xs :=
  PE.imp (pe_lst h) fun σ H Q ⟨B, en, ex, q⟩ => ⟨B, en, ex, fun vs B1 H1 g1 r1 => ⟨by rw [r1.len]; exact big hl, fun p hp => q B1 _ p vs (g1.tr (Go.newH g1.i hp)) (g1.i.back hp) (g1.hx.back hp) upd_same r1⟩⟩
theorem en_if {c : Expr} {x : Bool} {y z : List α} (hc : EB X Γ c x) (ha : x = true → EN X Γ r a y) (hb : x = false → EN X Γ r b z) : EN X Γ r (.IfExp c a b pos) (if x then y else z) := by
  cases x with
  | true =>
    refine PE.imp (pe_ifExp hc (ha rfl) (tb := fun _ _ _ => False) ⟨fun _ _ _ _ _ _ h => h.elim⟩) fun σ H Q ⟨B, en, ex, q⟩ => ⟨B, en, ex, fun B1 H1 g1 => iteT ?_⟩
    exact ⟨B1, en.mono g1.b, g1.i, fun B2 H2 f vs g2 h1 h2 h3 h4 => q B2 H2 f vs (g1.tr g2) h1 (g1.hx.back h2) h3 h4⟩
  | false =>
    refine PE.imp (pe_ifExp hc (ta := fun _ _ _ => False) ⟨fun _ _ _ _ _ _ h => h.elim⟩ (hb rfl)) fun σ H Q ⟨B, en, ex, q⟩ => ⟨B, en, ex, fun B1 H1 g1 => iteF ?_⟩
    exact ⟨B1, en.mono g1.b, g1.i, fun B2 H2 f vs g2 h1 h2 h3 h4 => q B2 H2 f vs (g1.tr g2) h1 (g1.hx.back h2) h3 h4⟩
/-- list(xs) -/
theorem en_listOf {xs : List α} (hm : X.mg "list" = none) (ha : EE X Γ (rSeq X.K r) a xs) (hg : Gl X "list" := by rfl) (he : starEach [a] X.env = (false, eval a X.env) :: starEach [] X.env := by rfl) : EN X Γ r (.Call (.Name "list" p) [a] [] pos) xs :=
  PE.imp (pe_callTy call_list_of hg hm (by rfl) (ea_cons ha ea_nil he) (by decide) (by decide) he) fun σ H Q ⟨B, en, ex, q⟩ => ⟨B, en, ex, fun vs B1 H1 g1 r1 => by
    cases r1 with
    | cons r1 r2 =>
      cases r2
      obtain ⟨c, us, e1, e2, e3⟩ := r1
      exact ⟨c, us, by rw [e1], e2.imp g1.i.sqL g1.i.sqT, fun l hl => q B1 _ l us (g1.tr (Go.newH g1.i hl)) (g1.i.back hl) (g1.hx.back hl) upd_same e3⟩⟩
/-- f = a list made here, to be changed -/
theorem tr_newN (i : Nat) {x : Str} {xs : List β} (hN : X.N.Nodup) (h : EN X Γ s e xs) (k : ∀ f, H0 f = none → Tr X (At w B0 H0 BX (Γ.set i (sl (rAdr f) ())) (mA M (mL w H0 f s xs))) rest D) (hi : X.N[i]? = some x := by rfl) (hx : Loc X.env.scope x := by first | exact Or.inl rfl | exact Or.inr rfl)
    (hs : swapsWith e (some (.Name x p)) pos.line X.env = pure false := by rfl) (hf : X.fn x = true ∨ X.env.scope.names.lookup x = some .local := by first | exact .inl rfl | exact .inr rfl) :
    Tr X (At w B0 H0 BX Γ M) (.Assign [.Name x p] e pos :: rest) D :=
  tr_cons (ps_set hN hi hx h hs hf) fun σ H ⟨B, g, bx, en, m⟩ => ⟨B, en, g.i, fun B2 H2 f vs g2 h1 h2 h3 h4 => by
    have h00 : H0 f = none := by
      cases q : H0 f with
      | none => rfl
      | some o => exact absurd h2 (g.e f (by rw [q]; simp))
    exact (k f h00).wk _ _ ⟨B2, g.tr g2.w, bx.tr g2.b, (en.mono g2.b).set (s := sl (rAdr f) ()) (o := some (V.ref f)) ⟨_, rfl, rfl⟩ i, M.st g2 m, h1, .inl h00, vs, h3, h4⟩⟩
/-- return f, the list itself -/
theorem tr_rtL {K : Fr} {N : Mem} {f : Addr} {xs : List β} (hf : EE X Γ (rAdr f) a ()) (hD : D.rt = Rt w B0 H0 (rLst K s) xs) (h0 : H0 f = none) : Tr X (At w B0 H0 BX Γ (mA N (mL w H0 f s xs))) (.Return (some a) pos :: rest) D :=
  tr_cons (ps_ret hf) fun σ H ⟨B, g, bx, en, m⟩ => ⟨B, en, g.i, fun v B2 H2 g2 rv => by
    have rv : v = .ref f := rv
    subst rv
    obtain ⟨_, hB, _, vs, hH, hv⟩ := (mA N (mL w H0 f s xs)).st g2 m
    show D.rt _ _
    rw [hD]
    exact ⟨upd B2 f (.lst vs), (g.tr g2.w).show hB h0 hH, f, vs, rfl, upd_same, hv.mono (Ex.new hB)⟩⟩
end
end K81
set_option Elab.async false
set_option linter.all false
set_option maxRecDepth 100000
set_option maxHeartbeats 1900000
namespace K81
open PySem L2
abbrev spLeastIn (K : Fr) : Sp := Pm1 (rForm K) rInt (fun form => form.length ≤ 1000) leastIn
abbrev spFloors (K : Fr) : Sp := Pm1 (rForm K) (rForm K) (fun form => form.length ≤ 1000) floorsIn
abbrev spFormWith (K : Fr) : Sp := Pm1 (rLst K (rPr K rInt rInt)) (rForm K) (fun form => form.length ≤ 1000) formWith
abbrev spBehind (K : Fr) : Sp := Pm2 (rForm K) (rForm K) (rForm K) (fun one other => one.length ≤ 400 ∧ 0 < other.length ∧ other.length ≤ 400) formBehind
theorem aStep_len (form : Form) (acc : List Form) (q : Int × Int × Int) : (aStep form acc q).length ≤ acc.length + 1 := by
  unfold aStep
  split <;> simp
theorem floors_len (form : Form) : (floorsIn form).length = form.length := by
  unfold floorsIn
  have h : ∀ (l : Form) (a : Form × Int), (l.foldl fStep a).1.length = a.1.length + l.length := by
    intro l
    induction l with
    | nil => intro a; simp
    | cons x l ih => intro a; rw [List.foldl_cons, ih]; simp [fStep]; omega
  rw [h]; simp
theorem firstD_at {form : Form} (h : 0 < form.length) : atI form 0 = some (firstD form) := by
  cases form with
  | nil => simp at h
  | cons a l => exact atI_nat (j := 0) rfl
section
variable {P : Program} {w : World} {K : Fr} {mg : Str → Option Value} {base : Heap} {f : Addr} {fd : FuncData}
theorem ok_just_above (T : Bn mg) (c2 : Cal P w K mg base 1 "many_from" (spMany K)) (c3 : Cal P w K mg base 1 "has" (spHas K)) (c5 : Cal P w K mg base 1 "joined" (spJoined K)) (F : Fun K "just_above" "just_above" (tS 10) f fd) : FnE P w K mg base 2 f (spAbove K) := by
  refine fn_pm F sc10 (fun _ => rfl) (fun _ _ _ _ _ _ us hl => match us, hl with | [_], _ => rfl) fun q B0 H0 y hr ⟨hp, h0⟩ => ?_
  have hp : y.length ≤ 15 := hp
  refine tr_newN 1 sc10.nd (en_if (eb_and (eb_val (ee_call2 c3 hr (ee_var 0 rfl) ee_int hp)) fun _ => eb_gt (ee_call2 c2 hr (ee_var 0 rfl) ee_int hp) ee_int)
    (fun _ => en_lst (el_cons (ee_call1 c5 hr (ee_seqL (ee_lst (el_cons (ee_pr ee_int (ee_snd (ee_ixT (ee_var 0 rfl) ee_int (firstD_at h0)) ee_int)) (el_star (ee_seqT (ee_eq (ee_slT (ee_var 0 rfl) (eo_some ee_int) eo_none) (cut_from _ 1))) el_nil)) (by simp; omega))) (by simp; omega)) el_nil) (by simp))
    fun _ => en_lst el_nil (by simp)) fun o ho => ?_
  refine tr_fold (aStep y) _ (fun _ => [sl (rForm K) y, sl (rAdr o) (), none, none, none]) (fun acc => mA mE (mL no H0 o (rForm K) acc)) (fun i acc => acc.length ≤ i + 1) rfl
    (ei_enumT T.enumerate (ee_var 0 rfl)) (et_pr rfl (et_name 2 sc10.nd) (et_pr rfl (et_name 3 sc10.nd) (et_name 4 sc10.nd))) (by split <;> simp) (fun i x b hx hb => Nat.le_trans (aStep_len y b x) (by omega)) (by repeat constructor) (fun _ _ h => h)
    (fun BX e i x b hx hb => ?_) fun hb => ?_
  · have hi : i < 15 := by
      have h := (List.getElem?_eq_some_iff.mp hx).1
      rw [enumI_len] at h
      omega
    have h0 : 0 ≤ x.1 := by
      have := (enumI_at hx).1
      omega
    refine tr_if (EB.m (eb_gt (ee_var 3 rfl) ee_int)) (fun h => ?_) fun h => ?_
    · refine tr_app (EE.m (ee_call1 c5 hr (ee_seqL (ee_lst (el_star (ee_seqT (ee_eq (ee_slT (ee_var 0 rfl) eo_none (eo_some (ee_var 2 rfl))) (cut_toI _ h0))) (el_cons (ee_pr (ee_sub (ee_var 3 rfl) ee_int) (ee_sub (ee_var 3 rfl) ee_int)) (el_cons (ee_pr (ee_add (ee_var 3 rfl) ee_int) (ee_var 4 rfl))
        (el_star (ee_seqT (ee_eq (ee_slT (ee_var 0 rfl) (eo_some (ee_add (ee_var 2 rfl) ee_int)) eo_none) (cut_fromI _ (by omega)))) el_nil)))) ?_)) ?_)) (ee_var 1 rfl) (by omega) mE_free (tr_go (tr_done rfl (by repeat constructor) fun _ _ z => ?_))
      · simp only [List.length_append, List.length_cons, List.length_take, List.length_drop, List.length_nil]; omega
      · simp only [List.length_append, List.length_cons, List.length_take, List.length_drop, List.length_nil]; omega
      · rw [show aStep y b x = _ from if_pos h]
        rw [show (x.1 + 1).toNat = x.1.toNat + 1 by omega] at z
        exact z
    · refine tr_go (tr_done rfl (by repeat constructor) fun _ _ z => ?_)
      rw [show aStep y b x = b from if_neg (by rw [h]; simp)]
      exact z
  · exact tr_rtL (ee_var 1 rfl) rfl ho
theorem ok_least_in (T : Bn mg) (F : Fun K "least_in" "least_in" (tS 41) f fd) : FnE P w K mg base 1 f (spLeastIn K) := by
  refine fn_pm F sc41 (fun _ => rfl) (fun _ _ _ _ _ _ us hl => match us, hl with | [_], _ => rfl) fun q B0 H0 y hr hp => ?_
  exact tr_rt (EE.m (ee_sum rfl T.sum (ee_lc (own := [("first", 1), ("last", 2)]) (N := N41) (sc := defScope (tS 41)) rfl sc41.nd (by decide +kernel) (ei_tup (ee_var 0 rfl)) (fun q => et_pr rfl (et_name 1 sc41.nd) (et_name 2 sc41.nd))
    (fun q x hx => ee_add (ee_sub (ee_var 2 rfl) (ee_var 1 rfl)) ee_int) (Nat.le_trans hp (by decide)))))
theorem ok_floors_in (T : Bn mg) (F : Fun K "floors_in" "floors_in" (tS 42) f fd) : FnE P w K mg base 1 f (spFloors K) := by
  refine fn_pm F sc42 (fun _ => rfl) (fun _ _ _ _ _ _ us hl => match us, hl with | [_], _ => rfl) fun q B0 H0 y hr hp => ?_
  have hp : y.length ≤ 1000 := hp
  refine tr_new (s := rPr K rInt rInt) (xs := []) 1 sc42.nd el_nil (by decide) fun o ho => ?_
  refine tr_set 2 sc42.nd (EE.m ee_int) ?_
  refine tr_fold fStep ([], 0) (fun b => [sl (rForm K) y, sl (rAdr o) (), sl rInt b.2, none, none, none]) (fun b => mA mE (mL no H0 o (rPr K rInt rInt) b.1)) (fun i b => b.1.length = i) rfl
    (ei_tup (ee_revT (ee_var 0 rfl))) (et_pr rfl (et_name 3 sc42.nd) (et_name 4 sc42.nd)) rfl (fun i x b hx hb => by simp [fStep, hb]) (by repeat constructor) (fun _ _ h => h) (fun BX e i x b hx hb => ?_) fun hb => ?_
  · have hi : i < 1000 := by
      have h := (List.getElem?_eq_some_iff.mp hx).1
      rw [List.length_reverse] at h
      omega
    refine tr_set 5 sc42.nd (EE.m (ee_add (ee_var 4 rfl) (ee_var 2 rfl))) ?_
    refine tr_set 2 sc42.nd (EE.m (ee_add (ee_sub (ee_add (ee_var 2 rfl) (ee_var 4 rfl)) (ee_var 3 rfl)) ee_int)) ?_
    exact tr_app (EE.m (ee_pr (ee_var 2 rfl) (ee_var 5 rfl))) (ee_var 1 rfl) (by omega) mE_free (tr_done rfl (by repeat constructor) fun _ _ z => z)
  · exact tr_rt (EE.op 1 (ee_tupleOf T.tuple (ee_seqL (ee_var 1 rfl))) (fz_tup noTupL (fz_pr noTupL fz_int fz_int)) rfl)
theorem kept_len (floors : Form) : (keptOf floors).length ≤ floors.length := by
  unfold keptOf
  rw [List.length_map]
  refine Nat.le_trans (List.length_filter_le _ _) ?_
  rw [List.length_zip]
  omega
theorem ok_form_with (T : Bn mg) (F : Fun K "form_with" "form_with" (tS 43) f fd) : FnE P w K mg base 1 f (spFormWith K) := by
  refine fn_pm F sc43 (fun _ => rfl) (fun _ _ _ _ _ _ us hl => match us, hl with | [_], _ => rfl) fun q B0 H0 y hr hp => ?_
  have hp : y.length ≤ 1000 := hp
  refine tr_setc (ea_lcIf 1 (own := [("own", 2), ("later", 3)]) (N := N43) (sc := defScope (tS 43)) rfl sc43.nd (by decide +kernel)
    (ei_zipL T.zip (ee_var 0 rfl) (ee_lst (el_star (ee_seqL (ee_eq (ee_slL (ee_var 0 rfl) (eo_some ee_int) eo_none) (cut_from _ 1))) (el_cons (ee_pr ee_int ee_int) el_nil)) (by simp only [List.length_append, List.length_drop, List.length_cons, List.length_nil]; omega)))
    (fun q => et_pr rfl (et_name 2 sc43.nd) (et_name 3 sc43.nd)) (fun q x hx => eb_neI (ee_snd (ee_var 3 rfl) ee_int) (ee_snd (ee_var 2 rfl) ee_int)) (fun q x hx hpx => ee_var 2 rfl) (by rw [List.length_zip]; omega)) ?_
  refine tr_new (s := rPr K rInt rInt) (xs := []) 4 sc43.nd el_nil (by decide) fun o ho => ?_
  refine tr_set 5 sc43.nd (EE.m ee_int) ?_
  refine tr_fold wStep ([], 0) (fun b => [sl (rLst K (rPr K rInt rInt)) y, sl (rLst K (rPr K rInt rInt)) (keptOf y), none, none, sl (rAdr o) (), sl rInt b.2, none, none]) (fun b => mA mE (mL no H0 o (rPr K rInt rInt) b.1)) (fun i b => b.1.length = i) rfl
    (ei_lst (ee_var 1 rfl)) (et_pr rfl (et_name 6 sc43.nd) (et_name 7 sc43.nd)) rfl (fun i x b hx hb => by simp [wStep, hb]) (by repeat constructor) (fun _ _ h => h) (fun BX e i x b hx hb => ?_) fun hb => ?_
  · have hi : i < 1000 := Nat.lt_of_lt_of_le (List.getElem?_eq_some_iff.mp hx).1 (Nat.le_trans (kept_len y) hp)
    refine tr_app (EE.m (ee_pr (ee_add (ee_sub (ee_var 7 rfl) (ee_var 6 rfl)) ee_int) (ee_sub (ee_var 7 rfl) (ee_var 5 rfl)))) (ee_var 4 rfl) (by omega) mE_free ?_
    refine tr_set 5 sc43.nd (EE.m (ee_var 6 rfl)) ?_
    exact tr_done rfl (by repeat constructor) fun _ _ z => z
  · exact tr_rt (EE.op 4 (ee_tupleOf T.tuple (ee_seqL (ee_revL (ee_var 4 rfl)))) (fz_tup noTupL (fz_pr noTupL fz_int fz_int)) rfl)
theorem ok_form_behind (T : Bn mg) (c41 : Cal P w K mg base 1 "least_in" (spLeastIn K)) (c42 : Cal P w K mg base 1 "floors_in" (spFloors K)) (c43 : Cal P w K mg base 1 "form_with" (spFormWith K)) (F : Fun K "form_behind" "form_behind" (tS 45) f fd) : FnE P w K mg base 2 f (spBehind K) := by
  refine fn_pm F sc45 (fun _ => rfl) (fun _ _ _ _ _ _ us hl => match us, hl with | [_, _], _ => rfl) fun q B0 H0 y hr hp => ?_
  obtain ⟨one, other⟩ := y
  have hp : one.length ≤ 400 ∧ 0 < other.length ∧ other.length ≤ 400 := hp
  refine tr_tg (EE.m (ee_pr (ee_snd (ee_ixT (ee_var 1 rfl) (ee_neg ee_int) (atI_last' (lastD_get hp.2.1))) ee_int) (ee_call1 c41 hr (ee_var 0 rfl) (by show _ ≤ 1000; omega)))) (et_pr rfl (et_name 2 sc45.nd) (et_name 3 sc45.nd)) ?_
  refine tr_setc (ea_lc (s := rPr K rInt rInt) 4 (own := [("size", 5), ("rows", 6)]) (N := N45) (sc := defScope (tS 45)) rfl sc45.nd (by decide +kernel) (ei_tup (ee_call1 c42 hr (ee_var 0 rfl) (by show _ ≤ 1000; omega))) (fun q => et_pr rfl (et_name 5 sc45.nd) (et_name 6 sc45.nd))
    (fun q x hx => ee_pr (ee_var 5 rfl) (ee_max2 rfl T.max (ee_var 6 rfl) (ee_var 2 rfl))) (by rw [floors_len]; omega)) ?_
  have hl : (((floorsIn other).filter fun q => decide (leastIn one < q.1)).map fun q => (q.1, q.2)).length ≤ 400 := by
    rw [List.length_map]
    exact Nat.le_trans (List.length_filter_le _ _) (by rw [floors_len]; exact hp.2.2)
  refine tr_rt (EE.m (ee_call1 c43 hr (ee_catL (ee_var 4 rfl) (ee_lcIf (s := rPr K rInt rInt) (own := [("size", 5), ("rows", 6)]) (N := N45) (sc := defScope (tS 45)) rfl sc45.nd (by decide +kernel) (ei_tup (ee_call1 c42 hr (ee_var 1 rfl) (by show _ ≤ 1000; omega))) (fun q => et_pr rfl (et_name 5 sc45.nd) (et_name 6 sc45.nd))
    (fun q x hx => eb_gt (ee_var 5 rfl) (ee_var 3 rfl)) (fun q x hx hpx => ee_pr (ee_var 5 rfl) (ee_var 6 rfl)) (by rw [floors_len]; omega)) ?_) ?_))
  · rw [List.length_map, floors_len]
    exact Nat.le_trans (Nat.add_le_add_left hl _) (by omega)
  · rw [List.length_append, List.length_map, floors_len]
    exact Nat.le_trans (Nat.add_le_add_left hl _) (by omega)
end
end K81
set_option Elab.async false
set_option linter.all false
set_option maxRecDepth 100000
set_option maxHeartbeats 1900000
namespace K81
open PySem L2
/-! ### instances made and changed -/
/-- the instance at a, to be changed -/
def mI (w : Addr → Prop) (H0 : Hp) (a C : Addr) (fds : List (Str × Dat)) : Mem := ⟨fun B H => B a = none ∧ (H0 a = none ∨ w a) ∧ ∃ dx vs, H a = some (.ins C dx vs) ∧ FOk B vs fds, fun g ⟨h1, h2, dx, vs, h3, h4⟩ => ⟨g.n a (by rw [h3]; simp) h1, h2, dx, vs, g.hx _ _ h3, h4.mono g.b⟩⟩
/-- an instance with these attributes -/
def rRaw (C : Addr) (fds : List (Str × Dat)) : RT Unit := rIns C (fun _ => fds) (fun _ => True)
def gFld (K : Fr) (to : TE) (f : Str) : TG := fun v σ H Q => to σ H fun x H1 => ∃ a C dx fs, x = .ref a ∧ H1 a = some (.ins C dx fs) ∧ Cls K C ∧ NoAttr K C f ∧ fs.length < 1000 ∧ Q σ (upd H1 a (.ins C dx (putF f v fs)))
theorem pg_fld {X : Cx} {o : Expr} {f : Str} {pos : Pos} {to : TE} (ho : PE X o to) : PG X (.Attribute o f pos) (gFld X.K to f) := by
  refine ⟨fun pins s σ H v u Q I rv h => ?_⟩
  rw [assign_Attribute]
  refine wpAny_bind (wpAny_holding (thn (ho.run pins s σ H _ I h) fun ov s1 ⟨x, H1, I1, rx, a, C, dx, fs, ex, ea, c, n, l, q⟩ => ?_))
  subst ex
  obtain rfl : ov = Value.ref a := rx
  exact wpAny_bind (wpAny_standAt (wpAny_bind (wpAny_holding (setattr_ok I1 ea c n l rv fun s' I' => wpAny_release ⟨σ, _, I', q⟩))))
/-- a promise of an __init__ -/
def PmI {A : Type} (C : Addr) (ds : A → List Dat) (pre : A → Prop) (fds : A → List (Str × Dat)) : Sp := fun vs H Q _ => ∃ B x a dx us, vs = .ref a :: us ∧ Ex B H ∧ B a = none ∧ H a = some (.ins C dx []) ∧ Reps B us (ds x) ∧ pre x ∧
  ∀ B2 H2 dx' vs', Go (fun b => b = a) B H B2 H2 → B2 a = none → H2 a = some (.ins C dx' vs') → FOk B2 vs' (fds x) → Q .non H2
/-- a class by its name -/
def Mkr (P : Program) (w : World) (K : Fr) (mg : Str → Option Value) (base : Heap) (k : Nat) (n : Str) (C : Addr) (sp : Sp) : Prop := ∃ f, mg n = some (.ref C) ∧ Mk K C f ∧ FnR P w K mg base CX0 k f sp
def endsI (C : Addr) (B0 H0 : Hp) (a : Addr) (fds : List (Str × Dat)) : Ends := { nx := fun _ H => ∃ B dx vs, Go (fun b => b = a) B0 H0 B H ∧ B a = none ∧ H a = some (.ins C dx vs) ∧ FOk B vs fds, rt := fun _ _ => False }
section
variable {P : Program} {w : World} {K : Fr} {mg : Str → Option Value} {base : Heap} {k : Nat} {f : Addr} {fd : FuncData} {N ps : List Str} {x qual : Str} {st : Stmt}
/-- an __init__ keeps its promise -/
theorem fn_init {A : Type} {C : Addr} {ds : A → List Dat} {pre : A → Prop} {fds : A → List (Str × Dat)} (F : Fun K x qual st f fd) (S : FnScope N ps (defScope st)) (hl : ∀ x, (ds x).length + 1 = ps.length)
    (hb : ∀ (kV doc pm : Value) (an : Option Addr) (cdv ct : Value) (us : List Value), us.length = ps.length → bindArgs (PySem.W.fnOf x qual (defArgs st) (defBody st) (defScope st) .none kV doc pm an cdv ct) ⟨us, []⟩ = pure (ps.zip us))
    (body : ∀ (q : Ent) (B0 H0 : Hp) (a : Addr) (y : A), Room k (cxE P w K mg base N qual st f q).A → pre y → Tr (cxE P w K mg base N qual st f q) (At (fun b => b = a) B0 H0 B0 (g0 (dt (rAdr a) () :: ds y) N.length) (mA mE (mI (fun b => b = a) H0 a C []))) (defBody st) (endsI C B0 H0 a (fds y))) : FnE P w K mg base (k + 1) f (PmI C ds pre fds) := by
  refine ⟨fd, ps, F.ok S (fun vs H Q E ⟨B, y, a, dx, us, e, _, _, _, r, _⟩ => by rw [e, List.length_cons, r.len, hl]) (fun cdv A outer s0 H vs Q E hr ⟨B, y, a, dx, us, e, ex, hB, hH, r, hp, q⟩ => ?_), F.binds hb⟩
  subst e
  refine ⟨fun D σ H1 => D = { nx := fun _ H' => Q .non H', rt := Q } ∧ σ = L2.start N (.ref a :: us) ∧ H1 = H, ⟨fun pins s1 σ H1 D I ⟨e1, e2, e3⟩ => ?_⟩, rfl, rfl, rfl⟩
  subst e1 e2 e3
  refine wpAny_mono (body ⟨cdv, A, outer, s0, H1, E⟩ B H1 a y hr hp pins s1 (L2.start N (.ref a :: us)) H1 I ⟨B, Go.rf ex, Ex.rfl', env0 N (.cons rfl r), trivial, hB, .inr rfl, dx, [], hH, .nil⟩) (fun fl s2 hq => ?_) fun _ _ z => z
  cases fl with
  | ret u =>
    obtain ⟨_, _, _, _, _, z⟩ := hq
    exact z.elim
  | next =>
    obtain ⟨σ', H', J, B2, dx', vs, g2, h1, h2, h3⟩ := hq
    exact ⟨σ', H', J, q B2 H' dx' vs g2 h1 h2 h3⟩
  | brk =>
    obtain ⟨_, _, _, z⟩ := hq
    exact z.elim
  | cont =>
    obtain ⟨_, _, _, z⟩ := hq
    exact z.elim
end
section
variable {X : Cx} {Γ Γ' : List Slot} {M M' : Mem} {α β γ : Type} {r : RT α} {s : RT β} {tg a b e o : Expr} {es elts : List Expr} {pos p2 p tpos apos : Pos} {n : Str} {kk j k : Nat} {w : Addr → Prop} {B0 H0 BX : Hp} {D D' : Ends} {rest ss : List Stmt} {I : L2.St → Hp → Prop}
/-- the reading of a making -/
theorem make_go {C : Addr} {B1 H1 B2 H2 : Hp} {x dx dx' : Addr} {vs' : List (Str × V)} (i1 : Ex B1 H1) (hx : H1 x = none) (hdx : H1 dx = none) (g : Go (fun b => b = x) B1 (upd (upd H1 dx (.own x)) x (.ins C dx [])) B2 H2) (h1 : B2 x = none) (h2 : H2 x = some (.ins C dx' vs')) : Go no B1 H1 (upd B2 x (.ins C dx' vs')) H2 := by
  have up : ∀ a, H1 a ≠ none → (upd (upd H1 dx (.own x)) x (.ins C dx [])) a = H1 a := fun a h0 => by rw [upd_ne (ne_cell h0 hx), upd_ne (ne_cell h0 hdx)]
  refine ⟨fun a u e => ?_, fun a u _ e => g.h a u (ne_of_none e hx) (by rw [up a (by rw [e]; simp)]; exact e), fun a u e => ?_, fun a h0 hb => ?_, fun a h0 => g.e a (by rw [up a h0]; exact h0)⟩
  · rw [upd_ne (ne_of_none (i1 a u e) hx)]
    exact g.b a u e
  · by_cases q : a = x
    · subst q; rw [upd_same] at e; rw [h2]; exact e
    · rw [upd_ne q] at e; exact g.i a u e
  · rw [upd_ne (ne_cell h0 hx)]
    exact g.n a (by rw [up a h0]; exact h0) hb
theorem ee_makeA {A : Type} {C : Addr} {ds : A → List Dat} {pre : A → Prop} {fds : A → List (Str × Dat)} {F : β → List (Str × Dat)} {pr : β → Prop} {y : β} (cl : Mkr X.prog X.w X.K X.mg X.base j n C (PmI C ds pre fds)) (hr : Room k X.A) (hk : j + 1 ≤ k) (x : A) (ha : EA X Γ (a :: es) (ds x)) (hp : pre x) (hF : fds x = F y) (hpr : pr y) (hg : Gl X n := by rfl) (hdb : (n == ("__debug__" : Str)) = false := by decide)
    (he : starEach (a :: es) X.env = (false, eval a X.env) :: starEach es X.env := by rfl) (hpl : (backTo pos (starEach es X.env)).any (·.1) = false := by rfl) : EE X Γ (rIns C F pr) (.Call (.Name n p) (a :: es) [] pos) y := by
  obtain ⟨f, h1, h2, FF⟩ := cl
  exact PE.imp (StX.pe_makeR h2 FF (hr.mono hk) hg h1 (pass0 (X := X)) ha hdb he hpl) fun σ H Q ⟨B, en, ex, q⟩ => ⟨B, en, ex, fun vs B1 H1 g1 rv x' dx hx hdx hne => ⟨B1, x, x', dx, vs, rfl, (g1.i.tr ((Ex.new hdx).tr (Ex.new (by rw [upd_ne hne.symm]; exact hx)))), g1.i.back hx, upd_same, rv, hp, fun B2 H2 dx' vs' g2 k1 k2 k3 =>
    ⟨rfl, q _ (upd B2 x' (.ins C dx' vs')) H2 (g1.tr (make_go g1.i hx hdx g2 k1 k2)) ⟨hpr, x', dx', vs', rfl, upd_same, by rw [← hF]; exact k3.mono (Ex.new k1)⟩⟩⟩⟩
theorem ee_make1 {x : α} {C : Addr} {pre : α → Prop} {fds : α → List (Str × Dat)} {F : β → List (Str × Dat)} {pr : β → Prop} {y : β} (cl : Mkr X.prog X.w X.K X.mg X.base j n C (PmI C (fun x => [dt r x]) pre fds)) (hr : Room k X.A) (ha : EE X Γ r a x) (hp : pre x) (hF : fds x = F y) (hpr : pr y) (hk : j + 1 ≤ k := by decide) (hg : Gl X n := by rfl) (hdb : (n == ("__debug__" : Str)) = false := by decide)
    (he : starEach [a] X.env = (false, eval a X.env) :: starEach [] X.env := by rfl) : EE X Γ (rIns C F pr) (.Call (.Name n p) [a] [] pos) y := ee_makeA cl hr hk x (ea_cons ha ea_nil he) hp hF hpr hg hdb he
theorem ee_make2 {x : α} {z : γ} {t : RT γ} {C : Addr} {pre : α × γ → Prop} {fds : α × γ → List (Str × Dat)} {F : β → List (Str × Dat)} {pr : β → Prop} {y : β} (cl : Mkr X.prog X.w X.K X.mg X.base j n C (PmI C (fun x : α × γ => [dt r x.1, dt t x.2]) pre fds)) (hr : Room k X.A) (ha : EE X Γ r a x) (hb : EE X Γ t b z) (hp : pre (x, z)) (hF : fds (x, z) = F y) (hpr : pr y) (hk : j + 1 ≤ k := by decide) (hg : Gl X n := by rfl) (hdb : (n == ("__debug__" : Str)) = false := by decide)
    (he : starEach [a, b] X.env = (false, eval a X.env) :: starEach [b] X.env := by rfl) (he2 : starEach [b] X.env = (false, eval b X.env) :: starEach [] X.env := by rfl) (hpl : (backTo pos (starEach [b] X.env)).any (·.1) = false := by rfl) : EE X Γ (rIns C F pr) (.Call (.Name n p) [a, b] [] pos) y :=
  ee_makeA cl hr hk (x, z) (ea_cons ha (ea_cons hb ea_nil he2) he) hp hF hpr hg hdb he hpl
/-- C(), the one default given -/
theorem ee_make0 {fm : Addr} {fd : FuncData} {ps : List Str} {dv : Value} {d : V} {x : α} {C : Addr} {pre : α → Prop} {fds : α → List (Str × Dat)} {F : β → List (Str × Dat)} {pr : β → Prop} {y : β} (FF : FnOk X.prog X.w X.K X.mg X.base CX0 j fm fd ps (PmI C (fun x => [dt r x]) pre fds)) (h1 : X.mg n = some (.ref C)) (h2 : Mk X.K C fm) (hbd : Binds X.K fd ps [dv]) (hd : RelV d dv) (hr : Room k X.A) (hx : ∀ B, r.rep B d x) (hp : pre x) (hF : fds x = F y) (hpr : pr y) (hk : j + 1 ≤ k := by decide) (hg : Gl X n := by rfl) (hdb : (n == ("__debug__" : Str)) = false := by decide) : EE X Γ (rIns C F pr) (.Call (.Name n p) [] [] pos) y :=
  PE.imp (pe_make0 h2 FF (hr.mono hk) hg h1 hbd (dvs := [d]) (.cons hd .nil) (pass0 (X := X)) hdb) fun σ H Q ⟨B, en, ex, q⟩ => fun x' dx hx' hdx hne => ⟨B, x, x', dx, [d], rfl, (ex.tr ((Ex.new hdx).tr (Ex.new (by rw [upd_ne hne.symm]; exact hx')))), ex.back hx', upd_same, .cons (hx B) .nil, hp, fun B2 H2 dx' vs' g2 k1 k2 k3 =>
    ⟨rfl, q _ (upd B2 x' (.ins C dx' vs')) H2 (make_go ex hx' hdx g2 k1 k2) ⟨hpr, x', dx', vs', rfl, upd_same, by rw [← hF]; exact k3.mono (Ex.new k1)⟩⟩⟩
/-- o.f = e -/
theorem tr_fld {N : Mem} {c C : Addr} {fds : List (Str × Dat)} {x : α} (h : EM X Γ (mA N (mI w H0 c C fds)) r e x) (hf : EE X Γ (rAdr c) o ()) (hC : Cls X.K C) (hA : NoAttr X.K C n) (hl : fds.length < 1000) (hN : MFree N c) (kk : Tr X (At w B0 H0 BX Γ (mA N (mI w H0 c C (putD n ⟨α, r, x⟩ fds)))) rest D)
    (hs : swapsWith e (some (.Attribute o n p)) pos.line X.env = pure false := by rfl) : Tr X (At w B0 H0 BX Γ (mA N (mI w H0 c C fds))) (.Assign [.Attribute o n p] e pos :: rest) D :=
  tr_cons (ps_fld hf h hs) fun σ H ⟨B, g, bx, en, m⟩ => ⟨B, en, g.i, m, fun u B1 H1 g1 ru => ⟨B1, en.mono g1.b, g1.i, fun v B2 H2 g2 rv => by
    have rv : v = .ref c := rv
    subst rv
    obtain ⟨mn2, hB2, hw2, dx, vs, hH2, hv2⟩ := (mA N (mI w H0 c C fds)).st (g1.tr g2) m
    exact ⟨c, C, dx, vs, rfl, hH2, hC, hA, by rw [hv2.len]; exact hl, kk.wk _ _ ⟨B2, ((g.tr g1.w).tr g2.w).mut hB2 hw2, bx.tr (g1.tr g2).b, en.mono (g1.tr g2).b, hN _ _ _ mn2, hB2, hw2, dx, _, upd_same, hv2.put (r.mono g2.b ru)⟩⟩⟩⟩
/-- o.f, while o is changed -/
theorem em_fld {N : Mem} {c C : Addr} {fds : List (Str × Dat)} {x : α} (hf : EE X Γ (rAdr c) o ()) (hC : Cls X.K C) (hA : NoAttr X.K C n) (hy : fds.lookup n = some ⟨α, r, x⟩) (hb : attributeBase o n X.env (eval o X.env) = eval o X.env := by rfl) : EM X Γ (mA N (mI w H0 c C fds)) r (.Attribute o n pos) x :=
  PE.imp (pe_fld hf hb) fun σ H Q ⟨B, en, ex, m, q⟩ => ⟨B, en, ex, fun v B1 H1 g1 rv => by
    have rv : v = .ref c := rv
    subst rv
    obtain ⟨mn2, hB2, hw2, dx, vs, hH2, hv2⟩ := (mA N (mI w H0 c C fds)).st g1 m
    obtain ⟨z, h1, h2⟩ := hv2.look hy
    exact ⟨c, C, dx, vs, z, rfl, hH2, hC, hA, h1, q z B1 H1 g1 h2⟩⟩
/-- the instance itself is read: i is its slot -/
theorem EE.opI {N : Mem} {c C : Addr} {fds : List (Str × Dat)} {x : α} (i : Nat) (h : EE X (Γ.set i (sl (rRaw C fds) ())) r e x) (hz : Fz (isI C) r) (hi : Γ[i]? = some (sl (rAdr c) ())) : EM X Γ (mA N (mI w H0 c C fds)) r e x :=
  PE.imp h fun σ H Q ⟨B, en, ex, ⟨_, hf, _, dx, vs, hH, hv⟩, q⟩ => by
    obtain ⟨v, h1, h2⟩ := en.get hi
    have h2 : v = .ref c := h2
    subst h2
    have en2 := Env.set (s := sl (rRaw C fds) ()) (o := some (V.ref c)) ⟨_, rfl, trivial, c, dx, vs, rfl, upd_same, hv.mono (Ex.new hf)⟩ i (en.put (o := .ins C dx vs) hf)
    have e3 : σ.set i (some (V.ref c)) = σ := by
      obtain ⟨hl, hh⟩ := List.getElem?_eq_some_iff.mp h1
      rw [← hh]; exact List.set_getElem_self hl
    rw [e3] at en2
    refine ⟨upd B c _, en2, fun a u ha => ?_, fun v B2 H2 g rv => ?_⟩
    · by_cases q : a = c
      · subst q; rw [upd_same] at ha; rw [hH]; exact ha
      · rw [upd_ne q] at ha; exact ex a u ha
    · obtain ⟨g2, h4⟩ := open_go ex hf hH g
      exact q v _ H2 g2 (hz _ c _ v x h4 rfl rv)
theorem EB.opI {N : Mem} {c C : Addr} {fds : List (Str × Dat)} {x : Bool} (i : Nat) (h : EB X (Γ.set i (sl (rRaw C fds) ())) e x) (hi : Γ[i]? = some (sl (rAdr c) ())) : EBM X Γ (mA N (mI w H0 c C fds)) e x :=
  PT.imp h fun σ H Q ⟨B, en, ex, ⟨_, hf, _, dx, vs, hH, hv⟩, q⟩ => by
    obtain ⟨v, h1, h2⟩ := en.get hi
    have h2 : v = .ref c := h2
    subst h2
    have en2 := Env.set (s := sl (rRaw C fds) ()) (o := some (V.ref c)) ⟨_, rfl, trivial, c, dx, vs, rfl, upd_same, hv.mono (Ex.new hf)⟩ i (en.put (o := .ins C dx vs) hf)
    have e3 : σ.set i (some (V.ref c)) = σ := by
      obtain ⟨hl, hh⟩ := List.getElem?_eq_some_iff.mp h1
      rw [← hh]; exact List.set_getElem_self hl
    rw [e3] at en2
    refine ⟨upd B c _, en2, fun a u ha => ?_, fun B2 H2 g => ?_⟩
    · by_cases q : a = c
      · subst q; rw [upd_same] at ha; rw [hH]; exact ha
      · rw [upd_ne q] at ha; exact ex a u ha
    · obtain ⟨g2, h4⟩ := open_go ex hf hH g
      exact q _ H2 g2
/-- o.f, o.g = e: two attributes of the one instance -/
theorem tr_fld2 {N : Mem} {c C : Addr} {fds : List (Str × Dat)} {x : α} {y : β} {n2 : Str} {p3 pt : Pos} {kt : Nat} {o2 : Expr} (h : EM X Γ (mA N (mI w H0 c C fds)) (rPr X.K r s) e (x, y)) (hf : EE X Γ (rAdr c) o ()) (hf2 : EE X Γ (rAdr c) o2 ()) (hc : X.calm = true) (hC : Cls X.K C) (hA : NoAttr X.K C n) (hA2 : NoAttr X.K C n2) (hl : fds.length < 998) (hN : MFree N c)
    (kk : Tr X (At w B0 H0 BX Γ (mA N (mI w H0 c C (putD n2 ⟨β, s, y⟩ (putD n ⟨α, r, x⟩ fds))))) rest D)
    (hs1 : (assignEach [.Attribute o n p, .Attribute o2 n2 p3] X.env).map (·.2) = assign (.Attribute o n p) X.env :: (assignEach [.Attribute o2 n2 p3] X.env).map (·.2) := by rfl) (hs2 : (assignEach [.Attribute o2 n2 p3] X.env).map (·.2) = assign (.Attribute o2 n2 p3) X.env :: (assignEach [] X.env).map (·.2) := by rfl)
    (hn : (assignEach [.Attribute o n p, .Attribute o2 n2 p3] X.env).length = 2 := by rfl) (hst : (assignEach [.Attribute o n p, .Attribute o2 n2 p3] X.env).findIdx? (·.1) = none := by rfl)
    (hs : swapsWithSole [.Tuple [.Attribute o n p, .Attribute o2 n2 p3] kt pt] e pos.line X.env = pure false := by rfl) (hsw : swappedStores [.Tuple [.Attribute o n p, .Attribute o2 n2 p3] kt pt] e X.env = pure none := by rfl)
    (h1 : (assignEach [.Tuple [.Attribute o n p, .Attribute o2 n2 p3] kt pt] X.env).map (·.2) = [assign (.Tuple [.Attribute o n p, .Attribute o2 n2 p3] kt pt) X.env] := by rfl) :
    Tr X (At w B0 H0 BX Γ (mA N (mI w H0 c C fds))) (.Assign [.Tuple [.Attribute o n p, .Attribute o2 n2 p3] kt pt] e pos :: rest) D :=
  tr_cons (ps_asg h (pg_tup hc (pgs_cons (pg_fld hf) (pgs_cons (pg_fld hf2) pgs_nil hs2) hs1) hn hst) hs hsw h1) fun σ H ⟨B, g, bx, en, m⟩ => ⟨B, en, g.i, m, fun u B1 H1 g1 ⟨t, u1, u2, e1, e2, e3, e4⟩ => ⟨t, [u1, u2], e1, g1.i.sqT e2, rfl, u1, [u2], rfl, B1, en.mono g1.b, g1.i, fun v B2 H2 g2 rv => by
    have rv : v = .ref c := rv
    subst rv
    obtain ⟨mn2, hB2, hw2, dx, vs, hH2, hv2⟩ := (mA N (mI w H0 c C fds)).st (g1.tr g2) m
    have k1 : FOk B2 (putF n u1 vs) (putD n ⟨α, r, x⟩ fds) := hv2.put (r.mono g2.b e3)
    have gg := ((g.tr g1.w).tr g2.w).mut (o := .ins C dx (putF n u1 vs)) hB2 hw2
    refine ⟨c, C, dx, vs, rfl, hH2, hC, hA, by rw [hv2.len]; omega, u2, [], rfl, B2, en.mono (g1.tr g2).b, gg.i, fun v' B3 H3 g3 rv' => ?_⟩
    have rv' : v' = .ref c := rv'
    subst rv'
    have hH3 := g3.hx c _ (upd_same (H := H2) (a := c) (o := .ins C dx (putF n u1 vs)))
    have hB3 : B3 c = none := g3.n c (by rw [upd_same]; simp) hB2
    have ln : (putF n u1 vs).length ≤ vs.length + 1 := by
      clear k1 gg hH3 hH2 hv2 g3
      induction vs with
      | nil => simp [putF]
      | cons p vs ih =>
        unfold putF
        split
        · simp
        · simp only [List.length_cons]; omega
    exact ⟨c, C, dx, _, rfl, hH3, hC, hA2, by rw [hv2.len] at ln; omega, rfl, kk.wk _ _ ⟨B3, (gg.tr g3.w).mut hB3 hw2, bx.tr ((g1.tr g2).b.tr g3.b), en.mono ((g1.tr g2).b.tr g3.b), hN _ _ _ (N.st g3 (hN _ _ _ mn2)), hB3, hw2, dx, _, upd_same, (k1.mono g3.b).put (s.mono (g2.b.tr g3.b) e4)⟩⟩⟩⟩
end
end K81
set_option Elab.async false
set_option linter.all false
set_option maxRecDepth 100000
set_option maxHeartbeats 1900000
namespace K81
open PySem L2
/-! ### == of data -/
structure EqT (K : Fr) {α : Type} [DecidableEq α] (r : RT α) (dd : α → PyData) (n : Nat) : Prop where
  dp : ∀ {H v x}, r.rep H v x → Dp K H v (dd x)
  lay : ∀ x, (dd x).canLay0 = true
  dep : ∀ x, (dd x).depth ≤ n
  eq : ∀ x y, PyData.eqv (dd x) (dd y) = decide (x = y)
theorem eqT_int {K : Fr} : EqT K rInt PyData.int 0 := ⟨fun h => by cases h; exact .int _, fun _ => by simp [PyData.canLay0], fun _ => by simp [PyData.depth], fun x y => by rw [PyData.eqv]; exact Bool.beq_eq_decide_eq x y⟩
def ddP {α β : Type} (f : α → PyData) (g : β → PyData) (x : α × β) : PyData := .tuple [f x.1, g x.2]
theorem eqT_pr {K : Fr} {α β : Type} [DecidableEq α] [DecidableEq β] {r : RT α} {s : RT β} {f : α → PyData} {g : β → PyData} {n m : Nat} (a : EqT K r f n) (b : EqT K s g m) : EqT K (rPr K r s) (ddP f g) (max n m + 1) where
  dp := fun ⟨t, u, w, e1, e2, e3, e4⟩ => by rw [e1]; exact .tup e2 (.cons (a.dp e3) (.cons (b.dp e4) .nil))
  lay := fun x => by simp [ddP, PyData.canLay0, PyData.canLayAll0, a.lay, b.lay]
  dep := fun x => by
    have := a.dep x.1
    have := b.dep x.2
    simp [ddP, PyData.depth, PyData.depthAll]
    omega
  eq := fun x y => by
    simp only [ddP, PyData.eqv, PyData.eqvAll, a.eq, b.eq, Bool.and_true]
    rw [← Bool.decide_and]
    exact decide_eq_decide.mpr ⟨fun h => Prod.ext h.1 h.2, fun h => by rw [h]; exact ⟨rfl, rfl⟩⟩
theorem dpAll_of {K : Fr} {α : Type} {r : RT α} {f : α → PyData} {H : Hp} (a : ∀ v x, r.rep H v x → Dp K H v (f x)) : ∀ {vs : List V} {xs : List α}, Vs r H vs xs → DpAll K H vs (xs.map f)
  | _, _, .nil => .nil
  | _, _, .cons h t => .cons (a _ _ h) (dpAll_of a t)
def ddT {α : Type} (f : α → PyData) (x : List α) : PyData := .tuple (x.map f)
theorem eqT_tup {K : Fr} {α : Type} [DecidableEq α] {r : RT α} {f : α → PyData} {n : Nat} (a : EqT K r f n) : EqT K (rTup K r) (ddT f) (n + 1) where
  dp := fun ⟨t, vs, e1, e2, e3⟩ => by rw [e1]; exact .tup e2 (dpAll_of (fun _ _ h => a.dp h) e3)
  lay := fun x => by
    show PyData.canLay0 (.tuple _) = true
    rw [PyData.canLay0]
    induction x with
    | nil => rfl
    | cons y x ih => rw [List.map_cons, PyData.canLayAll0, a.lay, ih]; rfl
  dep := fun x => by
    show PyData.depth (.tuple _) ≤ _
    rw [PyData.depth]
    refine Nat.succ_le_succ ?_
    induction x with
    | nil => exact Nat.zero_le _
    | cons y x ih =>
      rw [List.map_cons, PyData.depthAll]
      exact Nat.max_le.mpr ⟨a.dep y, ih⟩
  eq := fun x y => by
    show PyData.eqv (.tuple _) (.tuple _) = _
    rw [PyData.eqv]
    induction x generalizing y with
    | nil => cases y <;> rfl
    | cons z x ih =>
      cases y with
      | nil => rfl
      | cons t y =>
        rw [List.map_cons, List.map_cons, PyData.eqvAll, a.eq, ih, ← Bool.decide_and]
        exact decide_eq_decide.mpr ⟨fun h => by rw [h.1, h.2], fun h => by cases h; exact ⟨rfl, rfl⟩⟩
theorem eqT_form {K : Fr} : EqT K (rTup K (rPr K rInt rInt)) (ddT (ddP PyData.int PyData.int)) 2 := eqT_tup (eqT_pr eqT_int eqT_int)
section
variable {X : Cx} {Γ Γ' : List Slot} {M M' : Mem} {α β γ : Type} {r : RT α} {s : RT β} {tg a b e o : Expr} {es elts : List Expr} {pos p2 p tpos apos : Pos} {n : Str} {kk j k : Nat} {w : Addr → Prop} {B0 H0 BX : Hp} {D D' : Ends} {rest ss : List Stmt} {I : L2.St → Hp → Prop}
theorem ee_eqT [DecidableEq α] {dd : α → PyData} {m : Nat} {x y : α} (q : EqT X.K r dd m) (hm : m ≤ 64) (hu : X.A.units + 64 < cLine) (ha : EE X Γ r a x) (hb : EE X Γ r b y) : EE X Γ rBl (.Compare a [.Eq] [b] pos) (decide (x = y)) :=
  ee_cmp (op_eqD hu) ha hb (fun u v B H Q ex r1 r2 k => ⟨dd x, dd y, q.dp (r.mono ex r1), q.dp (r.mono ex r2), by unfold SeqAt.shaped; rw [q.lay]; simpa using Nat.le_trans (q.dep x) hm, by unfold SeqAt.shaped; rw [q.lay]; simpa using Nat.le_trans (q.dep y) hm, by rw [q.eq]; exact k B H (Go.rf ex)⟩) (nomark b)
theorem eb_neT [DecidableEq α] {dd : α → PyData} {m : Nat} {x y : α} (q : EqT X.K r dd m) (hm : m ≤ 64) (hu : X.A.units + 64 < cLine) (ha : EE X Γ r a x) (hb : EE X Γ r b y) : EB X Γ (.Compare a [.NotEq] [b] pos) (!decide (x = y)) :=
  eb_cmp (op_neD hu) ha hb (fun u v B H Q ex r1 r2 k => ⟨dd x, dd y, q.dp (r.mono ex r1), q.dp (r.mono ex r2), by unfold SeqAt.shaped; rw [q.lay]; simpa using Nat.le_trans (q.dep x) hm, by unfold SeqAt.shaped; rw [q.lay]; simpa using Nat.le_trans (q.dep y) hm, by rw [q.eq]; exact k B H (Go.rf ex)⟩) (nomark b)
/-! ### special methods -/
def Spm (P : Program) (w : World) (K : Fr) (mg : Str → Option Value) (base : Heap) (k : Nat) (C : Addr) (n : Str) (sp : Sp) : Prop := ∃ g, Spc K C n g ∧ FnE P w K mg base k g sp
/-- a two-place comparison whose answer is a bool, by its reading -/
theorem ee_len0 {C : Addr} {fds : α → List (Str × Dat)} {pr pre : α → Prop} {x : α} {g : α → Int} (cl : Spm X.prog X.w X.K X.mg X.base j C "__len__" (Pm1 (rIns C fds pr) rInt pre g)) (hr : Room k X.A) (hm : X.mg "len" = none) (ha : EE X Γ (rIns C fds pr) a x) (hp : pre x) (h0 : 0 ≤ g x) (h1 : g x < 2 ^ 63) (hk : j + 1 ≤ k := by decide)
    (hg : Gl X "len" := by rfl) (he : starEach [a] X.env = (false, eval a X.env) :: starEach [] X.env := by rfl) : EE X Γ rInt (.Call (.Name "len" p) [a] [] pos) (g x) := by
  obtain ⟨gg, c, F⟩ := cl
  exact ee_cb1 (call_lenO c F.r (hr.mono hk)) PySem.boot_len hm ha (fun v B H Q ex rv q => by
    obtain ⟨h0', a, dx, vs, e1, e2, e3⟩ := id rv
    subst e1
    exact ⟨a, dx, vs, rfl, ex _ _ e2, B, x, ex, .cons rv .nil, hp, fun u B2 H2 g2 ru => ⟨g x, ru, h0, h1, q _ B2 H2 g2 rfl⟩⟩) hg (by decide) (by decide) he
theorem kHas {C : Addr} {fds : β → List (Str × Dat)} {pr : β → Prop} {pre : β → α → Prop} {x : α} {y : β} {g : β → α → Bool} {z neg : Bool} (hp : pre y x) (hz : z = if neg then !g y x else g y x) : ∀ u w B H (Q : VK), Ex B H → r.rep B u x → (rIns C fds pr).rep B w y → (∀ B2 H2, Go no B H B2 H2 → Q (.bl z) H2) → rHas C (Pm2 (rIns C fds pr) r rBl pre g) neg u w H Q := fun u w B H Q ex ru rw' q => by
  obtain ⟨h0', a, dx, vs, e1, e2, e3⟩ := id rw'
  subst e1
  exact ⟨a, dx, vs, rfl, ex _ _ e2, B, (y, x), ex, .cons rw' (.cons ru .nil), hp, fun v B2 H2 g2 rv => ⟨g y x, rv, by rw [← hz]; exact q B2 H2 g2⟩⟩
theorem ee_in {C : Addr} {fds : β → List (Str × Dat)} {pr : β → Prop} {pre : β → α → Prop} {x : α} {y : β} {g : β → α → Bool} (cl : Spm X.prog X.w X.K X.mg X.base j C "__contains__" (Pm2 (rIns C fds pr) r rBl pre g)) (hr : Room k X.A) (ha : EE X Γ r a x) (hb : EE X Γ (rIns C fds pr) b y) (hp : pre y x) (hk : j ≤ k := by decide)
    (hm : behindInMarks .In b = false := by with_unfolding_all rfl) : EE X Γ rBl (.Compare a [.In] [b] pos) (g y x) := by
  obtain ⟨gg, c, F⟩ := cl
  exact ee_cmp (op_has c F.r (hr.mono hk)) ha hb (kHas hp rfl) hm
theorem eb_in {C : Addr} {fds : β → List (Str × Dat)} {pr : β → Prop} {pre : β → α → Prop} {x : α} {y : β} {g : β → α → Bool} (cl : Spm X.prog X.w X.K X.mg X.base j C "__contains__" (Pm2 (rIns C fds pr) r rBl pre g)) (hr : Room k X.A) (ha : EE X Γ r a x) (hb : EE X Γ (rIns C fds pr) b y) (hp : pre y x) (hk : j ≤ k := by decide)
    (hm : behindInMarks .In b = false := by with_unfolding_all rfl) : EB X Γ (.Compare a [.In] [b] pos) (g y x) := by
  obtain ⟨gg, c, F⟩ := cl
  exact eb_cmp (op_has c F.r (hr.mono hk)) ha hb (kHas hp rfl) hm
theorem eb_nin {C : Addr} {fds : β → List (Str × Dat)} {pr : β → Prop} {pre : β → α → Prop} {x : α} {y : β} {g : β → α → Bool} (cl : Spm X.prog X.w X.K X.mg X.base j C "__contains__" (Pm2 (rIns C fds pr) r rBl pre g)) (hr : Room k X.A) (ha : EE X Γ r a x) (hb : EE X Γ (rIns C fds pr) b y) (hp : pre y x) (hk : j ≤ k := by decide)
    (hm : behindInMarks .NotIn b = false := by with_unfolding_all rfl) : EB X Γ (.Compare a [.NotIn] [b] pos) (!g y x) := by
  obtain ⟨gg, c, F⟩ := cl
  exact eb_cmp (op_hasN c F.r (hr.mono hk)) ha hb (kHas hp rfl) hm
/-- the very value -/
def rVal (c : V) : RT Unit := ⟨fun _ v _ => v = c, fun _ h => h⟩
/-- isinstance(x, c) -/
theorem ee_isi {x : α} {t u : Value} {bb : Bool} {cv : V} (ht : ∀ H v, r.rep H v x → TyX X.K H v t) (hc : ClsV cv u) (hk : PySem.W.kitOne X.K t u = some bb) (hm : X.mg "isinstance" = none) (ha : EE X Γ r a x) (hb : EE X Γ (rVal cv) b ()) (hg : Gl X "isinstance" := by rfl)
    (he : starEach [a, b] X.env = (false, eval a X.env) :: starEach [b] X.env := by rfl) (he2 : starEach [b] X.env = (false, eval b X.env) :: starEach [] X.env := by rfl) (hpl : (backTo pos (starEach [b] X.env)).any (·.1) = false := by rfl) : EE X Γ rBl (.Call (.Name "isinstance" p) [a, b] [] pos) bb :=
  ee_cb2 call_isi (by rfl) hm ha hb (fun v z B H Q ex rv ru q => ⟨v, cv, t, u, bb, by rw [show z = cv from ru], hc, ht _ _ (r.mono ex rv), hk, q _ B H (Go.rf ex) rfl⟩) hg (by decide) (by decide) he he2 hpl
/-- an own class, as isinstance takes it -/
structure Isc (K : Fr) (C : Addr) : Prop where
  cl : Cls K C
  ha : PySem.W.findIn K (.ref C) "__class__" = some (some (Value.builtin "object.__class__"))
  hn : PySem.W.specialIn K (Value.builtin "object.__class__") "__get__" = some (some (.builtin "getset_descriptor.__get__"))
  htk : PySem.W.takesIn K (Value.builtin "object.__class__") = some true
  hm : PySem.W.mroIn K C (Value.type "object") = some true
  me : PySem.W.kitOne K (Value.ref C) (.ref C) = some true
theorem Isc.ty {K : Fr} {C : Addr} (c : Isc K C) {H : Hp} {a dx : Addr} {vs : List (Str × V)} (h : H a = some (.ins C dx vs)) : TyX K H (.ref a) (.ref C) := .base (.ins h c.cl c.ha c.hn c.htk c.hm)
/-- isinstance(x, C), x of C -/
theorem ee_isC {C : Addr} {fds : α → List (Str × Dat)} {pr : α → Prop} {x : α} (c : Isc X.K C) (hm : X.mg "isinstance" = none) (ha : EE X Γ (rIns C fds pr) a x) (hb : EE X Γ (rVal (.ref C)) b ()) (hg : Gl X "isinstance" := by rfl)
    (he : starEach [a, b] X.env = (false, eval a X.env) :: starEach [b] X.env := by rfl) (he2 : starEach [b] X.env = (false, eval b X.env) :: starEach [] X.env := by rfl) (hpl : (backTo pos (starEach [b] X.env)).any (·.1) = false := by rfl) : EE X Γ rBl (.Call (.Name "isinstance" p) [a, b] [] pos) true :=
  ee_isi (r := rIns C fds pr) (fun H v ⟨h0, a, dx, vs, e1, e2, e3⟩ => by rw [e1]; exact c.ty e2) (.own C) c.me hm ha hb hg he he2 hpl
/-- .. or None -/
theorem ee_isCO {C : Addr} {fds : α → List (Str × Dat)} {pr : α → Prop} {x : Option α} (c : Isc X.K C) (hk : PySem.W.kitOne X.K (.type "NoneType") (.ref C) = some false) (hm : X.mg "isinstance" = none) (ha : EE X Γ (rOpt (rIns C fds pr)) a x) (hb : EE X Γ (rVal (.ref C)) b ()) (hg : Gl X "isinstance" := by rfl)
    (he : starEach [a, b] X.env = (false, eval a X.env) :: starEach [b] X.env := by rfl) (he2 : starEach [b] X.env = (false, eval b X.env) :: starEach [] X.env := by rfl) (hpl : (backTo pos (starEach [b] X.env)).any (·.1) = false := by rfl) : EE X Γ rBl (.Call (.Name "isinstance" p) [a, b] [] pos) x.isSome := by
  cases x with
  | some y => exact ee_isi (r := rOpt (rIns C fds pr)) (x := some y) (fun H v ⟨_, h0, a, dx, vs, e1, e2, e3⟩ => by rw [e1]; exact c.ty e2) (.own C) c.me hm ha hb hg he he2 hpl
  | none => exact ee_isi (r := rOpt (rIns C fds pr)) (x := none) (fun H v e => by rw [show v = V.non from e]; exact .base .non) (.own C) hk hm ha hb hg he he2 hpl
/-- isinstance(x, (c1, c2)) -/
theorem ee_isiT {x : α} {t u1 u2 : Value} {bb : Bool} {c1 c2 : V} (ht : ∀ H v, r.rep H v x → TyX X.K H v t) (hc1 : ClsV c1 u1) (hc2 : ClsV c2 u2) (hk : PySem.W.kitAny X.K t [u1, u2] = some bb) (hm : X.mg "isinstance" = none) (ha : EE X Γ r a x) (hb : EE X Γ (rPn (rVal c1) (rVal c2)) b ((), ())) (hg : Gl X "isinstance" := by rfl)
    (he : starEach [a, b] X.env = (false, eval a X.env) :: starEach [b] X.env := by rfl) (he2 : starEach [b] X.env = (false, eval b X.env) :: starEach [] X.env := by rfl) (hpl : (backTo pos (starEach [b] X.env)).any (·.1) = false := by rfl) : EE X Γ rBl (.Call (.Name "isinstance" p) [a, b] [] pos) bb :=
  ee_cb2 call_isiT (by rfl) hm ha hb (fun v z B H Q ex rv ⟨tp, y1, y2, f1, f2, f3, f4⟩ q => ⟨v, tp, [c1, c2], t, [u1, u2], bb, by rw [f1], by rw [ex _ _ f2, show y1 = c1 from f3, show y2 = c2 from f4], .cons hc1 (.cons hc2 .nil), ht _ _ (r.mono ex rv), hk, q _ B H (Go.rf ex) rfl⟩) hg (by decide) (by decide) he he2 hpl
/-- a == b, a != b of one class's instances, by its own def -/
theorem kEqO {C : Addr} {fds : α → List (Str × Dat)} {pr : α → Prop} {F : β → List (Str × Dat)} {pq : β → Prop} {pre : α → β → Prop} {x : α} {y : β} {s : RT β} {g : α → β → Bool} {z neg : Bool} (hs : ∀ H v, s.rep H v y → ∃ b dx vs, v = .ref b ∧ H b = some (.ins C dx vs)) (hp : pre x y) (hz : z = if neg then !g x y else g x y) :
    ∀ u w B H (Q : VK), Ex B H → (rIns C fds pr).rep B u x → s.rep B w y → (∀ B2 H2, Go no B H B2 H2 → Q (.bl z) H2) → rEqO C (Pm2 (rIns C fds pr) s rBl pre g) neg u w H Q := fun u w B H Q ex ru rw' q => by
  obtain ⟨h0', a, dx, vs, e1, e2, e3⟩ := id ru
  obtain ⟨b, dy, ws, f1, f2⟩ := hs _ _ rw'
  subst e1 f1
  exact ⟨a, dx, vs, b, dy, ws, rfl, rfl, ex _ _ e2, ex _ _ f2, B, (x, y), ex, .cons ru (.cons rw' .nil), hp, fun v B2 H2 g2 rv => ⟨g x y, rv, by rw [← hz]; exact q B2 H2 g2⟩⟩
theorem ee_eqO {C : Addr} {fds : α → List (Str × Dat)} {pr : α → Prop} {pre : α → β → Prop} {x : α} {y : β} {g : α → β → Bool} (cl : Spm X.prog X.w X.K X.mg X.base j C "__eq__" (Pm2 (rIns C fds pr) s rBl pre g)) (hr : Room k X.A) (ha : EE X Γ (rIns C fds pr) a x) (hb : EE X Γ s b y) (hs : ∀ H v, s.rep H v y → ∃ b dx vs, v = .ref b ∧ H b = some (.ins C dx vs)) (hp : pre x y) (hk : j ≤ k := by decide) : EE X Γ rBl (.Compare a [.Eq] [b] pos) (g x y) := by
  obtain ⟨gg, c, F⟩ := cl
  exact ee_cmp (op_eqO c F.r (hr.mono hk)) ha hb (kEqO (F := fun _ : β => []) (pq := fun _ : β => True) hs hp rfl) (nomark b)
theorem eb_eqO {C : Addr} {fds : α → List (Str × Dat)} {pr : α → Prop} {pre : α → β → Prop} {x : α} {y : β} {g : α → β → Bool} (cl : Spm X.prog X.w X.K X.mg X.base j C "__eq__" (Pm2 (rIns C fds pr) s rBl pre g)) (hr : Room k X.A) (ha : EE X Γ (rIns C fds pr) a x) (hb : EE X Γ s b y) (hs : ∀ H v, s.rep H v y → ∃ b dx vs, v = .ref b ∧ H b = some (.ins C dx vs)) (hp : pre x y) (hk : j ≤ k := by decide) : EB X Γ (.Compare a [.Eq] [b] pos) (g x y) := by
  obtain ⟨gg, c, F⟩ := cl
  exact eb_cmp (op_eqO c F.r (hr.mono hk)) ha hb (kEqO (F := fun _ : β => []) (pq := fun _ : β => True) hs hp rfl) (nomark b)
theorem eb_neO {C : Addr} {fds : α → List (Str × Dat)} {pr : α → Prop} {pre : α → β → Prop} {x : α} {y : β} {g : α → β → Bool} (cl : Spm X.prog X.w X.K X.mg X.base j C "__eq__" (Pm2 (rIns C fds pr) s rBl pre g)) (hn : SNe X.K C) (hr : Room k X.A) (ha : EE X Γ (rIns C fds pr) a x) (hb : EE X Γ s b y) (hs : ∀ H v, s.rep H v y → ∃ b dx vs, v = .ref b ∧ H b = some (.ins C dx vs)) (hp : pre x y) (hk : j + 1 ≤ k := by decide) : EB X Γ (.Compare a [.NotEq] [b] pos) (!g x y) := by
  obtain ⟨gg, c, F⟩ := cl
  exact eb_cmp (op_neO c hn F.r (hr.mono hk)) ha hb (kEqO (F := fun _ : β => []) (pq := fun _ : β => True) hs hp rfl) (nomark b)
/-- C.of(x) -/
def Stm (P : Program) (w : World) (K : Fr) (mg : Str → Option Value) (base : Heap) (k : Nat) (C : Addr) (n : Str) (sp : Sp) : Prop := ∃ mc p g, CSta K C mc n p g ∧ FnE P w K mg base k g sp
theorem ee_sta {C : Addr} {x : α} {pre : α → Prop} {g : α → β} {pl : Sem Bool} (cl : Stm X.prog X.w X.K X.mg X.base j C n (Pm1 r s pre g)) (hr : Room k X.A) (ho : EE X Γ (rVal (.ref C)) o ()) (ha : EE X Γ r a x) (hp : pre x) (hk : j ≤ k := by decide)
    (hst : starEach [a] X.env = (false, eval a X.env) :: starEach [] X.env := by rfl)
    (ht : eval (.Call (.Attribute o n apos) [a] [] pos) X.env = (do
      let ov ← eval o X.env
      standAt apos.atName
      let (f, first) ← holding [ov] (getMethod ov n pl)
      callWith pos f first (backTo pos (starEach [a] X.env)) (backToKw pos (keywordEach [] X.env))) := by rfl) : EE X Γ s (.Call (.Attribute o n apos) [a] [] pos) (g x) := by
  obtain ⟨mc, p, gg, c, F⟩ := cl
  exact PE.imp (pe_sta ho c F.r (hr.mono hk) (ea_cons ha ea_nil hst) hst rfl ht) fun σ H Q ⟨B, en, ex, q⟩ => ⟨B, en, ex, fun v B1 H1 g1 rv => ⟨rv, B1, en.mono g1.b, g1.i, fun us B2 H2 g2 ru => ⟨B2, x, g2.i, ru, hp, fun z B3 H3 g3 rz => q z B3 H3 ((g1.tr g2).tr g3) rz⟩⟩⟩
/-- a class by its name -/
theorem ee_cls {C : Addr} (hm : X.mg n = some (.ref C)) (hg : Gl X n := by rfl) (hd : (n == ("__debug__" : Str)) = false := by decide) : EE X Γ (rVal (.ref C)) (.Name n pos) () := ee_glob (v := .ref C) hg hm rfl (fun _ => rfl) hd
/-- what is known of a slot's instance -/
theorem tr_know {C : Addr} {fds : α → List (Str × Dat)} {pr : α → Prop} {x : α} (i : Nat) (hi : Γ[i]? = some (sl (rIns C fds pr) x)) (k : pr x → Tr X (At w B0 H0 BX Γ M) ss D) : Tr X (At w B0 H0 BX Γ M) ss D := fun pins s σ H J hh => by
  obtain ⟨B, g, bx, en, m⟩ := id hh
  obtain ⟨v, h1, h2⟩ := en.get hi
  exact k h2.1 pins s σ H J hh
end
end K81
set_option Elab.async false
set_option linter.all false
set_option maxRecDepth 100000
namespace K81
/-! ### counties -/
def sumStep (ks : Form) (p : Int × Int) : Form := putI ks p.1 ((getI ks p.1).getD 0 + p.2)
def tableOf (runs : Form) : Form := runs.foldl sumStep []
def summedM (runs : Form) : Form := sortP (tableOf runs)
def StrictF (runs : Form) : Prop := runs.Pairwise fun a b => a.1 < b.1
/-- a County's runs -/
structure CtyOk (runs : Form) : Prop where
  srt : StrictF runs
  pos : ∀ p ∈ runs, 1 ≤ p.1 ∧ p.1 ≤ 1000000 ∧ 1 ≤ p.2
  len : runs.length ≤ 1000
/-- what a County is made of -/
structure PreRuns (runs : Form) : Prop where
  pos : ∀ p ∈ runs, 1 ≤ p.1 ∧ p.1 ≤ 1000000 ∧ 1 ≤ p.2
  len : runs.length ≤ 1000
def rowsM (runs : Form) : Int := (runs.map fun p => p.1 * p.2).sum
def townsM (runs : Form) : Int := (runs.map fun p => p.2).sum
def hasTown (runs : Form) (size : Int) : Bool := (runs.map fun p => decide (p.1 = size)).any id
def rowsFrom (runs : Form) (least : Int) : Int := ((runs.filter fun p => decide (least ≤ p.1)).map fun p => p.1 * p.2).sum
def onlyM (runs : Form) (least : Int) : Form := (runs.filter fun p => decide (least ≤ p.1)).map fun p => p
/-! facts -/
theorem getI_pos {ks : Form} {k : Int} {v : Int} (h : getI ks k = some v) : (k, v) ∈ ks := by
  unfold getI at h
  cases e : ks.find? (fun p => decide (p.1 = k)) with
  | none => rw [e] at h; cases h
  | some p =>
    rw [e] at h
    have h1 := List.find?_some e
    have h2 := List.mem_of_find?_eq_some e
    simp only [decide_eq_true_eq] at h1
    have h3 : p.2 = v := Option.some.inj h
    rw [← h1, ← h3]
    exact h2
theorem getI_none {ks : Form} {k : Int} (h : getI ks k = none) : ∀ p ∈ ks, p.1 ≠ k := by
  unfold getI at h
  rw [Option.map_eq_none_iff, List.find?_eq_none] at h
  intro p hp e
  have := h p hp
  simp [e] at this
theorem any_iff {ks : Form} {k : Int} : (ks.any fun p => decide (p.1 = k)) = (getI ks k).isSome := by
  unfold getI
  rw [Option.isSome_map, Bool.eq_iff_iff, List.any_eq_true, List.find?_isSome]
theorem putI_pos {ks : Form} {k v : Int} {p : Int × Int} (h : p ∈ putI ks k v) : p = (k, v) ∨ p ∈ ks := by
  unfold putI at h
  split at h
  · obtain ⟨q, hq, e⟩ := List.mem_map.mp h
    by_cases z : q.1 = k
    · rw [if_pos z] at e; rw [← e, z]; exact .inl rfl
    · rw [if_neg z] at e; rw [← e]; exact .inr hq
  · rcases List.mem_append.mp h with h | h
    · exact .inr h
    · exact .inl (by simpa using h)
theorem putI_len {ks : Form} {k v : Int} : (putI ks k v).length ≤ ks.length + 1 := by
  unfold putI
  split
  · rw [List.length_map]; omega
  · rw [List.length_append]; simp
/-- the keys stand once each -/
def KeysN (ks : Form) : Prop := (ks.map (·.1)).Nodup
theorem putI_keys {ks : Form} {k v : Int} (h : KeysN ks) : KeysN (putI ks k v) := by
  unfold KeysN putI at *
  split
  · rw [List.map_map]
    have e : ((fun p : Int × Int => p.1) ∘ fun p => if p.1 = k then (p.1, v) else p) = fun p => p.1 := by
      funext p
      show (if p.1 = k then (p.1, v) else p).1 = p.1
      split <;> rfl
    rw [e]; exact h
  · rename_i hn
    rw [List.map_append]
    refine List.nodup_append.mpr ⟨h, by simp, ?_⟩
    intro a ha b hb
    obtain ⟨p, hp, e⟩ := List.mem_map.mp ha
    have hb : b = k := by simpa using hb
    rw [hb, ← e]
    intro z
    exact hn (List.any_eq_true.mpr ⟨p, hp, by simpa using z⟩)
theorem table_ok {runs : Form} : ∀ {acc : Form}, KeysN acc → (∀ p ∈ acc, 1 ≤ p.1 ∧ p.1 ≤ 1000000 ∧ 1 ≤ p.2) → (∀ p ∈ runs, 1 ≤ p.1 ∧ p.1 ≤ 1000000 ∧ 1 ≤ p.2) →
    KeysN (runs.foldl sumStep acc) ∧ (∀ p ∈ runs.foldl sumStep acc, 1 ≤ p.1 ∧ p.1 ≤ 1000000 ∧ 1 ≤ p.2) ∧ (runs.foldl sumStep acc).length ≤ acc.length + runs.length := by
  induction runs with
  | nil => intro acc h1 h2 _; exact ⟨h1, h2, Nat.le_refl _⟩
  | cons x runs ih =>
    intro acc h1 h2 h3
    have hx := h3 x (by simp)
    have k2 : ∀ p ∈ sumStep acc x, 1 ≤ p.1 ∧ p.1 ≤ 1000000 ∧ 1 ≤ p.2 := fun p hp => by
      rcases putI_pos hp with e | hp
      · subst e
        refine ⟨hx.1, hx.2.1, ?_⟩
        show 1 ≤ (getI acc x.1).getD 0 + x.2
        cases g : getI acc x.1 with
        | none => show 1 ≤ 0 + x.2; omega
        | some v =>
          have := h2 _ (getI_pos g)
          show 1 ≤ v + x.2
          have h5 : 1 ≤ v := this.2.2
          omega
      · exact h2 p hp
    obtain ⟨a, b, c⟩ := ih (acc := sumStep acc x) (putI_keys h1) k2 fun p hp => h3 p (by simp [hp])
    refine ⟨a, b, Nat.le_trans c ?_⟩
    have : (sumStep acc x).length ≤ acc.length + 1 := putI_len
    simp only [List.length_cons]
    omega
theorem strict_of {ks : Form} (h : KeysN ks) (s : SrtdP ks) : StrictF ks := by
  induction ks with
  | nil => exact .nil
  | cons x ks ih =>
    obtain ⟨h1, h2⟩ := List.nodup_cons.mp (show (x.1 :: ks.map (·.1)).Nodup from h)
    obtain ⟨s1, s2⟩ := List.pairwise_cons.mp s
    refine List.pairwise_cons.mpr ⟨fun y hy => ?_, ih h2 s2⟩
    have := SrtO.lexB_no.mp (s1 y hy)
    have hne : y.1 ≠ x.1 := fun e => h1 (List.mem_map.mpr ⟨y, hy, e⟩)
    omega
theorem summed_ok {runs : Form} (h : PreRuns runs) : CtyOk (summedM runs) := by
  obtain ⟨a, b, c⟩ := table_ok (acc := []) List.nodup_nil (fun _ h => nomatch h) h.pos
  have pm : (summedM runs).Perm (tableOf runs) := perm_sortP
  refine ⟨strict_of ((pm.map _).nodup_iff.mpr a) (srtd_sortP _), fun p hp => b p (pm.mem_iff.mp hp), ?_⟩
  rw [pm.length_eq]
  have := h.len
  have c : (tableOf runs).length ≤ 0 + runs.length := c
  omega
theorem table_strict {runs : Form} : ∀ {acc : Form}, StrictF (acc ++ runs) → runs.foldl sumStep acc = acc ++ runs := by
  induction runs with
  | nil => intro acc _; simp
  | cons x runs ih =>
    intro acc h
    have hn : getI acc x.1 = none := by
      cases g : getI acc x.1 with
      | none => rfl
      | some v =>
        have hm := getI_pos g
        have := (List.pairwise_append.mp h).2.2 _ hm x (by simp)
        exact absurd this (by simp)
    have e : sumStep acc x = acc ++ [x] := by
      unfold sumStep putI
      rw [if_neg (by rw [any_iff, hn]; simp), hn]
      show acc ++ [(x.1, 0 + x.2)] = _
      rw [Int.zero_add]
    rw [List.foldl_cons, e, ih (by simpa using h)]
    simp
theorem strict_srtd {runs : Form} (h : StrictF runs) : SrtdP runs := List.Pairwise.imp (R := fun a b : Int × Int => a.1 < b.1) (fun {a b} z => SrtO.lexB_no.mpr (by omega)) h
theorem summed_id {runs : Form} (h : StrictF runs) : summedM runs = runs := by
  have e : tableOf runs = runs := by
    have := table_strict (acc := []) (runs := runs) (by simpa using h)
    unfold tableOf
    simpa using this
  unfold summedM
  rw [e]
  exact (srt_is (strict_srtd h) (List.Perm.refl _)).symm
/-- a weight is the same behind the summing -/
theorem put_weight (g : Int → Int) {ks : Form} {k m : Int} (h : KeysN ks) : ((putI ks k ((getI ks k).getD 0 + m)).map fun p => g p.1 * p.2).sum = (ks.map fun p => g p.1 * p.2).sum + g k * m := by
  induction ks with
  | nil =>
    show (((([] : Form) ++ [(k, (getI [] k).getD 0 + m)]).map fun p => g p.1 * p.2)).sum = _
    simp [getI]
  | cons x ks ih =>
    obtain ⟨h1, h2⟩ := List.nodup_cons.mp (show (x.1 :: ks.map (·.1)).Nodup from h)
    by_cases e : x.1 = k
    · have hn : ∀ p ∈ ks, p.1 ≠ k := fun p hp z => h1 (List.mem_map.mpr ⟨p, hp, by rw [z, e]⟩)
      have e1 : getI (x :: ks) k = some x.2 := by unfold getI; rw [List.find?_cons_of_pos (by simpa using e)]; rfl
      have e2 : putI (x :: ks) k ((getI (x :: ks) k).getD 0 + m) = (x.1, x.2 + m) :: ks := by
        rw [e1]
        unfold putI
        rw [if_pos (by simp [e]), List.map_cons, if_pos e]
        congr 1
        conv => rhs; rw [← List.map_id ks]
        refine List.map_congr_left fun p hp => ?_
        rw [if_neg (hn p hp)]
        rfl
      rw [e2, List.map_cons, List.map_cons, List.sum_cons, List.sum_cons, ← e]
      show g x.1 * (x.2 + m) + _ = _
      rw [Int.mul_add]
      omega
    · have e1 : getI (x :: ks) k = getI ks k := by unfold getI; rw [List.find?_cons_of_neg (by simpa using e)]
      have e2 : ∀ v, putI (x :: ks) k v = x :: putI ks k v := fun v => by
        unfold putI
        rw [List.any_cons, decide_eq_false e, Bool.false_or]
        split
        · rw [List.map_cons, if_neg e]
        · rfl
      rw [e1, e2, List.map_cons, List.sum_cons, ih h2, List.map_cons, List.sum_cons]
      omega
theorem table_weight (g : Int → Int) {runs : Form} : ∀ {acc : Form}, KeysN acc → ((runs.foldl sumStep acc).map fun p => g p.1 * p.2).sum = (acc.map fun p => g p.1 * p.2).sum + (runs.map fun p => g p.1 * p.2).sum := by
  induction runs with
  | nil => intro acc _; simp
  | cons x runs ih =>
    intro acc h
    rw [List.foldl_cons, ih (show KeysN (sumStep acc x) from putI_keys h)]
    show ((putI acc x.1 _).map fun p => g p.1 * p.2).sum + _ = _
    rw [put_weight g h, List.map_cons, List.sum_cons]
    omega
theorem perm_sumI {l m : List Int} (h : l.Perm m) : l.sum = m.sum := by
  induction h with
  | nil => rfl
  | cons x _ ih => simp [ih]
  | swap x y l => simp; omega
  | trans _ _ a b => rw [a, b]
theorem summed_weight (g : Int → Int) (runs : Form) : ((summedM runs).map fun p => g p.1 * p.2).sum = (runs.map fun p => g p.1 * p.2).sum := by
  have e := table_weight g (runs := runs) (acc := []) List.nodup_nil
  have e2 : ((summedM runs).map fun p => g p.1 * p.2).sum = ((tableOf runs).map fun p => g p.1 * p.2).sum := perm_sumI ((perm_sortP (xs := tableOf runs)).map fun p : Int × Int => g p.1 * p.2)
  rw [e2]
  unfold tableOf
  simpa using e
end K81
set_option Elab.async false
set_option linter.all false
set_option maxRecDepth 100000
set_option maxHeartbeats 1900000
namespace K81
open PySem L2
abbrev rCty (K : Fr) (C : Addr) : RT Form := rIns C (fun runs => [("own_runs", dt (rForm K) runs)]) CtyOk
structure CtyF (K : Fr) (mg : Str → Option Value) (C : Addr) : Prop where
  isc : Isc K C
  nr : NoAttr K C "own_runs"
  mgC : mg "County" = some (.ref C)
abbrev spSummed (K : Fr) : Sp := Pm1 (rSeq K (rPr K rInt rInt)) (rForm K) (fun runs => runs.length ≤ 1000) summedM
abbrev spCtyInit (K : Fr) (C : Addr) : Sp := PmI C (fun x => [dt (rSeq K (rPr K rInt rInt)) x]) PreRuns (fun x => [("own_runs", dt (rForm K) (summedM x))])
theorem ee_mkCty {X : Cx} {Γ : List Slot} {a : Expr} {p pos : Pos} {C : Addr} {k : Nat} {runs : Form} (mk : Mkr X.prog X.w X.K X.mg X.base 2 "County" C (spCtyInit X.K C)) (hr : Room k X.A) (ha : EE X Γ (rSeq X.K (rPr X.K rInt rInt)) a runs) (hp : PreRuns runs) (hk : 3 ≤ k := by decide) (hg : Gl X "County" := by rfl)
    (he : starEach [a] X.env = (false, eval a X.env) :: starEach [] X.env := by rfl) : EE X Γ (rCty X.K C) (.Call (.Name "County" p) [a] [] pos) (summedM runs) :=
  ee_make1 mk hr ha hp (F := fun runs => [("own_runs", dt (rForm X.K) runs)]) rfl (summed_ok hp) hk hg (by decide) he
theorem foldl_len {α β : Type} (m : β → Nat) (step : β → α → β) (h : ∀ b x, m (step b x) ≤ m b + 1) : ∀ (l : List α) (b : β), m (l.foldl step b) ≤ m b + l.length
  | [], b => by simp
  | x :: l, b => by
    have := foldl_len m step h l (step b x)
    have := h b x
    simp only [List.foldl_cons, List.length_cons]
    omega
section
variable {P : Program} {w : World} {K : Fr} {mg : Str → Option Value} {base : Heap} {f : Addr} {fd : FuncData} {C : Addr}
theorem ok_summed (T : Bn mg) (F : Fun K "summed" "summed" (tS 27) f fd) : FnE P w K mg base 1 f (spSummed K) := by
  refine fn_pm F sc27 (fun _ => rfl) (fun _ _ _ _ _ _ us hl => match us, hl with | [_], _ => rfl) fun q B0 H0 y hr hp => ?_
  have hp : y.length ≤ 1000 := hp
  refine tr_newD 1 sc27.nd fun o ho => ?_
  refine tr_fold sumStep [] (fun _ => [sl (rSeq K (rPr K rInt rInt)) y, sl (rAdr o) (), none, none]) (fun ks => mA mE (mD no H0 o ks)) (fun i ks => ks.length ≤ i) rfl (ei_seq (ee_var 0 rfl)) (et_pr rfl (et_name 2 sc27.nd) (et_name 3 sc27.nd))
    (Nat.le_refl _) (fun i x b hx hb => Nat.le_trans putI_len (by omega)) (by repeat constructor) (fun _ _ h => h) (fun BX e i x b hx hb => ?_) fun hb => ?_
  · have hi : i < 1000 := Nat.lt_of_lt_of_le (List.getElem?_eq_some_iff.mp hx).1 hp
    exact tr_dput (hu_of hr) (EE.opD 1 (ee_add (ee_get2 (hu_of hr) (ee_var 1 rfl) (ee_var 2 rfl) ee_int) (ee_var 3 rfl)) fz_int rfl) (ee_var 1 rfl) (ee_var 2 rfl) mE_free (by omega) (tr_done rfl (by repeat constructor) fun _ _ z => z)
  · exact tr_rt (EE.opD 1 (ee_tupleOf T.tuple (ee_seqL (ee_sortItm rfl T.sorted (ee_var 1 rfl)))) (fz_tup noTupL (fz_pr noTupL fz_int fz_int)) rfl)
theorem tr_inited {X : Cx} {Γ : List Slot} {N : Mem} {B0 H0 BX : Hp} {a C : Addr} {fds : List (Str × Dat)} : Tr X (At (fun b => b = a) B0 H0 BX Γ (mA N (mI (fun b => b = a) H0 a C fds))) [] (endsI C B0 H0 a fds) :=
  tr_nil fun σ H ⟨B, g, _, _, _, h1, _, dx, vs, h2, h3⟩ => ⟨B, dx, vs, g, h1, h2, h3⟩
theorem ok_cty_init (Y : CtyF K mg C) (c27 : Cal P w K mg base 1 "summed" (spSummed K)) (F : Fun K "__init__" "County.__init__" (tM 32 0) f fd) : FnE P w K mg base 2 f (spCtyInit K C) := by
  refine fn_init F sc32_0 (fun _ => rfl) (fun _ _ _ _ _ _ us hl => match us, hl with | [_, _], _ => rfl) fun q B0 H0 a y hr hp => ?_
  refine tr_for (ι := Unit) (fun _ => [sl (rAdr a) (), sl (rSeq K (rPr K rInt rInt)) y, none, none]) (fun _ => mA mE (mI (fun b => b = a) H0 a C [])) (fun _ _ => True) () rfl (ei_seq (ee_var 1 rfl)) (et_pr rfl (et_name 2 sc32_0.nd) (et_name 3 sc32_0.nd)) trivial (by repeat constructor) (fun _ _ h => h)
    (fun BX e i x k hx _ => ?_) fun _ _ => ?_
  · have hm := hp.pos x (List.mem_of_getElem? hx)
    refine tr_ifF (EB.m (eb_eq (eb_or (eb_lt (ee_var 2 rfl) ee_int) fun _ => eb_lt (ee_var 3 rfl) ee_int) ?_)) (tr_go (tr_nil fun σ H z => ⟨(), trivial, At.wk (by repeat constructor) (fun _ _ h => h) σ H z⟩))
    have h1 : ¬ x.1 < 1 := by omega
    have h2 : ¬ x.2 < 1 := by omega
    simp [h1, h2]
  · refine tr_fld (EE.m (ee_call1 c27 hr (ee_var 1 rfl) hp.len)) (ee_var 0 rfl) Y.isc.cl Y.nr (by decide) mE_free ?_
    exact tr_inited
theorem ok_cty_runs (Y : CtyF K mg C) (F : Fun K "runs" "County.runs" (tM 32 2) f fd) : FnE P w K mg base 1 f (Pm1 (rCty K C) (rForm K) (fun _ => True) id) := by
  refine fn_pm F sc32_2 (fun _ => rfl) (fun _ _ _ _ _ _ us hl => match us, hl with | [_], _ => rfl) fun q B0 H0 y hr hp => ?_
  exact tr_rt (EE.m (ee_fld (ee_var 0 rfl) Y.isc.cl Y.nr rfl))
theorem ok_cty_len (T : Bn mg) (Y : CtyF K mg C) (F : Fun K "__len__" "County.__len__" (tM 32 6) f fd) : FnE P w K mg base 1 f (Pm1 (rCty K C) rInt (fun _ => True) fun runs => (runs.length : Int)) := by
  refine fn_pm F sc32_6 (fun _ => rfl) (fun _ _ _ _ _ _ us hl => match us, hl with | [_], _ => rfl) fun q B0 H0 y hr hp => ?_
  exact tr_rt (EE.m (ee_len T.len (ee_seqT (ee_fld (ee_var 0 rfl) Y.isc.cl Y.nr rfl))))
theorem ok_cty_rows (T : Bn mg) (Y : CtyF K mg C) (F : Fun K "rows" "County.rows" (tM 32 4) f fd) : FnE P w K mg base 1 f (Pm1 (rCty K C) rInt (fun _ => True) rowsM) := by
  refine fn_pm F sc32_4 (fun _ => rfl) (fun _ _ _ _ _ _ us hl => match us, hl with | [_], _ => rfl) fun q B0 H0 y hr hp => ?_
  refine tr_know 0 rfl fun hy => ?_
  exact tr_rt (EE.m (ee_sum rfl T.sum (ee_lc (own := [("size", 1), ("many", 2)]) (N := N32_4) (sc := defScope (tM 32 4)) rfl sc32_4.nd (by decide +kernel) (ei_tup (ee_fld (ee_var 0 rfl) Y.isc.cl Y.nr rfl)) (fun q => et_pr rfl (et_name 1 sc32_4.nd) (et_name 2 sc32_4.nd))
    (fun q x hx => ee_mul (ee_var 1 rfl) (ee_var 2 rfl) (.inl (by have := hy.pos x hx; omega))) (Nat.le_trans hy.len (by decide)))))
theorem ok_cty_towns (T : Bn mg) (Y : CtyF K mg C) (F : Fun K "towns" "County.towns" (tM 32 5) f fd) : FnE P w K mg base 1 f (Pm1 (rCty K C) rInt (fun _ => True) townsM) := by
  refine fn_pm F sc32_5 (fun _ => rfl) (fun _ _ _ _ _ _ us hl => match us, hl with | [_], _ => rfl) fun q B0 H0 y hr hp => ?_
  refine tr_know 0 rfl fun hy => ?_
  exact tr_rt (EE.m (ee_sum rfl T.sum (ee_lc (own := [("size", 1), ("many", 2)]) (N := N32_5) (sc := defScope (tM 32 5)) rfl sc32_5.nd (by decide +kernel) (ei_tup (ee_fld (ee_var 0 rfl) Y.isc.cl Y.nr rfl)) (fun q => et_pr rfl (et_name 1 sc32_5.nd) (et_name 2 sc32_5.nd))
    (fun q x hx => ee_var 2 rfl) (Nat.le_trans hy.len (by decide)))))
theorem ok_cty_has (T : Bn mg) (Y : CtyF K mg C) (F : Fun K "__contains__" "County.__contains__" (tM 32 9) f fd) : FnE P w K mg base 1 f (Pm2 (rCty K C) rInt rBl (fun _ _ => True) hasTown) := by
  refine fn_pm F sc32_9 (fun _ => rfl) (fun _ _ _ _ _ _ us hl => match us, hl with | [_, _], _ => rfl) fun q B0 H0 y hr hp => ?_
  refine tr_know 0 rfl fun hy => ?_
  exact tr_rt (EE.m (ee_any rfl T.any (ee_lc (own := [("own", 2), ("many", 3)]) (N := N32_9) (sc := defScope (tM 32 9)) rfl sc32_9.nd (by decide +kernel) (ei_tup (ee_fld (ee_var 0 rfl) Y.isc.cl Y.nr rfl)) (fun q => et_pr rfl (et_name 2 sc32_9.nd) (et_name 3 sc32_9.nd))
    (fun q x hx => ee_eqI (ee_var 2 rfl) (ee_var 1 rfl)) (Nat.le_trans hy.len (by decide)))))
theorem ok_cty_rows_from (T : Bn mg) (Y : CtyF K mg C) (F : Fun K "rows_from" "County.rows_from" (tM 32 10) f fd) : FnE P w K mg base 1 f (Pm2 (rCty K C) rInt rInt (fun _ _ => True) rowsFrom) := by
  refine fn_pm F sc32_10 (fun _ => rfl) (fun _ _ _ _ _ _ us hl => match us, hl with | [_, _], _ => rfl) fun q B0 H0 y hr hp => ?_
  refine tr_know 0 rfl fun hy => ?_
  exact tr_rt (EE.m (ee_sum rfl T.sum (ee_lcIf (own := [("size", 2), ("many", 3)]) (N := N32_10) (sc := defScope (tM 32 10)) rfl sc32_10.nd (by decide +kernel) (ei_tup (ee_fld (ee_var 0 rfl) Y.isc.cl Y.nr rfl)) (fun q => et_pr rfl (et_name 2 sc32_10.nd) (et_name 3 sc32_10.nd))
    (fun q x hx => eb_ge (ee_var 2 rfl) (ee_var 1 rfl)) (fun q x hx hpx => ee_mul (ee_var 2 rfl) (ee_var 3 rfl) (.inl (by have := hy.pos x hx; omega))) (Nat.le_trans hy.len (by decide)))))
theorem only_strict {runs : Form} (h : CtyOk runs) (least : Int) : PreRuns (onlyM runs least) ∧ summedM (onlyM runs least) = onlyM runs least ∧ CtyOk (onlyM runs least) := by
  have e : onlyM runs least = runs.filter fun p => decide (least ≤ p.1) := by unfold onlyM; exact List.map_id _
  have hs : StrictF (onlyM runs least) := by rw [e]; exact h.srt.sublist List.filter_sublist
  have hp : PreRuns (onlyM runs least) := by
    rw [e]
    exact ⟨fun p hp => h.pos p (List.mem_filter.mp hp).1, Nat.le_trans (List.length_filter_le _ _) h.len⟩
  have h1 := summed_id hs
  exact ⟨hp, h1, by have := summed_ok hp; rw [h1] at this; exact this⟩
theorem ok_cty_only (Y : CtyF K mg C) (mk : Mkr P w K mg base 2 "County" C (spCtyInit K C)) (F : Fun K "only" "County.only" (tM 32 12) f fd) : FnE P w K mg base 4 f (Pm2 (rCty K C) rInt (rCty K C) (fun _ _ => True) onlyM) := by
  refine fn_pm F sc32_12 (fun _ => rfl) (fun _ _ _ _ _ _ us hl => match us, hl with | [_, _], _ => rfl) fun q B0 H0 y hr hp => ?_
  refine tr_know 0 rfl fun hy => ?_
  obtain ⟨h1, h2, h3⟩ := only_strict hy y.2
  exact tr_rt (EE.m (ee_eq (ee_mkCty mk hr (ee_seqL (ee_lcIf (own := [("run", 2)]) (N := N32_12) (sc := defScope (tM 32 12)) rfl sc32_12.nd (by decide +kernel) (ei_tup (ee_fld (ee_var 0 rfl) Y.isc.cl Y.nr rfl)) (fun q => et_name 2 sc32_12.nd)
    (fun q x hx => eb_ge (ee_fst (ee_var 2 rfl) ee_int) (ee_var 1 rfl)) (fun q x hx hpx => ee_var 2 rfl) (Nat.le_trans hy.len (by decide)))) h1) h2))
theorem ok_cty_add (T : Bn mg) (Y : CtyF K mg C) (cr : Prp P w K mg base 1 C "runs" (Pm1 (rCty K C) (rForm K) (fun _ => True) id)) (mk : Mkr P w K mg base 2 "County" C (spCtyInit K C)) (F : Fun K "__add__" "County.__add__" (tM 32 14) f fd) : FnE P w K mg base 4 f (Pm2 (rCty K C) (rCty K C) (rCty K C) (fun a b => a.length + b.length ≤ 1000) fun a b => summedM (a ++ b)) := by
  refine fn_pm F sc32_14 (fun _ => rfl) (fun _ _ _ _ _ _ us hl => match us, hl with | [_, _], _ => rfl) fun q B0 H0 y hr hp => ?_
  refine tr_know 0 rfl fun hy => tr_know 1 rfl fun hz => ?_
  have hpr : PreRuns (y.1 ++ y.2) := ⟨fun p hp => (List.mem_append.mp hp).elim (hy.pos p) (hz.pos p), by rw [List.length_append]; exact hp⟩
  refine tr_ifF (EB.m (eb_not (eb_val (ee_isC Y.isc T.isinstance (ee_var 1 rfl) (ee_cls Y.mgC))))) (tr_go ?_)
  exact tr_rt (EE.m (ee_mkCty mk hr (ee_seqT (ee_catT (ee_fld (ee_var 0 rfl) Y.isc.cl Y.nr rfl) (ee_prop cr hr Y.isc.cl (ee_var 1 rfl) trivial) (Nat.le_trans hp (by decide)))) hpr))
theorem ok_cty_eq (T : Bn mg) (Y : CtyF K mg C) (cr : Prp P w K mg base 1 C "runs" (Pm1 (rCty K C) (rForm K) (fun _ => True) id)) (F : Fun K "__eq__" "County.__eq__" (tM 32 15) f fd) : FnE P w K mg base 3 f (Pm2 (rCty K C) (rCty K C) rBl (fun _ _ => True) fun a b => decide (a = b)) := by
  refine fn_pm F sc32_15 (fun _ => rfl) (fun _ _ _ _ _ _ us hl => match us, hl with | [_, _], _ => rfl) fun q B0 H0 y hr hp => ?_
  exact tr_rt (EE.m (ee_andV (ee_isC Y.isc T.isinstance (ee_var 1 rfl) (ee_cls Y.mgC)) fun _ => ee_eqT eqT_form (by decide) hr.units (ee_fld (ee_var 0 rfl) Y.isc.cl Y.nr rfl) (ee_prop cr hr Y.isc.cl (ee_var 1 rfl) trivial)))
end
end K81
set_option Elab.async false
set_option linter.all false
set_option maxRecDepth 100000
set_option maxHeartbeats 1900000
namespace K81
open PySem L2
theorem vs_strs {B : Hp} : ∀ {vs : List V} {xs : List Str}, Vs rStr B vs xs → vs = xs.map V.str
  | _, _, .nil => rfl
  | _, _, .cons h t => by rw [vs_strs t]; cases h; rfl
theorem vs_strsB (B : Hp) : ∀ xs : List Str, Vs rStr B (xs.map V.str) xs
  | [] => .nil
  | _ :: xs => .cons rfl (vs_strsB B xs)
theorem tyX_tup {K : Fr} {H : Hp} {a : Addr} {xs : List V} (h : SqT K H a xs) : TyX K H (.ref a) (.type "tuple") := by
  rcases h with (h | ⟨o, h⟩) | ⟨o, its, n, h, hc, _⟩
  · exact .base (.tup h)
  · exact .fTuple h
  · exact .kTuple h hc
/-- a text's signs -/
def signs (z : Str) : List Str := z.cps.toList.map fun c => ⟨#[c]⟩
section
variable {X : Cx} {Γ Γ' : List Slot} {M M' : Mem} {α β γ : Type} {r : RT α} {s : RT β} {tg a b e o : Expr} {es elts : List Expr} {pos p2 p tpos apos : Pos} {n : Str} {kk j k : Nat} {w : Addr → Prop} {B0 H0 BX : Hp} {D D' : Ends} {rest ss : List Stmt} {I : L2.St → Hp → Prop} {lo hi : Option Expr}
theorem ei_str {z : Str} (h : EE X Γ rStr e z) : EI X Γ tg e rStr (signs z) :=
  PI.imp (pi_str h) fun σ H R ⟨B, en, ex, q⟩ => ⟨B, en, ex, fun v B1 H1 g1 rv => ⟨z, rv, q _ B1 H1 g1 ⟨fun H e => by show z.cps.size ≤ _; simp [signs], fun i H e hi => by show i < z.cps.size; simpa [signs] using hi, fun i H v H' B x eb eh hx hy => ⟨B, by rw [hy.1]; exact Go.rf eh, by
    obtain ⟨_, c, h1, h2⟩ := hy
    unfold signs at hx
    rw [List.getElem?_map, Array.getElem?_toList, h1] at hx
    have hx : (⟨#[c]⟩ : Str) = x := Option.some.inj hx
    subst hx
    exact h2⟩⟩⟩⟩
/-- sign in text -/
theorem ee_inSign {c : Nat} {z : Str} {j1 : Nat} {p1 : Pos} (ha : EE X Γ rStr a ⟨#[c]⟩) : EE X Γ rBl (.Compare a [.In] [.Constant (.str z) j1 p1] pos) (decide (c ∈ z.cps.toList)) :=
  ee_cmp op_in_sign ha (ee_str (i := z)) (fun u v B H Q ex r1 r2 k => ⟨c, z, r1, r2, k B H (Go.rf ex)⟩) (by with_unfolding_all rfl)
theorem ee_ixS {z : Str} {i : Int} {c : Nat} (ha : EE X Γ rStr a z) (hb : EE X Γ rInt b i) (hl : z.length ≤ 100000) (hx : atI z.cps.toList i = some c) (hs : PlainIx b := by exact fun _ _ => rfl) : EE X Γ rStr (.Subscript a b pos) ⟨#[c]⟩ :=
  PE.imp (pe_ix ix_str ha hb hs) fun σ H Q ⟨B, en, ex, q⟩ => ⟨B, en, ex, fun u B1 H1 g1 r1 => ⟨B1, en.mono g1.b, g1.i, fun w B2 H2 g2 r2 => ⟨z, i, c, r1, r2, big hl, hx, q _ B2 H2 (g1.tr g2) rfl⟩⟩⟩
theorem ee_slS {z : Str} {i j : Option Int} (ha : EE X Γ rStr a z) (hl : EO X Γ lo i) (hh : EO X Γ hi j) (hz : z.length ≤ 100000) : EE X Γ rStr (.Subscript a (.Slice lo hi none p2) pos) (cutS z i j) :=
  PE.imp (pe_slice sl_str ha hl hh) fun σ H Q ⟨B, en, ex, q⟩ => ⟨B, en, ex, fun u B1 H1 g1 r1 => ⟨B1, en.mono g1.b, g1.i, fun B2 H2 g2 => ⟨B2, en.mono (g1.tr g2).b, g2.i, fun B3 H3 g3 => ⟨z, r1, big hz, q _ B3 _ ((g1.tr g2).tr g3) rfl⟩⟩⟩⟩
theorem ee_lenS {z : Str} (hm : X.mg "len" = none) (ha : EE X Γ rStr a z) (hl : z.length ≤ 100000) (hg : Gl X "len" := by rfl) (he : starEach [a] X.env = (false, eval a X.env) :: starEach [] X.env := by rfl) : EE X Γ rInt (.Call (.Name "len" p) [a] [] pos) (z.length : Int) :=
  ee_cb1 call_len_str PySem.boot_len hm ha (fun v B H Q ex rv q => ⟨z, by rw [show v = V.str z from rv], big hl, q _ B H (Go.rf ex) rfl⟩) hg (by decide) (by decide) he
theorem ee_intS {z : Str} {i : Int} (hm : X.mg "int" = none) (ha : EE X Γ rStr a z) (hi : PySem.intText? z = some i) (hl : z.length ≤ 640) (hg : Gl X "int" := by rfl) (he : starEach [a] X.env = (false, eval a X.env) :: starEach [] X.env := by rfl) : EE X Γ rInt (.Call (.Name "int" p) [a] [] pos) i :=
  ee_ct1 call_int_str (by rfl) hm ha (fun v B H Q ex rv q => ⟨z, i, by rw [show v = V.str z from rv], hi, hl, q _ B H (Go.rf ex) rfl⟩) hg (by decide) (by decide) he
theorem ee_strI {i : Int} (hm : X.mg "str" = none) (ha : EE X Γ rInt a i) (hl : i.natAbs.log2 < 1920) (hg : Gl X "str" := by rfl) (he : starEach [a] X.env = (false, eval a X.env) :: starEach [] X.env := by rfl) : EE X Γ rStr (.Call (.Name "str" p) [a] [] pos) (toString i) :=
  ee_ct1 call_str_int (by rfl) hm ha (fun v B H Q ex rv q => ⟨i, by rw [show v = V.int i from rv], hl, q _ B H (Go.rf ex) rfl⟩) hg (by decide) (by decide) he
theorem ee_addS {x y : Str} (ha : EE X Γ rStr a x) (hb : EE X Γ rStr b y) (hl : x.length + y.length ≤ 100000) : EE X Γ rStr (.BinOp a .Add b pos) (x ++ y) :=
  ee_op op_add_str ha hb fun u v B H Q ex r1 r2 k => ⟨x, y, r1, r2, big hl, k _ B H (Go.rf ex) rfl⟩
theorem ee_split {t sep : Str} (ha : EE X Γ rStr a t) (hb : EE X Γ rStr b sep) (hs : (sep.length == 0) = false) (hl : t.length ≤ 100000) (he : starEach [b] X.env = [(false, eval b X.env)] := by rfl) (hbase : attributeBase a "split" X.env (eval a X.env) = eval a X.env := by rfl) (hline : (apos.endLine == pos.line) = true := by rfl) :
    EE X Γ (rLst X.K rStr) (.Call (.Attribute a "split" apos) [b] [] pos) (Txt.split t sep) :=
  PE.imp (pe_split ha hb he hbase hline) fun σ H Q ⟨B, en, ex, q⟩ => ⟨B, en, ex, fun u B1 H1 g1 r1 => ⟨⟨t, r1⟩, B1, en.mono g1.b, g1.i, fun v B2 H2 g2 r2 => ⟨t, sep, r1, by rw [show v = V.str sep from r2], hs, Nat.le_trans (Nat.add_le_add_right hl 2) (by decide), fun l hl => q _ (upd B2 l _) _ ((g1.tr g2).tr (Go.new g2.i hl)) ⟨l, _, rfl, upd_same, vs_strsB _ _⟩⟩⟩⟩
theorem ee_join {sep : Str} {ys : List Str} (ha : EE X Γ rStr a sep) (hb : EE X Γ (rLst X.K rStr) b ys) (hl : (ys.map (·.length)).sum + ys.length * sep.length ≤ 16777216) (he : starEach [b] X.env = [(false, eval b X.env)] := by rfl) (hbase : attributeBase a "join" X.env (eval a X.env) = eval a X.env := by rfl) (hline : (apos.endLine == pos.line) = true := by rfl) :
    EE X Γ rStr (.Call (.Attribute a "join" apos) [b] [] pos) (Txt.join sep ys) :=
  PE.imp (pe_join ha hb he hbase hline) fun σ H Q ⟨B, en, ex, q⟩ => ⟨B, en, ex, fun u B1 H1 g1 r1 => ⟨⟨sep, r1⟩, B1, en.mono g1.b, g1.i, fun v B2 H2 g2 ⟨c, vs, e1, e2, e3⟩ => ⟨sep, c, ys, r1, by rw [e1], .inl (by rw [← vs_strs e3]; exact g2.i.lst e2), hl, q _ B2 _ (g1.tr g2) rfl⟩⟩⟩
theorem ee_starts {t z : Str} (ha : EE X Γ rStr a t) (hb : EE X Γ rStr b z) (he : starEach [b] X.env = [(false, eval b X.env)] := by rfl) (hbase : attributeBase a "startswith" X.env (eval a X.env) = eval a X.env := by rfl) (hline : (apos.endLine == pos.line) = true := by rfl) :
    EE X Γ rBl (.Call (.Attribute a "startswith" apos) [b] [] pos) (Txt.startswith t z) :=
  PE.imp (pe_m1 PySem.F.slot_str_startswith PySem.F.type_str_startswith mt_startswith ha hb he hbase hline) fun σ H Q ⟨B, en, ex, q⟩ => ⟨B, en, ex, fun u B1 H1 g1 r1 => ⟨⟨t, r1⟩, B1, en.mono g1.b, g1.i, fun v B2 H2 g2 r2 => ⟨t, z, r1, by rw [show v = V.str z from r2], q _ B2 _ (g1.tr g2) rfl⟩⟩⟩
/-- it is there -/
theorem ee_some {y : α} (h : EE X Γ (rOpt r) e (some y)) : EE X Γ r e y := ee_imp h fun H v h => h.2
theorem ee_opt {y : α} (hn : ∀ H v, r.rep H v y → v ≠ .non) (h : EE X Γ r e y) : EE X Γ (rOpt r) e (some y) := ee_imp h fun H v h => ⟨hn H v h, h⟩
theorem vs_somes {H : Hp} {q : RT (Option α)} (hq : ∀ v y, q.rep H v (some y) → r.rep H v y) : ∀ {vs : List V} {xs : List α}, Vs q H vs (xs.map some) → Vs r H vs xs
  | [], [], _ => .nil
  | [], _ :: _, h => nomatch h
  | _ :: _, [], h => nomatch h
  | v :: vs, x :: xs, .cons h t => .cons (hq _ _ h) (vs_somes hq t)
theorem ee_somes {K : Fr} {xs : List α} (h : EE X Γ (rLst K (rOpt r)) e (xs.map some)) : EE X Γ (rLst K r) e xs := ee_imp h fun H v ⟨a, vs, h1, h2, h3⟩ => ⟨a, vs, h1, h2, vs_somes (q := rOpt r) (fun _ _ h => h.2) h3⟩
/-- None in xs, xs all data that are no None -/
theorem ee_noneIn [DecidableEq α] {dd : α → PyData} {m : Nat} {xs : List α} {j1 : Nat} {p1 : Pos} (q : EqT X.K r dd m) (hm : m ≤ 60) (hn : ∀ x, PyData.eqv (dd x) .none = false) (hu : X.A.units + 65 < cLine) (hb : EE X Γ (rLst X.K r) b xs) (hmk : behindInMarks .In b = false := by with_unfolding_all rfl) : EE X Γ rBl (.Compare (.Constant .none j1 p1) [.In] [b] pos) false :=
  ee_cmp (op_inD hu) (ee_non (j := j1) (pos := p1)) hb (fun u v B H Q ex r1 ⟨c, vs, e1, e2, e3⟩ k => ⟨.none, xs.map dd, by rw [show u = V.non from r1]; exact .non, by rw [e1]; exact .lst (ex.lst e2) (dpAll_of (fun _ _ h => q.dp h) (e3.mono ex)), rfl, by
    unfold SeqAt.shaped
    have h1 : (PyData.list (xs.map dd)).canLay0 = true := (eqT_tup q).lay xs
    have h2 : (PyData.list (xs.map dd)).depth ≤ m + 1 := (eqT_tup q).dep xs
    rw [h1]
    simpa using Nat.le_trans h2 (by omega), by
    have : ((xs.map dd).any fun z => PyData.eqv z .none) = false := by
      rw [List.any_map]
      exact List.any_eq_false.mpr fun x _ => by simp [hn]
    rw [this]
    exact k B H (Go.rf ex)⟩) hmk
theorem eb_noneIn [DecidableEq α] {dd : α → PyData} {m : Nat} {xs : List α} {j1 : Nat} {p1 : Pos} (q : EqT X.K r dd m) (hm : m ≤ 60) (hn : ∀ x, PyData.eqv (dd x) .none = false) (hu : X.A.units + 65 < cLine) (hb : EE X Γ (rLst X.K r) b xs) (hmk : behindInMarks .In b = false := by with_unfolding_all rfl) : EB X Γ (.Compare (.Constant .none j1 p1) [.In] [b] pos) false :=
  eb_cmp (op_inD hu) (ee_non (j := j1) (pos := p1)) hb (fun u v B H Q ex r1 ⟨c, vs, e1, e2, e3⟩ k => ⟨.none, xs.map dd, by rw [show u = V.non from r1]; exact .non, by rw [e1]; exact .lst (ex.lst e2) (dpAll_of (fun _ _ h => q.dp h) (e3.mono ex)), rfl, by
    unfold SeqAt.shaped
    have h1 : (PyData.list (xs.map dd)).canLay0 = true := (eqT_tup q).lay xs
    have h2 : (PyData.list (xs.map dd)).depth ≤ m + 1 := (eqT_tup q).dep xs
    rw [h1]
    simpa using Nat.le_trans h2 (by omega), by
    have : ((xs.map dd).any fun z => PyData.eqv z .none) = false := by
      rw [List.any_map]
      exact List.any_eq_false.mpr fun x _ => by simp [hn]
    rw [this]
    exact k B H (Go.rf ex)⟩) hmk
theorem eb_or3 {c : Expr} {x y z : Bool} (ha : EB X Γ a x) (hb : x = false → EB X Γ b y) (hc : x = false → y = false → EB X Γ c z) : EB X Γ (.BoolOp .Or [a, b, c] pos) (x || (y || z)) := by
  have h2 : x = false → EB X Γ (.BoolOp .Or [b, c] pos) (y || z) := fun e => eb_or (hb e) (hc e)
  cases x with
  | false =>
    cases y with
    | false =>
      refine PT.imp (pw_or ha (pw_or (hb rfl) (pw_or1 (hc rfl rfl)))).pt fun σ H Q ⟨B, en, ex, q⟩ => ⟨B, en, ex, fun B1 H1 g1 => iteF ⟨B1, en.mono g1.b, g1.i, fun B2 H2 g2 => iteF ⟨B2, en.mono (g1.tr g2).b, g2.i, fun B3 H3 g3 => q B3 H3 ((g1.tr g2).tr g3)⟩⟩⟩
    | true =>
      refine PT.imp (pw_or ha (pw_or (hb rfl) (tB' := fun _ _ _ => False) ⟨fun _ _ _ _ _ _ _ h => h.elim⟩)).pt fun σ H Q ⟨B, en, ex, q⟩ => ⟨B, en, ex, fun B1 H1 g1 => iteF ⟨B1, en.mono g1.b, g1.i, fun B2 H2 g2 => iteT (q B2 H2 (g1.tr g2))⟩⟩
  | true =>
    refine PT.imp (pw_or ha (tB' := fun _ _ _ => False) ⟨fun _ _ _ _ _ _ _ h => h.elim⟩).pt fun σ H Q ⟨B, en, ex, q⟩ => ⟨B, en, ex, fun B1 H1 g1 => iteT (q B1 H1 g1)⟩
theorem ee_fact {pr : α → Prop} {x : α} (h : EE X Γ (rFact r pr) e x) : EE X Γ r e x := ee_imp h fun H v h => h.2
/-- a pair of one type, as a tuple of it -/
theorem ee_prT {K : Fr} {x : α × α} (h : EE X Γ (rPr K r r) e x) : EE X Γ (rTup K r) e [x.1, x.2] := ee_imp h fun H v ⟨a, u, w, h1, h2, h3, h4⟩ => ⟨a, [u, w], h1, h2, .cons h3 (.cons h4 .nil)⟩
end
end K81
set_option Elab.async false
set_option linter.all false
set_option maxRecDepth 100000
set_option maxHeartbeats 1900000
namespace K81
open PySem L2
/-! ### numbers and runs of texts -/
def digT : List Str := ["1", "2", "3", "4", "5", "6", "7", "8", "9"]
def numOf (t : Str) : Int := (PySem.intText? t).getD 0
def hdS (t : Str) : Nat := t.cps.toList.headD 0
def inDig (x : Str) : Bool := decide (hdS x ∈ ("0123456789" : Str).cps.toList)
theorem dig_facts : ∀ t ∈ digT, (decide (t = ("" : Str)) || !((signs t).map inDig).all id) = false ∧ (decide ((⟨#[hdS t]⟩ : Str) = ("0" : Str)) && !decide (t = ("0" : Str))) = false ∧ PySem.intText? t = some (numOf t) ∧ t.length ≤ 100 ∧ (∀ x ∈ signs t, x = ⟨#[hdS x]⟩) ∧ atI t.cps.toList 0 = some (hdS t) ∧ (signs t).length ≤ 100 := by decide +kernel
abbrev spNumIn (K : Fr) : Sp := Pm1 rStr (rOpt rInt) (fun t => t ∈ digT) (fun t => some (numOf t))
def partT : List Str := ["1", "4", "5", "2x3", "1x9", "3", "6", "4x2", "7"]
def partNs (t : Str) : List Int := (Txt.split t ("x" : Str)).map numOf
def runOf (t : Str) : Int × Int := ((partNs t).headD 0, if decide (((partNs t).length : Int) = 2) then ((partNs t).getD 1 0) else 1)
theorem part_facts : ∀ t ∈ partT, (∀ q ∈ Txt.split t ("x" : Str), q ∈ digT) ∧ t.length ≤ 100 ∧ (Txt.split t ("x" : Str)).length ≤ 2 ∧ 0 < (partNs t).length ∧ 1 ≤ (partNs t).headD 0 ∧ (((partNs t).length = 2) → 2 ≤ (partNs t).getD 1 0) := by decide +kernel
abbrev spRunIn (K : Fr) : Sp := Pm1 rStr (rOpt (rPr K rInt rInt)) (fun t => t ∈ partT) (fun t => some (runOf t))
def ofT : List Str := ["1 4 5", "2x3", "1x9", "3 6", "-", "4x2", "7"]
def ofRuns (t : Str) : Form := (Txt.split t (" " : Str)).map runOf
def countyOf (t : Str) : Form := if decide (t = ("-" : Str)) then [] else summedM (ofRuns t)
def runsOk (l : Form) : Bool := ((l.zip (l.drop 1)).map fun q => decide (q.1.1 < q.2.1)).all id
theorem of_facts : ∀ t ∈ ofT, t.length ≤ 100 ∧ (t ≠ ("-" : Str) → (∀ q ∈ Txt.split t (" " : Str), q ∈ partT) ∧ (Txt.split t (" " : Str)).length ≤ 100 ∧ runsOk (ofRuns t) = true ∧ (∀ p ∈ ofRuns t, 1 ≤ p.1 ∧ p.1 ≤ 1000000 ∧ 1 ≤ p.2)) := by decide +kernel
section
variable {P : Program} {w : World} {K : Fr} {mg : Str → Option Value} {base : Heap} {f : Addr} {fd : FuncData} {C : Addr}
theorem ok_number_in (T : Bn mg) (F : Fun K "number_in" "number_in" (tS 14) f fd) : FnE P w K mg base 1 f (spNumIn K) := by
  refine fn_pm F sc14 (fun _ => rfl) (fun _ _ _ _ _ _ us hl => match us, hl with | [_], _ => rfl) fun q B0 H0 y hr hp => ?_
  obtain ⟨h1, h2, h3, h4, h5, h6, h7⟩ := dig_facts y hp
  refine tr_ifF (EB.m (eb_eq (eb_or (eb_eqS (ee_var 0 rfl) ee_str) fun _ => eb_not (eb_val (ee_all rfl T.all (ee_lc (g := inDig) (own := [("sign", 1)]) (N := N14) (sc := defScope (tS 14)) rfl sc14.nd (by decide +kernel) (ei_str (ee_var 0 rfl)) (fun q => et_name 1 sc14.nd)
    (fun q x hx => ee_inSign (c := hdS x) (ee_eq (ee_var 1 rfl) (h5 x hx))) (by omega))))) h1)) (tr_go ?_)
  refine tr_rtE (EE.m (ee_if (z := some (numOf y)) (y := none) (eb_and (eb_eqS (ee_ixS (ee_var 0 rfl) ee_int (by omega) h6) ee_str) fun _ => eb_neS (ee_var 0 rfl) ee_str) (fun h => ee_none) fun _ => ee_opt (fun H v e => by rw [show v = V.int _ from e]; exact fun z => nomatch z) (ee_intS T.int (ee_var 0 rfl) h3 (by omega)))) ?_
  rw [h2]
  rfl
theorem ok_is_number (T : Bn mg) (hi : PySem.W.kitOne K (.type "int") (.type "int") = some true) (hb : PySem.W.kitOne K (.type "int") (.type "bool") = some false) (hm : mg "bool" = none) (F : Fun K "is_number" "is_number" (tS 12) f fd) : FnE P w K mg base 1 f (Pm1 rInt rBl (fun _ => True) (fun _ => true)) := by
  refine fn_pm F sc12 (fun _ => rfl) (fun _ _ _ _ _ _ us hl => match us, hl with | [_], _ => rfl) fun q B0 H0 y hr hp => ?_
  exact tr_rt (EE.m (ee_andV (ee_isi (fun H v e => by rw [show v = V.int _ from e]; exact .base (.int _)) (.ty "int") hi T.isinstance (ee_var 0 rfl) (PE.imp (pe_bltn rfl T.int (by rfl) (v := .ty "int") rfl) fun σ H Q ⟨B, en, ex, q⟩ => q _ B H (Go.rf ex) rfl)) fun _ =>
    ee_notV (ee_isi (fun H v e => by rw [show v = V.int _ from e]; exact .base (.int _)) (.ty "bool") hb T.isinstance (ee_var 0 rfl) (PE.imp (pe_bltn rfl hm (by rfl) (v := .ty "bool") rfl) fun σ H Q ⟨B, en, ex, q⟩ => q _ B H (Go.rf ex) rfl))))
end
end K81
set_option Elab.async false
set_option linter.all false
set_option maxRecDepth 100000
set_option maxHeartbeats 1900000
namespace K81
open PySem L2
theorem ee_ty {X : Cx} {Γ : List Slot} {n : Str} {t : String} {pos : Pos} (hm : X.mg n = none) (hv : bootBuiltins n = some (.type t)) (hg : Gl X n := by rfl) (hn : n ≠ "__name__" := by decide) (hd : (n == ("__debug__" : Str)) = false := by decide) : EE X Γ (rVal (.ty t)) (.Name n pos) () :=
  PE.imp (pe_bltn hg hm hv (v := .ty t) rfl hn hd) fun σ H Q ⟨B, en, ex, q⟩ => q _ B H (Go.rf ex) rfl
/-- a module's number, a module's text -/
theorem ee_gInt {X : Cx} {Γ : List Slot} {n : Str} {i : Int} {t : Tok} {pos : Pos} (hm : X.mg n = some (.int i t)) (hg : Gl X n := by rfl) (hd : (n == ("__debug__" : Str)) = false := by decide) : EE X Γ rInt (.Name n pos) i := ee_glob (v := .int i) hg hm ⟨t, rfl⟩ (fun _ => rfl) hd
theorem ee_gStr {X : Cx} {Γ : List Slot} {n : Str} {z : Str} {t : Tok} {pos : Pos} (hm : X.mg n = some (.str z t)) (hg : Gl X n := by rfl) (hd : (n == ("__debug__" : Str)) = false := by decide) : EE X Γ rStr (.Name n pos) z := ee_glob (v := .str z) hg hm ⟨t, rfl⟩ (fun _ => rfl) hd
/-- the class of ints, tuples for isinstance -/
structure IsK (K : Fr) : Prop where
  ii : PySem.W.kitOne K (.type "int") (.type "int") = some true
  ib : PySem.W.kitOne K (.type "int") (.type "bool") = some false
  tt : PySem.W.kitOne K (.type "tuple") (.type "tuple") = some true
/-- C(), its one default given -/
def Mkr0 (P : Program) (w : World) (K : Fr) (mg : Str → Option Value) (base : Heap) (k : Nat) (n : Str) (C : Addr) (sp : Sp) {α : Type} (r : RT α) (x : α) : Prop := ∃ f fd ps dv d, FnOk P w K mg base CX0 k f fd ps sp ∧ mg n = some (.ref C) ∧ Mk K C f ∧ Binds K fd ps [dv] ∧ RelV d dv ∧ ∀ B, r.rep B d x
abbrev CtyMk0 (P : Program) (w : World) (K : Fr) (mg : Str → Option Value) (base : Heap) (C : Addr) : Prop := Mkr0 P w K mg base 2 "County" C (spCtyInit K C) (rSeq K (rPr K rInt rInt)) []
theorem ctyOk_nil : CtyOk [] := ⟨.nil, (fun _ h => nomatch h), by decide⟩
theorem preRuns_nil : PreRuns [] := ⟨(fun _ h => nomatch h), by decide⟩
theorem ee_mkCty0 {X : Cx} {Γ : List Slot} {p pos : Pos} {C : Addr} {k : Nat} (mk : CtyMk0 X.prog X.w X.K X.mg X.base C) (hr : Room k X.A) (hk : 3 ≤ k := by decide) (hg : Gl X "County" := by rfl) : EE X Γ (rCty X.K C) (.Call (.Name "County" p) [] [] pos) [] := by
  obtain ⟨f, fd, ps, dv, d, h1, h2, h3, h4, h5, h6⟩ := mk
  exact ee_make0 h1 h2 h3 h4 h5 hr h6 preRuns_nil (F := fun runs => [("own_runs", dt (rForm X.K) runs)]) rfl ctyOk_nil hk hg
section
variable {P : Program} {w : World} {K : Fr} {mg : Str → Option Value} {base : Heap} {f : Addr} {fd : FuncData} {C : Addr} {tk tk2 tk3 : Tok}
abbrev spIsNum : Sp := Pm1 rInt rBl (fun _ => True) (fun _ => true)
abbrev spIsRun (K : Fr) : Sp := Pm1 (rPr K rInt rInt) rBl (fun p => 0 < p.1 ∧ 0 < p.2) (fun _ => true)
abbrev spIsRuns (K : Fr) : Sp := Pm1 (rForm K) rBl (fun l => l.length ≤ 100 ∧ runsOk l = true ∧ ∀ p ∈ l, 0 < p.1 ∧ 0 < p.2) (fun _ => true)
theorem ok_is_run (T : Bn mg) (S : IsK K) (c12 : Cal P w K mg base 1 "is_number" spIsNum) (hP : mg "PAIR" = some (.int 2 tk)) (F : Fun K "is_run" "is_run" (tS 30) f fd) : FnE P w K mg base 2 f (spIsRun K) := by
  refine fn_pm F sc30 (fun _ => rfl) (fun _ _ _ _ _ _ us hl => match us, hl with | [_], _ => rfl) fun q B0 H0 y hr hp => ?_
  refine tr_ifF (EB.m (eb_eq (eb_or (eb_not (eb_val (ee_isi (r := rPr K rInt rInt) (fun H v ⟨a, u, w, e1, e2, _⟩ => by rw [e1]; exact tyX_tup e2) (.ty "tuple") S.tt T.isinstance (ee_var (r := rPr K rInt rInt) 0 rfl) (ee_ty T.tuple rfl)))) fun _ => eb_neI (ee_len T.len (ee_seqT (ee_prT (ee_var (r := rPr K rInt rInt) 0 rfl)))) (ee_gInt hP)) ?_)) (tr_go ?_)
  · rfl
  · refine tr_rtE (EE.m (ee_all rfl T.all (ee_lc (g := fun _ => true) (own := [("part", 1)]) (N := N30) (sc := defScope (tS 30)) rfl sc30.nd (by decide +kernel) (ei_tup (ee_prT (ee_var (r := rPr K rInt rInt) 0 rfl))) (fun q => et_name 1 sc30.nd)
      (fun q x hx => ee_eq (ee_andV (ee_call1 c12 hr (ee_var 1 rfl) trivial) fun _ => ee_gt (ee_var 1 rfl) ee_int) ?_) (by simp)))) rfl
    have : 0 < x := by
      simp only [List.mem_cons, List.not_mem_nil, or_false] at hx
      rcases hx with e | e
      · rw [e]; exact hp.1
      · rw [e]; exact hp.2
    simp [this]
theorem ok_is_runs (T : Bn mg) (S : IsK K) (c30 : Cal P w K mg base 2 "is_run" (spIsRun K)) (F : Fun K "is_runs" "is_runs" (tS 31) f fd) : FnE P w K mg base 3 f (spIsRuns K) := by
  refine fn_pm F sc31 (fun _ => rfl) (fun _ _ _ _ _ _ us hl => match us, hl with | [_], _ => rfl) fun q B0 H0 y hr ⟨hl, ho, hp⟩ => ?_
  refine tr_ifF (EB.m (eb_eq (eb_or (eb_not (eb_val (ee_isi (r := rForm K) (fun H v ⟨a, vs, e1, e2, _⟩ => by rw [e1]; exact tyX_tup e2) (.ty "tuple") S.tt T.isinstance (ee_var (r := rForm K) 0 rfl) (ee_ty T.tuple rfl)))) fun _ => eb_not (eb_val (ee_all rfl T.all
    (ee_lc (g := fun _ => true) (own := [("run", 1)]) (N := N31) (sc := defScope (tS 31)) rfl sc31.nd (by decide +kernel) (ei_tup (ee_var 0 rfl)) (fun q => et_name 1 sc31.nd) (fun q x hx => ee_eq (ee_call1 c30 hr (ee_var 1 rfl) (hp x hx)) rfl) (by omega))))) ?_)) (tr_go ?_)
  · show (!true || !((y.map fun _ => true).all id)) = false
    simp
  · exact tr_rtE (EE.m (ee_all rfl T.all (ee_lc (own := [("run", 1), ("later", 2)]) (N := N31) (sc := defScope (tS 31)) rfl sc31.nd (by decide +kernel) (ei_zipT T.zip (ee_var 0 rfl) (ee_eq (ee_slT (ee_var 0 rfl) (eo_some ee_int) eo_none) (cut_from _ 1))) (fun q => et_pr rfl (et_name 1 sc31.nd) (et_name 2 sc31.nd))
      (fun q x hx => ee_lt (ee_fst (ee_var 1 rfl) ee_int) (ee_fst (ee_var 2 rfl) ee_int)) (by rw [List.length_zip]; omega)))) ho
theorem ok_run_in (T : Bn mg) (c14 : Cal P w K mg base 1 "number_in" (spNumIn K)) (hP : mg "PAIR" = some (.int 2 tk)) (hX : mg "TIMES" = some (.str "x" tk2)) (F : Fun K "run_in" "run_in" (tS 28) f fd) : FnE P w K mg base 2 f (spRunIn K) := by
  refine fn_pm F sc28 (fun _ => rfl) (fun _ _ _ _ _ _ us hl => match us, hl with | [_], _ => rfl) fun q B0 H0 y hr hp => ?_
  obtain ⟨h1, h2, h3, h4, h5, h6⟩ := part_facts y hp
  have hpl : (partNs y).length = (Txt.split y ("x" : Str)).length := List.length_map _
  have hsp : (Txt.split y ("x" : Str)).map (fun t => some (numOf t)) = (partNs y).map some := by unfold partNs; rw [List.map_map]; rfl
  refine tr_setc (ea_lc (s := rOpt rInt) 1 (own := [("part", 2)]) (N := N28) (sc := defScope (tS 28)) rfl sc28.nd (by decide +kernel) (ei_lst (ee_split (ee_var 0 rfl) (ee_gStr hX) (by decide +kernel) (by omega))) (fun q => et_name 2 sc28.nd) (fun q x hx => ee_call1 c14 hr (ee_var 2 rfl) (h1 x hx)) (by omega)) ?_
  rw [hsp]
  have vp : ∀ {Γ : List Slot} {pos : Pos}, Γ[1]? = some (sl (rLst K (rOpt rInt)) ((partNs y).map some)) → EE (cxE P w K mg base N28 "run_in" (tS 28) f q) Γ (rLst K rInt) (.Name "parts" pos) (partNs y) := fun h => ee_somes (ee_var 1 h)
  have a0 : atI (partNs y) 0 = some ((partNs y).headD 0) := by
    cases e : partNs y with
    | nil => rw [e] at h4; exact absurd h4 (by decide)
    | cons a l => exact atI_nat (j := 0) rfl
  have a1 : decide (((partNs y).length : Int) = 2) = true → atI (partNs y) 1 = some ((partNs y).getD 1 0) := fun h => by
    cases e : partNs y with
    | nil => rw [e] at h4; exact absurd h4 (by decide)
    | cons a l =>
      cases l with
      | nil => rw [e] at h; simp at h
      | cons b l => exact atI_nat (j := 1) rfl
  have hu : (cxE P w K mg base N28 "run_in" (tS 28) f q).A.units + 65 < cLine := by have := hr.un; omega
  refine tr_ifF (EB.m (eb_eq (eb_or3 (eb_noneIn (eqT_int (K := K)) (by decide) (fun _ => rfl) hu (vp rfl)) (fun _ => eb_gt (ee_len T.len (ee_seqL (vp rfl))) (ee_gInt hP)) fun _ _ => eb_lt (ee_ixL (vp rfl) ee_int a0) ee_int) ?_)) (tr_go ?_)
  · have e1 : ¬ (2 : Int) < ((partNs y).length : Int) := by rw [hpl]; omega
    have e2 : ¬ (partNs y).headD 0 < 1 := by omega
    rw [decide_eq_false e1, decide_eq_false e2]
    rfl
  · refine tr_ifF (EB.m (eb_eq (eb_and (eb_eqI (ee_len T.len (ee_seqL (vp rfl))) (ee_gInt hP)) fun h => eb_lt (ee_ixL (vp rfl) ee_int (a1 h)) (ee_gInt hP)) ?_)) (tr_go ?_)
    · cases e : decide (((partNs y).length : Int) = 2) with
      | false => rfl
      | true =>
        have h7 := h6 (by have := of_decide_eq_true e; omega)
        have h8 : ¬ (partNs y).getD 1 0 < 2 := by omega
        simp only [Bool.true_and]
        exact decide_eq_false h8
    · exact tr_rt (EE.m (ee_opt (r := rPr K rInt rInt) (fun H v ⟨a, u, w, e1, _⟩ => by rw [e1]; exact fun z => nomatch z) (ee_pr (ee_ixL (vp rfl) ee_int a0) (ee_if (eb_eqI (ee_len T.len (ee_seqL (vp rfl))) (ee_gInt hP)) (fun h => ee_ixL (vp rfl) ee_int (a1 h)) fun _ => ee_int))))
end
end K81
set_option Elab.async false
set_option linter.all false
set_option maxRecDepth 100000
set_option maxHeartbeats 1900000
namespace K81
open PySem L2
abbrev spCtyOf (K : Fr) (C : Addr) : Sp := Pm1 rStr (rCty K C) (fun t => t ∈ ofT) countyOf
section
variable {P : Program} {w : World} {K : Fr} {mg : Str → Option Value} {base : Heap} {f : Addr} {fd : FuncData} {C : Addr} {tk tk2 tk3 : Tok}
theorem ok_cty_of (T : Bn mg) (c28 : Cal P w K mg base 2 "run_in" (spRunIn K)) (c31 : Cal P w K mg base 3 "is_runs" (spIsRuns K)) (mk : Mkr P w K mg base 2 "County" C (spCtyInit K C)) (mk0 : CtyMk0 P w K mg base C) (hN : mg "NOTHING" = some (.str "-" tk)) (F : Fun K "of" "County.of" (tM 32 1) f fd) : FnE P w K mg base 4 f (spCtyOf K C) := by
  refine fn_pm F sc32_1 (fun _ => rfl) (fun _ _ _ _ _ _ us hl => match us, hl with | [_], _ => rfl) fun q B0 H0 y hr hp => ?_
  obtain ⟨h1, h2⟩ := of_facts y hp
  refine tr_if (EB.m (eb_eqS (ee_var 0 rfl) (ee_gStr hN))) (fun h => ?_) (fun h => tr_go ?_)
  · exact tr_rtE (y := countyOf y) (EE.m (ee_mkCty0 mk0 hr)) (by unfold countyOf; rw [if_pos h])
  · obtain ⟨h3, h4, h5, h6⟩ := h2 (of_decide_eq_false h)
    have hsp : (Txt.split y (" " : Str)).map (fun t => some (runOf t)) = (ofRuns y).map some := by unfold ofRuns; rw [List.map_map]; rfl
    have hln : (ofRuns y).length ≤ 100 := by unfold ofRuns; rw [List.length_map]; exact h4
    refine tr_setc (ea_lc (s := rOpt (rPr K rInt rInt)) 1 (own := [("part", 2)]) (N := N32_1) (sc := defScope (tM 32 1)) rfl sc32_1.nd (by decide +kernel) (ei_lst (ee_split (ee_var 0 rfl) ee_str (by decide +kernel) (by omega))) (fun q => et_name 2 sc32_1.nd) (fun q x hx => ee_call1 c28 hr (ee_var 2 rfl) (h3 x hx)) (by omega)) ?_
    rw [hsp]
    have vp : ∀ {Γ : List Slot} {pos : Pos}, Γ[1]? = some (sl (rLst K (rOpt (rPr K rInt rInt))) ((ofRuns y).map some)) → EE (cxE P w K mg base N32_1 "County.of" (tM 32 1) f q) Γ (rLst K (rPr K rInt rInt)) (.Name "runs" pos) (ofRuns y) := fun h => ee_somes (ee_var 1 h)
    have hu : (cxE P w K mg base N32_1 "County.of" (tM 32 1) f q).A.units + 65 < cLine := by have := hr.un; omega
    refine tr_ifF (EB.m (eb_eq (eb_or (eb_noneIn (eqT_pr (eqT_int (K := K)) (eqT_int (K := K))) (by decide) (fun _ => rfl) hu (vp rfl)) fun _ => eb_not (eb_val (ee_call1 c31 hr (ee_tupleOf T.tuple (ee_seqL (vp rfl))) ⟨hln, h5, fun p hp => by have := h6 p hp; omega⟩))) rfl)) (tr_go ?_)
    exact tr_rtE (y := countyOf y) (EE.m (ee_mkCty mk hr (ee_seqL (vp rfl)) ⟨h6, by omega⟩)) (by unfold countyOf; rw [if_neg (by rw [h]; simp)])
end
end K81
set_option Elab.async false
set_option linter.all false
set_option maxRecDepth 100000
set_option maxHeartbeats 1900000
namespace K81
open PySem L2
/-! ### steps -/
abbrev Stp := Bool × Int
def kindS (b : Bool) : Str := if b then "town" else "county"
abbrev stpF (x : Stp) : List (Str × Dat) := [("own_kind", dt rStr (kindS x.1)), ("own_least", dt rInt x.2)]
abbrev rStp (C : Addr) : RT Stp := rIns C stpF (fun x => 1 ≤ x.2)
structure StpF (K : Fr) (mg : Str → Option Value) (C : Addr) : Prop where
  isc : Isc K C
  nk : NoAttr K C "own_kind"
  nl : NoAttr K C "own_least"
  mgC : mg "Step" = some (.ref C)
/-- a module's tuple of texts -/
def GTup (K : Fr) (mg : Str → Option Value) (n : Str) {α : Type} (r : RT α) (x : α) : Prop := ∃ a, mg n = some (.ref a) ∧ ∀ H, r.rep H (.ref a) x
theorem ee_gT {X : Cx} {Γ : List Slot} {n : Str} {α : Type} {r : RT α} {x : α} {pos : Pos} (h : GTup X.K X.mg n r x) (hg : Gl X n := by rfl) (hd : (n == ("__debug__" : Str)) = false := by decide) : EE X Γ r (.Name n pos) x := by
  obtain ⟨a, h1, h2⟩ := h
  exact ee_glob (v := .ref a) hg h1 rfl h2 hd
def formOfStep (x : Stp) : Form := if x.1 then [(1, x.2)] else [(x.2, x.2)]
def stepRun (x : Stp) (c : Form) : Form := if x.1 then onlyM c x.2 else if x.2 ≤ rowsM c then c else []
abbrev kinds : List Str := ["town", "county"]
theorem eb_ninS {X : Cx} {Γ : List Slot} {a b : Expr} {pos : Pos} {x : Str} {ys : List Str} (ha : EE X Γ rStr a x) (hb : EE X Γ (rTup X.K rStr) b ys) (hx : x ∈ ys) (hm : behindInMarks .NotIn b = false := by with_unfolding_all rfl) : EB X Γ (.Compare a [.NotIn] [b] pos) false :=
  eb_cmp op_notIn_seq ha hb (fun u v B H Q ex r1 ⟨c, vs, e1, e2, e3⟩ k => ⟨c, vs, e1, .inr (ex.sqT e2), by rw [show u = V.str x from r1]; rfl, by rw [vs_strs e3]; simp [flatV], by
    have : inV u vs = true := by
      rw [show u = V.str x from r1, vs_strs e3]
      exact List.any_eq_true.mpr ⟨V.str x, List.mem_map.mpr ⟨x, hx, rfl⟩, by simp [eqV]⟩
    rw [this]
    exact k B H (Go.rf ex)⟩) hm
theorem kindS_mem : ∀ b, kindS b ∈ kinds := by decide +kernel
abbrev spStpInit (C : Addr) : Sp := PmI C (fun x : Str × Int => [dt rStr x.1, dt rInt x.2]) (fun x => x.1 ∈ kinds ∧ 1 ≤ x.2) (fun x => [("own_kind", dt rStr x.1), ("own_least", dt rInt x.2)])
theorem ee_mkStp {X : Cx} {Γ : List Slot} {a b : Expr} {p pos : Pos} {C : Addr} {k : Nat} {x : Stp} (mk : Mkr X.prog X.w X.K X.mg X.base 1 "Step" C (spStpInit C)) (hr : Room k X.A) (ha : EE X Γ rStr a (kindS x.1)) (hb : EE X Γ rInt b x.2) (hp : 1 ≤ x.2) (hk : 2 ≤ k := by decide) (hg : Gl X "Step" := by rfl)
    (he : starEach [a, b] X.env = (false, eval a X.env) :: starEach [b] X.env := by rfl) (he2 : starEach [b] X.env = (false, eval b X.env) :: starEach [] X.env := by rfl) (hpl : (backTo pos (starEach [b] X.env)).any (·.1) = false := by rfl) : EE X Γ (rStp C) (.Call (.Name "Step" p) [a, b] [] pos) x :=
  ee_make2 mk hr ha hb ⟨kindS_mem x.1, hp⟩ (F := stpF) rfl hp hk hg (by decide) he he2 hpl
section
variable {P : Program} {w : World} {K : Fr} {mg : Str → Option Value} {base : Heap} {f : Addr} {fd : FuncData} {C Cc : Addr} {tk tk2 tk3 : Tok}
theorem ok_stp_init (Y : StpF K mg C) (hk : GTup K mg "KINDS" (rTup K rStr) kinds) (F : Fun K "__init__" "Step.__init__" (tM 38 0) f fd) : FnE P w K mg base 1 f (spStpInit C) := by
  refine fn_init F sc38_0 (fun _ => rfl) (fun _ _ _ _ _ _ us hl => match us, hl with | [_, _, _], _ => rfl) fun q B0 H0 a y hr hp => ?_
  refine tr_ifF (EB.m (eb_eq (eb_or (eb_ninS (ee_var 1 rfl) (ee_gT hk) hp.1) fun _ => eb_lt (ee_var 2 rfl) ee_int) ?_)) (tr_go ?_)
  · have : ¬ y.2 < 1 := by have := hp.2; omega
    rw [decide_eq_false this]
    rfl
  · exact tr_fld2 (EE.m (ee_pr (ee_var 1 rfl) (ee_var 2 rfl))) (ee_var 0 rfl) (ee_var 0 rfl) rfl Y.isc.cl Y.nk Y.nl (by decide) mE_free tr_inited
theorem ok_stp_kind (Y : StpF K mg C) (F : Fun K "kind" "Step.kind" (tM 38 2) f fd) : FnE P w K mg base 1 f (Pm1 (rStp C) rStr (fun _ => True) fun x => kindS x.1) := by
  refine fn_pm F sc38_2 (fun _ => rfl) (fun _ _ _ _ _ _ us hl => match us, hl with | [_], _ => rfl) fun q B0 H0 y hr hp => ?_
  exact tr_rt (EE.m (ee_fld (ee_var 0 rfl) Y.isc.cl Y.nk rfl))
theorem ok_stp_least (Y : StpF K mg C) (F : Fun K "least" "Step.least" (tM 38 3) f fd) : FnE P w K mg base 1 f (Pm1 (rStp C) rInt (fun _ => True) fun x => x.2) := by
  refine fn_pm F sc38_3 (fun _ => rfl) (fun _ _ _ _ _ _ us hl => match us, hl with | [_], _ => rfl) fun q B0 H0 y hr hp => ?_
  exact tr_rt (EE.m (ee_fld (ee_var 0 rfl) Y.isc.cl Y.nl rfl))
theorem kind_town (b : Bool) : decide (kindS b = ("town" : Str)) = b := by cases b <;> decide +kernel
theorem ok_stp_call (Y : StpF K mg C) (Yc : CtyF K mg Cc) (hT : mg "TOWN" = some (.str "town" tk)) (co : Mth P w K mg base 4 Cc "only" (Pm2 (rCty K Cc) rInt (rCty K Cc) (fun _ _ => True) onlyM)) (cr : Prp P w K mg base 1 Cc "rows" (Pm1 (rCty K Cc) rInt (fun _ => True) rowsM)) (mk0 : CtyMk0 P w K mg base Cc)
    (F : Fun K "__call__" "Step.__call__" (tM 38 5) f fd) : FnE P w K mg base 5 f (Pm2 (rStp C) (rCty K Cc) (rCty K Cc) (fun _ _ => True) stepRun) := by
  refine fn_pm F sc38_5 (fun _ => rfl) (fun _ _ _ _ _ _ us hl => match us, hl with | [_, _], _ => rfl) fun q B0 H0 y hr hp => ?_
  obtain ⟨⟨b, n⟩, c⟩ := y
  refine tr_if (EB.m (eb_eq (eb_eqS (ee_fld (ee_var 0 rfl) Y.isc.cl Y.nk rfl) (ee_gStr hT)) (kind_town b))) (fun h => ?_) (fun h => tr_go ?_)
  · exact tr_rtE (y := stepRun (b, n) c) (EE.m (ee_meth1 co hr Yc.isc.cl (ee_var 1 rfl) rfl (ee_fld (ee_var 0 rfl) Y.isc.cl Y.nl rfl) trivial)) (by unfold stepRun; rw [if_pos h])
  · exact tr_rtE (y := stepRun (b, n) c) (EE.m (ee_if (eb_ge (ee_prop cr hr Yc.isc.cl (ee_var 1 rfl) trivial) (ee_fld (ee_var 0 rfl) Y.isc.cl Y.nl rfl)) (fun _ => ee_var 1 rfl) fun _ => ee_mkCty0 mk0 hr)) (by
      unfold stepRun
      have h : b = false := h
      subst h
      show (if decide (n ≤ rowsM c) = true then c else []) = (if n ≤ rowsM c then c else [])
      by_cases z : n ≤ rowsM c
      · simp [z]
      · simp [z])
theorem ok_form_of_step (Y : StpF K mg C) (ck : Prp P w K mg base 1 C "kind" (Pm1 (rStp C) rStr (fun _ => True) fun x => kindS x.1)) (cl : Prp P w K mg base 1 C "least" (Pm1 (rStp C) rInt (fun _ => True) fun x => x.2)) (F : Fun K "form_of_step" "form_of_step" (tS 44) f fd) : FnE P w K mg base 3 f (Pm1 (rStp C) (rForm K) (fun _ => True) formOfStep) := by
  refine fn_pm F sc44 (fun _ => rfl) (fun _ _ _ _ _ _ us hl => match us, hl with | [_], _ => rfl) fun q B0 H0 y hr hp => ?_
  exact tr_rt (EE.m (ee_if (eb_eq (eb_eqS (ee_prop ck hr Y.isc.cl (ee_var 0 rfl) trivial) ee_str) (kind_town y.1)) (fun _ => ee_tupL (el_cons (ee_pr ee_int (ee_prop cl hr Y.isc.cl (ee_var 0 rfl) trivial)) el_nil) (by simp))
    fun _ => ee_tupL (el_cons (ee_pr (ee_prop cl hr Y.isc.cl (ee_var 0 rfl) trivial) (ee_prop cl hr Y.isc.cl (ee_var 0 rfl) trivial)) el_nil) (by simp)))
def pStep (least : Int) (acc : List Stp) (q : Int × Int) : List Stp := (acc ++ if decide (1 < q.1) then [(true, q.1)] else []) ++ if decide (least < q.2) then [(false, q.2)] else []
def plainSteps (form : Form) : List Stp := (floorsIn form).foldl (pStep (leastIn form)) []
theorem pStep_len (least : Int) (acc : List Stp) (q : Int × Int) : (pStep least acc q).length ≤ acc.length + 2 := by
  unfold pStep
  split <;> split <;> simp
abbrev spPlain (K : Fr) (C : Addr) : Sp := Pm1 (rForm K) (rTup K (rStp C)) (fun form => form.length ≤ 100 ∧ 0 ≤ leastIn form) plainSteps
theorem ok_plain_steps (T : Bn mg) (mk : Mkr P w K mg base 1 "Step" C (spStpInit C)) (c41 : Cal P w K mg base 1 "least_in" (spLeastIn K)) (c42 : Cal P w K mg base 1 "floors_in" (spFloors K)) (F : Fun K "plain_steps" "plain_steps" (tS 47) f fd) : FnE P w K mg base 3 f (spPlain K C) := by
  refine fn_pm F sc47 (fun _ => rfl) (fun _ _ _ _ _ _ us hl => match us, hl with | [_], _ => rfl) fun q B0 H0 y hr ⟨hl, h0⟩ => ?_
  have hl : y.length ≤ 100 := hl
  refine tr_set 1 sc47.nd (EE.m (ee_call1 c41 hr (ee_var 0 rfl) (by show _ ≤ 1000; omega))) ?_
  refine tr_new (s := rStp C) (xs := []) 2 sc47.nd el_nil (by decide) fun o ho => ?_
  refine tr_fold (pStep (leastIn y)) [] (fun b => [sl (rForm K) y, sl rInt (leastIn y), sl (rAdr o) (), none, none]) (fun b => mA mE (mL no H0 o (rStp C) b)) (fun i b => b.length ≤ 2 * i) rfl
    (ei_tup (ee_call1 c42 hr (ee_var 0 rfl) (by show _ ≤ 1000; omega))) (et_pr rfl (et_name 3 sc47.nd) (et_name 4 sc47.nd)) (Nat.le_refl _) (fun i x b hx hb => Nat.le_trans (pStep_len _ b x) (by omega)) (by repeat constructor) (fun _ _ h => h) (fun BX e i x b hx hb => ?_) fun hb => ?_
  · have hi : i < 100 := by
      have h := (List.getElem?_eq_some_iff.mp hx).1
      rw [floors_len] at h
      omega
    refine tr_if (EB.m (eb_gt (ee_var 3 rfl) ee_int)) (fun h => ?_) (fun h => tr_go ?_)
    · refine tr_app (EE.m (ee_mkStp (x := (true, x.1)) mk hr (ee_str (i := "town")) (ee_var 3 rfl) (by have := of_decide_eq_true h; show 1 ≤ x.1; omega))) (ee_var 2 rfl) (by omega) mE_free (tr_go ?_)
      refine tr_if (EB.m (eb_gt (ee_var 4 rfl) (ee_var 1 rfl))) (fun h2 => ?_) (fun h2 => tr_go (tr_done rfl (by repeat constructor) fun _ _ z => ?_))
      · refine tr_app (EE.m (ee_mkStp (x := (false, x.2)) mk hr (ee_str (i := "county")) (ee_var 4 rfl) (by have := of_decide_eq_true h2; show 1 ≤ x.2; omega))) (ee_var 2 rfl) (by rw [List.length_append]; simp; omega) mE_free (tr_go (tr_done rfl (by repeat constructor) fun _ _ z => ?_))
        unfold pStep
        rw [if_pos h, if_pos h2]
        exact z
      · unfold pStep
        rw [if_pos h, if_neg (by rw [h2]; simp), List.append_nil]
        exact z
    · refine tr_if (EB.m (eb_gt (ee_var 4 rfl) (ee_var 1 rfl))) (fun h2 => ?_) (fun h2 => tr_go (tr_done rfl (by repeat constructor) fun _ _ z => ?_))
      · refine tr_app (EE.m (ee_mkStp (x := (false, x.2)) mk hr (ee_str (i := "county")) (ee_var 4 rfl) (by have := of_decide_eq_true h2; show 1 ≤ x.2; omega))) (ee_var 2 rfl) (by omega) mE_free (tr_go (tr_done rfl (by repeat constructor) fun _ _ z => ?_))
        unfold pStep
        rw [if_neg (by rw [h]; simp), if_pos h2, List.append_nil]
        exact z
      · unfold pStep
        rw [if_neg (by rw [h]; simp), if_neg (by rw [h2]; simp), List.append_nil, List.append_nil]
        exact z
  · exact tr_rt (EE.op 2 (ee_tupleOf T.tuple (ee_seqL (ee_var 2 rfl))) (fz_tup noTupL (fz_ins (fun _ _ h => h) fun x d hd => by
      simp only [List.mem_cons, List.not_mem_nil, or_false] at hd
      rcases hd with e | e
      · rw [e]; exact fz_str
      · rw [e]; exact fz_int)) rfl)
end
end K81
set_option Elab.async false
set_option linter.all false
set_option maxRecDepth 100000
set_option maxHeartbeats 1900000
namespace K81
open PySem L2
def stepT : List Str := ["town 1", "town 2", "town 3", "town 4", "town 5", "town 6", "town 7", "county 1", "county 2", "county 3", "county 4", "county 5", "county 6", "county 7"]
def restT (t x : Str) : Str := cutS t (some ((x.length : Int) + 1)) none
def stepOfT (t : Str) : Stp := if Txt.startswith t "town " then (true, numOf (restT t "town")) else (false, numOf (restT t "county"))
theorem step_facts : ∀ t ∈ stepT, t.length ≤ 100 ∧ (Txt.startswith t ("town" ++ " " : Str) = true → restT t "town" ∈ digT ∧ 0 < numOf (restT t "town") ∧ stepOfT t = (true, numOf (restT t "town"))) ∧
    (Txt.startswith t ("town" ++ " " : Str) = false → Txt.startswith t ("county" ++ " " : Str) = true ∧ restT t "county" ∈ digT ∧ 0 < numOf (restT t "county") ∧ stepOfT t = (false, numOf (restT t "county"))) := by decide +kernel
abbrev spStpOf (C : Addr) : Sp := Pm1 rStr (rStp C) (fun t => t ∈ stepT) stepOfT
section
variable {P : Program} {w : World} {K : Fr} {mg : Str → Option Value} {base : Heap} {f : Addr} {fd : FuncData} {C Cc : Addr} {tk tk2 tk3 : Tok}
theorem ok_stp_of (T : Bn mg) (hk : GTup K mg "KINDS" (rTup K rStr) kinds) (c14 : Cal P w K mg base 1 "number_in" (spNumIn K)) (mk : Mkr P w K mg base 1 "Step" C (spStpInit C)) (F : Fun K "of" "Step.of" (tM 38 1) f fd) : FnE P w K mg base 3 f (spStpOf C) := by
  refine fn_pm F sc38_1 (fun _ => rfl) (fun _ _ _ _ _ _ us hl => match us, hl with | [_], _ => rfl) fun q B0 H0 y hr hp => ?_
  obtain ⟨h1, h2, h3⟩ := step_facts y hp
  refine tr_for (ι := Unit) (fun _ => [sl rStr y, none, none]) (fun _ => mE) (fun i _ => i = 0 ∨ (i = 1 ∧ Txt.startswith y ("town" ++ " " : Str) = false)) () rfl (ei_tup (ee_gT hk)) (et_name 1 sc38_1.nd) (.inl rfl) (by repeat constructor) (fun _ _ h => h) (fun BX e i x _ hx hi => ?_) fun _ hi => ?_
  · have hxl : x.length ≤ 100 := by
      have := List.mem_of_getElem? hx
      simp only [List.mem_cons, List.not_mem_nil, or_false] at this
      rcases this with e | e <;> (rw [e]; decide +kernel)
    have hx2 : (x.length + (" " : Str).length) ≤ 100000 := by
      have : (" " : Str).length = 1 := by decide +kernel
      omega
    refine tr_if (EB.m (eb_val (ee_starts (ee_var 0 rfl) (ee_addS (ee_var 1 rfl) ee_str hx2)))) (fun h => ?_) (fun h => tr_go ?_)
    · have hb : ∃ b, x = kindS b ∧ restT y x ∈ digT ∧ 0 < numOf (restT y x) ∧ stepOfT y = (b, numOf (restT y x)) := by
        have := List.mem_of_getElem? hx
        simp only [List.mem_cons, List.not_mem_nil, or_false] at this
        rcases this with e | e
        · subst e
          obtain ⟨k1, k2, k3⟩ := h2 h
          exact ⟨true, rfl, k1, k2, k3⟩
        · subst e
          rcases hi with e2 | ⟨e2, h4⟩
          · subst e2
            exact absurd (Option.some.inj hx) (by decide +kernel)
          · obtain ⟨k0, k1, k2, k3⟩ := h3 h4
            exact ⟨false, rfl, k1, k2, k3⟩
      obtain ⟨b, k0, k1, k2, k3⟩ := hb
      refine tr_set 2 sc38_1.nd (EE.m (ee_call1 c14 hr (ee_slS (ee_var 0 rfl) (eo_some (ee_add (ee_lenS T.len (ee_var 1 rfl) (by omega)) ee_int)) eo_none (by omega)) k1)) ?_
      refine tr_ifT (EB.m (eb_eq (eb_and (eb_notN (ee_var (r := rOpt rInt) 2 rfl)) fun _ => eb_gt (ee_some (ee_var (r := rOpt rInt) 2 rfl)) ee_int) ?_)) ?_
      · show (true && decide (0 < numOf (restT y x))) = true
        simpa using k2
      · refine tr_rtE (y := stepOfT y) (EE.m (ee_mkStp mk hr (x := (b, numOf (restT y x))) (ee_eq (ee_var 1 rfl) k0) (ee_some (ee_var (r := rOpt rInt) 2 rfl)) (by show 1 ≤ numOf _; omega))) k3.symm
    · refine tr_nil fun σ H z => ⟨(), ?_, At.wk (by repeat constructor) (fun _ _ h => h) σ H z⟩
      have := List.mem_of_getElem? hx
      simp only [List.mem_cons, List.not_mem_nil, or_false] at this
      rcases hi with e2 | ⟨e2, h4⟩
      · subst e2
        have e : x = "town" := (Option.some.inj hx).symm
        subst e
        exact .inr ⟨rfl, h⟩
      · subst e2
        have e : x = "county" := (Option.some.inj hx).symm
        subst e
        rw [(h3 h4).1] at h
        cases h
  · rcases hi with e | ⟨e, _⟩ <;> exact absurd e (by decide)
end
end K81
set_option Elab.async false
set_option linter.all false
set_option maxRecDepth 100000
set_option maxHeartbeats 1900000
namespace K81
open PySem L2
/-! ### scripts -/
def formOfSteps (steps : List Stp) : Form := steps.foldl (fun fm s => formBehind fm (formOfStep s)) [(1, 1)]
def runSteps (steps : List Stp) (c : Form) : Form := steps.foldl (fun c s => stepRun s c) c
theorem formWith_len (floors : Form) : (formWith floors).length ≤ floors.length := by
  unfold formWith
  rw [List.length_reverse]
  have h : ∀ (l : Form) (a : Form × Int), (l.foldl wStep a).1.length = a.1.length + l.length := by
    intro l
    induction l with
    | nil => intro a; simp
    | cons x l ih => intro a; rw [List.foldl_cons, ih]; simp [wStep]; omega
  rw [h]
  have := kept_len floors
  simpa using this
theorem formBehind_len (a b : Form) : (formBehind a b).length ≤ a.length + b.length := by
  unfold formBehind
  refine Nat.le_trans (formWith_len _) ?_
  rw [List.length_append, List.length_map, List.length_map, floors_len]
  have := List.length_filter_le (fun q : Int × Int => decide (leastIn a < q.1)) (floorsIn b)
  rw [floors_len] at this
  omega
theorem formOfStep_len (x : Stp) : (formOfStep x).length = 1 := by unfold formOfStep; split <;> rfl
theorem foldForm_len (l : List Stp) : ∀ a : Form, (l.foldl (fun fm s => formBehind fm (formOfStep s)) a).length ≤ a.length + l.length := by
  induction l with
  | nil => intro a; simp
  | cons x l ih =>
    intro a
    rw [List.foldl_cons]
    refine Nat.le_trans (ih _) ?_
    have := formBehind_len a (formOfStep x)
    rw [formOfStep_len] at this
    simp only [List.length_cons]
    omega
theorem formOfSteps_len (l : List Stp) : (formOfSteps l).length ≤ 1 + l.length := foldForm_len l [(1, 1)]
abbrev ScrOk (x : List Stp) : Prop := x.length ≤ 100
abbrev scrF (K : Fr) (Cs : Addr) (x : List Stp) : List (Str × Dat) := [("own_steps", dt (rTup K (rStp Cs)) x), ("own_form", dt (rForm K) (formOfSteps x))]
abbrev rScr (K : Fr) (C Cs : Addr) : RT (List Stp) := rIns C (scrF K Cs) ScrOk
structure ScrF (K : Fr) (mg : Str → Option Value) (C : Addr) : Prop where
  isc : Isc K C
  ns : NoAttr K C "own_steps"
  nf : NoAttr K C "own_form"
  mgC : mg "Script" = some (.ref C)
  non : PySem.W.kitOne K (.type "NoneType") (.ref C) = some false
abbrev spFormOf (K : Fr) (Cs : Addr) : Sp := Pm1 (rTup K (rStp Cs)) (rForm K) (fun l => l.length ≤ 100) formOfSteps
abbrev spScrInit (K : Fr) (C Cs : Addr) : Sp := PmI C (fun x => [dt (rSeq K (rStp Cs)) x]) ScrOk (scrF K Cs)
theorem ee_mkScr {X : Cx} {Γ : List Slot} {a : Expr} {p pos : Pos} {C Cs : Addr} {k : Nat} {l : List Stp} (mk : Mkr X.prog X.w X.K X.mg X.base 5 "Script" C (spScrInit X.K C Cs)) (hr : Room k X.A) (ha : EE X Γ (rSeq X.K (rStp Cs)) a l) (hp : l.length ≤ 100) (hk : 6 ≤ k := by decide) (hg : Gl X "Script" := by rfl)
    (he : starEach [a] X.env = (false, eval a X.env) :: starEach [] X.env := by rfl) : EE X Γ (rScr X.K C Cs) (.Call (.Name "Script" p) [a] [] pos) l :=
  ee_make1 mk hr ha hp (F := scrF X.K Cs) rfl hp hk hg (by decide) he
theorem fz_stp {z : HO → Prop} {Cs : Addr} (hz : ∀ dx vs, ¬ z (.ins Cs dx vs)) : Fz z (rStp Cs) := fz_ins hz fun x d hd => by
  simp only [List.mem_cons, List.not_mem_nil, or_false] at hd
  rcases hd with e | e
  · rw [e]; exact fz_str
  · rw [e]; exact fz_int
theorem fz_form {z : HO → Prop} {K : Fr} (nt : NoTup z) : Fz z (rForm K) := fz_tup nt (fz_pr nt fz_int fz_int)
theorem fz_scr {z : HO → Prop} {K : Fr} {C Cs : Addr} (nt : NoTup z) (h1 : ∀ dx vs, ¬ z (.ins C dx vs)) (h2 : ∀ dx vs, ¬ z (.ins Cs dx vs)) : Fz z (rScr K C Cs) := fz_ins h1 fun x d hd => by
  simp only [List.mem_cons, List.not_mem_nil, or_false] at hd
  rcases hd with e | e
  · rw [e]; exact fz_tup nt (fz_stp h2)
  · rw [e]; exact fz_form nt
theorem fz_cty {z : HO → Prop} {K : Fr} {C : Addr} (nt : NoTup z) (h1 : ∀ dx vs, ¬ z (.ins C dx vs)) : Fz z (rCty K C) := fz_ins h1 fun x d hd => by
  simp only [List.mem_cons, List.not_mem_nil, or_false] at hd
  rw [hd]; exact fz_form nt
section
variable {P : Program} {w : World} {K : Fr} {mg : Str → Option Value} {base : Heap} {f : Addr} {fd : FuncData} {C Cc Cs : Addr} {tk tk2 tk3 : Tok}
theorem ok_form_of_steps (hS : GTup K mg "START" (rForm K) [(1, 1)]) (c44 : Cal P w K mg base 3 "form_of_step" (Pm1 (rStp Cs) (rForm K) (fun _ => True) formOfStep)) (c45 : Cal P w K mg base 2 "form_behind" (spBehind K)) (F : Fun K "form_of_steps" "form_of_steps" (tS 50) f fd) : FnE P w K mg base 4 f (spFormOf K Cs) := by
  refine fn_pm F sc50 (fun _ => rfl) (fun _ _ _ _ _ _ us hl => match us, hl with | [_], _ => rfl) fun q B0 H0 y hr hp => ?_
  have hp : y.length ≤ 100 := hp
  refine tr_set 1 sc50.nd (EE.m (ee_gT hS)) ?_
  refine tr_fold (fun fm s => formBehind fm (formOfStep s)) [(1, 1)] (fun b => [sl (rTup K (rStp Cs)) y, sl (rForm K) b, none]) (fun _ => mE) (fun i b => b.length ≤ i + 1) rfl (ei_tup (ee_var 0 rfl)) (et_name 2 sc50.nd) (Nat.le_refl _)
    (fun i x b hx hb => Nat.le_trans (formBehind_len _ _) (by rw [formOfStep_len]; omega)) (by repeat constructor) (fun _ _ h => h) (fun BX e i x b hx hb => ?_) fun hb => ?_
  · have hi : i < 100 := Nat.lt_of_lt_of_le (List.getElem?_eq_some_iff.mp hx).1 hp
    have hl := formOfStep_len x
    exact tr_set 1 sc50.nd (EE.m (ee_call2 c45 hr (ee_var 1 rfl) (ee_call1 c44 hr (ee_var 2 rfl) trivial) ⟨by omega, by omega, by omega⟩)) (tr_done rfl (by repeat constructor) fun _ _ z => z)
  · exact tr_rt (EE.m (ee_var 1 rfl))
theorem ok_scr_init (T : Bn mg) (Y : ScrF K mg C) (hne : C ≠ Cs) (c50 : Cal P w K mg base 4 "form_of_steps" (spFormOf K Cs)) (F : Fun K "__init__" "Script.__init__" (tM 51 0) f fd) : FnE P w K mg base 5 f (spScrInit K C Cs) := by
  refine fn_init F sc51_0 (fun _ => rfl) (fun _ _ _ _ _ _ us hl => match us, hl with | [_, _], _ => rfl) fun q B0 H0 a y hr hp => ?_
  refine tr_fld (EE.m (ee_tupleOf T.tuple (ee_var 1 rfl))) (ee_var 0 rfl) Y.isc.cl Y.ns (by decide) mE_free ?_
  refine tr_fld (EE.opI 0 (ee_call1 c50 hr (ee_fld (ee_var (r := rRaw C _) 0 rfl) Y.isc.cl Y.ns rfl) hp) (fz_form noTupI) rfl) (ee_var 0 rfl) Y.isc.cl Y.nf (by show (1 : Nat) < 1000; decide) mE_free ?_
  exact tr_inited
theorem ok_scr_steps (Y : ScrF K mg C) (F : Fun K "steps" "Script.steps" (tM 51 2) f fd) : FnE P w K mg base 1 f (Pm1 (rScr K C Cs) (rTup K (rStp Cs)) (fun _ => True) id) := by
  refine fn_pm F sc51_2 (fun _ => rfl) (fun _ _ _ _ _ _ us hl => match us, hl with | [_], _ => rfl) fun q B0 H0 y hr hp => ?_
  exact tr_rt (EE.m (ee_fld (ee_var 0 rfl) Y.isc.cl Y.ns rfl))
theorem ok_scr_form (Y : ScrF K mg C) (F : Fun K "form" "Script.form" (tM 51 4) f fd) : FnE P w K mg base 1 f (Pm1 (rScr K C Cs) (rForm K) (fun _ => True) formOfSteps) := by
  refine fn_pm F sc51_4 (fun _ => rfl) (fun _ _ _ _ _ _ us hl => match us, hl with | [_], _ => rfl) fun q B0 H0 y hr hp => ?_
  exact tr_rt (EE.m (ee_fld (ee_var 0 rfl) Y.isc.cl Y.nf rfl))
theorem ok_scr_least (Y : ScrF K mg C) (c41 : Cal P w K mg base 1 "least_in" (spLeastIn K)) (F : Fun K "least" "Script.least" (tM 51 5) f fd) : FnE P w K mg base 2 f (Pm1 (rScr K C Cs) rInt (fun _ => True) fun x => leastIn (formOfSteps x)) := by
  refine fn_pm F sc51_5 (fun _ => rfl) (fun _ _ _ _ _ _ us hl => match us, hl with | [_], _ => rfl) fun q B0 H0 y hr hp => ?_
  refine tr_know 0 rfl fun hy => ?_
  have hy : y.length ≤ 100 := hy
  have := formOfSteps_len y
  exact tr_rt (EE.m (ee_call1 c41 hr (ee_fld (ee_var 0 rfl) Y.isc.cl Y.nf rfl) (by show _ ≤ 1000; omega)))
theorem ok_scr_within (Y : ScrF K mg C) (c6 : Cal P w K mg base 2 "is_within" (spWithin K)) (cf : Prp P w K mg base 1 C "form" (Pm1 (rScr K C Cs) (rForm K) (fun _ => True) formOfSteps)) (F : Fun K "within" "Script.within" (tM 51 9) f fd) : FnE P w K mg base 3 f (Pm2 (rScr K C Cs) (rScr K C Cs) rBl (fun x y => FL (formOfSteps x) ∧ FL (formOfSteps y)) fun x y => isWithin (formOfSteps x) (formOfSteps y)) := by
  refine fn_pm F sc51_9 (fun _ => rfl) (fun _ _ _ _ _ _ us hl => match us, hl with | [_, _], _ => rfl) fun q B0 H0 y hr hp => ?_
  exact tr_rt (EE.m (ee_call2 c6 hr (ee_fld (ee_var 0 rfl) Y.isc.cl Y.nf rfl) (ee_prop cf hr Y.isc.cl (ee_var 1 rfl) trivial) hp))
theorem ok_scr_call (Y : ScrF K mg C) (cs : Cll P w K mg base 5 Cs (Pm2 (rStp Cs) (rCty K Cc) (rCty K Cc) (fun _ _ => True) stepRun)) (F : Fun K "__call__" "Script.__call__" (tM 51 12) f fd) : FnE P w K mg base 6 f (Pm2 (rScr K C Cs) (rCty K Cc) (rCty K Cc) (fun _ _ => True) runSteps) := by
  refine fn_pm F sc51_12 (fun _ => rfl) (fun _ _ _ _ _ _ us hl => match us, hl with | [_, _], _ => rfl) fun q B0 H0 y hr hp => ?_
  refine tr_set 2 sc51_12.nd (EE.m (ee_var 1 rfl)) ?_
  refine tr_fold (fun c s => stepRun s c) y.2 (fun b => [sl (rScr K C Cs) y.1, sl (rCty K Cc) y.2, sl (rCty K Cc) b, none]) (fun _ => mE) (fun _ _ => True) rfl (ei_tup (ee_fld (ee_var 0 rfl) Y.isc.cl Y.ns rfl)) (et_name 3 sc51_12.nd) trivial
    (fun _ _ _ _ _ => trivial) (by repeat constructor) (fun _ _ h => h) (fun BX e i x b hx hb => ?_) fun hb => ?_
  · exact tr_set 2 sc51_12.nd (EE.m (ee_callO cs hr (ee_var 3 rfl) (ee_var 2 rfl) trivial)) (tr_done rfl (by repeat constructor) fun _ _ z => z)
  · exact tr_rt (EE.m (ee_var 2 rfl))
abbrev spShows (K : Fr) (C Cs Cc : Addr) : Sp := Pm3 (rScr K C Cs) (rCty K Cc) rInt rBl (fun _ c size => hasTown c size = true) fun x c size => hasTown (runSteps x c) size
theorem ok_scr_shows (Yc : CtyF K mg Cc) (cc : Cll P w K mg base 6 C (Pm2 (rScr K C Cs) (rCty K Cc) (rCty K Cc) (fun _ _ => True) runSteps)) (ch : Spm P w K mg base 1 Cc "__contains__" (Pm2 (rCty K Cc) rInt rBl (fun _ _ => True) hasTown)) (F : Fun K "shows" "Script.shows" (tM 51 11) f fd) : FnE P w K mg base 7 f (spShows K C Cs Cc) := by
  refine fn_pm F sc51_11 (fun _ => rfl) (fun _ _ _ _ _ _ us hl => match us, hl with | [_, _, _], _ => rfl) fun q B0 H0 y hr hp => ?_
  refine tr_ifF (EB.m (eb_eq (eb_nin ch hr (ee_var 2 rfl) (ee_var 1 rfl) trivial) (by rw [show hasTown _ _ = true from hp]; rfl))) (tr_go ?_)
  exact tr_rt (EE.m (ee_in ch hr (ee_var 2 rfl) (ee_callO cc hr (ee_var 0 rfl) (ee_var 1 rfl) trivial) trivial))
theorem ok_scr_len (T : Bn mg) (Y : ScrF K mg C) (F : Fun K "__len__" "Script.__len__" (tM 51 13) f fd) : FnE P w K mg base 1 f (Pm1 (rScr K C Cs) rInt (fun _ => True) fun l => (l.length : Int)) := by
  refine fn_pm F sc51_13 (fun _ => rfl) (fun _ _ _ _ _ _ us hl => match us, hl with | [_], _ => rfl) fun q B0 H0 y hr hp => ?_
  exact tr_rt (EE.m (ee_len T.len (ee_seqT (ee_fld (ee_var 0 rfl) Y.isc.cl Y.ns rfl))))
def eqScr (x : List Stp) (y : Option (List Stp)) : Bool := y.isSome && decide (formOfSteps x = formOfSteps (y.getD []))
abbrev spScrEq (K : Fr) (C Cs : Addr) : Sp := Pm2 (rScr K C Cs) (rOpt (rScr K C Cs)) rBl (fun _ _ => True) eqScr
theorem ok_scr_eq (T : Bn mg) (Y : ScrF K mg C) (cf : Prp P w K mg base 1 C "form" (Pm1 (rScr K C Cs) (rForm K) (fun _ => True) formOfSteps)) (F : Fun K "__eq__" "Script.__eq__" (tM 51 20) f fd) : FnE P w K mg base 3 f (spScrEq K C Cs) := by
  refine fn_pm F sc51_20 (fun _ => rfl) (fun _ _ _ _ _ _ us hl => match us, hl with | [_, _], _ => rfl) fun q B0 H0 y hr hp => ?_
  obtain ⟨x, y⟩ := y
  refine tr_rt (EE.m (ee_andV (ee_isCO Y.isc Y.non T.isinstance (ee_var 1 rfl) (ee_cls Y.mgC)) fun h => ?_))
  cases y with
  | none => cases h
  | some y => exact ee_eqT eqT_form (by decide) hr.units (ee_fld (ee_var 0 rfl) Y.isc.cl Y.nf rfl) (ee_prop cf hr Y.isc.cl (ee_some (ee_var (r := rOpt (rScr K C Cs)) 1 rfl)) trivial)
end
end K81
set_option Elab.async false
set_option linter.all false
set_option maxRecDepth 100000
set_option maxHeartbeats 1900000
namespace K81
open PySem L2
section
variable {X : Cx} {Γ Γ' : List Slot} {M M' : Mem} {α β γ : Type} {r : RT α} {s : RT β} {e : Expr} {pos : Pos} {w : Addr → Prop} {B0 H0 BX : Hp} {D D' : Ends} {rest ss : List Stmt}
/-- e, as a statement -/
theorem tr_drop {x : α} (h : EM X Γ M r e x) (k : Tr X (At w B0 H0 BX Γ M) rest D) (hs : swapsWith e none pos.line X.env = pure false := by rfl) : Tr X (At w B0 H0 BX Γ M) (.Expr e pos :: rest) D :=
  tr_cons (ps_expr h hs) fun σ H ⟨B, g, bx, en, m⟩ => ⟨B, en, g.i, m, fun v B2 H2 g2 rv => k.wk _ _ ⟨B2, g.tr g2.w, bx.tr g2.b, en.mono g2.b, M.st g2 m⟩⟩
/-- the def's end: None -/
theorem tr_non (hD : D = endsR w B0 H0 rNon ()) : Tr X (At w B0 H0 BX Γ M) [] D := tr_nil fun σ H ⟨B, g, _, _, _⟩ => by rw [hD]; exact ⟨B, g, rfl⟩
end
def maxOf (xs : List Int) : Int := xs.foldl max (xs.headD 0)
def minOf (xs : List Int) : Int := xs.foldl min (xs.headD 0)
theorem foldl_max (xs : List Int) : ∀ a : Int, a ≤ xs.foldl max a ∧ (∀ y ∈ xs, y ≤ xs.foldl max a) ∧ (xs.foldl max a = a ∨ xs.foldl max a ∈ xs) := by
  induction xs with
  | nil => intro a; simp
  | cons x xs ih =>
    intro a
    obtain ⟨h1, h2, h3⟩ := ih (max a x)
    refine ⟨by simp only [List.foldl_cons]; omega, fun y hy => ?_, ?_⟩
    · simp only [List.foldl_cons]
      rcases List.mem_cons.mp hy with e | hy
      · omega
      · exact h2 y hy
    · simp only [List.foldl_cons]
      rcases h3 with e | e
      · rw [e]
        rcases Int.le_total a x with z | z
        · rw [Int.max_eq_right z]; exact .inr (by simp)
        · rw [Int.max_eq_left z]; exact .inl rfl
      · exact .inr (by simp [e])
theorem maxOf_uniq {xs : List Int} {m : Int} (h1 : m ∈ xs) (h2 : ∀ y ∈ xs, y ≤ m) : m = maxOf xs := by
  unfold maxOf
  cases xs with
  | nil => simp at h1
  | cons x xs =>
    obtain ⟨k1, k2, k3⟩ := foldl_max (x :: xs) x
    have a := k2 m h1
    have b : (x :: xs).foldl max x ≤ m := by
      rcases k3 with e | e
      · rw [e]; exact h2 x (by simp)
      · exact h2 _ e
    show m = (x :: xs).foldl max x
    omega
theorem foldl_min (xs : List Int) : ∀ a : Int, xs.foldl min a ≤ a ∧ (∀ y ∈ xs, xs.foldl min a ≤ y) ∧ (xs.foldl min a = a ∨ xs.foldl min a ∈ xs) := by
  induction xs with
  | nil => intro a; simp
  | cons x xs ih =>
    intro a
    obtain ⟨h1, h2, h3⟩ := ih (min a x)
    refine ⟨by simp only [List.foldl_cons]; omega, fun y hy => ?_, ?_⟩
    · simp only [List.foldl_cons]
      rcases List.mem_cons.mp hy with e | hy
      · omega
      · exact h2 y hy
    · simp only [List.foldl_cons]
      rcases h3 with e | e
      · rw [e]
        rcases Int.le_total a x with z | z
        · rw [Int.min_eq_left z]; exact .inl rfl
        · rw [Int.min_eq_right z]; exact .inr (by simp)
      · exact .inr (by simp [e])
theorem minOf_uniq {xs : List Int} {m : Int} (h1 : m ∈ xs) (h2 : ∀ y ∈ xs, m ≤ y) : m = minOf xs := by
  unfold minOf
  cases xs with
  | nil => simp at h1
  | cons x xs =>
    obtain ⟨k1, k2, k3⟩ := foldl_min (x :: xs) x
    have a := k2 m h1
    have b : m ≤ (x :: xs).foldl min x := by
      rcases k3 with e | e
      · rw [e]; exact h2 x (by simp)
      · exact h2 _ e
    show m = (x :: xs).foldl min x
    omega
/-! ### what the costs compute -/
def withoutM (l : List Stp) (n : Int) : List Stp := l.take n.toNat ++ (l.drop (n.toNat + 1) ++ [])
def needlessM (l : List Stp) : List Int := ((((List.range l.length).map fun i : Nat => (i : Int))).filter fun n => eqScr (withoutM l n) (some l)).map fun n => n
def takenGo (size : Int) : Int → Form → List Stp → Option Int
  | _, _, [] => none
  | n, c, s :: r => if hasTown (stepRun s c) size then takenGo size (n + 1) (stepRun s c) r else some n
def takenBy (l : List Stp) (c : Form) (size : Int) : Option Int := takenGo size 0 c l
def formFor (c : Form) (size : Int) : Form := formWith ((((c.filter fun p => decide (p.1 ≤ size)).map fun p => p.1)).map fun o => (o, rowsFrom c o))
def newTown (l : List Stp) (c : Form) : Int := maxOf (leastIn (formOfSteps l) :: ((floorsIn (formOfSteps l)).map (fun q => q.2 - rowsFrom c q.1) ++ []))
def fewerM (c : Form) (size : Int) : Form := (c.filter fun p => !decide (p.1 = size) || decide (1 < p.2)).map fun p => (p.1, p.2 - if decide (p.1 = size) then 1 else 0)
def tStep (a : Int × Int) (p : Int × Int) : Int × Int := if decide (0 < a.2) then (a.1 + min p.2 ((a.2 + p.1 - 1) / p.1), a.2 - min p.2 ((a.2 + p.1 - 1) / p.1) * p.1) else a
def townsFor (c : Form) (rows : Int) : Int := (c.reverse.foldl tStep (0, rows)).1
def lStep (c : Form) (size : Int) (acc : List Int) (q : Int × Int) : List Int := if decide (size < q.2) then acc ++ [townsFor (fewerM c size) (rowsFrom c q.1 - q.2 + 1)] else acc
def loseL (l : List Stp) (c : Form) (size : Int) : List Int := (floorsIn (formOfSteps l)).foldl (lStep c size) []
def toLose (l : List Stp) (c : Form) (size : Int) : Option Int := if !hasTown (runSteps l c) size then some 0 else if decide ((0 : Int) < ((loseL l c size).length : Int)) then some (minOf (loseL l c size)) else none
def lacksOf (l : List Stp) (c : Form) : Form := (floorsIn (formOfSteps l)).map fun q => (q.1, q.2 - rowsFrom c q.1)
def toAdd (l : List Stp) (c : Form) (size : Int) : Option Int := if decide (size < leastIn (formOfSteps l)) then none else
  some (maxOf (0 :: ((((lacksOf l c).filter fun q => decide (0 < q.2)).map fun q => max q.1 q.2) ++ [])))
theorem fewer_strict {c : Form} (h : CtyOk c) (size : Int) : PreRuns (fewerM c size) ∧ summedM (fewerM c size) = fewerM c size ∧ CtyOk (fewerM c size) := by
  have hs : StrictF (fewerM c size) := by
    unfold fewerM StrictF
    rw [List.pairwise_map]
    exact (show StrictF _ from h.srt.sublist List.filter_sublist)
  have hp : PreRuns (fewerM c size) := by
    refine ⟨fun p hp => ?_, ?_⟩
    · obtain ⟨q, hq, e⟩ := List.mem_map.mp hp
      obtain ⟨h1, h2⟩ := List.mem_filter.mp hq
      have h3 := h.pos q h1
      subst e
      refine ⟨h3.1, h3.2.1, ?_⟩
      show 1 ≤ q.2 - _
      by_cases z : q.1 = size
      · have h4 : 1 < q.2 := by simpa [z] using h2
        simp only [z, decide_true, if_true]
        omega
      · simp only [z, decide_false]
        have := h3.2.2
        simpa using this
    · unfold fewerM
      rw [List.length_map]
      exact Nat.le_trans (List.length_filter_le _ _) h.len
  have h1 := summed_id hs
  exact ⟨hp, h1, by have := summed_ok hp; rw [h1] at this; exact this⟩
section
variable {P : Program} {w : World} {K : Fr} {mg : Str → Option Value} {base : Heap} {f : Addr} {fd : FuncData} {C Cc Cs : Addr} {tk tk2 tk3 : Tok}
theorem ok_without (Y : ScrF K mg C) (mk : Mkr P w K mg base 5 "Script" C (spScrInit K C Cs)) (cs : Prp P w K mg base 1 C "steps" (Pm1 (rScr K C Cs) (rTup K (rStp Cs)) (fun _ => True) id)) (F : Fun K "without" "without" (tS 53) f fd) : FnE P w K mg base 7 f (Pm2 (rScr K C Cs) rInt (rScr K C Cs) (fun _ n => 0 ≤ n) withoutM) := by
  refine fn_pm F sc53 (fun _ => rfl) (fun _ _ _ _ _ _ us hl => match us, hl with | [_, _], _ => rfl) fun q B0 H0 y hr hp => ?_
  obtain ⟨l, n⟩ := y
  have hp : 0 ≤ n := hp
  refine tr_know 0 rfl fun hy => ?_
  have hy : l.length ≤ 100 := hy
  have hl : (withoutM l n).length ≤ 100 := by
    unfold withoutM
    simp only [List.length_append, List.length_take, List.length_drop, List.length_nil]
    omega
  have e1 : (n + 1).toNat = n.toNat + 1 := by omega
  exact tr_rtE (y := withoutM l n) (EE.m (ee_mkScr mk hr (ee_seqL (ee_lst (xs := withoutM l n) (el_star (ee_seqT (ee_eq (ee_slT (ee_prop cs hr Y.isc.cl (ee_var 0 rfl) trivial) eo_none (eo_some (ee_var 1 rfl))) (cut_toI _ hp))) (el_star (ee_seqT (ee_eq (ee_slT (ee_prop cs hr Y.isc.cl (ee_var 0 rfl) trivial) (eo_some (ee_add (ee_var 1 rfl) ee_int)) eo_none) (by rw [cut_fromI _ (show 0 ≤ n + 1 by omega), e1]; rfl))) el_nil)) (by omega))) hl)) rfl
theorem ok_needless (T : Bn mg) (Y : ScrF K mg C) (ce : Spm P w K mg base 3 C "__eq__" (spScrEq K C Cs)) (cl : Spm P w K mg base 1 C "__len__" (Pm1 (rScr K C Cs) rInt (fun _ => True) fun l => (l.length : Int))) (c53 : Cal P w K mg base 7 "without" (Pm2 (rScr K C Cs) rInt (rScr K C Cs) (fun _ n => 0 ≤ n) withoutM)) (F : Fun K "needless" "needless" (tS 54) f fd) : FnE P w K mg base 8 f (Pm1 (rScr K C Cs) (rTup K rInt) (fun _ => True) needlessM) := by
  refine fn_pm F sc54 (fun _ => rfl) (fun _ _ _ _ _ _ us hl => match us, hl with | [_], _ => rfl) fun q B0 H0 y hr hp => ?_
  refine tr_know 0 rfl fun hy => ?_
  have hy : y.length ≤ 100 := hy
  refine tr_rt (EE.m (ee_tupleOf T.tuple (ee_seqL (ee_lcIf (own := [("number", 1)]) (N := N54) (sc := defScope (tS 54)) rfl sc54.nd (by decide +kernel) (ei_range1 T.range (ee_len0 cl hr T.len (ee_var 0 rfl) trivial (by omega) (by show (y.length : Int) < _; omega)) (by show -(2 ^ 62) ≤ (y.length : Int) ∧ (y.length : Int) < 2 ^ 62; omega)) (fun q => et_name 1 sc54.nd)
    (fun q x hx => eb_eqO ce hr (ee_call2 c53 hr (ee_var 0 rfl) (ee_var 1 rfl) ?_) (ee_opt (r := rScr K C Cs) (fun H v ⟨_, a, _, _, e, _⟩ => by rw [e]; exact fun z => nomatch z) (ee_var 0 rfl)) (fun H v ⟨_, _, a, dx, vs, e1, e2, _⟩ => ⟨a, dx, vs, e1, e2⟩) trivial) (fun q x hx hpx => ee_var 1 rfl) ?_))))
  · obtain ⟨i, _, e⟩ := List.mem_map.mp hx
    show 0 ≤ x
    omega
  · simp only [List.length_map, List.length_range]
    show ((y.length : Int)).toNat ≤ 100000
    omega
end
end K81
set_option Elab.async false
set_option linter.all false
set_option maxRecDepth 100000
set_option maxHeartbeats 1900000
namespace K81
open PySem L2
abbrev spCheck (K : Fr) (Cc : Addr) : Sp := Pm2 (rCty K Cc) rInt rNon (fun c size => hasTown c size = true) fun _ _ => ()
abbrev spCallS (K : Fr) (Cs Cc : Addr) : Sp := Pm2 (rStp Cs) (rCty K Cc) (rCty K Cc) (fun _ _ => True) stepRun
abbrev spHasC (K : Fr) (Cc : Addr) : Sp := Pm2 (rCty K Cc) rInt rBl (fun _ _ => True) hasTown
abbrev spRunsC (K : Fr) (Cc : Addr) : Sp := Pm1 (rCty K Cc) (rForm K) (fun _ => True) id
abbrev spRowsFrom (K : Fr) (Cc : Addr) : Sp := Pm2 (rCty K Cc) rInt rInt (fun _ _ => True) rowsFrom
abbrev spStepsS (K : Fr) (C Cs : Addr) : Sp := Pm1 (rScr K C Cs) (rTup K (rStp Cs)) (fun _ => True) id
abbrev spFormS (K : Fr) (C Cs : Addr) : Sp := Pm1 (rScr K C Cs) (rForm K) (fun _ => True) formOfSteps
abbrev spLeastS (K : Fr) (C Cs : Addr) : Sp := Pm1 (rScr K C Cs) rInt (fun _ => True) fun x => leastIn (formOfSteps x)
section
variable {P : Program} {w : World} {K : Fr} {mg : Str → Option Value} {base : Heap} {f : Addr} {fd : FuncData} {C Cc Cs : Addr} {tk tk2 tk3 : Tok}
theorem ok_check_town (ch : Spm P w K mg base 1 Cc "__contains__" (spHasC K Cc)) (F : Fun K "check_town" "check_town" (tS 55) f fd) : FnE P w K mg base 2 f (spCheck K Cc) := by
  refine fn_pm F sc55 (fun _ => rfl) (fun _ _ _ _ _ _ us hl => match us, hl with | [_, _], _ => rfl) fun q B0 H0 y hr hp => ?_
  exact tr_ifF (EB.m (eb_eq (eb_nin ch hr (ee_var 1 rfl) (ee_var 0 rfl) trivial) (by rw [show hasTown _ _ = true from hp]; rfl))) (tr_go (tr_non rfl))
theorem ok_taken_by (T : Bn mg) (Y : ScrF K mg C) (c55 : Cal P w K mg base 2 "check_town" (spCheck K Cc)) (cs : Prp P w K mg base 1 C "steps" (spStepsS K C Cs)) (ck : Cll P w K mg base 5 Cs (spCallS K Cs Cc)) (ch : Spm P w K mg base 1 Cc "__contains__" (spHasC K Cc)) (F : Fun K "taken_by" "taken_by" (tS 56) f fd) :
    FnE P w K mg base 6 f (Pm3 (rScr K C Cs) (rCty K Cc) rInt (rOpt rInt) (fun _ c size => hasTown c size = true) takenBy) := by
  refine fn_pm F sc56 (fun _ => rfl) (fun _ _ _ _ _ _ us hl => match us, hl with | [_, _, _], _ => rfl) fun q B0 H0 y hr hp => ?_
  obtain ⟨l, c, size⟩ := y
  refine tr_drop (EE.m (ee_call2 c55 hr (ee_var 1 rfl) (ee_var 2 rfl) hp)) ?_
  refine tr_set 3 sc56.nd (EE.m (ee_var 1 rfl)) ?_
  refine tr_for (ι := Form) (fun b => [sl (rScr K C Cs) l, sl (rCty K Cc) c, sl rInt size, sl (rCty K Cc) b, none, none]) (fun _ => mE) (fun i b => takenBy l c size = takenGo size i b (l.drop i)) c rfl
    (ei_enumT T.enumerate (ee_prop cs hr Y.isc.cl (ee_var 0 rfl) trivial)) (et_pr rfl (et_name 4 sc56.nd) (et_name 5 sc56.nd)) rfl (by repeat constructor) (fun _ _ h => h) (fun BX e i x b hx hb => ?_) fun b hb => ?_
  · obtain ⟨e1, e2⟩ := enumI_at hx
    have e2 : l[i]? = some x.2 := e2
    have hd : l.drop i = x.2 :: l.drop (i + 1) := by
      obtain ⟨h1, h2⟩ := List.getElem?_eq_some_iff.mp e2
      rw [List.drop_eq_getElem_cons h1, h2]
    refine tr_set 3 sc56.nd (EE.m (ee_callO ck hr (ee_var 5 rfl) (ee_var 3 rfl) trivial)) ?_
    refine tr_if (EB.m (eb_nin ch hr (ee_var 2 rfl) (ee_var 3 rfl) trivial)) (fun h => ?_) (fun h => tr_go ?_)
    · refine tr_rtE (y := takenBy l c size) (EE.m (ee_opt (fun H v e => by rw [show v = V.int _ from e]; exact fun z => nomatch z) (ee_var (r := rInt) 4 rfl))) ?_
      rw [hb, hd]
      unfold takenGo
      rw [if_neg (by rw [show hasTown (stepRun x.2 b) size = false by simpa using h]; simp), ← e1]
    · refine tr_nil fun σ H z => ⟨stepRun x.2 b, ?_, At.wk (by repeat constructor) (fun _ _ h => h) σ H z⟩
      rw [hb, hd]
      conv => lhs; unfold takenGo
      rw [if_pos (show hasTown (stepRun x.2 b) size = true by simpa using h)]
      rfl
  · refine tr_rtE (y := takenBy l c size) (EE.m ee_none) ?_
    rw [hb, List.drop_of_length_le (by show l.length ≤ (enumI l).length; rw [enumI_len]; exact Nat.le_refl _)]
    rfl
theorem ok_form_for (T : Bn mg) (Yc : CtyF K mg Cc) (c55 : Cal P w K mg base 2 "check_town" (spCheck K Cc)) (cr : Prp P w K mg base 1 Cc "runs" (spRunsC K Cc)) (cf : Mth P w K mg base 1 Cc "rows_from" (spRowsFrom K Cc)) (c43 : Cal P w K mg base 1 "form_with" (spFormWith K)) (F : Fun K "form_for" "form_for" (tS 57) f fd) :
    FnE P w K mg base 3 f (Pm2 (rCty K Cc) rInt (rForm K) (fun c size => hasTown c size = true) formFor) := by
  refine fn_pm F sc57 (fun _ => rfl) (fun _ _ _ _ _ _ us hl => match us, hl with | [_, _], _ => rfl) fun q B0 H0 y hr hp => ?_
  obtain ⟨c, size⟩ := y
  refine tr_know 0 rfl fun hy => ?_
  have hfl : (c.filter fun p => decide (p.1 ≤ size)).length ≤ 1000 := Nat.le_trans (List.length_filter_le _ _) hy.len
  refine tr_drop (EE.m (ee_call2 c55 hr (ee_var 0 rfl) (ee_var 1 rfl) hp)) ?_
  refine tr_setc (ea_lcIf 2 (own := [("own", 3), ("many", 4)]) (N := N57) (sc := defScope (tS 57)) rfl sc57.nd (by decide +kernel) (ei_tup (ee_prop cr hr Yc.isc.cl (ee_var 0 rfl) trivial)) (fun q => et_pr rfl (et_name 3 sc57.nd) (et_name 4 sc57.nd))
    (fun q x hx => eb_le (ee_var 3 rfl) (ee_var 1 rfl)) (fun q x hx hpx => ee_var 3 rfl) (Nat.le_trans hy.len (by decide))) ?_
  refine tr_rt (EE.m (ee_call1 c43 hr (ee_lc (s := rPr K rInt rInt) (own := [("own", 3)]) (N := N57) (sc := defScope (tS 57)) rfl sc57.nd (by decide +kernel) (ei_lst (ee_var 2 rfl)) (fun q => et_name 3 sc57.nd)
    (fun q x hx => ee_pr (ee_var 3 rfl) (ee_meth1 cf hr Yc.isc.cl (ee_var 0 rfl) rfl (ee_var 3 rfl) trivial)) ?_) ?_))
  · rw [List.length_map]; exact Nat.le_trans hfl (by decide)
  · show List.length _ ≤ 1000
    rw [List.length_map, List.length_map]; exact hfl
theorem plain_len (form : Form) : (plainSteps form).length ≤ 2 * form.length := by
  unfold plainSteps
  have h : ∀ (l : Form) (a : List Stp), (l.foldl (pStep (leastIn form)) a).length ≤ a.length + 2 * l.length := by
    intro l
    induction l with
    | nil => intro a; simp
    | cons x l ih =>
      intro a
      rw [List.foldl_cons]
      have := ih (pStep (leastIn form) a x)
      have := pStep_len (leastIn form) a x
      simp only [List.length_cons]
      omega
  have := h (floorsIn form) []
  rw [floors_len] at this
  simpa using this
abbrev spScriptWith (K : Fr) (C Cs : Addr) : Sp := Pm1 (rForm K) (rScr K C Cs) (fun form => form.length ≤ 50 ∧ 0 ≤ leastIn form) plainSteps
theorem ok_script_with (mk : Mkr P w K mg base 5 "Script" C (spScrInit K C Cs)) (c47 : Cal P w K mg base 3 "plain_steps" (spPlain K Cs)) (F : Fun K "script_with" "script_with" (tS 58) f fd) : FnE P w K mg base 7 f (spScriptWith K C Cs) := by
  refine fn_pm F sc58 (fun _ => rfl) (fun _ _ _ _ _ _ us hl => match us, hl with | [_], _ => rfl) fun q B0 H0 y hr ⟨h1, h2⟩ => ?_
  have := plain_len y
  have h1 : y.length ≤ 50 := h1
  exact tr_rt (EE.m (ee_mkScr mk hr (ee_seqT (ee_call1 c47 hr (ee_var 0 rfl) ⟨by omega, h2⟩)) (by omega)))
theorem ok_new_town (T : Bn mg) (Y : ScrF K mg C) (Yc : CtyF K mg Cc) (cl : Prp P w K mg base 2 C "least" (spLeastS K C Cs)) (cf : Prp P w K mg base 1 C "form" (spFormS K C Cs)) (c42 : Cal P w K mg base 1 "floors_in" (spFloors K)) (cr : Mth P w K mg base 1 Cc "rows_from" (spRowsFrom K Cc)) (F : Fun K "new_town" "new_town" (tS 59) f fd) :
    FnE P w K mg base 4 f (Pm2 (rScr K C Cs) (rCty K Cc) rInt (fun _ _ => True) newTown) := by
  refine fn_pm F sc59 (fun _ => rfl) (fun _ _ _ _ _ _ us hl => match us, hl with | [_, _], _ => rfl) fun q B0 H0 y hr hp => ?_
  obtain ⟨l, c⟩ := y
  refine tr_know 0 rfl fun hy => ?_
  have hy : l.length ≤ 100 := hy
  have hf := formOfSteps_len l
  have hq : (formOfSteps (l, c).1).length ≤ 101 := by show (formOfSteps l).length ≤ 101; omega
  refine tr_rt (EE.m (ee_maxL rfl T.max (ee_lst (el_cons (ee_prop cl hr Y.isc.cl (ee_var 0 rfl) trivial) (el_star (ee_seqL (ee_lc (own := [("place", 2), ("rows", 3)]) (N := N59) (sc := defScope (tS 59)) rfl sc59.nd (by decide +kernel) (ei_tup (ee_call1 c42 hr (ee_prop cf hr Y.isc.cl (ee_var 0 rfl) trivial) (Nat.le_trans hq (by decide)))) (fun q => et_pr rfl (et_name 2 sc59.nd) (et_name 3 sc59.nd))
    (fun q x hx => ee_sub (ee_var 3 rfl) (ee_meth1 cr hr Yc.isc.cl (ee_var 1 rfl) rfl (ee_var 2 rfl) trivial)) ?_)) el_nil)) ?_) ?_ fun m h1 h2 => maxOf_uniq h1 h2))
  · rw [floors_len]; exact Nat.le_trans hq (by decide)
  · simp only [List.length_cons, List.length_append, List.length_map, List.length_nil, floors_len]; omega
  · simp only [List.length_cons]; omega
theorem ok_fewer (T : Bn mg) (Yc : CtyF K mg Cc) (cr : Prp P w K mg base 1 Cc "runs" (spRunsC K Cc)) (mk : Mkr P w K mg base 2 "County" Cc (spCtyInit K Cc)) (F : Fun K "fewer" "fewer" (tS 60) f fd) : FnE P w K mg base 4 f (Pm2 (rCty K Cc) rInt (rCty K Cc) (fun _ _ => True) fewerM) := by
  refine fn_pm F sc60 (fun _ => rfl) (fun _ _ _ _ _ _ us hl => match us, hl with | [_, _], _ => rfl) fun q B0 H0 y hr hp => ?_
  obtain ⟨c, size⟩ := y
  refine tr_know 0 rfl fun hy => ?_
  obtain ⟨h1, h2, h3⟩ := fewer_strict hy size
  exact tr_rt (EE.m (ee_eq (ee_mkCty mk hr (ee_seqL (ee_lcIf (s := rPr K rInt rInt) (own := [("own", 2), ("many", 3)]) (N := N60) (sc := defScope (tS 60)) rfl sc60.nd (by decide +kernel) (ei_tup (ee_prop cr hr Yc.isc.cl (ee_var 0 rfl) trivial)) (fun q => et_pr rfl (et_name 2 sc60.nd) (et_name 3 sc60.nd))
    (fun q x hx => eb_or (eb_neI (ee_var 2 rfl) (ee_var 1 rfl)) fun _ => eb_gt (ee_var 3 rfl) ee_int) (fun q x hx hpx => ee_pr (ee_var 2 rfl) (ee_sub (ee_var 3 rfl) (ee_intB T.int (ee_eqI (ee_var 2 rfl) (ee_var 1 rfl))))) (Nat.le_trans hy.len (by decide)))) h1) h2))
theorem ok_towns_for (T : Bn mg) (Yc : CtyF K mg Cc) (cr : Prp P w K mg base 1 Cc "runs" (spRunsC K Cc)) (F : Fun K "towns_for" "towns_for" (tS 61) f fd) : FnE P w K mg base 3 f (Pm2 (rCty K Cc) rInt rInt (fun _ _ => True) townsFor) := by
  refine fn_pm F sc61 (fun _ => rfl) (fun _ _ _ _ _ _ us hl => match us, hl with | [_, _], _ => rfl) fun q B0 H0 y hr hp => ?_
  obtain ⟨c, rows⟩ := y
  refine tr_know 0 rfl fun hy => ?_
  refine tr_par 2 3 rfl sc61.nd ee_int (ee_var 1 rfl) ?_ rfl
  refine tr_fold tStep (0, rows) (fun b => [sl (rCty K Cc) c, sl rInt rows, sl rInt b.1, sl rInt b.2, none, none, none]) (fun _ => mE) (fun _ _ => True) rfl (ei_tup (ee_revT (ee_prop cr hr Yc.isc.cl (ee_var 0 rfl) trivial))) (et_pr rfl (et_name 4 sc61.nd) (et_name 5 sc61.nd)) trivial (fun _ _ _ _ _ => trivial)
    (by repeat constructor) (fun _ _ h => h) (fun BX e i x b hx hb => ?_) fun hb => ?_
  · have hm : x ∈ c := List.mem_reverse.mp (List.mem_of_getElem? hx)
    have hps := hy.pos x hm
    refine tr_if (EB.m (eb_gt (ee_var 3 rfl) ee_int)) (fun h => ?_) (fun h => tr_go (tr_done rfl (by rw [show tStep b x = b by unfold tStep; rw [if_neg (by rw [h]; simp)]]; repeat constructor) fun _ _ z => z))
    refine tr_set 6 sc61.nd (EE.m (ee_min2 rfl T.min (ee_var 5 rfl) (ee_fdiv (ee_sub (ee_add (ee_var 3 rfl) (ee_var 4 rfl)) ee_int) (ee_var 4 rfl) ⟨by omega, by omega⟩))) ?_
    refine tr_par 2 3 rfl sc61.nd (ee_add (ee_var 2 rfl) (ee_var 6 rfl)) (ee_sub (ee_var 3 rfl) (ee_mul (ee_var 6 rfl) (ee_var 4 rfl) (.inr (by omega)))) (tr_go (tr_done rfl ?_ fun _ _ z => z)) rfl
    rw [show tStep b x = (b.1 + min x.2 ((b.2 + x.1 - 1) / x.1), b.2 - min x.2 ((b.2 + x.1 - 1) / x.1) * x.1) by unfold tStep; rw [if_pos h]]
    repeat constructor
  · exact tr_rt (EE.m (ee_var 2 rfl))
end
end K81
set_option Elab.async false
set_option linter.all false
set_option maxRecDepth 100000
set_option maxHeartbeats 1900000
namespace K81
open PySem L2
/-! ### lines of scripts -/
def stepText (s : Stp) : Str := kindS s.1 ++ (" " : Str) ++ (toString s.2 : String)
def lineOf (l : List Stp) : Str := if decide (l = []) then "-" else Txt.join "; " (l.map stepText)
def allS : List Stp := [(true, 1), (true, 2), (true, 3), (true, 4), (true, 5), (true, 6), (true, 7), (false, 1), (false, 2), (false, 3), (false, 4), (false, 5), (false, 6), (false, 7)]
theorem allS_facts : ∀ s ∈ allS, stepText s ∈ stepT ∧ stepOfT (stepText s) = s ∧ (59 : Nat) ∉ TL.tl (stepText s) ∧ (stepText s).length ≤ 8 ∧ 1 ≤ s.2 := by decide +kernel
theorem line_split {l : List Stp} (hl : l ≠ []) (h : ∀ s ∈ l, s ∈ allS) : Txt.split (lineOf l) ("; " : Str) = l.map stepText := by
  unfold lineOf
  rw [if_neg (by simpa using hl)]
  refine TL.split_join (s := 59) (S := [32]) (by decide +kernel) (by decide +kernel) (by simpa using hl) fun p hp => ?_
  obtain ⟨s, hs, e⟩ := List.mem_map.mp hp
  rw [← e]
  exact (allS_facts s (h s hs)).2.2.1
theorem line_ne {l : List Stp} (hl : l ≠ []) (h : ∀ s ∈ l, s ∈ allS) : lineOf l ≠ ("-" : Str) := by
  intro e
  have h1 := line_split hl h
  rw [e] at h1
  cases l with
  | nil => exact hl rfl
  | cons s l =>
    have h2 : stepText s ∈ Txt.split ("-" : Str) ("; " : Str) := by rw [h1]; simp
    have h3 := (allS_facts s (h s (by simp))).1
    have : ∀ t ∈ Txt.split ("-" : Str) ("; " : Str), t ∉ stepT := by decide +kernel
    exact this _ h2 h3
theorem line_len {l : List Stp} (h : ∀ s ∈ l, s ∈ allS) (hn : l.length ≤ 100) : (lineOf l).length ≤ 1001 := by
  unfold lineOf
  split
  · decide +kernel
  · rename_i h0
    rw [TL.join_eq]
    refine Nat.le_trans (StrLaws.join_length_le _ _) ?_
    rw [List.length_map]
    have h2 : ((l.map stepText).map (·.length)).sum ≤ 8 * l.length := by
      clear hn h0
      induction l with
      | nil => simp
      | cons s l ih =>
        have h10 := (allS_facts s (h s (by simp))).2.2.2.1
        have h9 := ih fun t ht => h t (by simp [ht])
        rw [List.map_cons, List.map_cons, List.sum_cons, List.length_cons]
        exact Nat.le_trans (Nat.add_le_add h10 h9) (by omega)
    have : ("; " : Str).length = 2 := by decide +kernel
    rw [this]
    omega
abbrev spScrOf (K : Fr) (C Cs : Addr) : Sp := Pm1 (rVia rStr lineOf) (rScr K C Cs) (fun l => l.length ≤ 50 ∧ ∀ s ∈ l, s ∈ allS) id
abbrev ScrMk0 (P : Program) (w : World) (K : Fr) (mg : Str → Option Value) (base : Heap) (C Cs : Addr) : Prop := Mkr0 P w K mg base 5 "Script" C (spScrInit K C Cs) (rSeq K (rStp Cs)) []
theorem ee_mkScr0 {X : Cx} {Γ : List Slot} {p pos : Pos} {C Cs : Addr} {k : Nat} (mk : ScrMk0 X.prog X.w X.K X.mg X.base C Cs) (hr : Room k X.A) (hk : 6 ≤ k := by decide) (hg : Gl X "Script" := by rfl) : EE X Γ (rScr X.K C Cs) (.Call (.Name "Script" p) [] [] pos) [] := by
  obtain ⟨f, fd, ps, dv, d, h1, h2, h3, h4, h5, h6⟩ := mk
  exact ee_make0 h1 h2 h3 h4 h5 hr h6 (show ScrOk [] by decide) (F := scrF X.K Cs) rfl (show ScrOk [] by decide) hk hg
section
variable {P : Program} {w : World} {K : Fr} {mg : Str → Option Value} {base : Heap} {f : Addr} {fd : FuncData} {C Cc Cs : Addr} {tk tk2 tk3 : Tok}
theorem ok_scr_of (T : Bn mg) (mk : Mkr P w K mg base 5 "Script" C (spScrInit K C Cs)) (mk0 : ScrMk0 P w K mg base C Cs) (co : Stm P w K mg base 3 Cs "of" (spStpOf Cs)) (mS : mg "Step" = some (.ref Cs)) (hN : mg "NOTHING" = some (.str "-" tk)) (hB : mg "BETWEEN" = some (.str "; " tk2)) (F : Fun K "of" "Script.of" (tM 51 1) f fd) : FnE P w K mg base 7 f (spScrOf K C Cs) := by
  refine fn_pm F sc51_1 (fun _ => rfl) (fun _ _ _ _ _ _ us hl => match us, hl with | [_], _ => rfl) fun q B0 H0 l hr ⟨hl, ha⟩ => ?_
  have vt : ∀ {X : Cx} {Γ : List Slot} {e : Expr}, EE X Γ (rVia rStr lineOf) e l → EE X Γ rStr e (lineOf l) := fun h => ee_imp h fun H v z => z
  refine tr_if (EB.m (eb_eqS (vt (ee_var 0 rfl)) (ee_gStr hN))) (fun h => ?_) (fun h => tr_go ?_)
  · refine tr_rtE (y := l) (EE.m (ee_mkScr0 mk0 hr)) ?_
    by_cases e : l = []
    · exact e.symm
    · exact absurd (of_decide_eq_true h) (line_ne e ha)
  · have hne : l ≠ [] := by
      intro e
      subst e
      exact absurd h (by decide +kernel)
    have hln := line_len ha (show l.length ≤ 100 by omega)
    refine tr_rtE (y := l) (EE.m (ee_mkScr mk hr (ee_seqL (ee_eq (y := l) (ee_lc (g := stepOfT) (own := [("part", 1)]) (N := N51_1) (sc := defScope (tM 51 1)) rfl sc51_1.nd (by decide +kernel) (ei_lst (ee_split (vt (ee_var 0 rfl)) (ee_gStr hB) (by decide +kernel) (by omega))) (fun q => et_name 1 sc51_1.nd)
      (fun q x hx => ee_sta co hr (ee_cls mS) (ee_var 1 rfl) ?_) ?_) ?_)) (by omega))) rfl
    · rw [line_split hne ha] at hx
      obtain ⟨s, hs, e⟩ := List.mem_map.mp hx
      rw [← e]
      exact (allS_facts s (ha s hs)).1
    · rw [line_split hne ha, List.length_map]; omega
    · rw [line_split hne ha, List.map_map]
      conv => rhs; rw [← List.map_id l]
      exact List.map_congr_left fun s hs => (allS_facts s (ha s hs)).2.1
theorem lStep_len (c : Form) (size : Int) (acc : List Int) (q : Int × Int) : (lStep c size acc q).length ≤ acc.length + 1 := by
  unfold lStep
  split <;> simp
abbrev spFewer (K : Fr) (Cc : Addr) : Sp := Pm2 (rCty K Cc) rInt (rCty K Cc) (fun _ _ => True) fewerM
abbrev spTownsFor (K : Fr) (Cc : Addr) : Sp := Pm2 (rCty K Cc) rInt rInt (fun _ _ => True) townsFor
theorem ok_towns_to_lose (T : Bn mg) (Y : ScrF K mg C) (Yc : CtyF K mg Cc) (c55 : Cal P w K mg base 2 "check_town" (spCheck K Cc)) (cs : Mth P w K mg base 7 C "shows" (spShows K C Cs Cc)) (c60 : Cal P w K mg base 4 "fewer" (spFewer K Cc)) (c61 : Cal P w K mg base 3 "towns_for" (spTownsFor K Cc)) (c42 : Cal P w K mg base 1 "floors_in" (spFloors K))
    (cf : Prp P w K mg base 1 C "form" (spFormS K C Cs)) (cr : Mth P w K mg base 1 Cc "rows_from" (spRowsFrom K Cc)) (F : Fun K "towns_to_lose" "towns_to_lose" (tS 62) f fd) :
    FnE P w K mg base 8 f (Pm3 (rScr K C Cs) (rCty K Cc) rInt (rOpt rInt) (fun _ c size => hasTown c size = true) toLose) := by
  refine fn_pm F sc62 (fun _ => rfl) (fun _ _ _ _ _ _ us hl => match us, hl with | [_, _, _], _ => rfl) fun q B0 H0 y hr hp => ?_
  obtain ⟨l, c, size⟩ := y
  refine tr_know 0 rfl fun hy => ?_
  have hf : (formOfSteps l).length ≤ 101 := by have := formOfSteps_len l; have hy : l.length ≤ 100 := hy; omega
  have oi : ∀ (H : Hp) (v : V) (i : Int), rInt.rep H v i → v ≠ .non := fun H v i e => by rw [show v = V.int i from e]; exact fun z => nomatch z
  refine tr_drop (EE.m (ee_call2 c55 hr (ee_var 1 rfl) (ee_var 2 rfl) hp)) ?_
  refine tr_if (EB.m (eb_not (eb_val (ee_meth2 cs hr Y.isc.cl (ee_var 0 rfl) rfl (ee_var 1 rfl) (ee_var 2 rfl) hp)))) (fun h => ?_) (fun h => tr_go ?_)
  · exact tr_rtE (y := toLose l c size) (EE.m (ee_opt (fun H v => oi H v _) ee_int)) (by unfold toLose; rw [if_pos h])
  refine tr_set 3 sc62.nd (EE.m (ee_call2 c60 hr (ee_var 1 rfl) (ee_var 2 rfl) trivial)) ?_
  refine tr_new (s := rInt) (xs := []) 4 sc62.nd el_nil (by decide) fun o ho => ?_
  refine tr_fold (lStep c size) [] (fun b => [sl (rScr K C Cs) l, sl (rCty K Cc) c, sl rInt size, sl (rCty K Cc) (fewerM c size), sl (rAdr o) (), none, none]) (fun b => mA mE (mL no H0 o rInt b)) (fun i b => b.length ≤ i) rfl
    (ei_tup (ee_call1 c42 hr (ee_prop cf hr Y.isc.cl (ee_var 0 rfl) trivial) (Nat.le_trans hf (by decide)))) (et_pr rfl (et_name 5 sc62.nd) (et_name 6 sc62.nd)) (Nat.le_refl _) (fun i x b hx hb => Nat.le_trans (lStep_len c size b x) (by omega)) (by repeat constructor) (fun _ _ h => h) (fun BX e i x b hx hb => ?_) fun hb => ?_
  · have hi : i < 101 := Nat.lt_of_lt_of_le (List.getElem?_eq_some_iff.mp hx).1 (by rw [floors_len]; exact hf)
    refine tr_if (EB.m (eb_lt (ee_var 2 rfl) (ee_var 6 rfl))) (fun h => ?_) (fun h => tr_go (tr_done rfl (by repeat constructor) fun _ _ z => ?_))
    · refine tr_app (EE.m (ee_call2 c61 hr (ee_var 3 rfl) (ee_add (ee_sub (ee_meth1 cr hr Yc.isc.cl (ee_var 1 rfl) rfl (ee_var 5 rfl) trivial) (ee_var 6 rfl)) ee_int) trivial)) (ee_var 4 rfl) (by omega) mE_free (tr_go (tr_done rfl (by repeat constructor) fun _ _ z => ?_))
      rw [show lStep c size b x = _ from if_pos h]
      exact z
    · rw [show lStep c size b x = b from if_neg (by rw [h]; simp)]
      exact z
  · refine tr_rtE (y := toLose l c size) (EE.op 4 (ee_if (eb_gt (ee_len T.len (ee_seqL (ee_var 4 rfl))) ee_int) (fun h => ee_opt (fun H v => oi H v _) (ee_minL (m := minOf (loseL l c size)) rfl T.min (ee_var 4 rfl) (by have := of_decide_eq_true h; exact Int.natCast_pos.mp this) fun m h1 h2 => minOf_uniq h1 h2)) fun _ => ee_none) (fz_opt fz_int) rfl) ?_
    have e : toLose l c size = if decide ((0 : Int) < ((loseL l c size).length : Int)) then some (minOf (loseL l c size)) else none := by
      unfold toLose
      rw [if_neg (by rw [show (!hasTown (runSteps l c) size) = false from h]; simp)]
    exact e.symm
theorem ok_town_to_add (T : Bn mg) (Y : ScrF K mg C) (Yc : CtyF K mg Cc) (c55 : Cal P w K mg base 2 "check_town" (spCheck K Cc)) (cl : Prp P w K mg base 2 C "least" (spLeastS K C Cs)) (c42 : Cal P w K mg base 1 "floors_in" (spFloors K)) (cf : Prp P w K mg base 1 C "form" (spFormS K C Cs)) (cr : Mth P w K mg base 1 Cc "rows_from" (spRowsFrom K Cc)) (F : Fun K "town_to_add" "town_to_add" (tS 63) f fd) :
    FnE P w K mg base 4 f (Pm3 (rScr K C Cs) (rCty K Cc) rInt (rOpt rInt) (fun _ c size => hasTown c size = true) toAdd) := by
  refine fn_pm F sc63 (fun _ => rfl) (fun _ _ _ _ _ _ us hl => match us, hl with | [_, _, _], _ => rfl) fun q B0 H0 y hr hp => ?_
  obtain ⟨l, c, size⟩ := y
  refine tr_know 0 rfl fun hy => ?_
  have hf : (formOfSteps l).length ≤ 101 := by have := formOfSteps_len l; have hy : l.length ≤ 100 := hy; omega
  have hlk : (lacksOf l c).length ≤ 101 := by unfold lacksOf; rw [List.length_map, floors_len]; exact hf
  have hlk2 : (((lacksOf l c).filter fun q => decide (0 < q.2)).map fun q => max q.1 q.2).length ≤ 101 := by rw [List.length_map]; exact Nat.le_trans (List.length_filter_le _ _) hlk
  refine tr_drop (EE.m (ee_call2 c55 hr (ee_var 1 rfl) (ee_var 2 rfl) hp)) ?_
  refine tr_if (EB.m (eb_lt (ee_var 2 rfl) (ee_prop cl hr Y.isc.cl (ee_var 0 rfl) trivial))) (fun h => ?_) (fun h => tr_go ?_)
  · exact tr_rtE (y := toAdd l c size) (EE.m ee_none) (by unfold toAdd; rw [if_pos h])
  refine tr_setc (ea_lc (s := rPr K rInt rInt) 3 (own := [("place", 4), ("rows", 5)]) (N := N63) (sc := defScope (tS 63)) rfl sc63.nd (by decide +kernel) (ei_tup (ee_call1 c42 hr (ee_prop cf hr Y.isc.cl (ee_var 0 rfl) trivial) (Nat.le_trans hf (by decide)))) (fun q => et_pr rfl (et_name 4 sc63.nd) (et_name 5 sc63.nd))
    (fun q x hx => ee_pr (ee_var 4 rfl) (ee_sub (ee_var 5 rfl) (ee_meth1 cr hr Yc.isc.cl (ee_var 1 rfl) rfl (ee_var 4 rfl) trivial))) (by rw [floors_len]; exact Nat.le_trans hf (by decide))) ?_
  refine tr_rtE (y := toAdd l c size) (EE.m (ee_opt (fun H v e => by rw [show v = V.int _ from e]; exact fun z => nomatch z) (ee_maxL rfl T.max (ee_lst (el_cons ee_int (el_star (ee_seqL (ee_lcIf (own := [("place", 4), ("rows", 5)]) (N := N63) (sc := defScope (tS 63)) rfl sc63.nd (by decide +kernel) (ei_lst (ee_var 3 rfl)) (fun q => et_pr rfl (et_name 4 sc63.nd) (et_name 5 sc63.nd))
    (fun q x hx => eb_gt (ee_var 5 rfl) ee_int) (fun q x hx hpx => ee_max2 rfl T.max (ee_var 4 rfl) (ee_var 5 rfl)) (Nat.le_trans hlk (by decide)))) el_nil)) ?_) ?_ fun m h1 h2 => maxOf_uniq h1 h2))) ?_
  · rw [List.length_cons, List.length_append, List.length_nil]; exact Nat.le_trans (Nat.succ_le_succ hlk2) (by decide)
  · simp only [List.length_cons]; omega
  · have e : toAdd l c size = some (maxOf (0 :: ((((lacksOf l c).filter fun q => decide (0 < q.2)).map fun q => max q.1 q.2) ++ []))) := by
      unfold toAdd
      rw [if_neg (by rw [show decide (size < leastIn (formOfSteps l)) = false from h]; simp)]
    exact e.symm
end
end K81
set_option Elab.async false
set_option linter.all false
set_option maxRecDepth 100000
set_option maxHeartbeats 1900000
namespace K81
open PySem L2
/-! ### tells -/
abbrev Look := Form × Int × Bool
abbrev rLooks (K : Fr) (Cc : Addr) : RT (List Look) := rTup K (rTri K (rCty K Cc) rInt rBl)
def InL (looks : List Look) : Prop := ∀ q ∈ looks, hasTown q.1 q.2.1 = true
def fitsM (l : List Stp) (looks : List Look) : Bool := (looks.map fun q => decide (hasTown (runSteps l q.1) q.2.1 = q.2.2)).all id
def lowStep (b : Option Form) (q : Look) : Option Form := if q.2.2 then (match b with | none => some (formFor q.1 q.2.1) | some a => some (leastAround a (formFor q.1 q.2.1))) else b
def lowOf (looks : List Look) : Option Form := looks.foldl lowStep none
def bannedBy (looks : List Look) : List Form := (looks.filter fun q => !q.2.2).map fun q => formFor q.1 q.2.1
def isBanned (form : Form) (banned : List Form) : Bool := (banned.map fun o => isWithin o form).any id
/-- small enough at every look -/
structure LowOk (looks : List Look) : Prop where
  inl : InL looks
  len : looks.length ≤ 1000
  frm : ∀ q ∈ looks, FL (formFor q.1 q.2.1)
  pre : ∀ i, i < looks.length → ∀ a, (looks.take i).foldl lowStep none = some a → FL a
structure ChkOk (looks : List Look) : Prop where
  low : LowOk looks
  fl : ∀ a, lowOf looks = some a → FL a
  ban : ∀ a, lowOf looks = some a → isBanned a (bannedBy looks) = false
def strictestFit (looks : List Look) : Option (List Stp) := match lowOf looks with | none => none | some a => some (plainSteps a)
def onlyFit (looks : List Look) : Option (List Stp) := match lowOf looks with
  | none => none
  | some a => if !((justAbove a).map fun fm => isBanned fm (bannedBy looks)).all id then none else some (plainSteps a)
def askCty (place rows many : Int) : Form := summedM ((if decide (1 < place) then [(place - 1, many)] else []) ++ [(rows, 1)])
theorem oi_scr {K : Fr} {C Cs : Addr} (H : Hp) (v : V) (x : List Stp) (h : (rScr K C Cs).rep H v x) : v ≠ .non := by
  obtain ⟨_, a, _, _, e, _⟩ := h
  rw [e]; exact fun z => nomatch z
theorem oi_form {K : Fr} (H : Hp) (v : V) (x : Form) (h : (rForm K).rep H v x) : v ≠ .non := by
  obtain ⟨a, _, e, _⟩ := h
  rw [e]; exact fun z => nomatch z
section
variable {P : Program} {w : World} {K : Fr} {mg : Str → Option Value} {base : Heap} {f : Addr} {fd : FuncData} {C Cc Cs : Addr} {tk tk2 tk3 : Tok}
theorem ok_fits (T : Bn mg) (Y : ScrF K mg C) (cs : Mth P w K mg base 7 C "shows" (spShows K C Cs Cc)) (F : Fun K "fits" "fits" (tS 65) f fd) : FnE P w K mg base 8 f (Pm2 (rScr K C Cs) (rLooks K Cc) rBl (fun _ looks => InL looks ∧ looks.length ≤ 1000) fitsM) := by
  refine fn_pm F sc65 (fun _ => rfl) (fun _ _ _ _ _ _ us hl => match us, hl with | [_, _], _ => rfl) fun q B0 H0 y hr hp => ?_
  exact tr_rt (EE.m (ee_all rfl T.all (ee_lc (own := [("county", 2), ("size", 3), ("shown", 4)]) (N := N65) (sc := defScope (tS 65)) rfl sc65.nd (by decide +kernel) (ei_tup (ee_var 1 rfl)) (fun q => et_tri rfl (et_name 2 sc65.nd) (et_name 3 sc65.nd) (et_name 4 sc65.nd))
    (fun q x hx => ee_eqB (ee_meth2 cs hr Y.isc.cl (ee_var 0 rfl) rfl (ee_var 2 rfl) (ee_var 3 rfl) (hp.1 x hx)) (ee_var 4 rfl)) (Nat.le_trans hp.2 (by decide)))))
abbrev spFormFor (K : Fr) (Cc : Addr) : Sp := Pm2 (rCty K Cc) rInt (rForm K) (fun c size => hasTown c size = true) formFor
theorem ok_low_of (c57 : Cal P w K mg base 3 "form_for" (spFormFor K Cc)) (c9 : Cal P w K mg base 3 "least_around" (spAround K)) (F : Fun K "low_of" "low_of" (tS 66) f fd) : FnE P w K mg base 4 f (Pm1 (rLooks K Cc) (rOpt (rForm K)) LowOk lowOf) := by
  refine fn_pm F sc66 (fun _ => rfl) (fun _ _ _ _ _ _ us hl => match us, hl with | [_], _ => rfl) fun q B0 H0 y hr hp => ?_
  refine tr_set (r := rOpt (rForm K)) 1 sc66.nd (EE.m ee_none) ?_
  refine tr_for (ι := Option Form) (fun b => [sl (rLooks K Cc) y, sl (rOpt (rForm K)) b, none, none, none, none]) (fun _ => mE) (fun i b => b = (y.take i).foldl lowStep none) none rfl (ei_tup (ee_var 0 rfl)) (et_tri rfl (et_name 2 sc66.nd) (et_name 3 sc66.nd) (et_name 4 sc66.nd)) rfl (by repeat constructor) (fun _ _ h => h)
    (fun BX e i x b hx hb => ?_) fun b hb => ?_
  · have hm := List.mem_of_getElem? hx
    have st : lowStep b x = (y.take (i + 1)).foldl lowStep none := by rw [fold_take lowStep none hx, ← hb]
    refine tr_if (EB.m (eb_val (ee_var 4 rfl))) (fun h => ?_) (fun h => tr_go ?_)
    · refine tr_set 5 sc66.nd (EE.m (ee_call2 c57 hr (ee_var 2 rfl) (ee_var 3 rfl) (hp.inl x hm))) ?_
      refine tr_set (r := rOpt (rForm K)) (y := lowStep b x) 1 sc66.nd (EE.m ?_) (tr_go (tr_nil fun σ H z => ⟨lowStep b x, st, At.wk (by repeat constructor) (fun _ _ h => h) σ H z⟩))
      cases b with
      | none =>
        refine ee_eq (ee_if (y := some (formFor x.1 x.2.1)) (z := none) (eb_isN (ee_var (r := rOpt (rForm K)) 1 rfl)) (fun _ => ee_opt (fun H v => oi_form H v _) (ee_var 5 rfl)) fun z => nomatch z) ?_
        unfold lowStep
        rw [if_pos h]
        rfl
      | some a =>
        refine ee_eq (ee_if (y := none) (z := some (leastAround a (formFor x.1 x.2.1))) (eb_isN (ee_var (r := rOpt (rForm K)) 1 rfl)) (fun z => nomatch z) fun _ => ee_opt (fun H v => oi_form H v _) (ee_call2 c9 hr (ee_some (ee_var (r := rOpt (rForm K)) 1 rfl)) (ee_var 5 rfl) ⟨hp.pre i (List.getElem?_eq_some_iff.mp hx).1 a hb.symm, hp.frm x hm⟩)) ?_
        unfold lowStep
        rw [if_pos h]
        rfl
    · refine tr_nil fun σ H z => ⟨b, ?_, At.wk (by repeat constructor) (fun _ _ h => h) σ H z⟩
      rw [← st]
      unfold lowStep
      rw [if_neg (by rw [h]; simp)]
  · rw [List.take_length] at hb
    exact tr_rtE (y := lowOf y) (EE.m (ee_var 1 rfl)) hb
theorem ok_banned_by (c57 : Cal P w K mg base 3 "form_for" (spFormFor K Cc)) (F : Fun K "banned_by" "banned_by" (tS 67) f fd) : FnE P w K mg base 4 f (Pm1 (rLooks K Cc) (rLst K (rForm K)) (fun looks => InL looks ∧ looks.length ≤ 1000) bannedBy) := by
  refine fn_pm F sc67 (fun _ => rfl) (fun _ _ _ _ _ _ us hl => match us, hl with | [_], _ => rfl) fun q B0 H0 y hr hp => ?_
  exact tr_rt (EE.m (ee_lcIf (own := [("county", 1), ("size", 2), ("shown", 3)]) (N := N67) (sc := defScope (tS 67)) rfl sc67.nd (by decide +kernel) (ei_tup (ee_var 0 rfl)) (fun q => et_tri rfl (et_name 1 sc67.nd) (et_name 2 sc67.nd) (et_name 3 sc67.nd))
    (fun q x hx => eb_not (eb_val (ee_var 3 rfl))) (fun q x hx hpx => ee_call2 c57 hr (ee_var 1 rfl) (ee_var 2 rfl) (hp.1 x hx)) (Nat.le_trans hp.2 (by decide))))
abbrev spIsBanned (K : Fr) : Sp := Pm2 (rForm K) (rLst K (rForm K)) rBl (fun form banned => FL form ∧ banned.length ≤ 1000 ∧ ∀ o ∈ banned, FL o) isBanned
theorem ok_is_banned (T : Bn mg) (c6 : Cal P w K mg base 2 "is_within" (spWithin K)) (F : Fun K "is_banned" "is_banned" (tS 68) f fd) : FnE P w K mg base 3 f (spIsBanned K) := by
  refine fn_pm F sc68 (fun _ => rfl) (fun _ _ _ _ _ _ us hl => match us, hl with | [_, _], _ => rfl) fun q B0 H0 y hr hp => ?_
  exact tr_rt (EE.m (ee_any rfl T.any (ee_lc (own := [("own", 2)]) (N := N68) (sc := defScope (tS 68)) rfl sc68.nd (by decide +kernel) (ei_lst (ee_var 1 rfl)) (fun q => et_name 2 sc68.nd)
    (fun q x hx => ee_call2 c6 hr (ee_var 2 rfl) (ee_var 0 rfl) ⟨hp.2.2 x hx, hp.1⟩) (Nat.le_trans hp.2.1 (by decide)))))
theorem banned_ok {looks : List Look} (h : LowOk looks) : (bannedBy looks).length ≤ 1000 ∧ ∀ o ∈ bannedBy looks, FL o := by
  refine ⟨?_, fun o ho => ?_⟩
  · unfold bannedBy
    rw [List.length_map]
    exact Nat.le_trans (List.length_filter_le _ _) h.len
  · obtain ⟨q, hq, e⟩ := List.mem_map.mp ho
    rw [← e]
    exact h.frm q (List.mem_filter.mp hq).1
abbrev spChecked (K : Fr) (Cc : Addr) : Sp := Pm1 (rLooks K Cc) (rPr K (rOpt (rForm K)) (rLst K (rForm K))) ChkOk (fun looks => (lowOf looks, bannedBy looks))
theorem ok_checked (c66 : Cal P w K mg base 4 "low_of" (Pm1 (rLooks K Cc) (rOpt (rForm K)) LowOk lowOf)) (c67 : Cal P w K mg base 4 "banned_by" (Pm1 (rLooks K Cc) (rLst K (rForm K)) (fun looks => InL looks ∧ looks.length ≤ 1000) bannedBy)) (c68 : Cal P w K mg base 3 "is_banned" (spIsBanned K)) (F : Fun K "checked" "checked" (tS 69) f fd) : FnE P w K mg base 5 f (spChecked K Cc) := by
  refine fn_pm F sc69 (fun _ => rfl) (fun _ _ _ _ _ _ us hl => match us, hl with | [_], _ => rfl) fun q B0 H0 y hr hp => ?_
  obtain ⟨hb1, hb2⟩ := banned_ok hp.low
  refine tr_par 1 2 rfl sc69.nd (ee_call1 c66 hr (ee_var 0 rfl) hp.low) (ee_call1 c67 hr (ee_var 0 rfl) ⟨hp.low.inl, hp.low.len⟩) ?_ rfl
  refine tr_ifF (EB.m ?_) (tr_go (tr_rt (EE.m (ee_pr (ee_var 1 rfl) (ee_var 2 rfl)))))
  cases e : lowOf y with
  | none => exact eb_eq (eb_and (y := false) (eb_notN (ee_var (r := rOpt (rForm K)) 1 rfl)) fun h => nomatch h) rfl
  | some a => exact eb_eq (eb_and (eb_notN (ee_var (r := rOpt (rForm K)) 1 rfl)) fun _ => eb_val (ee_call2 c68 hr (ee_some (ee_var (r := rOpt (rForm K)) 1 rfl)) (ee_var 2 rfl) ⟨hp.fl a e, hb1, hb2⟩)) (by rw [hp.ban a e]; rfl)
end
end K81
set_option Elab.async false
set_option linter.all false
set_option maxRecDepth 100000
set_option maxHeartbeats 1900000
namespace K81
open PySem L2
theorem vs_rangeB (B : Hp) (l m : Int) : Vs rInt B (rgV l m) (rangeI l m) := by
  have e : rgV l m = (rangeI l m).map V.int := by unfold rgV rangeI; rw [List.map_map]; rfl
  rw [e]
  exact vs_ints B _
/-- list(range(a, b)) -/
theorem ee_listRg {X : Cx} {Γ : List Slot} {a b : Expr} {p p2 pos pos2 : Pos} {l m : Int} (hc : X.calm = true) (hm : X.mg "list" = none) (hm2 : X.mg "range" = none) (ha : EE X Γ rInt a l) (hb : EE X Γ rInt b m) (h : RgOk l m) (hg : Gl X "list" := by rfl) (hg2 : Gl X "range" := by rfl)
    (na : starEach [a, b] X.env = (false, eval a X.env) :: starEach [b] X.env := by rfl) (nb : starEach [b] X.env = (false, eval b X.env) :: starEach [] X.env := by rfl) (hp : (backTo pos2 (starEach [b] X.env)).any (·.1) = false := by rfl)
    (nc : starEach [.Call (.Name "range" p2) [a, b] [] pos2] X.env = (false, eval (.Call (.Name "range" p2) [a, b] [] pos2) X.env) :: starEach [] X.env := by rfl) :
    EE X Γ (rLst X.K rInt) (.Call (.Name "list" p) [.Call (.Name "range" p2) [a, b] [] pos2] [] pos) (rangeI l m) :=
  PE.imp (pe_listRg hc hg hm (prg_2 hg2 hm2 ha hb na nb hp) nc) fun σ H Q ⟨B, en, ex, q⟩ => ⟨B, en, ex, fun u B1 H1 g1 ru => ⟨B1, en.mono g1.b, g1.i, fun v B2 H2 g2 rv => ⟨l, m, ru, rv, h, fun c hc => q _ (upd B2 c _) _ ((g1.tr g2).tr (Go.new g2.i hc)) ⟨c, _, rfl, upd_same, vs_rangeB _ l m⟩⟩⟩⟩
def tableM (most : Int) : List Form := ((rangeI 1 (most + 1)).map fun s => summedM [(s, most)]) ++ (((rangeI 1 (most + 1)).flatMap fun pl => (rangeI pl (most + 1)).map fun rows => askCty pl rows most) ++ [])
section
variable {P : Program} {w : World} {K : Fr} {mg : Str → Option Value} {base : Heap} {f : Addr} {fd : FuncData} {C Cc Cs : Addr} {tk tk2 tk3 : Tok}
abbrev FitOk (looks : List Look) : Prop := ChkOk looks ∧ ∀ a, lowOf looks = some a → 0 < a.length ∧ 0 ≤ leastIn a
theorem ok_strictest (c69 : Cal P w K mg base 5 "checked" (spChecked K Cc)) (c58 : Cal P w K mg base 7 "script_with" (spScriptWith K C Cs)) (F : Fun K "strictest_fit" "strictest_fit" (tS 70) f fd) : FnE P w K mg base 8 f (Pm1 (rLooks K Cc) (rOpt (rScr K C Cs)) FitOk strictestFit) := by
  refine fn_pm F sc70 (fun _ => rfl) (fun _ _ _ _ _ _ us hl => match us, hl with | [_], _ => rfl) fun q B0 H0 y hr ⟨hp, h2⟩ => ?_
  refine tr_set 1 sc70.nd (EE.m (ee_fst (ee_call1 c69 hr (ee_var 0 rfl) hp) ee_int)) ?_
  show Tr _ (At no B0 H0 B0 ((g0 [dt (rLooks K Cc) y] N70.length).set 1 (sl (rOpt (rForm K)) (lowOf y))) mE) _ _
  refine tr_rtE (y := strictestFit y) (EE.m ?_) rfl
  unfold strictestFit
  cases e : lowOf y with
  | none => exact ee_eq (ee_if (y := none) (z := none) (eb_isN (ee_var (r := rOpt (rForm K)) 1 rfl)) (fun _ => ee_none) fun z => nomatch z) rfl
  | some a => exact ee_eq (ee_if (y := none) (z := some (plainSteps a)) (eb_isN (ee_var (r := rOpt (rForm K)) 1 rfl)) (fun z => nomatch z) fun _ => ee_opt (fun H v => oi_scr H v _) (ee_call1 c58 hr (ee_some (ee_var (r := rOpt (rForm K)) 1 rfl)) ⟨Nat.le_trans (hp.fl a e) (by decide), (h2 a e).2⟩)) rfl
theorem ok_only_fit (T : Bn mg) (c69 : Cal P w K mg base 5 "checked" (spChecked K Cc)) (c68 : Cal P w K mg base 3 "is_banned" (spIsBanned K)) (c10 : Cal P w K mg base 2 "just_above" (spAbove K)) (c58 : Cal P w K mg base 7 "script_with" (spScriptWith K C Cs)) (F : Fun K "only_fit" "only_fit" (tS 71) f fd) :
    FnE P w K mg base 8 f (Pm1 (rLooks K Cc) (rOpt (rScr K C Cs)) (fun looks => FitOk looks ∧ ∀ a, lowOf looks = some a → (justAbove a).length ≤ 1000 ∧ ∀ fm ∈ justAbove a, FL fm) onlyFit) := by
  refine fn_pm F sc71 (fun _ => rfl) (fun _ _ _ _ _ _ us hl => match us, hl with | [_], _ => rfl) fun q B0 H0 y hr ⟨⟨hp, h2⟩, h3⟩ => ?_
  obtain ⟨hb1, hb2⟩ := banned_ok hp.low
  refine tr_tg (EE.m (ee_call1 c69 hr (ee_var 0 rfl) hp)) (et_pr rfl (et_name 1 sc71.nd) (et_name 2 sc71.nd)) ?_
  show Tr _ (At no B0 H0 B0 (((g0 [dt (rLooks K Cc) y] N71.length).set 1 (sl (rOpt (rForm K)) (lowOf y))).set 2 (sl (rLst K (rForm K)) (bannedBy y))) mE) _ (endsR no B0 H0 (rOpt (rScr K C Cs)) (onlyFit y))
  unfold onlyFit
  cases e : lowOf y with
  | none => exact tr_ifT (EB.m (eb_eq (eb_or (y := true) (eb_isN (ee_var (r := rOpt (rForm K)) 1 rfl)) fun z => nomatch z) rfl)) (tr_rt (EE.m ee_none))
  | some a =>
    obtain ⟨j1, j2⟩ := h3 a e
    have va : ∀ {Γ : List Slot} {pos : Pos}, Γ[1]? = some (sl (rOpt (rForm K)) (some a)) → EE (cxE P w K mg base N71 "only_fit" (tS 71) f q) Γ (rForm K) (.Name "low" pos) a := fun h => ee_some (ee_var 1 h)
    refine tr_if (EB.m (eb_or (eb_isN (ee_var (r := rOpt (rForm K)) 1 rfl)) fun _ => eb_not (eb_val (ee_all rfl T.all (ee_lc (own := [("form", 3)]) (N := N71) (sc := defScope (tS 71)) rfl sc71.nd (by decide +kernel) (ei_lst (ee_call1 c10 hr (va rfl) ⟨hp.fl a e, (h2 a e).1⟩)) (fun q => et_name 3 sc71.nd)
      (fun q x hx => ee_call2 c68 hr (ee_var 3 rfl) (ee_var 2 rfl) ⟨j2 x hx, hb1, hb2⟩) (Nat.le_trans j1 (by decide))))))) (fun h => ?_) (fun h => tr_go ?_)
    · refine tr_rtE (EE.m ee_none) ?_ rfl
      have h : (!((justAbove a).map fun fm => isBanned fm (bannedBy y)).all id) = true := h
      show none = if (!((justAbove a).map fun fm => isBanned fm (bannedBy y)).all id) = true then none else some (plainSteps a)
      rw [if_pos h]
    · refine tr_rtE (EE.m (ee_opt (fun H v => oi_scr H v _) (ee_call1 c58 hr (va rfl) ⟨Nat.le_trans (hp.fl a e) (by decide), (h2 a e).2⟩))) ?_ rfl
      have h : (!((justAbove a).map fun fm => isBanned fm (bannedBy y)).all id) = false := h
      show some (plainSteps a) = if (!((justAbove a).map fun fm => isBanned fm (bannedBy y)).all id) = true then none else some (plainSteps a)
      rw [if_neg (by rw [h]; simp)]
abbrev spAsking (K : Fr) (Cc : Addr) : Sp := Pm3 rInt rInt rInt (rPr K (rCty K Cc) rInt) (fun place rows many => place ≤ 1000 ∧ 1 ≤ rows ∧ rows ≤ 1000 ∧ 1 ≤ many) fun place rows many => (askCty place rows many, rows)
theorem ok_asking (mk : Mkr P w K mg base 2 "County" Cc (spCtyInit K Cc)) (F : Fun K "asking" "asking" (tS 72) f fd) : FnE P w K mg base 4 f (spAsking K Cc) := by
  refine fn_pm F sc72 (fun _ => rfl) (fun _ _ _ _ _ _ us hl => match us, hl with | [_, _, _], _ => rfl) fun q B0 H0 y hr hp => ?_
  obtain ⟨place, rows, many⟩ := y
  obtain ⟨h1, h2, h3, h4⟩ : place ≤ 1000 ∧ 1 ≤ rows ∧ rows ≤ 1000 ∧ 1 ≤ many := hp
  refine tr_set 3 sc72.nd (EE.m (ee_if (eb_gt (ee_var 0 rfl) ee_int) (fun _ => ee_lst (el_cons (ee_pr (ee_sub (ee_var 0 rfl) ee_int) (ee_var 2 rfl)) el_nil) (by simp)) fun _ => ee_lst el_nil (by simp))) ?_
  have hpr : PreRuns ((if decide (1 < place) then [(place - 1, many)] else []) ++ [(rows, 1)]) := by
    refine ⟨fun p hp => ?_, ?_⟩
    · rcases List.mem_append.mp hp with hp | hp
      · by_cases z : 1 < place
        · rw [if_pos (by simpa using z)] at hp
          have : p = (place - 1, many) := by simpa using hp
          subst this
          exact ⟨by show 1 ≤ place - 1; omega, by show place - 1 ≤ 1000000; omega, h4⟩
        · rw [if_neg (by simpa using z)] at hp
          exact absurd hp (by simp)
      · have : p = (rows, 1) := by simpa using hp
        subst this
        exact ⟨h2, by show rows ≤ 1000000; omega, by show (1 : Int) ≤ 1; decide⟩
    · split <;> simp
  exact tr_rt (EE.m (ee_pr (ee_mkCty mk hr (ee_seqL (ee_lst (el_star (ee_seqL (ee_var 3 rfl)) (el_cons (ee_pr (ee_var 1 rfl) ee_int) el_nil)) (by show List.length (_ ++ [_]) ≤ _; split <;> simp))) hpr) (ee_var 1 rfl)))
theorem rangeI_mem {l m x : Int} : x ∈ rangeI l m ↔ l ≤ x ∧ x < m := by
  unfold rangeI
  constructor
  · intro h
    obtain ⟨i, hi, e⟩ := List.mem_map.mp h
    have := List.mem_range.mp hi
    omega
  · intro ⟨h1, h2⟩
    exact List.mem_map.mpr ⟨(x - l).toNat, List.mem_range.mpr (by omega), by omega⟩
theorem ok_telling_table (T : Bn mg) (mk : Mkr P w K mg base 2 "County" Cc (spCtyInit K Cc)) (c72 : Cal P w K mg base 4 "asking" (spAsking K Cc)) (F : Fun K "telling_table" "telling_table" (tS 73) f fd) : FnE P w K mg base 5 f (Pm1 rInt (rTup K (rCty K Cc)) (fun m => m = 7) tableM) := by
  refine fn_pm F sc73 (fun _ => rfl) (fun _ _ _ _ _ _ us hl => match us, hl with | [_], _ => rfl) fun q B0 H0 y hr hp => ?_
  subst hp
  refine tr_set 1 sc73.nd (EE.m (ee_listRg rfl T.list T.range ee_int (ee_add (ee_var 0 rfl) ee_int) (RgOk.of_le (by decide) (by decide) (by decide) (by decide)))) ?_
  refine tr_setc (ea_lc (s := rCty K Cc) 2 (own := [("size", 3)]) (N := N73) (sc := defScope (tS 73)) rfl sc73.nd (by decide +kernel) (ei_lst (ee_var 1 rfl)) (fun q => et_name 3 sc73.nd)
    (fun q x hx => ee_mkCty mk hr (ee_seqL (ee_lst (el_cons (ee_pr (ee_var 3 rfl) (ee_var 0 rfl)) el_nil) (by simp))) ?_) (by decide +kernel)) ?_
  · have := rangeI_mem.mp hx
    exact ⟨fun p hp => by
      have : p = (x, 7) := by simpa using hp
      subst this
      exact ⟨by show 1 ≤ x; omega, by show x ≤ 1000000; omega, by show (1 : Int) ≤ 7; decide⟩, by show (1 : Nat) ≤ 1000; decide⟩
  · refine tr_rt (EE.m (ee_tupleOf T.tuple (ee_seqL (ee_lst (el_star (ee_seqL (ee_var 2 rfl)) (el_star (ee_seqL (ee_lc2 (u := rCty K Cc) (own := [("place", 4), ("rows", 5)]) (vs1 := [5]) (N := N73) (sc := defScope (tS 73)) rfl sc73.nd (by decide +kernel) (ei_lst (ee_var 1 rfl)) (fun q => et_name 4 sc73.nd)
      (fun q x hx => ei_range2 T.range (ee_var 4 rfl) (ee_add (ee_var 0 rfl) ee_int) ?_) (fun q => et_name 5 sc73.nd) (fun q x hx z hz => ee_fst (ee_call3 c72 hr (ee_var 4 rfl) (ee_var 5 rfl) (ee_var 0 rfl) ?_) ee_int) (by decide +kernel))) el_nil)) (by decide +kernel)))))
    · have := rangeI_mem.mp hx
      show -(2 ^ 62) ≤ x ∧ x < 2 ^ 62 ∧ -(2 ^ 62) ≤ (7 + 1 : Int) ∧ (7 + 1 : Int) < 2 ^ 62
      omega
    · have h1 := rangeI_mem.mp hx
      have h2 := rangeI_mem.mp hz
      show x ≤ 1000 ∧ 1 ≤ z ∧ z ≤ 1000 ∧ (1 : Int) ≤ 7
      omega
abbrev spTupC (K : Fr) (Cc : Addr) : Sp := Pm1 (rCty K Cc) (rCty K Cc) (fun _ => True) id
theorem ok_tupled1 (T : Bn mg) (Yc : CtyF K mg Cc) (hk : PySem.W.kitAny K (.ref Cc) [.type "list", .type "tuple"] = some false) (F : Fun K "tupled" "tupled" (tS 13) f fd) : FnE P w K mg base 1 f (spTupC K Cc) := by
  refine fn_pm F sc13 (fun _ => rfl) (fun _ _ _ _ _ _ us hl => match us, hl with | [_], _ => rfl) fun q B0 H0 y hr hp => ?_
  have na : ∀ {e : Expr}, PE (cxE P w K mg base N13 "tupled" (tS 13) f q) e (fun _ _ _ => False) := ⟨fun _ _ _ _ _ _ h => h.elim⟩
  exact tr_rtE (y := y) (EE.m (ee_eq (ee_if (r := rCty K Cc) (y := y) (z := y) (eb_val (ee_isiT (r := rCty K Cc) (fun H v ⟨h0, a, dx, vs, e1, e2, e3⟩ => by rw [e1]; exact Yc.isc.ty e2) (.ty "list") (.ty "tuple") hk T.isinstance (ee_var 0 rfl) (ee_prN (ee_ty T.list rfl) (ee_ty T.tuple rfl)))) (fun z => nomatch z) fun _ => ee_var 0 rfl) rfl)) rfl
theorem ok_tupled2 (T : Bn mg) (hk : PySem.W.kitAny K (.type "tuple") [.type "list", .type "tuple"] = some true) (c13 : Cal P w K mg base 1 "tupled" (spTupC K Cc)) (F : Fun K "tupled" "tupled" (tS 13) f fd) : FnE P w K mg base 2 f (Pm1 (rTup K (rCty K Cc)) (rTup K (rCty K Cc)) (fun l => l.length ≤ 1000) id) := by
  refine fn_pm F sc13 (fun _ => rfl) (fun _ _ _ _ _ _ us hl => match us, hl with | [_], _ => rfl) fun q B0 H0 y hr hp => ?_
  exact tr_rtE (y := y) (EE.m (ee_eq (ee_if (r := rTup K (rCty K Cc)) (z := y) (eb_val (ee_isiT (r := rTup K (rCty K Cc)) (fun H v ⟨a, vs, e1, e2, _⟩ => by rw [e1]; exact tyX_tup e2) (.ty "list") (.ty "tuple") hk T.isinstance (ee_var 0 rfl) (ee_prN (ee_ty T.list rfl) (ee_ty T.tuple rfl))))
    (fun _ => ee_tupleOf T.tuple (ee_seqL (ee_lc (own := [("part", 1)]) (N := N13) (sc := defScope (tS 13)) rfl sc13.nd (by decide +kernel) (ei_tup (ee_var 0 rfl)) (fun q => et_name 1 sc13.nd) (fun q x hx => ee_call1 c13 hr (ee_var 1 rfl) trivial) (Nat.le_trans hp (by decide))))) fun z => nomatch z) (List.map_id y))) rfl
theorem ok_size_in (ch : Spm P w K mg base 1 Cc "__contains__" (spHasC K Cc)) (F : Fun K "size_in" "size_in" (tS 75) f fd) : FnE P w K mg base 2 f (Pm2 (rCty K Cc) (rPr K rInt rInt) rBl (fun _ _ => True) fun c p => hasTown c p.2) := by
  refine fn_pm F sc75 (fun _ => rfl) (fun _ _ _ _ _ _ us hl => match us, hl with | [_, _], _ => rfl) fun q B0 H0 y hr hp => ?_
  exact tr_rt (EE.m (ee_in ch hr (ee_snd (ee_var 1 rfl) ee_int) (ee_var 0 rfl) trivial))
end
end K81
set_option Elab.async false
set_option linter.all false
set_option maxRecDepth 100000
set_option maxHeartbeats 1900000
namespace K81
open PySem L2
/-! ### the Search -/
structure SrS where
  ans : List Bool
  found : List (Option Int × Int)
  least : Option Int
  low : Int
  high : Int
  isEnd : Bool
  deriving DecidableEq
abbrev Ent2 := Option Int × Int
def lastE (st : SrS) : Ent2 := st.found.getLastD (none, 0)
def numsOf (st : SrS) : Form := st.found.map fun q => (q.1.getD 0, q.2)
def noScript (st : SrS) : Bool := st.least.isNone || (decide ((st.found.length : Int) = 0) || !decide ((lastE st).1 = st.least))
def scriptM (st : SrS) : Option (List Stp) := if noScript st then none else some (plainSteps (formWith (numsOf st)))
def firstOpen (st : SrS) : Int := 1 + if decide (0 < (st.found.length : Int)) then (lastE st).1.getD 0 else 0
def midOf (st : SrS) : Int := (st.low + st.high) / 2
def askM (st : SrS) : Form × Int := if st.least.isNone then (summedM [(midOf st, 7)], midOf st) else if st.isEnd then (askCty (midOf st + 1) ((lastE st).2 - 1) 7, (lastE st).2 - 1) else (askCty (firstOpen st) (midOf st) 7, midOf st)
def turnM (st : SrS) : SrS :=
  if st.least.isNone then { st with least := some st.low, low := st.low, high := 7 }
  else if st.isEnd then { st with found := st.found.set (st.found.length - 1) (some st.low, (lastE st).2), isEnd := false, low := st.least.getD 0, high := (lastE st).2 - 1 }
  else if decide (st.low = st.least.getD 0) then { st with found := st.found ++ [(st.least, st.low)] }
  else { st with found := st.found ++ [(none, st.low)], low := firstOpen st, high := st.least.getD 0, isEnd := true }
def goes (st : SrS) : Bool := decide (st.low = st.high) && (scriptM st).isNone
def settleM : Nat → SrS → SrS
  | 0, st => st
  | n + 1, st => if goes st then settleM n (turnM st) else st
/-- what the defs lean on -/
def stOk (st : SrS) : Bool := decide (st.found.length ≤ 50) && decide (st.ans.length ≤ 1000) && (noScript st || (st.found.all (fun q => q.1.isSome) && decide ((formWith (numsOf st)).length ≤ 50) && decide (0 ≤ leastIn (formWith (numsOf st))))) &&
  (!st.isEnd || (decide (0 < st.found.length) && st.least.isSome)) && (st.isEnd || decide (st.found.length = 0) || (lastE st).1.isSome)
def settleOk : Nat → SrS → Bool
  | 0, st => stOk st && !goes st
  | n + 1, st => stOk st && (!goes st || settleOk n (turnM st))
def toldM (st : SrS) (b : Bool) : SrS := if b then { st with ans := st.ans ++ [b], high := midOf st } else { st with ans := st.ans ++ [b], low := midOf st + 1 }
def tellM (st : SrS) (b : Bool) : SrS := settleM 40 (toldM st b)
def askOk (st : SrS) : Bool := stOk st && noScript st && (if st.least.isNone then decide (1 ≤ midOf st) && decide (midOf st ≤ 1000) else if st.isEnd then decide (midOf st + 1 ≤ 1000) && decide (1 ≤ (lastE st).2 - 1) && decide ((lastE st).2 - 1 ≤ 1000) else decide (firstOpen st ≤ 1000) && decide (1 ≤ midOf st) && decide (midOf st ≤ 1000))
abbrev rEnt (K : Fr) : RT Ent2 := rPr K (rOpt rInt) rInt
abbrev srF (K : Fr) (st : SrS) : List (Str × Dat) := [("own_most", dt rInt 7), ("own_answers", dt (rLst K rBl) st.ans), ("own_found", dt (rLst K (rEnt K)) st.found), ("own_least", dt (rOpt rInt) st.least), ("own_low", dt rInt st.low), ("own_high", dt rInt st.high), ("is_end", dt rBl st.isEnd)]
abbrev rSr (K : Fr) (C : Addr) : RT SrS := rIns C (srF K) (fun _ => True)
structure SrF (K : Fr) (mg : Str → Option Value) (C : Addr) : Prop where
  isc : Isc K C
  n1 : NoAttr K C "own_most"
  n2 : NoAttr K C "own_answers"
  n3 : NoAttr K C "own_found"
  n4 : NoAttr K C "own_least"
  n5 : NoAttr K C "own_low"
  n6 : NoAttr K C "own_high"
  n7 : NoAttr K C "is_end"
  mgC : mg "Search" = some (.ref C)
theorem lastE_get {st : SrS} (h : 0 < st.found.length) : st.found.getLast? = some (lastE st) := by
  unfold lastE
  cases e : st.found with
  | nil => rw [e] at h; simp at h
  | cons a l => simp [List.getLast?_cons, List.getLastD_cons]
theorem eb_neO2 {X : Cx} {Γ : List Slot} {a b : Expr} {pos : Pos} {x y : Option Int} (ha : EE X Γ (rOpt rInt) a x) (hb : EE X Γ (rOpt rInt) b y) : EB X Γ (.Compare a [.NotEq] [b] pos) (!decide (x = y)) :=
  eb_cmp op_ne ha hb (fun u v B H Q ex r1 r2 k => by
    cases x with
    | none =>
      have e1 : u = .non := r1
      subst e1
      cases y with
      | none =>
        have e2 : v = .non := r2
        subst e2
        exact ⟨rfl, k B H (Go.rf ex)⟩
      | some j =>
        have e2 : v = .int j := r2.2
        subst e2
        exact ⟨rfl, k B H (Go.rf ex)⟩
    | some i =>
      have e1 : u = .int i := r1.2
      subst e1
      cases y with
      | none =>
        have e2 : v = .non := r2
        subst e2
        exact ⟨rfl, k B H (Go.rf ex)⟩
      | some j =>
        have e2 : v = .int j := r2.2
        subst e2
        refine ⟨rfl, ?_⟩
        rw [show decide (V.int i = V.int j) = decide (some i = some j) from decide_eq_decide.mpr ⟨fun h => by rw [V.int.inj h], fun h => by rw [Option.some.inj h]⟩]
        exact k B H (Go.rf ex)) (nomark b)
section
variable {P : Program} {w : World} {K : Fr} {mg : Str → Option Value} {base : Heap} {f : Addr} {fd : FuncData} {C Cc Cs Cr : Addr} {tk tk2 tk3 : Tok}
theorem nums_some {st : SrS} (h : st.found.all (fun q => q.1.isSome) = true) : st.found.map (fun q => q) = (numsOf st).map fun q => (some q.1, q.2) := by
  unfold numsOf
  rw [List.map_map]
  refine List.map_congr_left fun q hq => ?_
  have := List.all_eq_true.mp h q hq
  cases e : q.1 with
  | none => rw [e] at this; cases this
  | some i => show q = (some (q.1.getD 0), q.2); rw [e]; exact Prod.ext e rfl
abbrev spSrScript (K : Fr) (Cr C Cs : Addr) : Sp := Pm1 (rSr K Cr) (rOpt (rScr K C Cs)) (fun st => stOk st = true) scriptM
theorem ok_sr_script (T : Bn mg) (Y : SrF K mg Cr) (c43 : Cal P w K mg base 1 "form_with" (spFormWith K)) (c58 : Cal P w K mg base 7 "script_with" (spScriptWith K C Cs)) (F : Fun K "script" "Search.script" (tM 76 2) f fd) : FnE P w K mg base 8 f (spSrScript K Cr C Cs) := by
  refine fn_pm F sc76_2 (fun _ => rfl) (fun _ _ _ _ _ _ us hl => match us, hl with | [_], _ => rfl) fun q B0 H0 st hr hp => ?_
  have hp : stOk st = true := hp
  simp only [stOk, Bool.and_eq_true, decide_eq_true_eq] at hp
  obtain ⟨⟨⟨⟨h1, h2⟩, h3⟩, h4⟩, h5⟩ := hp
  refine tr_if (EB.m (eb_or3 (eb_isN (ee_fld (ee_var 0 rfl) Y.isc.cl Y.n4 rfl)) (fun _ => eb_eqI (ee_len T.len (ee_seqL (ee_fld (ee_var 0 rfl) Y.isc.cl Y.n3 rfl))) ee_int) fun _ h => eb_neO2 (ee_fst (ee_ixL (ee_fld (ee_var 0 rfl) Y.isc.cl Y.n3 rfl) (ee_neg ee_int) (atI_last' (lastE_get (by have := of_decide_eq_false h; omega)))) ee_int) (ee_fld (ee_var 0 rfl) Y.isc.cl Y.n4 rfl))) (fun h => ?_) (fun h => tr_go ?_)
  · have h : noScript st = true := h
    exact tr_rtE (y := scriptM st) (EE.m ee_none) (by unfold scriptM; rw [if_pos h])
  · have h : noScript st = false := h
    rw [h] at h3
    simp only [Bool.false_or, Bool.and_eq_true, decide_eq_true_eq] at h3
    obtain ⟨⟨k1, k2⟩, k3⟩ := h3
    have hln : (numsOf st).length ≤ 50 := by unfold numsOf; rw [List.length_map]; exact h1
    refine tr_rtE (y := scriptM st) (EE.m (ee_opt (fun H v => oi_scr H v _) (ee_call1 c58 hr (ee_call1 c43 hr (x := numsOf st) (ee_imp (ee_fld (s := rLst K (rEnt K)) (y := st.found) (ee_var 0 rfl) Y.isc.cl Y.n3 rfl) fun H v ⟨a, vs, e1, e2, e3⟩ => ⟨a, vs, e1, e2, ?_⟩) (by show _ ≤ 1000; omega)) ⟨k2, k3⟩))) ?_
    · have e4 := nums_some k1
      rw [List.map_id'] at e4
      rw [e4] at e3
      clear e1 e2
      generalize numsOf st = l at e3
      clear e4 hln k3 k2
      induction l generalizing vs with
      | nil => cases e3; exact .nil
      | cons x l ih =>
        cases e3 with
        | cons a t =>
          obtain ⟨b, u1, u2, f1, f2, f3, f4⟩ := a
          exact .cons ⟨b, u1, u2, f1, f2, f3.2, f4⟩ (ih _ t)
    · unfold scriptM
      rw [if_neg (by rw [h]; simp)]
abbrev spFirst (K : Fr) (Cr : Addr) : Sp := Pm1 (rSr K Cr) rInt (fun st => st.found.length = 0 ∨ (lastE st).1.isSome = true) firstOpen
theorem ok_sr_first (T : Bn mg) (Y : SrF K mg Cr) (F : Fun K "first_open" "Search.first_open" (tM 76 3) f fd) : FnE P w K mg base 1 f (spFirst K Cr) := by
  refine fn_pm F sc76_3 (fun _ => rfl) (fun _ _ _ _ _ _ us hl => match us, hl with | [_], _ => rfl) fun q B0 H0 st hr hp => ?_
  refine tr_rtE (y := firstOpen st) (EE.m (ee_add ee_int (ee_if (y := (lastE st).1.getD 0) (eb_gt (ee_len T.len (ee_seqL (ee_fld (ee_var 0 rfl) Y.isc.cl Y.n3 rfl))) ee_int) (fun h => ?_) fun _ => ee_int))) rfl
  have hl : 0 < st.found.length := by have := of_decide_eq_true h; omega
  refine ee_some (ee_eq (ee_fst (ee_ixL (ee_fld (ee_var 0 rfl) Y.isc.cl Y.n3 rfl) (ee_neg ee_int) (atI_last' (lastE_get hl))) ee_int) ?_)
  rcases hp with hp | hp
  · omega
  · cases e : (lastE st).1 with
    | none => rw [e] at hp; cases hp
    | some i => rfl
end
end K81
set_option Elab.async false
set_option linter.all false
set_option maxRecDepth 100000
set_option maxHeartbeats 1900000
namespace K81
open PySem L2
/-- a promise with effects: from M to M', the cells w may change -/
def PmE {A β : Type} (ds : A → List Dat) (w : A → Addr → Prop) (M : A → Hp → Mem) (pre : A → Prop) (s : RT β) (post : A → β → Prop) (M' : A → β → Hp → Mem) : Sp := fun vs H Q _ => ∃ B x, Ex B H ∧ Reps B vs (ds x) ∧ pre x ∧ (M x H).ok B H ∧
  ∀ v y B2 H2, Go (w x) B H B2 H2 → post x y → (M' x y H).ok B2 H2 → s.rep B2 v y → Q v H2
def RtE {β : Type} (w : Addr → Prop) (B0 H0 : Hp) (s : RT β) (post : β → Prop) (M' : β → Mem) : VK := fun v H => ∃ B y, Go w B0 H0 B H ∧ post y ∧ (M' y).ok B H ∧ s.rep B v y
def endsE {β : Type} (w : Addr → Prop) (B0 H0 : Hp) (s : RT β) (post : β → Prop) (M' : β → Mem) : Ends := { nx := fun _ H => RtE w B0 H0 s post M' .non H, rt := RtE w B0 H0 s post M' }
section
variable {P : Program} {w : World} {K : Fr} {mg : Str → Option Value} {base : Heap} {k : Nat} {f : Addr} {fd : FuncData} {N ps : List Str} {x qual : Str} {st : Stmt}
theorem fn_eff {A β : Type} {ds : A → List Dat} {w' : A → Addr → Prop} {M : A → Hp → Mem} {pre : A → Prop} {s : RT β} {post : A → β → Prop} {M' : A → β → Hp → Mem} (F : Fun K x qual st f fd) (S : FnScope N ps (defScope st)) (hl : ∀ x, (ds x).length = ps.length)
    (hb : ∀ (kV doc pm : Value) (an : Option Addr) (cdv ct : Value) (us : List Value), us.length = ps.length → bindArgs (PySem.W.fnOf x qual (defArgs st) (defBody st) (defScope st) .none kV doc pm an cdv ct) ⟨us, []⟩ = pure (ps.zip us))
    (body : ∀ (q : Ent) (B0 H0 : Hp) (y : A), Room k (cxE P w K mg base N qual st f q).A → pre y → Tr (cxE P w K mg base N qual st f q) (At (w' y) B0 H0 B0 (g0 (ds y) N.length) (M y H0)) (defBody st) (endsE (w' y) B0 H0 s (post y) fun z => M' y z H0)) : FnE P w K mg base (k + 1) f (PmE ds w' M pre s post M') := by
  refine ⟨fd, ps, F.ok S (fun vs H Q E ⟨B, y, _, r, _⟩ => by rw [r.len, hl]) (fun cdv A outer s0 H vs Q E hr ⟨B, y, ex, r, hp, hm, q⟩ => ?_), F.binds hb⟩
  refine ⟨fun D σ H1 => D = { nx := fun _ H' => Q .non H', rt := Q } ∧ σ = L2.start N vs ∧ H1 = H, ⟨fun pins s1 σ H1 D I ⟨e1, e2, e3⟩ => ?_⟩, rfl, rfl, rfl⟩
  subst e1 e2 e3
  refine wpAny_mono (body ⟨cdv, A, outer, s0, H1, E⟩ B H1 y hr hp pins s1 (L2.start N vs) H1 I ⟨B, Go.rf ex, Ex.rfl', env0 N r, hm⟩) (fun fl s2 hq => ?_) fun _ _ z => z
  cases fl with
  | ret u =>
    obtain ⟨v, σ', H', J, rv, B2, z, g2, hp2, hm2, hr2⟩ := hq
    exact ⟨v, σ', H', J, rv, q v z B2 H' g2 hp2 hm2 hr2⟩
  | next =>
    obtain ⟨σ', H', J, B2, z, g2, hp2, hm2, hr2⟩ := hq
    exact ⟨σ', H', J, q _ z B2 H' g2 hp2 hm2 hr2⟩
  | brk =>
    obtain ⟨_, _, _, z⟩ := hq
    exact z.elim
  | cont =>
    obtain ⟨_, _, _, z⟩ := hq
    exact z.elim
end
/-- cells that the caller may change -/
theorem Go.tw {w w' : Addr → Prop} {B0 H0 B1 H1 B2 H2 : Hp} (p : Go w B0 H0 B1 H1) (q : Go w' B1 H1 B2 H2) (h : ∀ a, w' a → H0 a = none ∨ w a) : Go w B0 H0 B2 H2 :=
  ⟨p.b.tr q.b, fun a o hw e => q.h a o (fun z => (h a z).elim (fun z => by rw [z] at e; cases e) hw) (p.h a o hw e), q.i, fun a h0 hb => q.n a (p.e a h0) (p.n a h0 hb), fun a h0 => q.e a (p.e a h0)⟩
section
variable {X : Cx} {Γ Γ' : List Slot} {M M' : Mem} {α β γ : Type} {r : RT α} {s : RT β} {tg a b e o : Expr} {es elts : List Expr} {pos p2 p tpos apos : Pos} {n : Str} {kk j k : Nat} {w : Addr → Prop} {B0 H0 BX : Hp} {D D' : Ends} {rest ss : List Stmt} {I : L2.St → Hp → Prop}
theorem EM.wk {x : α} (h : EM X Γ M r e x) (hm : ∀ B H, M'.ok B H → M.ok B H) : EM X Γ M' r e x := PE.imp h fun σ H Q ⟨B, en, ex, m, q⟩ => ⟨B, en, ex, hm _ _ m, q⟩
theorem EBM.wk {x : Bool} (h : EBM X Γ M e x) (hm : ∀ B H, M'.ok B H → M.ok B H) : EBM X Γ M' e x := PT.imp h fun σ H Q ⟨B, en, ex, m, q⟩ => ⟨B, en, ex, hm _ _ m, q⟩
/-- o.m() -/
theorem ee_meth0 {C : Addr} {fds : α → List (Str × Dat)} {pr : α → Prop} {x : α} {pre : α → Prop} {g : α → β} {pl : Sem Bool} (cl : Mth X.prog X.w X.K X.mg X.base j C n (Pm1 (rIns C fds pr) s pre g)) (hr : Room k X.A) (hC : Cls X.K C) (ha : EE X Γ (rIns C fds pr) a x) (hn : (fds x).lookup n = none)
    (hp : pre x) (hk : j ≤ k := by decide)
    (ht : eval (.Call (.Attribute a n apos) [] [] pos) X.env = (do
      let ov ← eval a X.env
      standAt apos.atName
      let (f, first) ← holding [ov] (getMethod ov n pl)
      callWith pos f first (backTo pos (starEach [] X.env)) (backToKw pos (keywordEach [] X.env))) := by rfl) : EE X Γ s (.Call (.Attribute a n apos) [] [] pos) (g x) := by
  obtain ⟨gg, h1, fd, ps, F, b⟩ := cl
  exact PE.imp (pe_meth0 ha hC h1 F (hr.mono hk) b (dvs := []) .nil (pass0 (X := X)) ht) fun σ H Q ⟨B, en, ex, q⟩ => ⟨B, en, ex, fun v B1 H1 g1 rv => by
    obtain ⟨h0, a, dx, vs, e1, e2, e3⟩ := id rv
    subst e1
    exact ⟨a, dx, vs, rfl, g1.i _ _ e2, e3.lookN hn, B1, x, g1.i, .cons rv .nil, hp, fun v B3 H3 g3 rr => q v B3 H3 (g1.tr g3) rr⟩⟩
/-- while c: .. -/
theorem tr_while {ι : Type} {c : Expr} {body : List Stmt} (G : ι → List Slot) (Mm : ι → Mem) (b : ι → Bool) (P : Nat → ι → Prop) (n0 : Nat) (k0 : ι) (h0 : P n0 k0) (hw0 : Wkn Γ (G k0)) (hm0 : ∀ B H, M.ok B H → (Mm k0).ok B H)
    (ht : ∀ n k, P n k → EBM X (G k) (Mm k) c (b k))
    (hb : ∀ n k, P n k → b k = true → Tr X (At w B0 H0 BX (G k) (Mm k)) body { D with nx := fun σ H => ∃ n' k', n' < n ∧ P n' k' ∧ At w B0 H0 BX (G k') (Mm k') σ H, ct := fun σ H => ∃ n' k', n' < n ∧ P n' k' ∧ At w B0 H0 BX (G k') (Mm k') σ H, bk := Wk X rest D })
    (hr : ∀ n k, P n k → b k = false → Tr X (At w B0 H0 BX (G k) (Mm k)) rest D) (hp : PassesOwn (model X.prog X.w) X.A X.env X.xe := by exact PassesOwn.never) :
    Tr X (At w B0 H0 BX Γ M) (.While c body [] pos :: rest) D := by
  have hc : PT X c (fun σ H Q => ∃ n k, P n k ∧ tBm (G k) (Mm k) (b k) σ H Q) := ⟨fun pins s σ H Q J ⟨n, k, h1, q⟩ => (ht n k h1).run pins s σ H Q J q⟩
  have hbody : PSs X body (fun D' σ H => ∃ n k, P n k ∧ b k = true ∧ D' = { D with nx := fun σ H => ∃ n' k', n' < n ∧ P n' k' ∧ At w B0 H0 BX (G k') (Mm k') σ H, ct := fun σ H => ∃ n' k', n' < n ∧ P n' k' ∧ At w B0 H0 BX (G k') (Mm k') σ H, bk := Wk X rest D } ∧ At w B0 H0 BX (G k) (Mm k) σ H) :=
    ⟨fun pins s σ H D' J ⟨n, k, e1, e2, e3, e4⟩ => by subst e3; exact hb n k e1 e2 pins s σ H J e4⟩
  refine tr_cons (ps_while hp hc hbody) fun σ H ⟨B, g, bx, en, m⟩ => ?_
  refine ⟨fun m σ H => ∃ k, P m k ∧ At w B0 H0 BX (G k) (Mm k) σ H, ⟨n0, k0, h0, B, g, bx, en.wkn hw0, hm0 _ _ m⟩, ?_⟩
  rintro m σ H ⟨k, hk, Bi, gi, bi, eni, mi⟩
  refine ⟨m, k, hk, Bi, eni, gi.i, mi, fun B2 H2 g2 => ?_⟩
  have at2 : At w B0 H0 BX (G k) (Mm k) σ H2 := ⟨B2, gi.tr g2.w, bi.tr g2.b, eni.mono g2.b, (Mm k).st g2 mi⟩
  cases hbk : b k with
  | true => exact iteT ⟨fun σ H => ∃ n' k', n' < m ∧ P n' k' ∧ At w B0 H0 BX (G k') (Mm k') σ H, fun σ' H' ⟨n', k', q1, q2, q3⟩ => ⟨n', q1, k', q2, q3⟩, m, k, hk, hbk, rfl, at2⟩
  | false => exact iteF ((hr m k hk hbk).wk _ _ at2)
/-- f.append(e): f is read too -/
theorem tr_appM {N : Mem} {f : Addr} {xs : List β} {x : β} (h : EM X Γ (mA N (mL w H0 f s xs)) s e x) (hf : EM X Γ (mA N (mL w H0 f s xs)) (rAdr f) a ()) (hl : xs.length < 100000) (hN : MFree N f) (k : Tr X (At w B0 H0 BX Γ (mA N (mL w H0 f s (xs ++ [x])))) rest D)
    {apos : Pos} (hb : attributeBase a "append" X.env (eval a X.env) = eval a X.env := by rfl)
    (hfew : ((backTo p2 (starEach [e] X.env)).all (fun x => !x.1) && (backToKw p2 (keywordEach [] X.env)).all (fun x => x.1.isSome)
      && decide ([e].length + ([] : List Keyword).length + (if ([] : List Keyword).isEmpty then 0 else 1) < 30)) = true := by rfl)
    (hline : (apos.endLine == p2.line) = true := by rfl) (hs : starEach [e] X.env = (false, eval e X.env) :: starEach [] X.env := by rfl) :
    Tr X (At w B0 H0 BX Γ (mA N (mL w H0 f s xs))) (.Expr (.Call (.Attribute a "append" apos) [e] [] p2) pos :: rest) D :=
  tr_cons (ps_expr (pe_bm PySem.F.plainAttrs_list PySem.F.slot_list_append PySem.F.type_list_append mt_append hf (pa_cons h pa_nil hs) hb hfew hline hs)) fun σ H ⟨B, g, bx, en, m⟩ => ⟨B, en, g.i, m, fun v B1 H1 g1 rv => by
    have rv : v = .ref f := rv
    subst rv
    have m1 := (mA N (mL w H0 f s xs)).st g1 m
    obtain ⟨mn, hB, hw, vs, hH, hv⟩ := m1
    refine ⟨.inl ⟨rfl, vs, .inl (.inl hH)⟩, B1, en.mono g1.b, g1.i, ⟨mn, hB, hw, vs, hH, hv⟩, fun u B2 H2 g2 ru => ?_⟩
    obtain ⟨mn2, hB2, hw2, vs2, hH2, hv2⟩ := (mA N (mL w H0 f s xs)).st g2 ⟨mn, hB, hw, vs, hH, hv⟩
    exact ⟨f, vs2, u, rfl, rfl, hH2, by rw [hv2.len]; exact bigL hl, k.wk _ _ ⟨B2, ((g.tr g1.w).tr g2.w).mut hB2 hw2, bx.tr (g1.tr g2).b, en.mono (g1.tr g2).b, hN _ _ _ mn2, hB2, hw2, _, upd_same, hv2.app (.cons ru .nil)⟩⟩⟩
/-- f[i] = e: f is read too -/
theorem tr_putM {N : Mem} {f : Addr} {xs : List β} {x : β} {y : Int} {j : Nat} (h : EM X Γ (mA N (mL w H0 f s xs)) s e x) (hf : EM X Γ (mA N (mL w H0 f s xs)) (rAdr f) a ()) (hi : EE X Γ rInt b y) (hj : ixN xs.length y = some j) (hN : MFree N f) (k : Tr X (At w B0 H0 BX Γ (mA N (mL w H0 f s (xs.set j x)))) rest D)
    {apos : Pos} (ha : ∀ v, assign (.Subscript a b apos) X.env v = (do
      let ov ← holding [v] (eval a X.env)
      let iv ← holding [v, ov] (eval b X.env)
      standAt apos
      holding [v, ov, iv] (setItem ov iv v)
      release [v, ov, iv] []) := by intro _; rfl)
    (hs : swapsWithSole [.Subscript a b apos] e pos.line X.env = pure false := by rfl) (hsw : swappedStores [.Subscript a b apos] e X.env = pure none := by rfl)
    (h1 : (assignEach [.Subscript a b apos] X.env).map (·.2) = [assign (.Subscript a b apos) X.env] := by rfl) :
    Tr X (At w B0 H0 BX Γ (mA N (mL w H0 f s xs))) (.Assign [.Subscript a b apos] e pos :: rest) D :=
  tr_cons (ps_asg h (pg_sub hf hi set_list ha) hs hsw h1) fun σ H ⟨B, g, bx, en, m⟩ => ⟨B, en, g.i, m, fun u B1 H1 g1 ru => ⟨B1, en.mono g1.b, g1.i, (mA N (mL w H0 f s xs)).st g1 m, fun v B2 H2 g2 rv => ⟨B2, en.mono (g1.tr g2).b, g2.i, fun z B3 H3 g3 rz => by
    have rv : v = .ref f := rv
    subst rv
    obtain ⟨mn2, hB2, hw2, vs2, hH2, hv2⟩ := (mA N (mL w H0 f s xs)).st ((g1.tr g2).tr g3) m
    exact ⟨f, vs2, y, j, rfl, rz, hH2, by rw [hv2.len]; exact hj, k.wk _ _ ⟨B3, (((g.tr g1.w).tr g2.w).tr g3.w).mut hB2 hw2, bx.tr ((g1.tr g2).tr g3).b, en.mono ((g1.tr g2).tr g3).b, hN _ _ _ mn2, hB2, hw2, _, upd_same, hv2.set (s.mono (g2.tr g3).b ru) j⟩⟩⟩⟩⟩
theorem putF_len (f : Str) (v : V) : ∀ vs : List (Str × V), (putF f v vs).length ≤ vs.length + 1
  | [] => by simp [putF]
  | p :: vs => by
    unfold putF
    split
    · simp
    · simp only [List.length_cons]; have := putF_len f v vs; omega
/-- o.f, o.g, o.h = e: three attributes of the one instance -/
theorem tr_fld3 {N : Mem} {c C : Addr} {fds : List (Str × Dat)} {x : α} {y : β} {δ : Type} {t : RT δ} {z : δ} {n2 n3 : Str} {p3 p4 pt : Pos} {kt : Nat} {o2 o3 : Expr} (h : EM X Γ (mA N (mI w H0 c C fds)) (rTri X.K r s t) e (x, y, z)) (hf : EE X Γ (rAdr c) o ()) (hf2 : EE X Γ (rAdr c) o2 ()) (hf3 : EE X Γ (rAdr c) o3 ()) (hc : X.calm = true) (hC : Cls X.K C) (hA : NoAttr X.K C n) (hA2 : NoAttr X.K C n2) (hA3 : NoAttr X.K C n3) (hl : fds.length < 990) (hN : MFree N c)
    (kk : Tr X (At w B0 H0 BX Γ (mA N (mI w H0 c C (putD n3 ⟨δ, t, z⟩ (putD n2 ⟨β, s, y⟩ (putD n ⟨α, r, x⟩ fds)))))) rest D)
    (hs1 : (assignEach [.Attribute o n p, .Attribute o2 n2 p3, .Attribute o3 n3 p4] X.env).map (·.2) = assign (.Attribute o n p) X.env :: (assignEach [.Attribute o2 n2 p3, .Attribute o3 n3 p4] X.env).map (·.2) := by rfl) (hs2 : (assignEach [.Attribute o2 n2 p3, .Attribute o3 n3 p4] X.env).map (·.2) = assign (.Attribute o2 n2 p3) X.env :: (assignEach [.Attribute o3 n3 p4] X.env).map (·.2) := by rfl)
    (hs3 : (assignEach [.Attribute o3 n3 p4] X.env).map (·.2) = assign (.Attribute o3 n3 p4) X.env :: (assignEach [] X.env).map (·.2) := by rfl)
    (hn : (assignEach [.Attribute o n p, .Attribute o2 n2 p3, .Attribute o3 n3 p4] X.env).length = 3 := by rfl) (hst : (assignEach [.Attribute o n p, .Attribute o2 n2 p3, .Attribute o3 n3 p4] X.env).findIdx? (·.1) = none := by rfl)
    (hs : swapsWithSole [.Tuple [.Attribute o n p, .Attribute o2 n2 p3, .Attribute o3 n3 p4] kt pt] e pos.line X.env = pure false := by rfl) (hsw : swappedStores [.Tuple [.Attribute o n p, .Attribute o2 n2 p3, .Attribute o3 n3 p4] kt pt] e X.env = pure none := by rfl)
    (h1 : (assignEach [.Tuple [.Attribute o n p, .Attribute o2 n2 p3, .Attribute o3 n3 p4] kt pt] X.env).map (·.2) = [assign (.Tuple [.Attribute o n p, .Attribute o2 n2 p3, .Attribute o3 n3 p4] kt pt) X.env] := by rfl) :
    Tr X (At w B0 H0 BX Γ (mA N (mI w H0 c C fds))) (.Assign [.Tuple [.Attribute o n p, .Attribute o2 n2 p3, .Attribute o3 n3 p4] kt pt] e pos :: rest) D :=
  tr_cons (ps_asg h (pg_tup hc (pgs_cons (pg_fld hf) (pgs_cons (pg_fld hf2) (pgs_cons (pg_fld hf3) pgs_nil hs3) hs2) hs1) hn hst) hs hsw h1) fun σ H ⟨B, g, bx, en, m⟩ => ⟨B, en, g.i, m, fun u B1 H1 g1 ⟨tt, u1, u2, u3, e1, e2, e3, e4, e5⟩ => ⟨tt, [u1, u2, u3], e1, g1.i.sqT e2, rfl, u1, [u2, u3], rfl, B1, en.mono g1.b, g1.i, fun v B2 H2 g2 rv => by
    have rv : v = .ref c := rv
    subst rv
    obtain ⟨mn2, hB2, hw2, dx, vs, hH2, hv2⟩ := (mA N (mI w H0 c C fds)).st (g1.tr g2) m
    have k1 : FOk B2 (putF n u1 vs) (putD n ⟨α, r, x⟩ fds) := hv2.put (r.mono g2.b e3)
    have gg := ((g.tr g1.w).tr g2.w).mut (o := .ins C dx (putF n u1 vs)) hB2 hw2
    have l0 := hv2.len
    have l1 := putF_len n u1 vs
    refine ⟨c, C, dx, vs, rfl, hH2, hC, hA, by omega, u2, [u3], rfl, B2, en.mono (g1.tr g2).b, gg.i, fun v' B3 H3 g3 rv' => ?_⟩
    have rv' : v' = .ref c := rv'
    subst rv'
    have hH3 := g3.hx c _ (upd_same (H := H2) (a := c) (o := .ins C dx (putF n u1 vs)))
    have hB3 : B3 c = none := g3.n c (by rw [upd_same]; simp) hB2
    have k2 : FOk B3 (putF n2 u2 (putF n u1 vs)) (putD n2 ⟨β, s, y⟩ (putD n ⟨α, r, x⟩ fds)) := (k1.mono g3.b).put (s.mono (g2.b.tr g3.b) e4)
    have gg3 := (gg.tr g3.w).mut (o := .ins C dx (putF n2 u2 (putF n u1 vs))) hB3 hw2
    have l2 := putF_len n2 u2 (putF n u1 vs)
    refine ⟨c, C, dx, _, rfl, hH3, hC, hA2, by omega, u3, [], rfl, B3, en.mono ((g1.tr g2).b.tr g3.b), gg3.i, fun v'' B4 H4 g4 rv'' => ?_⟩
    have rv'' : v'' = .ref c := rv''
    subst rv''
    have hH4 := g4.hx c _ (upd_same (H := H3) (a := c) (o := .ins C dx (putF n2 u2 (putF n u1 vs))))
    have hB4 : B4 c = none := g4.n c (by rw [upd_same]; simp) hB3
    exact ⟨c, C, dx, _, rfl, hH4, hC, hA3, by omega, rfl, kk.wk _ _ ⟨B4, (gg3.tr g4.w).mut hB4 hw2, bx.tr (((g1.tr g2).b.tr g3.b).tr g4.b), en.mono (((g1.tr g2).b.tr g3.b).tr g4.b), hN _ _ _ (N.st g4 (hN _ _ _ (N.st g3 (hN _ _ _ mn2)))), hB4, hw2, dx, _, upd_same, (k2.mono g4.b).put (t.mono ((g2.b.tr g3.b).tr g4.b) e5)⟩⟩⟩⟩
end
end K81
set_option Elab.async false
set_option linter.all false
set_option maxRecDepth 100000
set_option maxHeartbeats 1900000
namespace K81
open PySem L2
/-! ### the Search, changed -/
abbrev srC (a1 a2 : Addr) (st : SrS) : List (Str × Dat) := [("own_most", dt rInt 7), ("own_answers", dt (rAdr a1) ()), ("own_found", dt (rAdr a2) ()), ("own_least", dt (rOpt rInt) st.least), ("own_low", dt rInt st.low), ("own_high", dt rInt st.high), ("is_end", dt rBl st.isEnd)]
abbrev mS (K : Fr) (w : Addr → Prop) (H0 : Hp) (p a1 a2 C : Addr) (st : SrS) : Mem := mA (mA (mL w H0 a1 rBl st.ans) (mL w H0 a2 (rEnt K) st.found)) (mI w H0 p C (srC a1 a2 st))
structure Ds (p a1 a2 : Addr) : Prop where
  p1 : p ≠ a1
  p2 : p ≠ a2
  a : a1 ≠ a2
theorem mL_free {w : Addr → Prop} {H0 : Hp} {f c : Addr} {α : Type} {r : RT α} {xs : List α} (h : f ≠ c) : MFree (mL w H0 f r xs) c := fun B H o ⟨h1, h2, vs, h3, h4⟩ => ⟨h1, h2, vs, by rw [upd_ne h]; exact h3, h4⟩
theorem mI_free {w : Addr → Prop} {H0 : Hp} {f c C : Addr} {fds : List (Str × Dat)} (h : f ≠ c) : MFree (mI w H0 f C fds) c := fun B H o ⟨h1, h2, dx, vs, h3, h4⟩ => ⟨h1, h2, dx, vs, by rw [upd_ne h]; exact h3, h4⟩
theorem mA_free {M N : Mem} {c : Addr} (a : MFree M c) (b : MFree N c) : MFree (mA M N) c := fun B H o ⟨h1, h2⟩ => ⟨a _ _ _ h1, b _ _ _ h2⟩
section
variable {X : Cx} {Γ Γ' : List Slot} {M M' : Mem} {α β γ : Type} {r : RT α} {s : RT β} {tg a b e o : Expr} {es elts : List Expr} {pos p2 p' tpos apos : Pos} {n : Str} {kk j k : Nat} {w : Addr → Prop} {B0 H0 BX : Hp} {D D' : Ends} {rest ss : List Stmt} {p a1 a2 C : Addr} {st : SrS}
/-- the reading of all three cells -/
theorem open3 {B H : Hp} (d : Ds p a1 a2) (ex : Ex B H) (m : (mS X.K w H0 p a1 a2 C st).ok B H) : ∃ B3, Ex B B3 ∧ Ex B3 H ∧ (rSr X.K C).rep B3 (.ref p) st ∧ (∀ B2 H2, Go no B3 H B2 H2 → ∃ B', Go no B H B' H2 ∧ ∀ {α : Type} {r : RT α} {v : V} {x : α}, Fz isL r → Fz (isI C) r → r.rep B2 v x → r.rep B' v x) := by
  obtain ⟨⟨⟨f1, _, vs1, h1, v1⟩, f2, _, vs2, h2, v2⟩, f3, _, dx, vs, h3, v3⟩ := m
  have f2' : upd B a1 (.lst vs1) a2 = none := by rw [upd_ne d.a.symm]; exact f2
  have f3' : upd (upd B a1 (.lst vs1)) a2 (.lst vs2) p = none := by rw [upd_ne d.p2, upd_ne d.p1]; exact f3
  have e1 : Ex B (upd B a1 (.lst vs1)) := Ex.new f1
  have e2 : Ex (upd B a1 (.lst vs1)) (upd (upd B a1 (.lst vs1)) a2 (.lst vs2)) := Ex.new f2'
  have e3 : Ex (upd (upd B a1 (.lst vs1)) a2 (.lst vs2)) (upd (upd (upd B a1 (.lst vs1)) a2 (.lst vs2)) p (.ins C dx vs)) := Ex.new f3'
  have i1 : Ex (upd B a1 (.lst vs1)) H := fun a u ha => by
    by_cases q : a = a1
    · subst q; rw [upd_same] at ha; rw [h1]; exact ha
    · rw [upd_ne q] at ha; exact ex a u ha
  have i2 : Ex (upd (upd B a1 (.lst vs1)) a2 (.lst vs2)) H := fun a u ha => by
    by_cases q : a = a2
    · subst q; rw [upd_same] at ha; rw [h2]; exact ha
    · rw [upd_ne q] at ha; exact i1 a u ha
  refine ⟨upd (upd (upd B a1 (.lst vs1)) a2 (.lst vs2)) p (.ins C dx vs), e1.tr (e2.tr e3), fun a u ha => ?_, ⟨trivial, p, dx, vs, rfl, upd_same, ?_⟩, fun B2 H2 g => ?_⟩
  · by_cases q : a = p
    · subst q; rw [upd_same] at ha; rw [h3]; exact ha
    · rw [upd_ne q] at ha; exact i2 a u ha
  · have v3 := v3.mono (e1.tr (e2.tr e3))
    have k1 := e3 a1 (.lst vs1) (e2 a1 _ upd_same)
    have k2 := e3 a2 (.lst vs2) upd_same
    have v1 := v1.mono (e1.tr (e2.tr e3))
    have v2 := v2.mono (e1.tr (e2.tr e3))
    cases v3 with
    | cons r1 v3 =>
    cases v3 with
    | cons r2 v3 =>
    cases v3 with
    | cons r3 v3 =>
    refine .cons r1 (.cons ⟨a1, vs1, ?_, k1, v1⟩ (.cons ⟨a2, vs2, ?_, k2, v2⟩ v3))
    · exact r2
    · exact r3
  · obtain ⟨g3, o3⟩ := open_go i2 f3' h3 g
    obtain ⟨g2, o2⟩ := open_go i1 f2' h2 g3
    obtain ⟨g1, o1⟩ := open_go ex f1 h1 g2
    exact ⟨_, g1, fun z1 z2 rv => z1 _ _ _ _ _ o1 trivial (z1 _ _ _ _ _ o2 trivial (z2 _ _ _ _ _ o3 rfl rv))⟩
theorem EE.opS {x : α} (i : Nat) (d : Ds p a1 a2) (h : EE X (Γ.set i (sl (rSr X.K C) st)) r e x) (z1 : Fz isL r) (z2 : Fz (isI C) r) (hi : Γ[i]? = some (sl (rAdr p) ())) : EM X Γ (mS X.K w H0 p a1 a2 C st) r e x :=
  PE.imp h fun σ H Q ⟨B, en, ex, m, q⟩ => by
    obtain ⟨v, h1, h2⟩ := en.get hi
    have h2 : v = .ref p := h2
    subst h2
    obtain ⟨B3, e1, e2, rp, k⟩ := open3 d ex m
    have en2 := Env.set (s := sl (rSr X.K C) st) (o := some (V.ref p)) ⟨_, rfl, rp⟩ i (en.mono e1)
    have e3 : σ.set i (some (V.ref p)) = σ := by
      obtain ⟨hl, hh⟩ := List.getElem?_eq_some_iff.mp h1
      rw [← hh]; exact List.set_getElem_self hl
    rw [e3] at en2
    refine ⟨B3, en2, e2, fun v B2 H2 g rv => ?_⟩
    obtain ⟨B', g', kk⟩ := k B2 H2 g
    exact q v B' H2 g' (kk z1 z2 rv)
theorem EB.opS {x : Bool} (i : Nat) (d : Ds p a1 a2) (h : EB X (Γ.set i (sl (rSr X.K C) st)) e x) (hi : Γ[i]? = some (sl (rAdr p) ())) : EBM X Γ (mS X.K w H0 p a1 a2 C st) e x :=
  PT.imp h fun σ H Q ⟨B, en, ex, m, q⟩ => by
    obtain ⟨v, h1, h2⟩ := en.get hi
    have h2 : v = .ref p := h2
    subst h2
    obtain ⟨B3, e1, e2, rp, k⟩ := open3 d ex m
    have en2 := Env.set (s := sl (rSr X.K C) st) (o := some (V.ref p)) ⟨_, rfl, rp⟩ i (en.mono e1)
    have e3 : σ.set i (some (V.ref p)) = σ := by
      obtain ⟨hl, hh⟩ := List.getElem?_eq_some_iff.mp h1
      rw [← hh]; exact List.set_getElem_self hl
    rw [e3] at en2
    refine ⟨B3, en2, e2, fun B2 H2 g => ?_⟩
    obtain ⟨B', g', kk⟩ := k B2 H2 g
    exact q B' H2 g'
/-- another view of the changed cells -/
abbrev mS1 (K : Fr) (w : Addr → Prop) (H0 : Hp) (p a1 a2 C : Addr) (st : SrS) : Mem := mA (mA (mL w H0 a2 (rEnt K) st.found) (mI w H0 p C (srC a1 a2 st))) (mL w H0 a1 rBl st.ans)
abbrev mS2 (K : Fr) (w : Addr → Prop) (H0 : Hp) (p a1 a2 C : Addr) (st : SrS) : Mem := mA (mA (mL w H0 a1 rBl st.ans) (mI w H0 p C (srC a1 a2 st))) (mL w H0 a2 (rEnt K) st.found)
theorem to1 {K : Fr} {B H : Hp} (h : (mS K w H0 p a1 a2 C st).ok B H) : (mS1 K w H0 p a1 a2 C st).ok B H := ⟨⟨h.1.2, h.2⟩, h.1.1⟩
theorem to2 {K : Fr} {B H : Hp} (h : (mS K w H0 p a1 a2 C st).ok B H) : (mS2 K w H0 p a1 a2 C st).ok B H := ⟨⟨h.1.1, h.2⟩, h.1.2⟩
theorem of1 {K : Fr} {B H : Hp} (h : (mS1 K w H0 p a1 a2 C st).ok B H) : (mS K w H0 p a1 a2 C st).ok B H := ⟨⟨h.2, h.1.1⟩, h.1.2⟩
theorem of2 {K : Fr} {B H : Hp} (h : (mS2 K w H0 p a1 a2 C st).ok B H) : (mS K w H0 p a1 a2 C st).ok B H := ⟨⟨h.1.1, h.2⟩, h.1.2⟩
theorem Ds.f0 {K : Fr} (d : Ds p a1 a2) {xs : List Bool} {ys : List Ent2} : MFree (mA (mL w H0 a1 rBl xs) (mL w H0 a2 (rEnt K) ys)) p := mA_free (mL_free d.p1.symm) (mL_free d.p2.symm)
theorem Ds.f1 {K : Fr} (d : Ds p a1 a2) {ys : List Ent2} {fds : List (Str × Dat)} : MFree (mA (mL w H0 a2 (rEnt K) ys) (mI w H0 p C fds)) a1 := mA_free (mL_free d.a.symm) (mI_free d.p1)
theorem Ds.f2 {K : Fr} (d : Ds p a1 a2) {xs : List Bool} {fds : List (Str × Dat)} : MFree (mA (mL w H0 a1 rBl xs) (mI w H0 p C fds)) a2 := mA_free (mL_free d.a) (mI_free d.p2)
end
abbrev w3 (p a1 a2 : Addr) : Addr → Prop := fun a => a = p ∨ a = a1 ∨ a = a2
structure SrP where
  p : Addr
  a1 : Addr
  a2 : Addr
  st : SrS
abbrev SrP.m (x : SrP) (K : Fr) (C : Addr) (H : Hp) (st : SrS) : Mem := mS K (w3 x.p x.a1 x.a2) H x.p x.a1 x.a2 C st
abbrev spSettle (K : Fr) (C : Addr) : Sp := PmE (A := SrP) (β := Unit) (fun x => [dt (rAdr x.p) ()]) (fun x => w3 x.p x.a1 x.a2) (fun x H => x.m K C H x.st) (fun x => Ds x.p x.a1 x.a2 ∧ settleOk 40 x.st = true) rNon (fun _ _ => True) (fun x _ H => x.m K C H (settleM 40 x.st))
section
variable {P : Program} {w : World} {K : Fr} {mg : Str → Option Value} {base : Heap} {f : Addr} {fd : FuncData} {C Cc Cs Cr : Addr} {tk tk2 tk3 : Tok}
theorem settleOk_st : ∀ {n : Nat} {st : SrS}, settleOk n st = true → stOk st = true
  | 0, st, h => by unfold settleOk at h; rw [Bool.and_eq_true] at h; exact h.1
  | n + 1, st, h => by unfold settleOk at h; rw [Bool.and_eq_true] at h; exact h.1
theorem settle_stop : ∀ {n : Nat} {st : SrS}, goes st = false → settleM n st = st
  | 0, st, h => rfl
  | n + 1, st, h => by unfold settleM; rw [if_neg (by rw [h]; simp)]
theorem settle_go : ∀ {n : Nat} {st : SrS}, settleOk n st = true → goes st = true → ∃ m, n = m + 1 ∧ settleOk m (turnM st) = true ∧ settleM n st = settleM m (turnM st)
  | 0, st, h, g => by unfold settleOk at h; rw [g] at h; simp at h
  | n + 1, st, h, g => by
    unfold settleOk at h
    rw [g] at h
    simp only [Bool.not_true, Bool.false_or, Bool.and_eq_true] at h
    refine ⟨n, rfl, h.2, ?_⟩
    rw [settleM, if_pos g]
theorem fz_ent {z : HO → Prop} (nt : NoTup z) : Fz z (rEnt K) := fz_pr nt (fz_opt fz_int) fz_int
theorem vint_non (i : Int) : V.int i ≠ V.non := fun z => nomatch z
theorem ixN_last {n : Nat} (h : 0 < n) : ixN n (-1) = some (n - 1) := by
  unfold ixN
  by_cases q : n = 0
  · omega
  · grind
theorem ok_sr_settle (T : Bn mg) (Y : SrF K mg Cr) (cs : Prp P w K mg base 8 Cr "script" (spSrScript K Cr C Cs)) (cf : Mth P w K mg base 1 Cr "first_open" (spFirst K Cr)) (F : Fun K "settle" "Search.settle" (tM 76 6) f fd) : FnE P w K mg base 10 f (spSettle K Cr) := by
  refine fn_eff F sc76_6 (fun _ => rfl) (fun _ _ _ _ _ _ us hl => match us, hl with | [_], _ => rfl) fun q B0 H0 y hr ⟨d, hok⟩ => ?_
  obtain ⟨p, a1, a2, s0⟩ := y
  have d : Ds p a1 a2 := d
  have hok : settleOk 40 s0 = true := hok
  refine tr_while (ι := SrS) (fun st => [sl (rAdr p) (), none, none]) (fun st => mS K (w3 p a1 a2) H0 p a1 a2 Cr st) goes (fun n st => settleOk n st = true ∧ settleM n st = settleM 40 s0) 40 s0 ⟨hok, rfl⟩ (by repeat constructor) (fun _ _ z => z) (fun n st ⟨h1, h2⟩ => ?_) (fun n st ⟨h1, h2⟩ hg => ?_) fun n st ⟨h1, h2⟩ hg => ?_
  · exact EB.opS 0 d (eb_and (eb_eqI (ee_fld (ee_var 0 rfl) Y.isc.cl Y.n5 rfl) (ee_fld (ee_var 0 rfl) Y.isc.cl Y.n6 rfl)) fun _ => eb_isN (ee_prop cs hr Y.isc.cl (ee_var 0 rfl) (settleOk_st h1))) rfl
  · obtain ⟨m, e1, e2, e3⟩ := settle_go h1 hg
    have hst := settleOk_st h1
    simp only [stOk, Bool.and_eq_true, decide_eq_true_eq] at hst
    obtain ⟨⟨⟨⟨k1, k2⟩, k3⟩, k4⟩, k5⟩ := hst
    have fin : ∀ {Γ : List Slot} {st' : SrS}, st' = turnM st → Wkn Γ [sl (rAdr p) (), none, none] → ∀ σ H, At (w3 p a1 a2) B0 H0 B0 Γ (mS K (w3 p a1 a2) H0 p a1 a2 Cr st') σ H → ∃ n' k', n' < n ∧ (settleOk n' k' = true ∧ settleM n' k' = settleM 40 s0) ∧ At (w3 p a1 a2) B0 H0 B0 [sl (rAdr p) (), none, none] (mS K (w3 p a1 a2) H0 p a1 a2 Cr k') σ H := fun {Γ st'} e hw σ H h => by
      subst e
      exact ⟨m, _, by omega, ⟨e2, by rw [← e3, h2]⟩, At.wk hw (fun _ _ z => z) σ H h⟩
    refine tr_set 1 sc76_6.nd (EE.opS 0 d (ee_fld (ee_var 0 rfl) Y.isc.cl Y.n5 rfl) fz_int fz_int rfl) ?_
    refine tr_if (EB.opS 0 d (eb_isN (ee_fld (ee_var 0 rfl) Y.isc.cl Y.n4 rfl)) rfl) (fun hl => ?_) (fun hl => ?_)
    · refine tr_fld (EE.m (ee_opt (fun H v z => by rw [show v = V.int _ from z]; exact vint_non _) (ee_var 1 rfl))) (ee_var 0 rfl) Y.isc.cl Y.n4 (by show (7 : Nat) < 1000; decide) d.f0 ?_
      refine tr_fld2 (EE.opS (st := { st with least := some st.low }) 0 d (ee_pr (ee_var 1 rfl) (ee_fld (ee_var 0 rfl) Y.isc.cl Y.n1 rfl)) (fz_pr noTupL fz_int fz_int) (fz_pr noTupI fz_int fz_int) rfl) (ee_var 0 rfl) (ee_var 0 rfl) rfl Y.isc.cl Y.n5 Y.n6 (by show (7 : Nat) < 998; decide) d.f0 ?_
      refine tr_go (tr_nil (fin (st' := { st with least := some st.low, low := st.low, high := 7 }) ?_ (by repeat constructor)))
      have hl : st.least.isNone = true := hl
      unfold turnM
      rw [if_pos hl]
    · have hl : st.least.isNone = false := hl
      obtain ⟨m0, hm0⟩ : ∃ m0, st.least = some m0 := by
        cases e : st.least with
        | none => rw [e] at hl; cases hl
        | some m0 => exact ⟨m0, rfl⟩
      refine tr_if (EB.opS 0 d (eb_val (ee_fld (ee_var 0 rfl) Y.isc.cl Y.n7 rfl)) rfl) (fun he => ?_) (fun he => ?_)
      · have he : st.isEnd = true := he
        have hf : 0 < st.found.length := by
          rw [he] at k4
          simp only [Bool.not_true, Bool.false_or, Bool.and_eq_true, decide_eq_true_eq] at k4
          exact k4.1
        refine tr_set 2 sc76_6.nd (EE.opS 0 d (ee_snd (ee_ixL (ee_fld (ee_var 0 rfl) Y.isc.cl Y.n3 rfl) (ee_neg ee_int) (atI_last' (lastE_get hf))) ee_int) fz_int fz_int rfl) ?_
        refine tr_wkn (M' := mS2 K (w3 p a1 a2) H0 p a1 a2 Cr st) (by repeat constructor) (fun _ _ z => to2 z) ?_
        refine tr_putM (EE.m (ee_pr (ee_opt (fun H v z => by rw [show v = V.int _ from z]; exact vint_non _) (ee_var 1 rfl)) (ee_var 2 rfl))) (EM.wk (em_fld (ee_var 0 rfl) Y.isc.cl Y.n3 rfl) fun _ _ z => of2 z) (ee_neg ee_int) (ixN_last hf) (d.f2 (K := K)) ?_
        refine tr_wkn (M' := mS K (w3 p a1 a2) H0 p a1 a2 Cr { st with found := st.found.set (st.found.length - 1) (some st.low, (lastE st).2) }) (by repeat constructor) (fun _ _ z => of2 z) ?_
        refine tr_fld3 (EE.opS (st := { st with found := st.found.set (st.found.length - 1) (some st.low, (lastE st).2) }) 0 d (ee_tri ee_bl (ee_some (ee_eq (ee_fld (ee_var 0 rfl) Y.isc.cl Y.n4 rfl) hm0)) (ee_sub (ee_var 2 rfl) ee_int)) (fz_tri noTupL fz_bl fz_int fz_int) (fz_tri noTupI fz_bl fz_int fz_int) rfl) (ee_var 0 rfl) (ee_var 0 rfl) (ee_var 0 rfl) rfl Y.isc.cl Y.n7 Y.n5 Y.n6 (by show (7 : Nat) < 990; decide) d.f0 ?_
        refine tr_go (tr_go (tr_nil (fin (st' := { st with found := st.found.set (st.found.length - 1) (some st.low, (lastE st).2), isEnd := false, low := m0, high := (lastE st).2 - 1 }) ?_ (by repeat constructor))))
        unfold turnM
        rw [if_neg (by rw [hl]; simp), if_pos he, hm0]
        rfl
      · have he : st.isEnd = false := he
        refine tr_if (EB.opS 0 d (eb_eqI (ee_var 1 rfl) (ee_some (ee_eq (ee_fld (ee_var 0 rfl) Y.isc.cl Y.n4 rfl) hm0))) rfl) (fun hn => ?_) (fun hn => ?_)
        · refine tr_wkn (M' := mS2 K (w3 p a1 a2) H0 p a1 a2 Cr st) (by repeat constructor) (fun _ _ z => to2 z) ?_
          refine tr_appM (EM.wk (EE.opS 0 d (ee_pr (ee_fld (ee_var 0 rfl) Y.isc.cl Y.n4 rfl) (ee_var 1 rfl)) (fz_ent noTupL) (fz_ent noTupI) rfl) fun _ _ z => of2 z) (EM.wk (em_fld (ee_var 0 rfl) Y.isc.cl Y.n3 rfl) fun _ _ z => of2 z) (by omega) (d.f2 (K := K)) ?_
          refine tr_wkn (M' := mS K (w3 p a1 a2) H0 p a1 a2 Cr { st with found := st.found ++ [(st.least, st.low)] }) (by repeat constructor) (fun _ _ z => of2 z) ?_
          refine tr_go (tr_go (tr_go (tr_nil (fin ?_ (by repeat constructor)))))
          unfold turnM
          rw [if_neg (by rw [hl]; simp), if_neg (by rw [he]; simp), hm0]
          exact (if_pos hn).symm
        · refine tr_fld3 (EE.opS 0 d (ee_tri (ee_meth0 cf hr Y.isc.cl (ee_var 0 rfl) rfl (by rw [he] at k5; simp only [Bool.false_or, Bool.or_eq_true, decide_eq_true_eq] at k5; exact k5)) (ee_some (ee_eq (ee_fld (ee_var 0 rfl) Y.isc.cl Y.n4 rfl) hm0)) ee_bl) (fz_tri noTupL fz_int fz_int fz_bl) (fz_tri noTupI fz_int fz_int fz_bl) rfl) (ee_var 0 rfl) (ee_var 0 rfl) (ee_var 0 rfl) rfl Y.isc.cl Y.n5 Y.n6 Y.n7 (by show (7 : Nat) < 990; decide) d.f0 ?_
          refine tr_wkn (M' := mS2 K (w3 p a1 a2) H0 p a1 a2 Cr { st with low := firstOpen st, high := m0, isEnd := true }) (by repeat constructor) (fun _ _ z => to2 z) ?_
          refine tr_appM (EE.m (ee_pr ee_none (ee_var 1 rfl))) (EM.wk (em_fld (ee_var 0 rfl) Y.isc.cl Y.n3 rfl) fun _ _ z => of2 z) (by show st.found.length < _; omega) (d.f2 (K := K)) ?_
          refine tr_wkn (M' := mS K (w3 p a1 a2) H0 p a1 a2 Cr { st with low := firstOpen st, high := m0, isEnd := true, found := st.found ++ [(none, st.low)] }) (by repeat constructor) (fun _ _ z => of2 z) ?_
          refine tr_go (tr_go (tr_go (tr_nil (fin ?_ (by repeat constructor)))))
          unfold turnM
          rw [if_neg (by rw [hl]; simp), if_neg (by rw [he]; simp), hm0]
          exact (if_neg (by show ¬ (decide (st.low = m0) = true); rw [hn]; simp)).symm
  · have e : st = settleM 40 s0 := by rw [← h2, settle_stop hg]
    exact tr_nil fun σ H ⟨B, g, bx, en, mm⟩ => ⟨B, (), g, trivial, by rw [← e]; exact mm, rfl⟩
end
end K81
set_option Elab.async false
set_option linter.all false
set_option maxRecDepth 100000
set_option maxHeartbeats 1900000
namespace K81
open PySem L2
def rQua (K : Fr) {α β γ δ : Type} (r : RT α) (s : RT β) (t : RT γ) (u : RT δ) : RT (α × β × γ × δ) := ⟨fun H v x => ∃ a b c d e, v = .ref a ∧ SqT K H a [b, c, d, e] ∧ r.rep H b x.1 ∧ s.rep H c x.2.1 ∧ t.rep H d x.2.2.1 ∧ u.rep H e x.2.2.2,
  fun e ⟨a, b, c, d, z, h1, h2, h3, h4, h5, h6⟩ => ⟨a, b, c, d, z, h1, e.sqT h2, r.mono e h3, s.mono e h4, t.mono e h5, u.mono e h6⟩⟩
/-- an answer of a making: nothing, two cells are new -/
def rNew : RT (Addr × Addr) := ⟨fun _ v _ => v = .non, fun _ h => h⟩
def st0 : SrS := ⟨[], [], none, 1, 7, false⟩
section
variable {X : Cx} {Γ Γ' : List Slot} {M M' : Mem} {α β γ δ : Type} {r : RT α} {s : RT β} {t : RT γ} {u : RT δ} {tg a b c e o : Expr} {es elts : List Expr} {pos p2 p tpos apos : Pos} {n : Str} {kk j k : Nat} {w : Addr → Prop} {B0 H0 BX : Hp} {D D' : Ends} {rest ss : List Stmt}
theorem ee_qua {c d : Expr} {k : Nat} {x : α} {y : β} {z : γ} {q : δ} (ha : EE X Γ r a x) (hb : EE X Γ s b y) (hc : EE X Γ t c z) (hd : EE X Γ u d q) (h1 : starEach [a, b, c, d] X.env = (false, eval a X.env) :: starEach [b, c, d] X.env := by rfl) (h2 : starEach [b, c, d] X.env = (false, eval b X.env) :: starEach [c, d] X.env := by rfl) (h3 : starEach [c, d] X.env = (false, eval c X.env) :: starEach [d] X.env := by rfl) (h4 : starEach [d] X.env = (false, eval d X.env) :: starEach [] X.env := by rfl) : EE X Γ (rQua X.K r s t u) (.Tuple [a, b, c, d] k pos) (x, y, z, q) :=
  PE.imp (pe_tup (ea_cons ha (ea_cons hb (ea_cons hc (ea_cons hd ea_nil h4) h3) h2) h1)) fun σ H Q ⟨B, en, ex, q⟩ => ⟨B, en, ex, fun vs B1 H1 g1 r1 => by
    cases r1 with
    | cons r1 r2 =>
      cases r2 with
      | cons r2 r3 =>
        cases r3 with
        | cons r3 r4 =>
          cases r4 with
          | cons r4 r5 =>
            cases r5
            exact ⟨by show 4 ≤ sizeLine; decide, fun p hp => q _ (upd B1 p (.tup _)) _ (g1.tr (Go.new g1.i hp)) ⟨p, _, _, _, _, rfl, .inl (.inl upd_same), r.mono (Ex.new (g1.i.back hp)) r1, s.mono (Ex.new (g1.i.back hp)) r2, t.mono (Ex.new (g1.i.back hp)) r3, u.mono (Ex.new (g1.i.back hp)) r4⟩⟩⟩
/-- four attributes of the one instance -/
theorem tr_fld4 {N : Mem} {c C : Addr} {fds : List (Str × Dat)} {x : α} {y : β} {z : γ} {q : δ} {n2 n3 n4 : Str} {p3 p4 p5 pt : Pos} {kt : Nat} {o2 o3 o4 : Expr} (h : EM X Γ (mA N (mI w H0 c C fds)) (rQua X.K r s t u) e (x, y, z, q)) (hf : EE X Γ (rAdr c) o ()) (hf2 : EE X Γ (rAdr c) o2 ()) (hf3 : EE X Γ (rAdr c) o3 ()) (hf4 : EE X Γ (rAdr c) o4 ()) (hc : X.calm = true) (hC : Cls X.K C) (hA : NoAttr X.K C n) (hA2 : NoAttr X.K C n2) (hA3 : NoAttr X.K C n3) (hA4 : NoAttr X.K C n4) (hl : fds.length < 990) (hN : MFree N c)
    (kk : Tr X (At w B0 H0 BX Γ (mA N (mI w H0 c C (putD n4 ⟨δ, u, q⟩ (putD n3 ⟨γ, t, z⟩ (putD n2 ⟨β, s, y⟩ (putD n ⟨α, r, x⟩ fds))))))) rest D)
    (hs1 : (assignEach [.Attribute o n p, .Attribute o2 n2 p3, .Attribute o3 n3 p4, .Attribute o4 n4 p5] X.env).map (·.2) = assign (.Attribute o n p) X.env :: (assignEach [.Attribute o2 n2 p3, .Attribute o3 n3 p4, .Attribute o4 n4 p5] X.env).map (·.2) := by rfl) (hs2 : (assignEach [.Attribute o2 n2 p3, .Attribute o3 n3 p4, .Attribute o4 n4 p5] X.env).map (·.2) = assign (.Attribute o2 n2 p3) X.env :: (assignEach [.Attribute o3 n3 p4, .Attribute o4 n4 p5] X.env).map (·.2) := by rfl)
    (hs3 : (assignEach [.Attribute o3 n3 p4, .Attribute o4 n4 p5] X.env).map (·.2) = assign (.Attribute o3 n3 p4) X.env :: (assignEach [.Attribute o4 n4 p5] X.env).map (·.2) := by rfl) (hs4 : (assignEach [.Attribute o4 n4 p5] X.env).map (·.2) = assign (.Attribute o4 n4 p5) X.env :: (assignEach [] X.env).map (·.2) := by rfl)
    (hn : (assignEach [.Attribute o n p, .Attribute o2 n2 p3, .Attribute o3 n3 p4, .Attribute o4 n4 p5] X.env).length = 4 := by rfl) (hst : (assignEach [.Attribute o n p, .Attribute o2 n2 p3, .Attribute o3 n3 p4, .Attribute o4 n4 p5] X.env).findIdx? (·.1) = none := by rfl)
    (hs : swapsWithSole [.Tuple [.Attribute o n p, .Attribute o2 n2 p3, .Attribute o3 n3 p4, .Attribute o4 n4 p5] kt pt] e pos.line X.env = pure false := by rfl) (hsw : swappedStores [.Tuple [.Attribute o n p, .Attribute o2 n2 p3, .Attribute o3 n3 p4, .Attribute o4 n4 p5] kt pt] e X.env = pure none := by rfl)
    (h1 : (assignEach [.Tuple [.Attribute o n p, .Attribute o2 n2 p3, .Attribute o3 n3 p4, .Attribute o4 n4 p5] kt pt] X.env).map (·.2) = [assign (.Tuple [.Attribute o n p, .Attribute o2 n2 p3, .Attribute o3 n3 p4, .Attribute o4 n4 p5] kt pt) X.env] := by rfl) :
    Tr X (At w B0 H0 BX Γ (mA N (mI w H0 c C fds))) (.Assign [.Tuple [.Attribute o n p, .Attribute o2 n2 p3, .Attribute o3 n3 p4, .Attribute o4 n4 p5] kt pt] e pos :: rest) D :=
  tr_cons (ps_asg h (pg_tup hc (pgs_cons (pg_fld hf) (pgs_cons (pg_fld hf2) (pgs_cons (pg_fld hf3) (pgs_cons (pg_fld hf4) pgs_nil hs4) hs3) hs2) hs1) hn hst) hs hsw h1) fun σ H ⟨B, g, bx, en, m⟩ => ⟨B, en, g.i, m, fun v0 B1 H1 g1 ⟨tt, u1, u2, u3, u4, e1, e2, e3, e4, e5, e6⟩ => ⟨tt, [u1, u2, u3, u4], e1, g1.i.sqT e2, rfl, u1, [u2, u3, u4], rfl, B1, en.mono g1.b, g1.i, fun v B2 H2 g2 rv => by
    have rv : v = .ref c := rv
    subst rv
    obtain ⟨mn2, hB2, hw2, dx, vs, hH2, hv2⟩ := (mA N (mI w H0 c C fds)).st (g1.tr g2) m
    have k1 : FOk B2 (putF n u1 vs) (putD n ⟨α, r, x⟩ fds) := hv2.put (r.mono g2.b e3)
    have gg := ((g.tr g1.w).tr g2.w).mut (o := .ins C dx (putF n u1 vs)) hB2 hw2
    have l0 := hv2.len
    have l1 := putF_len n u1 vs
    refine ⟨c, C, dx, vs, rfl, hH2, hC, hA, by omega, u2, [u3, u4], rfl, B2, en.mono (g1.tr g2).b, gg.i, fun v' B3 H3 g3 rv' => ?_⟩
    have rv' : v' = .ref c := rv'
    subst rv'
    have hH3 := g3.hx c _ (upd_same (H := H2) (a := c) (o := .ins C dx (putF n u1 vs)))
    have hB3 : B3 c = none := g3.n c (by rw [upd_same]; simp) hB2
    have k2 : FOk B3 (putF n2 u2 (putF n u1 vs)) (putD n2 ⟨β, s, y⟩ (putD n ⟨α, r, x⟩ fds)) := (k1.mono g3.b).put (s.mono (g2.b.tr g3.b) e4)
    have gg3 := (gg.tr g3.w).mut (o := .ins C dx (putF n2 u2 (putF n u1 vs))) hB3 hw2
    have l2 := putF_len n2 u2 (putF n u1 vs)
    refine ⟨c, C, dx, _, rfl, hH3, hC, hA2, by omega, u3, [u4], rfl, B3, en.mono ((g1.tr g2).b.tr g3.b), gg3.i, fun v'' B4 H4 g4 rv'' => ?_⟩
    have rv'' : v'' = .ref c := rv''
    subst rv''
    have hH4 := g4.hx c _ (upd_same (H := H3) (a := c) (o := .ins C dx (putF n2 u2 (putF n u1 vs))))
    have hB4 : B4 c = none := g4.n c (by rw [upd_same]; simp) hB3
    have k3 : FOk B4 (putF n3 u3 (putF n2 u2 (putF n u1 vs))) (putD n3 ⟨γ, t, z⟩ (putD n2 ⟨β, s, y⟩ (putD n ⟨α, r, x⟩ fds))) := (k2.mono g4.b).put (t.mono ((g2.b.tr g3.b).tr g4.b) e5)
    have gg4 := (gg3.tr g4.w).mut (o := .ins C dx (putF n3 u3 (putF n2 u2 (putF n u1 vs)))) hB4 hw2
    have l3 := putF_len n3 u3 (putF n2 u2 (putF n u1 vs))
    refine ⟨c, C, dx, _, rfl, hH4, hC, hA3, by omega, u4, [], rfl, B4, en.mono (((g1.tr g2).b.tr g3.b).tr g4.b), gg4.i, fun v3 B5 H5 g5 rv3 => ?_⟩
    have rv3 : v3 = .ref c := rv3
    subst rv3
    have hH5 := g5.hx c _ (upd_same (H := H4) (a := c) (o := .ins C dx (putF n3 u3 (putF n2 u2 (putF n u1 vs)))))
    have hB5 : B5 c = none := g5.n c (by rw [upd_same]; simp) hB4
    exact ⟨c, C, dx, _, rfl, hH5, hC, hA4, by omega, rfl, kk.wk _ _ ⟨B5, (gg4.tr g5.w).mut hB5 hw2, bx.tr ((((g1.tr g2).b.tr g3.b).tr g4.b).tr g5.b), en.mono ((((g1.tr g2).b.tr g3.b).tr g4.b).tr g5.b), hN _ _ _ (N.st g5 (hN _ _ _ (N.st g4 (hN _ _ _ (N.st g3 (hN _ _ _ mn2)))))), hB5, hw2, dx, _, upd_same, (k3.mono g5.b).put (u.mono (((g2.b.tr g3.b).tr g4.b).tr g5.b) e6)⟩⟩⟩⟩
theorem mS_re {K : Fr} {w w' : Addr → Prop} {H0 H0' : Hp} {p a1 a2 C : Addr} {st : SrS} {B H : Hp} (h : (mS K w H0 p a1 a2 C st).ok B H) (k : ∀ c, w3 p a1 a2 c → H0' c = none ∨ w' c) : (mS K w' H0' p a1 a2 C st).ok B H := by
  obtain ⟨⟨⟨f1, _, x1⟩, f2, _, x2⟩, f3, _, x3⟩ := h
  exact ⟨⟨⟨f1, k a1 (.inr (.inl rfl)), x1⟩, f2, k a2 (.inr (.inr rfl)), x2⟩, f3, k p (.inl rfl), x3⟩
theorem mS_cl {K : Fr} {w : Addr → Prop} {H0 : Hp} {p a1 a2 C : Addr} {st : SrS} {B H : Hp} (h : (mS K w H0 p a1 a2 C st).ok B H) : ∀ c, w3 p a1 a2 c → H0 c = none ∨ w c := by
  obtain ⟨⟨⟨f1, k1, x1⟩, f2, k2, x2⟩, f3, k3, x3⟩ := h
  rintro c (q | q | q)
  · rw [q]; exact k3
  · rw [q]; exact k1
  · rw [q]; exact k2
theorem mS_look {K : Fr} {w : Addr → Prop} {H0 : Hp} {p a1 a2 C : Addr} {st : SrS} {B H : Hp} {n : Str} (h : (mS K w H0 p a1 a2 C st).ok B H) (hn : (srC a1 a2 st).lookup n = none) : ∃ dx vs, H p = some (.ins C dx vs) ∧ vs.lookup n = none := by
  obtain ⟨_, _, _, dx, vs, h1, h2⟩ := h
  exact ⟨dx, vs, h1, h2.lookN hn⟩
/-- o.settle() -/
theorem tr_settle {p a1 a2 C : Addr} {st : SrS} {pl : Sem Bool} (d : Ds p a1 a2) (cl : Mth X.prog X.w X.K X.mg X.base j C "settle" (spSettle X.K C)) (hr : Room k X.A) (hC : Cls X.K C) (ha : EE X Γ (rAdr p) a ()) (hok : settleOk 40 st = true) (kk : Tr X (At w B0 H0 BX Γ (mS X.K w H0 p a1 a2 C (settleM 40 st))) rest D) (hk : j ≤ k := by decide)
    (ht : eval (.Call (.Attribute a "settle" apos) [] [] p2) X.env = (do
      let ov ← eval a X.env
      standAt apos.atName
      let (f, first) ← holding [ov] (getMethod ov "settle" pl)
      callWith p2 f first (backTo p2 (starEach [] X.env)) (backToKw p2 (keywordEach [] X.env))) := by rfl) (hs : swapsWith (.Call (.Attribute a "settle" apos) [] [] p2) none pos.line X.env = pure false := by rfl) :
    Tr X (At w B0 H0 BX Γ (mS X.K w H0 p a1 a2 C st)) (.Expr (.Call (.Attribute a "settle" apos) [] [] p2) pos :: rest) D := by
  obtain ⟨gg, h1, fd, ps, F, b⟩ := cl
  exact tr_cons (ps_expr (pe_meth0 ha hC h1 F (hr.mono hk) b (dvs := []) .nil (pass0 (X := X)) ht) hs) fun σ H ⟨B, g, bx, en, m⟩ => ⟨B, en, g.i, fun v B1 H1 g1 rv => by
    have rv : v = .ref p := rv
    subst rv
    have m1 := (mS X.K w H0 p a1 a2 C st).st g1 m
    obtain ⟨dx, vs, k1, k2⟩ := mS_look (n := "settle") m1 rfl
    refine ⟨p, dx, vs, rfl, k1, k2, B1, ⟨p, a1, a2, st⟩, g1.i, .cons rfl .nil, ⟨d, hok⟩, mS_re m1 fun c hc => .inr hc, fun v y B2 H2 g2 _ m2 _ => ?_⟩
    have cl := mS_cl m1
    exact kk.wk _ _ ⟨B2, (g.tr g1.w).tw g2 cl, bx.tr (g1.b.tr g2.b), en.mono (g1.b.tr g2.b), mS_re m2 cl⟩⟩
end
section
variable {P : Program} {w : World} {K : Fr} {mg : Str → Option Value} {base : Heap} {f : Addr} {fd : FuncData} {C Cc Cs Cr : Addr} {tk tk2 tk3 : Tok}
theorem ok_sr_ask (T : Bn mg) (Y : SrF K mg Cr) (mk : Mkr P w K mg base 2 "County" Cc (spCtyInit K Cc)) (c72 : Cal P w K mg base 4 "asking" (spAsking K Cc)) (cs : Prp P w K mg base 8 Cr "script" (spSrScript K Cr C Cs)) (cf : Mth P w K mg base 1 Cr "first_open" (spFirst K Cr)) (F : Fun K "ask" "Search.ask" (tM 76 1) f fd) : FnE P w K mg base 10 f (Pm1 (rSr K Cr) (rPr K (rCty K Cc) rInt) (fun st => askOk st = true) askM) := by
  refine fn_pm F sc76_1 (fun _ => rfl) (fun _ _ _ _ _ _ us hl => match us, hl with | [_], _ => rfl) fun q B0 H0 st hr hp => ?_
  have hp : askOk st = true := hp
  simp only [askOk, Bool.and_eq_true] at hp
  obtain ⟨⟨hst, hno⟩, hp⟩ := hp
  have hst' := hst
  simp only [stOk, Bool.and_eq_true, decide_eq_true_eq] at hst'
  obtain ⟨⟨⟨⟨k1, k2⟩, k3⟩, k4⟩, k5⟩ := hst'
  have hsc : (scriptM st).isSome = false := by unfold scriptM; rw [if_pos hno]; rfl
  refine tr_ifF (EB.m (eb_eq (eb_notN (ee_prop cs hr Y.isc.cl (ee_var 0 rfl) hst)) hsc)) (tr_go ?_)
  refine tr_set 1 sc76_1.nd (EE.m (ee_fdiv (ee_add (ee_fld (ee_var 0 rfl) Y.isc.cl Y.n5 rfl) (ee_fld (ee_var 0 rfl) Y.isc.cl Y.n6 rfl)) ee_int ⟨by decide, by decide⟩)) ?_
  refine tr_if (EB.m (eb_isN (ee_fld (ee_var 0 rfl) Y.isc.cl Y.n4 rfl))) (fun hl => ?_) (fun hl => tr_go ?_)
  · have hl : st.least.isNone = true := hl
    rw [if_pos hl] at hp
    simp only [Bool.and_eq_true, decide_eq_true_eq] at hp
    refine tr_rtE (y := askM st) (EE.m (ee_pr (ee_mkCty mk hr (ee_seqL (ee_lst (el_cons (ee_pr (ee_var 1 rfl) (ee_fld (ee_var 0 rfl) Y.isc.cl Y.n1 rfl)) el_nil) (by simp))) ⟨fun p hp' => ?_, by simp⟩) (ee_var 1 rfl))) (by unfold askM; rw [if_pos hl]; rfl)
    have : p = (midOf st, 7) := List.mem_singleton.mp hp'
    subst this
    exact ⟨hp.1, by show midOf st ≤ 1000000; omega, by show (1 : Int) ≤ 7; decide⟩
  · have hl : st.least.isNone = false := hl
    rw [if_neg (by rw [hl]; simp)] at hp
    refine tr_if (EB.m (eb_val (ee_fld (ee_var 0 rfl) Y.isc.cl Y.n7 rfl))) (fun he => ?_) (fun he => tr_go ?_)
    · have he : st.isEnd = true := he
      rw [if_pos he] at hp
      simp only [Bool.and_eq_true, decide_eq_true_eq] at hp
      have hf : 0 < st.found.length := by
        rw [he] at k4
        simp only [Bool.not_true, Bool.false_or, Bool.and_eq_true, decide_eq_true_eq] at k4
        exact k4.1
      exact tr_rtE (y := askM st) (EE.m (ee_call3 c72 hr (ee_add (ee_var 1 rfl) ee_int) (ee_sub (ee_snd (ee_ixL (ee_fld (ee_var 0 rfl) Y.isc.cl Y.n3 rfl) (ee_neg ee_int) (atI_last' (lastE_get hf))) ee_int) ee_int) (ee_fld (ee_var 0 rfl) Y.isc.cl Y.n1 rfl) ⟨hp.1.1, hp.1.2, hp.2, by decide⟩)) (by unfold askM; rw [if_neg (by rw [hl]; simp), if_pos he]; rfl)
    · have he : st.isEnd = false := he
      rw [if_neg (by rw [he]; simp)] at hp
      simp only [Bool.and_eq_true, decide_eq_true_eq] at hp
      exact tr_rtE (y := askM st) (EE.m (ee_call3 c72 hr (ee_meth0 cf hr Y.isc.cl (ee_var 0 rfl) rfl (by rw [he] at k5; simp only [Bool.false_or, Bool.or_eq_true, decide_eq_true_eq] at k5; exact k5)) (ee_var 1 rfl) (ee_fld (ee_var 0 rfl) Y.isc.cl Y.n1 rfl) ⟨hp.1.1, hp.1.2, hp.2, by decide⟩)) (by unfold askM; rw [if_neg (by rw [hl]; simp), if_neg (by rw [he]; simp)]; rfl)
structure SrQ where
  x : SrP
  b : Bool
abbrev spTell (K : Fr) (C : Addr) : Sp := PmE (A := SrQ) (β := Unit) (fun x => [dt (rAdr x.x.p) (), dt rBl x.b]) (fun x => w3 x.x.p x.x.a1 x.x.a2) (fun x H => x.x.m K C H x.x.st) (fun x => Ds x.x.p x.x.a1 x.x.a2 ∧ stOk x.x.st = true ∧ noScript x.x.st = true ∧ settleOk 40 (toldM x.x.st x.b) = true) rNon (fun _ _ => True) (fun x _ H => x.x.m K C H (tellM x.x.st x.b))
theorem ok_sr_tell (T : Bn mg) (Y : SrF K mg Cr) (cs : Prp P w K mg base 8 Cr "script" (spSrScript K Cr C Cs)) (ct : Mth P w K mg base 10 Cr "settle" (spSettle K Cr)) (F : Fun K "tell" "Search.tell" (tM 76 5) f fd) : FnE P w K mg base 11 f (spTell K Cr) := by
  refine fn_eff F sc76_5 (fun _ => rfl) (fun _ _ _ _ _ _ us hl => match us, hl with | [_, _], _ => rfl) fun q B0 H0 y hr hp => ?_
  obtain ⟨⟨p, a1, a2, st⟩, b⟩ := y
  obtain ⟨d, hst, hno, hok⟩ : Ds p a1 a2 ∧ stOk st = true ∧ noScript st = true ∧ settleOk 40 (toldM st b) = true := hp
  have hst' := hst
  simp only [stOk, Bool.and_eq_true, decide_eq_true_eq] at hst'
  obtain ⟨⟨⟨⟨k1, k2⟩, k3⟩, k4⟩, k5⟩ := hst'
  have hsc : (scriptM st).isSome = false := by unfold scriptM; rw [if_pos hno]; rfl
  refine tr_ifF (EB.opS (st := st) 0 d (eb_eq (eb_notN (ee_prop cs hr Y.isc.cl (ee_var 0 rfl) hst)) hsc) rfl) (tr_go ?_)
  refine tr_set 2 sc76_5.nd (EE.opS (st := st) 0 d (ee_fdiv (ee_add (ee_fld (ee_var 0 rfl) Y.isc.cl Y.n5 rfl) (ee_fld (ee_var 0 rfl) Y.isc.cl Y.n6 rfl)) ee_int ⟨by decide, by decide⟩) fz_int fz_int rfl) ?_
  refine tr_wkn (M' := mS1 K (w3 p a1 a2) H0 p a1 a2 Cr st) (by repeat constructor) (fun _ _ z => to1 z) ?_
  refine tr_appM (EE.m (ee_var 1 rfl)) (EM.wk (em_fld (ee_var 0 rfl) Y.isc.cl Y.n2 rfl) fun _ _ z => of1 z) (by omega) (d.f1 (K := K)) ?_
  refine tr_wkn (M' := mS K (w3 p a1 a2) H0 p a1 a2 Cr { st with ans := st.ans ++ [b] }) (by repeat constructor) (fun _ _ z => of1 z) ?_
  have fin : ∀ σ H, At (w3 p a1 a2) B0 H0 B0 [sl (rAdr p) (), sl rBl b, sl rInt (midOf st)] (mS K (w3 p a1 a2) H0 p a1 a2 Cr (settleM 40 (toldM st b))) σ H → RtE (w3 p a1 a2) B0 H0 rNon (fun _ : Unit => True) (fun _ => mS K (w3 p a1 a2) H0 p a1 a2 Cr (tellM st b)) .non H := fun σ H ⟨B, g, bx, en, mm⟩ => ⟨B, (), g, trivial, mm, rfl⟩
  refine tr_if (EB.m (eb_val (ee_var 1 rfl))) (fun hb => ?_) (fun hb => ?_)
  · have hb : b = true := hb
    have e : toldM st b = { st with ans := st.ans ++ [b], high := midOf st } := by unfold toldM; rw [if_pos hb]
    refine tr_fld (EE.m (ee_var 2 rfl)) (ee_var 0 rfl) Y.isc.cl Y.n6 (by show (7 : Nat) < 1000; decide) d.f0 (tr_go ?_)
    rw [e] at hok fin
    exact tr_settle (st := { st with ans := st.ans ++ [b], high := midOf st }) d ct hr Y.isc.cl (ee_var 0 rfl) hok (tr_nil fin)
  · have hb : b = false := hb
    have e : toldM st b = { st with ans := st.ans ++ [b], low := midOf st + 1 } := by unfold toldM; rw [if_neg (by rw [hb]; simp)]
    refine tr_fld (EE.m (ee_add (ee_var 2 rfl) ee_int)) (ee_var 0 rfl) Y.isc.cl Y.n5 (by show (7 : Nat) < 1000; decide) d.f0 (tr_go ?_)
    rw [e] at hok fin
    exact tr_settle (st := { st with ans := st.ans ++ [b], low := midOf st + 1 }) d ct hr Y.isc.cl (ee_var 0 rfl) hok (tr_nil fin)
end
end K81
set_option Elab.async false
set_option linter.all false
set_option maxRecDepth 100000
set_option maxHeartbeats 1900000
namespace K81
open PySem L2
abbrev srD (a1 a2 : Addr) : List (Str × Dat) := [("own_most", dt rInt 7), ("own_answers", dt (rAdr a1) ()), ("own_found", dt (rAdr a2) ())]
abbrev spSrInit (K : Fr) (C : Addr) : Sp := PmE (A := Addr) (β := Addr × Addr) (fun p => [dt (rAdr p) (), dt rInt 7]) (fun p => fun a => a = p) (fun p H => mA mE (mI (fun a => a = p) H p C [])) (fun _ => True) rNew (fun p y => Ds p y.1 y.2) (fun p y H => mS K (fun a => a = p) H p y.1 y.2 C st0)
section
variable {X : Cx} {Γ Γ' : List Slot} {M M' : Mem} {α β γ δ : Type} {r : RT α} {s : RT β} {t : RT γ} {u : RT δ} {tg a b e o : Expr} {es elts : List Expr} {pos p2 p tpos apos : Pos} {n : Str} {kk j k : Nat} {w : Addr → Prop} {B0 H0 BX : Hp} {D D' : Ends} {rest ss : List Stmt}
/-- self.own_most, self.own_answers, self.own_found = (most, [], []) -/
theorem tr_srNew {c C : Addr} {p3 p4 pt pe pl1 pl2 : Pos} {kt ke : Nat} {o2 o3 : Expr} (h : EE X Γ rInt e 7) (hf : EE X Γ (rAdr c) o ()) (hf2 : EE X Γ (rAdr c) o2 ()) (hf3 : EE X Γ (rAdr c) o3 ()) (hc : X.calm = true) (hC : Cls X.K C) (hA : NoAttr X.K C "own_most") (hA2 : NoAttr X.K C "own_answers") (hA3 : NoAttr X.K C "own_found")
    (kk : ∀ a1 a2, Ds c a1 a2 → Tr X (At w B0 H0 BX Γ (mA (mA (mL w H0 a1 rBl []) (mL w H0 a2 (rEnt X.K) [])) (mI w H0 c C (srD a1 a2)))) rest D)
    (ha1 : starEach [e, .List [] pl1, .List [] pl2] X.env = (false, eval e X.env) :: starEach [.List [] pl1, .List [] pl2] X.env := by rfl) (ha2 : starEach [.List [] pl1, .List [] pl2] X.env = (false, eval (.List [] pl1) X.env) :: starEach [.List [] pl2] X.env := by rfl) (ha3 : starEach [.List [] pl2] X.env = (false, eval (.List [] pl2) X.env) :: starEach [] X.env := by rfl)
    (hs1 : (assignEach [.Attribute o "own_most" p, .Attribute o2 "own_answers" p3, .Attribute o3 "own_found" p4] X.env).map (·.2) = assign (.Attribute o "own_most" p) X.env :: (assignEach [.Attribute o2 "own_answers" p3, .Attribute o3 "own_found" p4] X.env).map (·.2) := by rfl) (hs2 : (assignEach [.Attribute o2 "own_answers" p3, .Attribute o3 "own_found" p4] X.env).map (·.2) = assign (.Attribute o2 "own_answers" p3) X.env :: (assignEach [.Attribute o3 "own_found" p4] X.env).map (·.2) := by rfl)
    (hs3 : (assignEach [.Attribute o3 "own_found" p4] X.env).map (·.2) = assign (.Attribute o3 "own_found" p4) X.env :: (assignEach [] X.env).map (·.2) := by rfl)
    (hn : (assignEach [.Attribute o "own_most" p, .Attribute o2 "own_answers" p3, .Attribute o3 "own_found" p4] X.env).length = 3 := by rfl) (hst : (assignEach [.Attribute o "own_most" p, .Attribute o2 "own_answers" p3, .Attribute o3 "own_found" p4] X.env).findIdx? (·.1) = none := by rfl)
    (hs : swapsWithSole [.Tuple [.Attribute o "own_most" p, .Attribute o2 "own_answers" p3, .Attribute o3 "own_found" p4] kt pt] (.Tuple [e, .List [] pl1, .List [] pl2] ke pe) pos.line X.env = pure false := by rfl) (hsw : swappedStores [.Tuple [.Attribute o "own_most" p, .Attribute o2 "own_answers" p3, .Attribute o3 "own_found" p4] kt pt] (.Tuple [e, .List [] pl1, .List [] pl2] ke pe) X.env = pure none := by rfl)
    (h1 : (assignEach [.Tuple [.Attribute o "own_most" p, .Attribute o2 "own_answers" p3, .Attribute o3 "own_found" p4] kt pt] X.env).map (·.2) = [assign (.Tuple [.Attribute o "own_most" p, .Attribute o2 "own_answers" p3, .Attribute o3 "own_found" p4] kt pt) X.env] := by rfl) :
    Tr X (At w B0 H0 BX Γ (mA mE (mI w H0 c C []))) (.Assign [.Tuple [.Attribute o "own_most" p, .Attribute o2 "own_answers" p3, .Attribute o3 "own_found" p4] kt pt] (.Tuple [e, .List [] pl1, .List [] pl2] ke pe) pos :: rest) D :=
  tr_cons (ps_asg (pe_tup (pa_cons h (pa_cons (pe_lst pa_nil) (pa_cons (pe_lst pa_nil) pa_nil ha3) ha2) ha1)) (pg_tup hc (pgs_cons (pg_fld hf) (pgs_cons (pg_fld hf2) (pgs_cons (pg_fld hf3) pgs_nil hs3) hs2) hs1) hn hst) hs hsw h1) fun σ H ⟨B, g, bx, en, m⟩ => ⟨B, en, g.i, fun v0 B1 H1 g1 rv0 => ⟨by decide, fun a1 f1 => ⟨by decide, fun a2 f2 => ⟨by show 3 ≤ sizeLine; decide, fun tt f3 => by
    obtain rfl : v0 = .int 7 := rv0
    obtain ⟨_, hBc, hwc, dx, vs, hHc, hvc⟩ := (mA mE (mI w H0 c C [])).st g1 m
    have cv : vs = [] := by cases hvc; rfl
    subst cv
    have n1 : c ≠ a1 := fun z => by rw [z, f1] at hHc; cases hHc
    have b1 : B1 a1 = none := g1.i.back f1
    have f2' : H1 a2 = none := by
      by_cases q : a2 = a1
      · subst q; exact f1
      · rw [upd_ne q] at f2; exact f2
    have n12 : a1 ≠ a2 := fun z => by rw [← z, upd_same] at f2; cases f2
    have n2 : c ≠ a2 := fun z => by rw [z, f2'] at hHc; cases hHc
    have b2 : B1 a2 = none := g1.i.back f2'
    have ga : Go no B1 H1 B1 (upd H1 a1 (.lst [])) := Go.newH g1.i f1
    have gb : Go no B1 (upd H1 a1 (.lst [])) B1 (upd (upd H1 a1 (.lst [])) a2 (.lst [])) := Go.newH ga.i f2
    have gt := (ga.tr gb).tr (Go.newH (o := .tup [.int 7, .ref a1, .ref a2]) gb.i f3)
    have hz : ∀ a, H1 a = none → H0 a = none := fun a ha => by
      cases q : H0 a with
      | none => rfl
      | some o => exact absurd ha ((g.tr g1.w).e a (by rw [q]; simp))
    have hHc3 := gt.hx c _ hHc
    have nt1 : a1 ≠ tt := fun z => by rw [← z, upd_ne n12, upd_same] at f3; cases f3
    have nt2 : a2 ≠ tt := fun z => by rw [← z, upd_same] at f3; cases f3
    refine ⟨tt, [.int 7, .ref a1, .ref a2], rfl, .inl (.inl upd_same), rfl, .int 7, [.ref a1, .ref a2], rfl, B1, en.mono g1.b, gt.i, fun v B2 H2 g2 rv => ?_⟩
    obtain rfl : v = .ref c := rv
    have hH2 := g2.hx c _ hHc3
    have hB2 : B2 c = none := g2.n c (by rw [hHc3]; simp) hBc
    have gg := (((g.tr g1.w).tr gt.w).tr g2.w).mut (o := .ins C dx [("own_most", .int 7)]) hB2 hwc
    refine ⟨c, C, dx, [], rfl, hH2, hC, hA, by decide, .ref a1, [.ref a2], rfl, B2, en.mono (g1.b.tr g2.b), gg.i, fun v' B3 H3 g3 rv' => ?_⟩
    obtain rfl : v' = .ref c := rv'
    have hH3 := g3.hx c _ (upd_same (H := H2) (a := c) (o := .ins C dx [("own_most", .int 7)]))
    have hB3 : B3 c = none := g3.n c (by rw [upd_same]; simp) hB2
    have gg3 := (gg.tr g3.w).mut (o := .ins C dx [("own_most", .int 7), ("own_answers", .ref a1)]) hB3 hwc
    refine ⟨c, C, dx, _, rfl, hH3, hC, hA2, by show (1 : Nat) < 1000; decide, .ref a2, [], rfl, B3, en.mono ((g1.b.tr g2.b).tr g3.b), gg3.i, fun v'' B4 H4 g4 rv'' => ?_⟩
    obtain rfl : v'' = .ref c := rv''
    have hH4 := g4.hx c _ (upd_same (H := H3) (a := c) (o := .ins C dx [("own_most", .int 7), ("own_answers", .ref a1)]))
    have hB4 : B4 c = none := g4.n c (by rw [upd_same]; simp) hB3
    have o1 : (upd (upd (upd H1 a1 (.lst [])) a2 (.lst [])) tt (.tup [.int 7, .ref a1, .ref a2])) a1 = some (.lst []) := by rw [upd_ne nt1, upd_ne n12, upd_same]
    have o2 : (upd (upd (upd H1 a1 (.lst [])) a2 (.lst [])) tt (.tup [.int 7, .ref a1, .ref a2])) a2 = some (.lst []) := by rw [upd_ne nt2, upd_same]
    have run : ∀ q, q ≠ c → (upd (upd (upd H1 a1 (.lst [])) a2 (.lst [])) tt (.tup [.int 7, .ref a1, .ref a2])) q = some (.lst []) → B1 q = none → B4 q = none ∧ H4 q = some (.lst []) := fun q hq o b => by
      have k2 := g2.hx q _ o
      have c2 := g2.n q (by rw [o]; simp) b
      have k2' : (upd H2 c (.ins C dx [("own_most", .int 7)])) q = some (.lst []) := by rw [upd_ne hq]; exact k2
      have k3 := g3.hx q _ k2'
      have c3 := g3.n q (fun z => nomatch k2'.symm.trans z) c2
      have k3' : (upd H3 c (.ins C dx [("own_most", .int 7), ("own_answers", .ref a1)])) q = some (.lst []) := by rw [upd_ne hq]; exact k3
      exact ⟨g4.n q (fun z => nomatch k3'.symm.trans z) c3, g4.hx q _ k3'⟩
    obtain ⟨r1, r2⟩ := run a1 n1.symm o1 b1
    obtain ⟨r3, r4⟩ := run a2 n2.symm o2 b2
    exact ⟨c, C, dx, _, rfl, hH4, hC, hA3, by show (2 : Nat) < 1000; decide, rfl, (kk a1 a2 ⟨n1, n2, n12⟩).wk _ _ ⟨B4, (gg3.tr g4.w).mut hB4 hwc, bx.tr (((g1.b.tr g2.b).tr g3.b).tr g4.b), en.mono (((g1.b.tr g2.b).tr g3.b).tr g4.b),
      ⟨⟨r1, .inl (hz a1 f1), [], by rw [upd_ne n1.symm]; exact r2, .nil⟩, r3, .inl (hz a2 f2'), [], by rw [upd_ne n2.symm]; exact r4, .nil⟩, hB4, hwc, dx, _, upd_same, .cons rfl (.cons rfl (.cons rfl .nil))⟩⟩⟩⟩⟩⟩
/-- Search(7) -/
theorem pe_srMake {C : Addr} (cl : Mkr X.prog X.w X.K X.mg X.base j "Search" C (spSrInit X.K C)) (hr : Room k X.A) (ha : EE X Γ rInt a 7) (hk : j + 1 ≤ k := by decide) (hg : Gl X "Search" := by rfl)
    (he : starEach [a] X.env = (false, eval a X.env) :: starEach [] X.env := by rfl) : PE X (.Call (.Name "Search" p) [a] [] pos) (fun σ H Q => ∃ B, Env B Γ σ ∧ Ex B H ∧ ∀ p a1 a2 B2 H2, Go no B H B2 H2 → Ds p a1 a2 → (∀ w H0, (∀ c, H c = none → H0 c = none) → (mS X.K w H0 p a1 a2 C st0).ok B2 H2) → Q (.ref p) H2) := by
  obtain ⟨f, h1, h2, FF⟩ := cl
  exact PE.imp (StX.pe_makeR h2 FF (hr.mono hk) hg h1 (pass0 (X := X)) (ea_cons ha ea_nil he) (by decide) he) fun σ H Q ⟨B, en, ex, q⟩ => ⟨B, en, ex, fun vs B1 H1 g1 rv x dx hx hdx hne => by
    cases rv with
    | cons rv1 rv2 =>
    cases rv2
    have i1 := g1.i
    have up : ∀ a, H1 a ≠ none → (upd (upd H1 dx (.own x)) x (.ins C dx [])) a = H1 a := fun a h0 => by rw [upd_ne (ne_cell h0 hx), upd_ne (ne_cell h0 hdx)]
    refine ⟨B1, x, (i1.tr ((Ex.new hdx).tr (Ex.new (by rw [upd_ne hne.symm]; exact hx)))), .cons rfl (.cons rv1 .nil), trivial, ⟨trivial, i1.back hx, .inr rfl, dx, [], upd_same, .nil⟩, fun v y B2 H2 g hy hm hv => ⟨hv, ?_⟩⟩
    obtain ⟨a1, a2⟩ := y
    have gg : Go no B1 H1 B2 H2 := ⟨g.b, fun a u _ e => g.h a u (ne_of_none e hx) (by rw [up a (by rw [e]; simp)]; exact e), g.i, fun a h0 hb => g.n a (by rw [up a h0]; exact h0) hb, fun a h0 => g.e a (by rw [up a h0]; exact h0)⟩
    have cz := mS_cl hm
    have back : ∀ c, H1 c = none → H c = none := fun c hc => by
      cases q : H c with
      | none => rfl
      | some o => exact absurd hc (g1.e c (by rw [q]; simp))
    have low : ∀ c, (upd (upd H1 dx (.own x)) x (.ins C dx [])) c = none → H1 c = none := fun c hc => by
      cases q : H1 c with
      | none => rfl
      | some o => rw [up c (by rw [q]; simp), q] at hc; cases hc
    refine q x a1 a2 B2 H2 (g1.tr gg) hy fun w H0 hz => mS_re hm fun c hc => .inl (hz c (back c ?_))
    rcases cz c hc with z | z
    · exact low c z
    · rw [z]; exact hx⟩
/-- o.tell(e) -/
theorem tr_tell {p a1 a2 C : Addr} {st : SrS} {b : Bool} {pl : Sem Bool} (d : Ds p a1 a2) (cl : Mth X.prog X.w X.K X.mg X.base j C "tell" (spTell X.K C)) (hr : Room k X.A) (hC : Cls X.K C) (ha : EE X Γ (rAdr p) a ()) (he : EE X Γ rBl e b) (h1 : stOk st = true) (h2 : noScript st = true) (h3 : settleOk 40 (toldM st b) = true) (kk : Tr X (At w B0 H0 BX Γ (mS X.K w H0 p a1 a2 C (tellM st b))) rest D) (hk : j ≤ k := by decide)
    (hst : starEach [e] X.env = (false, eval e X.env) :: starEach [] X.env := by rfl)
    (ht : eval (.Call (.Attribute a "tell" apos) [e] [] p2) X.env = (do
      let ov ← eval a X.env
      standAt apos.atName
      let (f, first) ← holding [ov] (getMethod ov "tell" pl)
      callWith p2 f first (backTo p2 (starEach [e] X.env)) (backToKw p2 (keywordEach [] X.env))) := by rfl) (hs : swapsWith (.Call (.Attribute a "tell" apos) [e] [] p2) none pos.line X.env = pure false := by rfl) :
    Tr X (At w B0 H0 BX Γ (mS X.K w H0 p a1 a2 C st)) (.Expr (.Call (.Attribute a "tell" apos) [e] [] p2) pos :: rest) D := by
  obtain ⟨gg, hm, fd, ps, F, bb⟩ := cl
  exact tr_cons (ps_expr (pe_meth ha hC hm F (hr.mono hk) bb (dvs := []) .nil (pass0 (X := X)) (ea_cons he ea_nil hst) hst rfl ht) hs) fun σ H ⟨B, g, bx, en, m⟩ => ⟨B, en, g.i, fun v B1 H1 g1 rv => by
    have rv : v = .ref p := rv
    subst rv
    have m1 := (mS X.K w H0 p a1 a2 C st).st g1 m
    obtain ⟨dx, vs, k1, k2⟩ := mS_look (n := "tell") m1 rfl
    refine ⟨p, dx, vs, rfl, k1, k2, B1, en.mono g1.b, g1.i, fun us B2 H2 g2 ru => ?_⟩
    have m2 := (mS X.K w H0 p a1 a2 C st).st g2 m1
    cases ru with
    | cons r1 r2 =>
    cases r2
    refine ⟨B2, ⟨⟨p, a1, a2, st⟩, b⟩, g2.i, .cons rfl (.cons r1 .nil), ⟨d, h1, h2, h3⟩, mS_re m2 fun c hc => .inr hc, fun v y B3 H3 g3 _ m3 _ => ?_⟩
    have cl := mS_cl m2
    exact kk.wk _ _ ⟨B3, ((g.tr g1.w).tr g2.w).tw g3 cl, bx.tr ((g1.b.tr g2.b).tr g3.b), en.mono ((g1.b.tr g2.b).tr g3.b), mS_re m3 cl⟩⟩
end
section
variable {P : Program} {w : World} {K : Fr} {mg : Str → Option Value} {base : Heap} {f : Addr} {fd : FuncData} {C Cc Cs Cr : Addr} {tk tk2 tk3 : Tok}
theorem ok_sr_init (T : Bn mg) (Y : SrF K mg Cr) (ct : Mth P w K mg base 10 Cr "settle" (spSettle K Cr)) (F : Fun K "__init__" "Search.__init__" (tM 76 0) f fd) : FnE P w K mg base 11 f (spSrInit K Cr) := by
  refine fn_eff F sc76_0 (fun _ => rfl) (fun _ _ _ _ _ _ us hl => match us, hl with | [_, _], _ => rfl) fun q B0 H0 y hr hp => ?_
  refine tr_srNew (ee_var 1 rfl) (ee_var 0 rfl) (ee_var 0 rfl) (ee_var 0 rfl) rfl Y.isc.cl Y.n1 Y.n2 Y.n3 fun a1 a2 d => ?_
  refine tr_fld4 (EE.m (ee_qua (ee_none (r := rInt)) ee_int (ee_var 1 rfl) ee_bl)) (ee_var 0 rfl) (ee_var 0 rfl) (ee_var 0 rfl) (ee_var 0 rfl) rfl Y.isc.cl Y.n4 Y.n5 Y.n6 Y.n7 (by show (3 : Nat) < 990; decide) d.f0 ?_
  refine tr_settle (st := st0) d ct hr Y.isc.cl (ee_var 0 rfl) (by decide +kernel) (tr_nil fun σ H ⟨B, g, bx, en, mm⟩ => ⟨B, (a1, a2), g, d, ?_, rfl⟩)
  have e : settleM 40 st0 = st0 := by decide +kernel
  rw [e] at mm
  exact mm
end
end K81
set_option Elab.async false
set_option linter.all false
set_option maxRecDepth 100000
set_option maxHeartbeats 1900000
namespace K81
open PySem L2
/-! ### a search -/
def ansS (l : List Stp) (st : SrS) : Bool := hasTown (runSteps l (askM st).1) (askM st).2
def searchM : Nat → List Stp → SrS → List Look → Option (List Stp) × List Look
  | 0, _, st, ls => (scriptM st, ls)
  | n + 1, l, st, ls => if (scriptM st).isNone then searchM n l (tellM st (ansS l st)) (ls ++ [((askM st).1, (askM st).2, ansS l st)]) else (scriptM st, ls)
def searchOk : Nat → List Stp → SrS → Bool
  | 0, _, st => stOk st && (scriptM st).isSome
  | n + 1, l, st => stOk st && ((scriptM st).isSome || (askOk st && (hasTown (askM st).1 (askM st).2 && (settleOk 40 (toldM st (ansS l st)) && searchOk n l (tellM st (ansS l st))))))
section
variable {P : Program} {w : World} {K : Fr} {mg : Str → Option Value} {base : Heap} {f : Addr} {fd : FuncData} {C Cc Cs Cr : Addr} {tk tk2 tk3 : Tok}
theorem searchOk_st : ∀ {n : Nat} {l : List Stp} {st : SrS}, searchOk n l st = true → stOk st = true
  | 0, l, st, h => by unfold searchOk at h; rw [Bool.and_eq_true] at h; exact h.1
  | n + 1, l, st, h => by unfold searchOk at h; rw [Bool.and_eq_true] at h; exact h.1
theorem search_stop : ∀ {n : Nat} {l : List Stp} {st : SrS} {ls : List Look}, (scriptM st).isNone = false → searchM n l st ls = (scriptM st, ls)
  | 0, l, st, ls, h => rfl
  | n + 1, l, st, ls, h => by unfold searchM; rw [if_neg (by rw [h]; simp)]
theorem search_go : ∀ {n : Nat} {l : List Stp} {st : SrS} {ls : List Look}, searchOk n l st = true → (scriptM st).isNone = true → ∃ m, n = m + 1 ∧ askOk st = true ∧ hasTown (askM st).1 (askM st).2 = true ∧ settleOk 40 (toldM st (ansS l st)) = true ∧ searchOk m l (tellM st (ansS l st)) = true ∧ searchM n l st ls = searchM m l (tellM st (ansS l st)) (ls ++ [((askM st).1, (askM st).2, ansS l st)])
  | 0, l, st, ls, h, g => by
    unfold searchOk at h
    rw [Bool.and_eq_true] at h
    cases e : scriptM st with
    | none => rw [e] at h; cases h.2
    | some a => rw [e] at g; cases g
  | n + 1, l, st, ls, h, g => by
    unfold searchOk at h
    have g' : (scriptM st).isSome = false := by
      cases e : scriptM st with
      | none => rfl
      | some a => rw [e] at g; cases g
    rw [g'] at h
    simp only [Bool.false_or, Bool.and_eq_true] at h
    refine ⟨n, rfl, h.2.1, h.2.2.1, h.2.2.2.1, h.2.2.2.2, ?_⟩
    rw [searchM, if_pos g]
theorem fz_looks {z : HO → Prop} (nt : NoTup z) (h1 : ∀ dx vs, ¬ z (.ins Cc dx vs)) : Fz z (rLooks K Cc) := fz_tup nt (fz_tri nt (fz_cty nt h1) fz_int fz_bl)
theorem ok_searched (T : Bn mg) (Y : SrF K mg Cr) (Ys : ScrF K mg C) (n1 : Cc ≠ Cr) (n2 : C ≠ Cr) (n3 : Cs ≠ Cr) (mk : Mkr P w K mg base 11 "Search" Cr (spSrInit K Cr)) (cs : Prp P w K mg base 8 Cr "script" (spSrScript K Cr C Cs)) (ca : Prp P w K mg base 10 Cr "ask" (Pm1 (rSr K Cr) (rPr K (rCty K Cc) rInt) (fun st => askOk st = true) askM)) (ct : Mth P w K mg base 11 Cr "tell" (spTell K Cr)) (sh : Mth P w K mg base 7 C "shows" (spShows K C Cs Cc)) (F : Fun K "_law_searched" "_law_searched" (tS 88) f fd) :
    FnE P w K mg base 13 f (Pm2 (rScr K C Cs) rInt (rPr K (rOpt (rScr K C Cs)) (rLooks K Cc)) (fun l m => m = 7 ∧ searchOk 100 l st0 = true) (fun l _ => searchM 100 l st0 [])) := by
  refine fn_pm F sc88 (fun _ => rfl) (fun _ _ _ _ _ _ us hl => match us, hl with | [_, _], _ => rfl) fun q B0 H0 y hr hp => ?_
  obtain ⟨l, m⟩ := y
  obtain ⟨hm, hok⟩ : m = 7 ∧ searchOk 100 l st0 = true := hp
  subst hm
  have rest : ∀ p a1 a2, Ds p a1 a2 → Tr (cxE P w K mg base N88 "_law_searched" (tS 88) f q) (At no B0 H0 B0 [sl (rScr K C Cs) l, sl rInt 7, sl (rAdr p) (), sl (rLooks K Cc) [], none, none] (mS K no H0 p a1 a2 Cr st0)) (defBody (tS 88)).tail (endsR no B0 H0 (rPr K (rOpt (rScr K C Cs)) (rLooks K Cc)) (searchM 100 l st0 [])) := fun p a1 a2 d => by
    refine tr_while (ι := SrS × List Look) (fun k => [sl (rScr K C Cs) l, sl rInt 7, sl (rAdr p) (), sl (rLooks K Cc) k.2, none, none]) (fun k => mS K no H0 p a1 a2 Cr k.1) (fun k => (scriptM k.1).isNone && decide ((k.2.length : Int) < 200)) (fun n k => searchOk n l k.1 = true ∧ k.2.length + n ≤ 100 ∧ searchM n l k.1 k.2 = searchM 100 l st0 []) 100 (st0, []) ⟨hok, by simp, rfl⟩ (by repeat constructor) (fun _ _ z => z) (fun n k ⟨h1, h2, h3⟩ => ?_) (fun n k ⟨h1, h2, h3⟩ hg => ?_) fun n k ⟨h1, h2, h3⟩ hg => ?_
    · exact EB.opS 2 d (eb_and (eb_isN (ee_prop cs hr Y.isc.cl (ee_var 2 rfl) (searchOk_st h1))) fun _ => eb_lt (ee_len T.len (ee_seqT (ee_var 3 rfl))) ee_int) rfl
    · obtain ⟨st, ls⟩ := k
      rw [Bool.and_eq_true] at hg
      obtain ⟨mm, e1, e2, e3, e4, e5, e6⟩ := search_go (ls := ls) h1 hg.1
      have hno : noScript st = true := by
        have := e2
        simp only [askOk, Bool.and_eq_true] at this
        exact this.1.2
      have h2 : ls.length + n ≤ 100 := h2
      refine tr_tg (EE.opS 2 d (ee_prop ca hr Y.isc.cl (ee_var 2 rfl) e2) (fz_pr noTupL (fz_cty noTupL fun _ _ h => h) fz_int) (fz_pr noTupI (fz_cty noTupI fun _ _ h => n1 h) fz_int) rfl) (et_pr rfl (et_name 4 sc88.nd) (et_name 5 sc88.nd)) ?_
      refine tr_set 3 sc88.nd (y := ls ++ [((askM st).1, (askM st).2, ansS l st)]) (EE.m (ee_catT (ee_var 3 rfl) (ee_tupL (el_cons (ee_tri (ee_var 4 rfl) (ee_var 5 rfl) (ee_meth2 sh hr Ys.isc.cl (ee_var 0 rfl) rfl (ee_var 4 rfl) (ee_var 5 rfl) e3)) el_nil) (by simp)) (by simp; omega))) ?_
      refine tr_tell d ct hr Y.isc.cl (ee_var 2 rfl) (ee_meth2 sh hr Ys.isc.cl (ee_var 0 rfl) rfl (ee_var 4 rfl) (ee_var 5 rfl) e3) (searchOk_st h1) hno e4 ?_
      exact tr_nil fun σ H h => ⟨mm, (tellM st (ansS l st), ls ++ [((askM st).1, (askM st).2, ansS l st)]), by omega, ⟨e5, by simp; omega, by rw [← e6]; exact h3⟩, At.wk (by repeat constructor) (fun _ _ z => z) σ H h⟩
    · obtain ⟨st, ls⟩ := k
      have h2 : ls.length + n ≤ 100 := h2
      have hn : (scriptM st).isNone = false := by
        rw [Bool.and_eq_false_iff] at hg
        rcases hg with hg | hg
        · exact hg
        · have := of_decide_eq_false hg
          have h9 : ¬ ((ls.length : Int) < 200) := this
          omega
      have h3 : searchM n l st ls = searchM 100 l st0 [] := h3
      rw [search_stop hn] at h3
      refine tr_rtE (EE.opS 2 d (ee_pr (ee_prop cs hr Y.isc.cl (ee_var 2 rfl) (searchOk_st h1)) (ee_var 3 rfl)) ?_ ?_ rfl) h3
      · exact fz_pr noTupL (fz_opt (fz_scr noTupL (fun _ _ h => h) fun _ _ h => h)) (fz_looks noTupL fun _ _ h => h)
      · exact fz_pr noTupI (fz_opt (fz_scr noTupI (fun _ _ h => n2 h) fun _ _ h => n3 h)) (fz_looks noTupI fun _ _ h => n1 h)
  refine tr_cons (ps_par rfl sc88.nd (i := 2) (j := 3) rfl rfl (by decide) rfl rfl (pa_cons (pe_srMake mk hr (ee_var (Γ := g0 [dt (rScr K C Cs) l, dt rInt 7] 6) 1 rfl)) (pa_cons (ee_tupL (r := rTri K (rCty K Cc) rInt rBl) (Γ := g0 [dt (rScr K C Cs) l, dt rInt 7] 6) el_nil (by simp)) pa_nil)) rfl) fun σ H ⟨B, g, bx, en, mm⟩ => ⟨B, en, g.i, fun p a1 a2 B2 H2 g2 d hm => ⟨B2, en.mono g2.b, g2.i, fun v B3 H3 g3 rv => ⟨_, _, rfl, (rest p a1 a2 d).wk _ _ ⟨B3, (g.tr g2.w).tr g3.w, bx.tr (g2.tr g3).b, ((en.mono (g2.tr g3).b).set (s := sl (rAdr p) ()) (o := some (V.ref p)) ⟨_, rfl, rfl⟩ 2).set (s := sl (rLooks K Cc) []) (o := some v) ⟨v, rfl, rv⟩ 3, (mS K no H0 p a1 a2 Cr st0).st g3 (hm no H0 fun c hc => ?_)⟩⟩⟩⟩
  cases z : H0 c with
  | none => rfl
  | some o => exact absurd hc (g.e c (by rw [z]; simp))
end
end K81
set_option Elab.async false
set_option linter.all false
set_option maxRecDepth 100000
set_option maxHeartbeats 1900000
namespace K81
open PySem L2
/-- a dict of bools by int pairs -/
def embT (ks : List ((Int × Int) × Bool)) : List (List Key × V) := ks.map fun p => ([Sum.inl p.1.1, Sum.inl p.1.2], V.bl p.2)
def rDt : RT (List ((Int × Int) × Bool)) := ⟨fun H v ks => ∃ a, v = .ref a ∧ H a = some (.dT (embT ks)), fun e ⟨a, h1, h2⟩ => ⟨a, h1, e _ _ h2⟩⟩
def getT (ks : List ((Int × Int) × Bool)) (k : Int × Int) : Option Bool := (ks.find? fun p => decide (p.1 = k)).map (·.2)
theorem key2 {x y : Int × Int} : ([Sum.inl x.1, Sum.inl x.2] : List Key) = [Sum.inl y.1, Sum.inl y.2] ↔ x = y := by
  constructor
  · intro h
    injection h with h1 h2
    injection h2 with h2 _
    injection h1 with h1
    injection h2 with h2
    exact Prod.ext h1 h2
  · intro h; rw [h]
theorem valV_embT (ks : List ((Int × Int) × Bool)) (k : Int × Int) : valV (embT ks) [Sum.inl k.1, Sum.inl k.2] = (getT ks k).map V.bl := by
  unfold valV getT embT
  rw [List.find?_map]
  have e : ((fun kv : List Key × V => decide (kv.1 = [Sum.inl k.1, Sum.inl k.2])) ∘ fun p : (Int × Int) × Bool => (([Sum.inl p.1.1, Sum.inl p.1.2] : List Key), V.bl p.2)) = fun p => decide (p.1 = k) := by
    funext p
    exact decide_eq_decide.mpr key2
  rw [e]
  cases ks.find? fun p => decide (p.1 = k) <;> rfl
theorem putK_embT {ks : List ((Int × Int) × Bool)} {k : Int × Int} {v : Bool} (h : k ∉ ks.map (·.1)) : putK (embT ks) [Sum.inl k.1, Sum.inl k.2] (V.bl v) = embT (ks ++ [(k, v)]) := by
  unfold putK
  rw [if_neg]
  · unfold embT; rw [List.map_append]; rfl
  · intro z
    obtain ⟨q, hq, e⟩ := List.any_eq_true.mp z
    unfold embT at hq
    obtain ⟨p, hp, rfl⟩ := List.mem_map.mp hq
    have e := of_decide_eq_true e
    have e : p.1 = k := key2.mp e
    exact h (List.mem_map.mpr ⟨p, hp, e⟩)
section
variable {X : Cx} {Γ Γ' : List Slot} {M M' : Mem} {α β γ : Type} {r : RT α} {s : RT β} {tg a b e : Expr} {es elts : List Expr} {pos p2 p tpos apos : Pos} {n : Str} {kk : Nat} {w : Addr → Prop} {B0 H0 BX : Hp} {D D' : Ends} {rest ss : List Stmt}
/-- {k: v for tg in iter} -/
theorem ee_dcT {kx vx iter : Expr} {scope : Scope} {own : List (Str × Nat)} {xs : List α} {ts : List Nat} {f : α → List Slot → List Slot} {fk : α → Int × Int} {fv : α → Bool} (hu : X.A.units < cLine) (hc : X.calm = true) (hN : X.N.Nodup) {N : List Str} {sc : Scope} (ok : blkC N sc scope own = true) (hi : EI X Γ tg iter r xs)
    (ht : ∀ q : BlkA, ET (bk X scope q) tg ts r f) (hk : ∀ q : BlkA, ∀ x ∈ xs, EE (bk X scope q) (f x (gwipe Γ (own.map (·.2)))) (rPn rInt rInt) kx (fk x)) (hv : ∀ q : BlkA, ∀ x ∈ xs, EE (bk X scope q) (f x (gwipe Γ (own.map (·.2)))) rBl vx (fv x))
    (hnd : (xs.map fk).Nodup) (hl : xs.length ≤ 1000) (hts : ∀ i ∈ ts, i ∈ own.map (·.2) := by decide) (hs : ∀ x, foldedSetIterable iter X.env x = pure x := by intro _; rfl) (eN : X.N = N := by rfl) (eS : X.env.scope = sc := by rfl) : EE X Γ rDt (.DictComp kx vx [⟨tg, iter, [], 0⟩] scope pos) (xs.map fun x => (fk x, fv x)) := by
  refine PE.imp (pe_dcT hu hc hN hi (blkOk_by (by rw [eN, eS]; exact ok)) (fun s H C cl fp => ht ⟨s, H, C, cl, fp⟩) (fun s H C cl fp => PTs.ex (P := fun x => x ∈ xs) (t := fun x => tBo (f x (gwipe Γ (own.map (·.2)))) true) fun x hx => pts_yes) (fun s H C cl fp => PE.ex (P := fun x => x ∈ xs) fun x hx => hk ⟨s, H, C, cl, fp⟩ x hx) (fun s H C cl fp => PE.ex (P := fun x => x ∈ xs) fun x hx => hv ⟨s, H, C, cl, fp⟩ x hx) hs) fun σ H Q ⟨B, en, ex, q⟩ => ?_
  refine ⟨B, en, ex, fun J B1 H1 g1 it d hd => ?_⟩
  have hB1 : B1 d = none := g1.i.back hd
  refine ⟨fun i m H => m = xs.length - i ∧ i ≤ xs.length ∧ ∃ Bi, Go no B1 H1 Bi H ∧ Bi d = none ∧ H d = some (.dT (embT ((xs.take i).map fun x => (fk x, fv x)))), ⟨xs.length, rfl, Nat.zero_le _, B1, Go.newH g1.i hd, hB1, by rw [List.take_zero]; exact upd_same⟩, ?_⟩
  rintro i m H ⟨rfl, hi, Bi, gi, hbi, hDi⟩
  by_cases hlt : i < xs.length
  · refine .inr ⟨it.go i H (gi.b.tr gi.i) hlt, fun H' => ∃ B', Go no B1 H1 B' H' ∧ B' d = none ∧ H' d = some (.dT (embT ((xs.take (i + 1)).map fun x => (fk x, fv x)))), fun H' ⟨B', k1, k2, k3⟩ => ⟨xs.length - (i + 1), by omega, rfl, hlt, B', k1, k2, k3⟩, fun v H' hy => ?_⟩
    have hx : xs[i]? = some xs[i] := List.getElem?_eq_getElem hlt
    have hmem : xs[i] ∈ xs := List.getElem_mem hlt
    have htk : xs.take (i + 1) = xs.take i ++ [xs[i]] := by rw [List.take_add_one, hx]; rfl
    obtain ⟨B', g', rv⟩ := it.yld i H v H' Bi _ gi.b gi.i hx hy
    have hb' : B' d = none := g'.n d (by rw [hDi]; simp) hbi
    have hd' := g'.hx _ _ hDi
    refine ⟨gwipe Γ (own.map (·.2)), B', xs[i], ((en.mono (g1.tr (gi.tr g')).b).wipe _), g'.i, rv, fun σ2 en2 hw2 => ⟨(hw2 _ hts).trans (wipe_wipe fun i hi => hi), xs[i], hmem, B', en2, g'.i, fun B2 H2 g2 => iteT ⟨xs[i], hmem, B2, en2.mono g2.b, g2.i, fun y B3 H3 g3 ry => ⟨xs[i], hmem, B3, en2.mono (g2.tr g3).b, g3.i, fun z B4 H4 g4 rz => ?_⟩⟩⟩⟩
    have hb2 : B2 d = none := g2.n d (by rw [hd']; simp) hb'
    have hd2 := g2.hx _ _ hd'
    have hb3 : B3 d = none := g3.n d (by rw [hd2]; simp) hb2
    have hd3 := g3.hx _ _ hd2
    have hb4 : B4 d = none := g4.n d (by rw [hd3]; simp) hb3
    have hd4 := g4.hx _ _ hd3
    obtain ⟨t, u1, u2, ey, et, e1, e2⟩ := ry
    have e1 : u1 = .int (fk xs[i]).1 := e1
    have e2 : u2 = .int (fk xs[i]).2 := e2
    have rz : z = .bl (fv xs[i]) := rz
    subst ey e1 e2 rz
    refine ⟨_, [Sum.inl (fk xs[i]).1, Sum.inl (fk xs[i]).2], t, rfl, g4.hx _ _ (g3.i _ _ et), hd4, ?_, B4, (((((gi.tr g').tr g2).tr g3).tr g4).mut hb4 (.inl hd)) , hb4, ?_⟩
    · have e0 : ((xs.take i).map fun x => (fk x, fv x)).length ≤ 1000 := by rw [List.length_map, List.length_take]; omega
      unfold embT
      rw [List.length_map]
      exact bigL (Nat.lt_of_le_of_lt e0 (by decide))
    · have hk' : fk xs[i] ∉ ((xs.take i).map fun x => (fk x, fv x)).map (·.1) := fun z => by
        rw [List.map_map] at z
        have e : xs.map fk = (xs.take i).map fk ++ (xs.drop i).map fk := by rw [← List.map_append, List.take_append_drop]
        rw [e, List.drop_eq_getElem_cons hlt, List.map_cons] at hnd
        exact (List.nodup_append.mp hnd).2.2 _ z _ List.mem_cons_self rfl
      rw [upd_same, putK_embT hk', htk, List.map_append]
      rfl
  · have e : i = xs.length := by omega
    subst e
    rw [List.take_length] at hDi
    exact .inl ⟨it.stop H (gi.b.tr gi.i), q _ _ H (g1.tr (gi.show hbi hd hDi)) ⟨d, rfl, upd_same⟩⟩
/-- d[i, j] -/
theorem ee_dgetT {ks : List ((Int × Int) × Bool)} {k : Int × Int} {x : Bool} (hu : X.A.units + 1 < cLine) (ha : EE X Γ rDt a ks) (hb : EE X Γ (rPn rInt rInt) b k) (hx : getT ks k = some x) (hs : NoSl b := by exact fun _ _ => rfl) : EE X Γ rBl (.Subscript a b pos) x :=
  PE.imp (pe_dget hu ha hb hs) fun σ H Q ⟨B, en, ex, q⟩ => ⟨B, en, ex, fun v B1 H1 g1 ⟨d, e1, e2⟩ => ⟨B1, en.mono g1.b, g1.i, fun y B2 H2 g2 ⟨t, u1, u2, f1, f2, f3, f4⟩ => by
    have f3 : u1 = .int k.1 := f3
    have f4 : u2 = .int k.2 := f4
    subst f1 f3 f4
    refine ⟨d, .bl x, e1, ?_, q _ B2 H2 (g1.tr g2) rfl⟩
    have := DGet.t (k := [Sum.inl k.1, Sum.inl k.2]) (g2.hx _ _ (g1.i _ _ e2)) (g2.i _ _ f2)
    rw [valV_embT, hx] at this
    exact this⟩⟩
end
end K81
set_option Elab.async false
set_option linter.all false
set_option maxRecDepth 100000
set_option maxHeartbeats 1900000
namespace K81
open PySem L2
/-! ### lists of counties, found equal -/
section
variable {X : Cx} {Γ : List Slot} {a b : Expr} {pos : Pos} {k : Nat} {Cc : Addr}
abbrev spEqC (K : Fr) (Cc : Addr) : Sp := Pm2 (rCty K Cc) (rCty K Cc) rBl (fun _ _ => True) fun a b => decide (a = b)
def sameC (K : Fr) (Cc : Addr) (a b : Addr) (H : Hp) : Prop := ∃ c, (rCty K Cc).rep H (.ref a) c ∧ (rCty K Cc).rep H (.ref b) c
theorem eb_neCtys {xs : List Form} (cl : Spm X.prog X.w X.K X.mg X.base 3 Cc "__eq__" (spEqC X.K Cc)) (hr : Room k X.A) (ha : EE X Γ (rLst X.K (rCty X.K Cc)) a xs) (hb : EE X Γ (rLst X.K (rCty X.K Cc)) b xs) (hk : 4 ≤ k := by decide) : EB X Γ (.Compare a [.NotEq] [b] pos) false := by
  obtain ⟨g, c, fd, ps, F, bi⟩ := cl
  have F2 : FnOk X.prog X.w X.K X.mg X.base CX0 3 g fd ps (spEq (sameC X.K Cc)) := F.imp fun vs H Q E ⟨p, q, e, ⟨c, r1, r2⟩, kq⟩ => ⟨H, (c, c), Ex.rfl', by rw [e]; exact .cons r1 (.cons r2 .nil), trivial, fun u B2 H2 g2 ru => by
    have ru : u = V.bl (decide (c = c)) := ru
    rw [ru, decide_eq_true rfl]
    exact kq H2 fun a o h => g2.hx a o h⟩
  have mo : Mon (DIns Cc (sameC X.K Cc)) := mon_ins fun a b H H' e ⟨c, r1, r2⟩ => ⟨c, RT.mono _ (fun a o h => e a o h) r1, RT.mono _ (fun a o h => e a o h) r2⟩
  exact eb_cmp (op_neG mo (eqG_ins (X := X) F2 c.at_ c.fn bi pass0) (hr.mono hk)) ha hb (fun u v B H Q ex ⟨p, vs, e1, e2, e3⟩ ⟨q, ws, f1, f2, f3⟩ k => ⟨⟨p, q, vs, ws, e1, f1, ex _ _ e2, ex _ _ f2, by rw [e3.len, f3.len], fun i x y hx hy => by
    obtain ⟨c1, h1, h2⟩ := e3.getV hx
    obtain ⟨c2, h3, h4⟩ := f3.getV hy
    rw [h1] at h3
    cases h3
    obtain ⟨h0, p1, dx, us, rfl, k2, k3⟩ := id h2
    obtain ⟨h0', p2, dy, us', rfl, k2', k3'⟩ := id h4
    exact ⟨p1, p2, dx, dy, us, us', rfl, rfl, ex _ _ k2, ex _ _ k2', c1, RT.mono _ ex h2, RT.mono _ ex h4⟩⟩, fun H' e => k B H' ⟨Ex.rfl', fun a o _ h => e a o h, ex.tr (fun a o h => e a o h), fun _ _ q => q, fun a h0 => by
      cases z : H a with
      | none => exact absurd z h0
      | some o => rw [e a o z]; simp⟩⟩) (nomark b)
end
/-! ### reading a script off a told table -/
def cAt (told : List Form) (i : Int) : Form := (told[i.toNat]?).getD []
def leastL (told : List Form) : List Int := (rangeI 1 (7 + 1)).filter fun s => decide (0 < townsM (cAt told (s - 1)))
def rows7 : List (Int × Int) := (rangeI 1 (7 + 1)).flatMap fun p => (rangeI p (7 + 1)).map fun s => (p, s)
def staysL (told : List Form) : List ((Int × Int) × Bool) := (rows7.zip (told.drop 7)).map fun x => (x.1, hasTown x.2 x.1.2)
def least0 (told : List Form) : Int := (leastL told).headD 0
def enoughOf (told : List Form) (p : Int) : List Int := (rangeI (max p (least0 told)) (7 + 1)).filter fun s => (getT (staysL told) (p, s)).getD false
def foundL (told : List Form) : List Int := (rangeI 1 (least0 told + 1)).map fun p => (enoughOf told p).headD 0 - p + 1
def formOff (told : List Form) : Form := joined (sortP ((foundL told).map fun n => (n, n)))
def readOff (told : List Form) : List Stp := plainSteps (formOff told)
def readOk (told : List Form) : Bool := decide (told.length = 35) && (decide (0 < (leastL told).length) && ((rangeI 1 (least0 told + 1)).all (fun p => decide (0 < (enoughOf told p).length)) && (decide (foundL told).Nodup && (decide (((foundL told).length : Int) = least0 told) && (decide ((formOff told).length ≤ 50) && (decide (0 ≤ leastIn (formOff told)) && decide ((tableM 7).map (runSteps (readOff told)) = told)))))))
end K81
set_option Elab.async false
set_option linter.all false
set_option maxRecDepth 100000
set_option maxHeartbeats 1900000
namespace K81
open PySem L2
section
variable {P : Program} {w : World} {K : Fr} {mg : Str → Option Value} {base : Heap} {f : Addr} {fd : FuncData} {C Cc Cs Cr : Addr} {tk tk2 tk3 : Tok}
theorem cAt_at {told : List Form} {i : Int} (h0 : 0 ≤ i) (h1 : i < told.length) : atI told i = some (cAt told i) := by
  have e : told[i.toNat]? = some (told[i.toNat]'(by omega)) := List.getElem?_eq_getElem _
  unfold atI ixN cAt
  rw [if_pos h0, if_pos h1, e]
  exact e
theorem head_at {l : List Int} (h : 0 < l.length) : atI l 0 = some (l.headD 0) := by
  cases l with
  | nil => exact absurd h (by simp)
  | cons x l =>
    unfold atI ixN
    rw [if_pos (Int.le_refl 0), if_pos (by simp only [List.length_cons]; omega)]
    rfl
theorem rows7_len : rows7.length = 28 := by decide +kernel
theorem rows7_nd : rows7.Nodup := by decide +kernel
theorem stays_keys {told : List Form} (h : told.length = 35) : (staysL told).map (·.1) = rows7 := by
  unfold staysL
  rw [List.map_map]
  show (rows7.zip (told.drop 7)).map Prod.fst = rows7
  exact List.map_fst_zip (by rw [rows7_len, List.length_drop, h]; decide)
theorem getT_mem {ks : List ((Int × Int) × Bool)} {k : Int × Int} (h : k ∈ ks.map (·.1)) : getT ks k = some ((getT ks k).getD false) := by
  obtain ⟨p, hp, e⟩ := List.mem_map.mp h
  cases z : getT ks k with
  | some b => rfl
  | none =>
    unfold getT at z
    rw [Option.map_eq_none_iff, List.find?_eq_none] at z
    exact absurd (decide_eq_true e) (z p hp)
theorem rows7_mem {p s : Int} (h1 : 1 ≤ p) (h2 : p ≤ s) (h3 : s < 8) : (p, s) ∈ rows7 := List.mem_flatMap.mpr ⟨p, rangeI_mem.mpr ⟨h1, by omega⟩, List.mem_map.mpr ⟨s, rangeI_mem.mpr ⟨h2, by omega⟩, rfl⟩⟩
abbrev spReadOff (K : Fr) (C Cs Cc : Addr) : Sp := Pm2 rInt (rTup K (rCty K Cc)) (rScr K C Cs) (fun m told => m = 7 ∧ readOk told = true) (fun _ told => readOff told)
theorem leastL_range {told : List Form} (h : 0 < (leastL told).length) : 1 ≤ least0 told ∧ least0 told < 8 := by
  have hm : least0 told ∈ leastL told := by
    unfold least0
    cases e : leastL told with
    | nil => rw [e] at h; exact absurd h (by simp)
    | cons x l => simp
  unfold leastL at hm
  have := rangeI_mem.mp (List.mem_filter.mp hm).1
  omega
theorem ok_read_off (T : Bn mg) (Yc : CtyF K mg Cc) (Y : ScrF K mg C) (c13 : Cal P w K mg base 2 "tupled" (Pm1 (rTup K (rCty K Cc)) (rTup K (rCty K Cc)) (fun l => l.length ≤ 1000) id)) (c73 : Cal P w K mg base 5 "telling_table" (Pm1 rInt (rTup K (rCty K Cc)) (fun m => m = 7) tableM)) (ct : Prp P w K mg base 1 Cc "towns" (Pm1 (rCty K Cc) rInt (fun _ => True) townsM))
    (c75 : Cal P w K mg base 2 "size_in" (Pm2 (rCty K Cc) (rPr K rInt rInt) rBl (fun _ _ => True) fun c p => hasTown c p.2)) (c5 : Cal P w K mg base 1 "joined" (Pm1 (rSeq K (rPr K rInt rInt)) (rForm K) (fun runs => runs.length ≤ 1000) joined)) (c58 : Cal P w K mg base 7 "script_with" (spScriptWith K C Cs)) (cc : Cll P w K mg base 6 C (Pm2 (rScr K C Cs) (rCty K Cc) (rCty K Cc) (fun _ _ => True) runSteps)) (ce : Spm P w K mg base 3 Cc "__eq__" (spEqC K Cc))
    (F : Fun K "read_off" "read_off" (tS 74) f fd) : FnE P w K mg base 8 f (spReadOff K C Cs Cc) := by
  refine fn_pm F sc74 (fun _ => rfl) (fun _ _ _ _ _ _ us hl => match us, hl with | [_, _], _ => rfl) fun q B0 H0 y hr hp => ?_
  obtain ⟨m, told⟩ := y
  obtain ⟨hm, hok⟩ : m = 7 ∧ readOk told = true := hp
  subst hm
  simp only [readOk, Bool.and_eq_true, decide_eq_true_eq, List.all_eq_true] at hok
  obtain ⟨k1, k2, k3, k4, k5, k6, k7, k8⟩ := hok
  have hr0 := leastL_range k2
  have hcell : ∀ {M : Mem}, EM (cxE P w K mg base N74 "read_off" (tS 74) f q) (g0 [dt rInt 7, dt (rTup K (rCty K Cc)) told] 15) M rInt (.Constant (.int 7) 0 default) 7 := EE.m ee_int
  refine tr_tg (x := (told, rangeI 1 (7 + 1))) (EE.m (ee_pr (s := rLst K rInt) (ee_eq (ee_call1 c13 hr (ee_var 1 rfl) (by show told.length ≤ 1000; omega)) rfl) (ee_listRg rfl T.list T.range ee_int (ee_add (ee_var 0 rfl) ee_int) (RgOk.of_le (by decide) (by decide) (by decide) (by decide))))) (et_pr rfl (et_name 2 sc74.nd) (et_name 3 sc74.nd)) ?_
  show Tr _ (At no B0 H0 B0 [sl rInt 7, sl (rTup K (rCty K Cc)) told, sl (rTup K (rCty K Cc)) told, sl (rLst K rInt) (rangeI 1 (7 + 1)), none, none, none, none, none, none, none, none, none, none, none] mE) _ _
  refine tr_ifF (EB.m (eb_eq (eb_neI (ee_len T.len (ee_seqT (ee_var 2 rfl))) (ee_len T.len (ee_seqT (ee_call1 c73 hr (ee_var 0 rfl) rfl)))) ?_)) (tr_go ?_)
  · have e : (tableM 7).length = 35 := by decide +kernel
    show (!decide ((told.length : Int) = ((tableM 7).length : Int))) = false
    rw [e, k1]
    rfl
  refine tr_setc (ea_lcIf (s := rInt) (g := id) (p := fun s => decide (0 < townsM (cAt told (s - 1)))) 4 (own := [("size", 5)]) (N := N74) (sc := defScope (tS 74)) rfl sc74.nd (by decide +kernel) (ei_lst (ee_var 3 rfl)) (fun q => et_name 5 sc74.nd)
    (fun q x hx => eb_gt (ee_prop ct hr Yc.isc.cl (ee_ixT (ee_var 2 rfl) (ee_sub (ee_var 5 rfl) ee_int) (cAt_at (by have := rangeI_mem.mp hx; omega) (by have := rangeI_mem.mp hx; omega))) trivial) ee_int) (fun q x hx _ => ee_var 5 rfl) (by decide +kernel)) ?_
  rw [List.map_id]
  refine tr_setc (ea_lc2 (u := rPn rInt rInt) (g := fun p s => (p, s)) 6 (own := [("place", 7), ("size", 5)]) (vs1 := [5]) (N := N74) (sc := defScope (tS 74)) rfl sc74.nd (by decide +kernel) (ei_lst (ee_var 3 rfl)) (fun q => et_name 7 sc74.nd)
    (fun q x hx => ei_range2 T.range (ee_var 7 rfl) (ee_add (ee_var 0 rfl) ee_int) (by have := rangeI_mem.mp hx; show -(2 ^ 62) ≤ x ∧ x < 2 ^ 62 ∧ -(2 ^ 62) ≤ (7 + 1 : Int) ∧ (7 + 1 : Int) < 2 ^ 62; omega)) (fun q => et_name 5 sc74.nd) (fun q x hx z hz => ee_prN (ee_var 7 rfl) (ee_var 5 rfl)) (by decide +kernel)) ?_
  refine tr_set 8 sc74.nd (y := staysL told) (EE.m (ee_dcT (r := rPr K (rPn rInt rInt) (rCty K Cc)) (xs := rows7.zip (told.drop 7)) (fk := fun x => x.1) (fv := fun x => hasTown x.2 x.1.2) hr.units0 rfl sc74.nd (own := [("pair", 9), ("county", 10)]) (N := N74) (sc := defScope (tS 74)) (by decide +kernel)
    (ei_zipM T.zip (ee_var 6 rfl) (ee_eq (ee_slT (ee_var 2 rfl) (eo_some (ee_var 0 rfl)) eo_none) (cut_fromI told (by decide))) (by show rows7.length = _; rw [rows7_len, List.length_drop, k1])) (fun q => et_pr rfl (et_name 9 sc74.nd) (et_name 10 sc74.nd)) (fun q x hx => ee_var 9 rfl)
    (fun q x hx => ee_eq (ee_call2 c75 hr (ee_var 10 rfl) (ee_imp (s := rPr K rInt rInt) (ee_var (r := rPn rInt rInt) 9 rfl) fun H v ⟨a, u1, u2, e1, e2, e3, e4⟩ => ⟨a, u1, u2, e1, .inl (.inl e2), e3, e4⟩) trivial) rfl) ?_ ?_)) ?_
  · show ((rows7.zip (told.drop 7)).map fun x => x.1).Nodup
    rw [show ((rows7.zip (told.drop 7)).map fun x => x.1) = rows7 from List.map_fst_zip (by rw [rows7_len, List.length_drop, k1]; decide)]
    exact rows7_nd
  · rw [List.length_zip, rows7_len]; omega
  refine tr_ifF (EB.m (eb_eq (eb_eqI (ee_len T.len (ee_seqL (ee_var (r := rLst K rInt) 4 rfl))) ee_int) (decide_eq_false (by show ¬ (((leastL told).length : Int) = 0); omega)))) (tr_go ?_)
  refine tr_new (s := rInt) (xs := []) 11 sc74.nd el_nil (by decide) fun o ho => ?_
  have hl0 := head_at k2
  have hst : ∀ p s, 1 ≤ p → p ≤ s → s < 8 → getT (staysL told) (p, s) = some ((getT (staysL told) (p, s)).getD false) := fun p s h1 h2 h3 => getT_mem (by rw [stays_keys k1]; exact rows7_mem h1 h2 h3)
  refine tr_fold (xs := rangeI 1 (least0 told + 1)) (fun acc p => acc ++ [(enoughOf told p).headD 0 - p + 1]) [] (fun _ => [sl rInt 7, none, sl (rTup K (rCty K Cc)) told, none, sl (rLst K rInt) (leastL told), none, none, none, sl rDt (staysL told), none, none, sl (rAdr o) (), none, none, none]) (fun acc => mA mE (mL no H0 o rInt acc)) (fun i acc => acc.length ≤ i) rfl
    (ei_range2 T.range ee_int (ee_add (ee_ixL (ee_var 4 rfl) ee_int hl0) ee_int) (by show -(2 ^ 62) ≤ (1 : Int) ∧ (1 : Int) < 2 ^ 62 ∧ -(2 ^ 62) ≤ least0 told + 1 ∧ least0 told + 1 < 2 ^ 62; omega)) (et_name 7 sc74.nd) (Nat.le_refl _) (fun i x b hx hb => by rw [List.length_append]; exact Nat.succ_le_succ hb) (by repeat constructor) (fun _ _ h => h) (fun BX e i x b hx hb => ?_) fun hb => ?_
  · have hxm : x ∈ rangeI 1 (least0 told + 1) := List.mem_of_getElem? hx
    have hxr := rangeI_mem.mp hxm
    have hen := k3 x hxm
    refine tr_setc (ea_lcIf (s := rInt) (g := id) (p := fun s => (getT (staysL told) (x, s)).getD false) (xs := rangeI (max x (least0 told)) (7 + 1)) 12 (own := [("size", 5)]) (N := N74) (sc := defScope (tS 74)) rfl sc74.nd (by decide +kernel)
      (ei_range2 T.range (ee_max2 rfl T.max (ee_var 7 rfl) (ee_ixL (ee_var 4 rfl) ee_int hl0)) (ee_add (ee_var 0 rfl) ee_int) (by show -(2 ^ 62) ≤ max x (least0 told) ∧ max x (least0 told) < 2 ^ 62 ∧ -(2 ^ 62) ≤ (7 + 1 : Int) ∧ (7 + 1 : Int) < 2 ^ 62; omega)) (fun q => et_name 5 sc74.nd)
      (fun q z hz => eb_val (ee_dgetT (hu_of hr) (ee_var 8 rfl) (ee_prN (ee_var 7 rfl) (ee_var 5 rfl)) (hst x z hxr.1 (by have := rangeI_mem.mp hz; omega) (by have := rangeI_mem.mp hz; omega)))) (fun q z hz _ => ee_var 5 rfl) ?_) ?_
    · have : (rangeI (max x (least0 told)) (7 + 1)).length = (7 + 1 - max x (least0 told)).toNat := by unfold rangeI; simp
      omega
    rw [List.map_id]
    refine tr_ifF (EB.m (eb_eq (eb_eqI (ee_len T.len (ee_seqL (ee_var (r := rLst K rInt) 12 rfl))) ee_int) (decide_eq_false (by show ¬ (((enoughOf told x).length : Int) = 0); omega)))) (tr_go ?_)
    have hi : i < 100 := by
      have h1 := (List.getElem?_eq_some_iff.mp hx).1
      have h2 : (rangeI 1 (least0 told + 1)).length = (least0 told + 1 - 1).toNat := by unfold rangeI; simp
      omega
    exact tr_app (EE.m (ee_add (ee_sub (ee_ixL (ee_var (r := rLst K rInt) 12 rfl) ee_int (head_at hen)) (ee_var 7 rfl)) ee_int)) (ee_var 11 rfl) (by omega) mE_free (tr_done rfl (by repeat constructor) fun _ _ z => z)
  · have hf : (rangeI 1 (least0 told + 1)).foldl (fun acc p => acc ++ [(enoughOf told p).headD 0 - p + 1]) [] = foundL told := by
      unfold foundL
      generalize rangeI 1 (least0 told + 1) = l
      have : ∀ (acc : List Int), l.foldl (fun acc p => acc ++ [(enoughOf told p).headD 0 - p + 1]) acc = acc ++ l.map fun p => (enoughOf told p).headD 0 - p + 1 := by
        induction l with
        | nil => intro acc; simp
        | cons x l ih => intro acc; rw [List.foldl_cons, ih]; simp
      rw [this]; rfl
    rw [hf]
    have hfl : (foundL told).length ≤ 7 := by omega
    have hsl : (sortP ((foundL told).map fun n => (n, n))).length ≤ 1000 := by rw [perm_sortP.length_eq, List.length_map]; omega
    refine tr_set 13 sc74.nd (y := joined (sortP ((foundL told).map fun n => (n, n)))) (EE.op 11 (ee_call1 c5 hr (ee_seqL (ee_sortP T.sorted (ee_lc (s := rPn rInt rInt) (g := fun n => (n, n)) (own := [("number", 14)]) (N := N74) (sc := defScope (tS 74)) rfl sc74.nd (by decide +kernel) (ei_lst (ee_var 11 rfl)) (fun q => et_name 14 sc74.nd) (fun q x hx => ee_prN (ee_var 14 rfl) (ee_var 14 rfl)) (by omega)))) hsl) (fz_form noTupL) rfl) ?_
    refine tr_ifF (EB.op 11 (eb_eq (eb_or (y := false) (eb_neI (ee_lenSet rfl T.len T.set (ee_var 11 rfl) (by omega) k4) (ee_ixL (ee_var 4 rfl) ee_int hl0)) fun _ => eb_neCtys (xs := told) ce hr (ee_eq (ee_lc (s := rCty K Cc) (g := runSteps (readOff told)) (own := [("county", 10)]) (N := N74) (sc := defScope (tS 74)) rfl sc74.nd (by decide +kernel) (ei_tup (ee_call1 c73 hr (ee_var 0 rfl) rfl)) (fun q => et_name 10 sc74.nd) (fun q x hx => ee_eq (ee_callO cc hr (ee_call1 (x := formOff told) c58 hr (ee_var 13 rfl) ⟨k6, k7⟩) (ee_var 10 rfl) trivial) rfl) (by decide +kernel)) k8) (ee_listOf T.list (ee_seqT (ee_var 2 rfl)))) ?_) rfl) (tr_go ?_)
    · show (!decide (((foundL told).length : Int) = least0 told) || false) = false
      rw [decide_eq_true k5]; rfl
    · exact tr_rtE (y := readOff told) (EE.m (ee_call1 (x := formOff told) c58 hr (ee_var 13 rfl) ⟨k6, k7⟩)) rfl
end
end K81
set_option Elab.async false
set_option linter.all false
set_option maxRecDepth 100000
set_option maxHeartbeats 1900000
namespace K81
open PySem L2
/-! ### the urn: a list of three ints -/
structure UOk (x1 x2 n : Int) : Prop where
  a : 0 ≤ x1
  b : x1 < 2 ^ 62
  c : 0 ≤ x2
  d : x2 ≤ n
def mU (w : Addr → Prop) (H0 : Hp) (u : Addr) (n : Int) : Mem := ⟨fun B H => ∃ x0 x1 x2, UOk x1 x2 n ∧ (mL w H0 u rInt [x0, x1, x2]).ok B H, fun g ⟨x0, x1, x2, h1, h2⟩ => ⟨x0, x1, x2, h1, (mL _ _ _ _ _).st g h2⟩⟩
/-- an answer that is an address -/
def rRef : RT Addr := ⟨fun _ v y => v = .ref y, fun _ h => h⟩
section
variable {X : Cx} {Γ Γ' : List Slot} {M M' : Mem} {α β γ : Type} {r : RT α} {s : RT β} {tg a b e o : Expr} {es elts : List Expr} {pos p2 p tpos apos : Pos} {n : Str} {kk j k : Nat} {w : Addr → Prop} {B0 H0 BX : Hp} {D D' : Ends} {rest ss : List Stmt}
theorem tr_mex {ι : Type} {P : ι → Prop} {Mi : ι → Mem} (h : ∀ B H, M.ok B H → ∃ i, P i ∧ (Mi i).ok B H) (k : ∀ i, P i → Tr X (At w B0 H0 BX Γ (Mi i)) ss D) : Tr X (At w B0 H0 BX Γ M) ss D := fun pins s σ H J ⟨B, g, bx, en, m⟩ => by
  obtain ⟨i, hp, m⟩ := h B H m
  exact k i hp pins s σ H J ⟨B, g, bx, en, m⟩
theorem tr_rtF {x : β} {post : β → Prop} {M2 : β → Mem} (h : EM X Γ M s e x) (hp : post x) (hm : ∀ B H, M.ok B H → (M2 x).ok B H) (hD : D.rt = RtE w B0 H0 s post M2 := by rfl) : Tr X (At w B0 H0 BX Γ M) (.Return (some e) pos :: rest) D := tr_ret h fun v B H g m r => by rw [hD]; exact ⟨B, x, g, hp, hm _ _ m, r⟩
end
structure TkA where
  u : Addr
  n : Int
  low : Int
abbrev spTake : Sp := PmE (A := TkA) (β := Int) (fun x => [dt (rAdr x.u) (), dt rInt x.low]) (fun x a => a = x.u) (fun x H => mU (fun a => a = x.u) H x.u x.n) (fun x => 0 < x.low ∧ x.low < 1000000 ∧ x.n < 1000000) rInt (fun x y => 0 ≤ y ∧ y < x.low) (fun x _ H => mU (fun a => a = x.u) H x.u (x.n + 1))
section
variable {P : Program} {w : World} {K : Fr} {mg : Str → Option Value} {base : Heap} {f : Addr} {fd : FuncData} {C Cc Cs Cr : Addr} {tk tk2 tk3 : Tok}
theorem ok_law_take (T : Bn mg) (F : Fun K "_law_take" "_law_take" (tS 79) f fd) : FnE P w K mg base 1 f spTake := by
  refine fn_eff F sc79 (fun _ => rfl) (fun _ _ _ _ _ _ us hl => match us, hl with | [_, _], _ => rfl) fun q B0 H0 y hr hp => ?_
  obtain ⟨u, n, low⟩ := y
  obtain ⟨h1, h2, h3⟩ : 0 < low ∧ low < 1000000 ∧ n < 1000000 := hp
  refine tr_mex (ι := Int × Int × Int) (P := fun i => UOk i.2.1 i.2.2 n) (Mi := fun i => mA mE (mL (fun a => a = u) H0 u rInt [i.1, i.2.1, i.2.2])) (fun B H ⟨x0, x1, x2, z1, z2⟩ => ⟨(x0, x1, x2), z1, trivial, z2⟩) fun ⟨x0, x1, x2⟩ hu => ?_
  have hu : UOk x1 x2 n := hu
  obtain ⟨ha, hb, hc, hd⟩ := hu
  refine tr_if (EB.op (s := rInt) (xs := [x0, x1, x2]) 0 (eb_gt (ee_ixL (ee_var 0 rfl) ee_int (x := x0) rfl) ee_int) rfl) (fun h => ?_) (fun h => tr_go ?_)
  · refine tr_set 2 sc79.nd (EE.op (s := rInt) (xs := [x0, x1, x2]) 0 (ee_mod (ee_intI T.int (ee_ixL (ee_var 0 rfl) ee_int (x := x0) rfl)) (ee_var 1 rfl) h1) fz_int rfl) ?_
    refine tr_put (j := 0) (EE.op (s := rInt) (xs := [x0, x1, x2]) 0 (ee_fdiv (ee_ixL (ee_var 0 rfl) ee_int (x := x0) rfl) (ee_var 1 rfl) ⟨h1, by omega⟩) fz_int rfl) (ee_var 0 rfl) ee_int rfl mE_free ?_
    exact tr_rtF (post := fun y => 0 ≤ y ∧ y < low) (M2 := fun _ => mU (fun a => a = u) H0 u (n + 1)) (x := x0 % low) (EE.m (ee_var 2 rfl)) ⟨Int.emod_nonneg _ (by omega), Int.emod_lt_of_pos _ h1⟩ fun B H z => ⟨x0 / low, x1, x2, ⟨ha, hb, hc, by omega⟩, z.2⟩
  · refine tr_put (j := 2) (EE.op (s := rInt) (xs := [x0, x1, x2]) 0 (ee_add (ee_ixL (ee_var 0 rfl) ee_int (x := x2) rfl) ee_int) fz_int rfl) (ee_var 0 rfl) ee_int rfl mE_free ?_
    refine tr_set 3 sc79.nd (EE.op (s := rInt) (xs := [x0, x1, x2 + 1]) 0 (ee_mod (ee_intI T.int (ee_mul (ee_add (ee_ixL (ee_var 0 rfl) ee_int (x := x1) rfl) (ee_mul ee_int (ee_ixL (ee_var 0 rfl) ee_int (x := x2 + 1) rfl) (.inl ⟨by decide, by decide⟩))) (ee_add ee_int (ee_ixL (ee_var 0 rfl) ee_int (x := x2 + 1) rfl)) (.inr ⟨by omega, by omega⟩))) ee_int (by decide)) fz_int rfl) ?_
    generalize ho : ((x1 + 48271 * (x2 + 1)) * (39373 + (x2 + 1))) % 2147483647 = once
    have o1 : 0 ≤ once := ho ▸ Int.emod_nonneg _ (by decide)
    have o2 : once < 2147483647 := ho ▸ Int.emod_lt_of_pos _ (by decide)
    refine tr_set 4 sc79.nd (EE.m (ee_add (ee_mod (ee_intI T.int (ee_var 3 rfl)) ee_int (by decide)) ee_int)) ?_
    generalize hf : once % 40009 + 7 = far
    have f1 : 0 ≤ far := by have := Int.emod_nonneg once (b := 40009) (by decide); omega
    have f2 : far < 50000 := by have := Int.emod_lt_of_pos once (b := 40009) (by decide); omega
    refine tr_set 5 sc79.nd (EE.op (s := rInt) (xs := [x0, x1, x2 + 1]) 0 (ee_mod (ee_intI T.int (ee_mul (ee_add (ee_add (ee_var 3 rfl) (ee_ixL (ee_var 0 rfl) ee_int (x := x2 + 1) rfl)) (ee_fdiv (ee_ixL (ee_var 0 rfl) ee_int (x := x1) rfl) ee_int ⟨by decide, by decide⟩)) (ee_var 4 rfl) (.inr ⟨by omega, by omega⟩))) ee_int (by decide)) fz_int rfl) ?_
    generalize ht : ((once + (x2 + 1) + x1 / 1000003) * far) % 2147483629 = twice
    have t1 : 0 ≤ twice := ht ▸ Int.emod_nonneg _ (by decide)
    have t2 : twice < 2147483629 := ht ▸ Int.emod_lt_of_pos _ (by decide)
    exact tr_rtF (post := fun y => 0 ≤ y ∧ y < low) (M2 := fun _ => mU (fun a => a = u) H0 u (n + 1)) (EE.m (ee_mod (ee_intI T.int (ee_fdiv (ee_mod (ee_intI T.int (ee_add (ee_mul (ee_var 5 rfl) ee_int (.inr ⟨by decide, by decide⟩)) (ee_var 3 rfl))) ee_int (by decide)) ee_int ⟨by decide, by decide⟩)) (ee_var 1 rfl) h1)) ⟨Int.emod_nonneg _ (Int.ne_of_gt h1), Int.emod_lt_of_pos _ h1⟩ fun B H z => ⟨x0, x1, x2 + 1, ⟨ha, hb, by show 0 ≤ x2 + 1; omega, by show x2 + 1 ≤ n + 1; omega⟩, z.2⟩
end
end K81
set_option Elab.async false
set_option linter.all false
set_option maxRecDepth 100000
set_option maxHeartbeats 1900000
namespace K81
open PySem L2
/-- the urn at u, n draws at most behind it -/
abbrev mV (u : Addr) (n : Int) (H0 : Hp) : Mem := mU (fun a => a = u) H0 u n
theorem mV_re {u : Addr} {n : Int} {H0 H1 B H : Hp} (h : (mV u n H0).ok B H) : (mV u n H1).ok B H := let ⟨x0, x1, x2, h1, f, _, z⟩ := h; ⟨x0, x1, x2, h1, f, .inr rfl, z⟩
/-- an expression that may draw -/
def tF (Γ : List Slot) (u : Addr) (n n' : Int) {α : Type} (r : RT α) (post : α → Prop) : TE := fun σ H Q => ∃ B, Env B Γ σ ∧ Ex B H ∧ (mV u n H).ok B H ∧ ∀ v y B2 H2, Go (fun a => a = u) B H B2 H2 → post y → (mV u n' H).ok B2 H2 → r.rep B2 v y → Q v H2
def EF (X : Cx) (Γ : List Slot) (u : Addr) (n n' : Int) {α : Type} (r : RT α) (e : Expr) (post : α → Prop) : Prop := PE X e (tF Γ u n n' r post)
/-- a promise that draws -/
abbrev PmU {A β : Type} (uu : A → Addr) (n n' : A → Int) (ds : A → List Dat) (pre : A → Prop) (s : RT β) (post : A → β → Prop) : Sp := PmE ds (fun x a => a = uu x) (fun x H => mV (uu x) (n x) H) pre s post (fun x _ H => mV (uu x) (n' x) H)
section
variable {X : Cx} {Γ Γ' : List Slot} {M M' : Mem} {α β γ : Type} {r : RT α} {s : RT β} {tg a b e o : Expr} {es elts : List Expr} {pos p2 p tpos apos : Pos} {m : Str} {kk j k : Nat} {w : Addr → Prop} {B0 H0 BX : Hp} {D D' : Ends} {rest ss : List Stmt} {u : Addr} {n n1 n2 : Int}
theorem ef_pure {x : α} (h : EE X Γ r e x) : EF X Γ u n n r e (fun y => y = x) := PE.imp h fun σ H Q ⟨B, en, ex, m, q⟩ => ⟨B, en, ex, fun v B2 H2 g rv => q v x B2 H2 g.w rfl ((mV u n H).st g m) rv⟩
theorem EF.imp {p q : α → Prop} (h : EF X Γ u n n1 r e p) (k : ∀ y, p y → q y) : EF X Γ u n n1 r e q := PE.imp h fun σ H Q ⟨B, en, ex, m, qq⟩ => ⟨B, en, ex, m, fun v y B2 H2 g hp => qq v y B2 H2 g (k y hp)⟩
/-- f(..) that draws -/
theorem ef_callA {A : Type} {uu : A → Addr} {nn nn' : A → Int} {ds : A → List Dat} {pre : A → Prop} {post : A → β → Prop} (cl : Cal X.prog X.w X.K X.mg X.base j m (PmU uu nn nn' ds pre s post)) (hr : Room k X.A) (hk : j ≤ k) (x : A) (ha : EA X Γ (a :: es) (ds x)) (hp : pre x) (hg : Gl X m := by rfl) (hdb : (m == ("__debug__" : Str)) = false := by decide)
    (he : starEach (a :: es) X.env = (false, eval a X.env) :: starEach es X.env := by rfl) (hpl : (backTo pos (starEach es X.env)).any (·.1) = false := by rfl) : EF X Γ (uu x) (nn x) (nn' x) s (.Call (.Name m p) (a :: es) [] pos) (post x) := by
  obtain ⟨f, h1, h2, fd, ps, F, b⟩ := cl
  exact PE.imp (pe_call F (hr.mono hk) hg h1 h2 b (dvs := []) .nil (pass0 (X := X)) ha hdb he hpl) fun σ H Q ⟨B, en, ex, m, q⟩ => ⟨B, en, ex, fun vs B1 H1 g1 rv => ⟨B1, x, g1.i, by rw [List.append_nil]; exact rv, hp, mV_re ((mV (uu x) (nn x) H).st g1 m), fun v y B2 H2 g2 h1 h2 h3 => q v y B2 H2 (g1.w.tr g2) h1 (mV_re h2) h3⟩⟩
/-- a + e -/
theorem ef_add {x : Int} {post : Int → Prop} (ha : EE X Γ rInt a x) (hb : EF X Γ u n n1 rInt b post) : EF X Γ u n n1 rInt (.BinOp a .Add b pos) (fun y => ∃ z, post z ∧ y = x + z) :=
  PE.imp (pe_op op_add ha hb) fun σ H Q ⟨B, en, ex, m, q⟩ => ⟨B, en, ex, fun v B1 H1 g1 rv => ⟨B1, en.mono g1.b, g1.i, mV_re ((mV u n H).st g1 m), fun v2 y B2 H2 g2 hp hm rv2 => ⟨x, y, rv, rv2, q _ (x + y) B2 H2 (g1.w.tr g2) ⟨y, hp, rfl⟩ (mV_re hm) rfl⟩⟩⟩
/-- (e1, e2), both draw -/
theorem ef_pr {k : Nat} {p1 : α → Prop} {q1 : β → Prop} (ha : EF X Γ u n n1 r a p1) (hb : EF X Γ u n1 n2 s b q1) (h1 : starEach [a, b] X.env = (false, eval a X.env) :: starEach [b] X.env := by rfl) (h2 : starEach [b] X.env = (false, eval b X.env) :: starEach [] X.env := by rfl) : EF X Γ u n n2 (rPr X.K r s) (.Tuple [a, b] k pos) (fun y => p1 y.1 ∧ q1 y.2) :=
  PE.imp (pe_tup (pa_cons ha (pa_cons hb pa_nil h2) h1)) fun σ H Q ⟨B, en, ex, m, q⟩ => ⟨B, en, ex, m, fun v y B1 H1 g1 hp hm rv => ⟨B1, en.mono g1.b, g1.i, mV_re hm, fun v2 y2 B2 H2 g2 hp2 hm2 rv2 => ⟨by show 2 ≤ sizeLine; decide, fun t ht =>
    q _ (y, y2) (upd B2 t (.tup [v, v2])) _ ((g1.tr g2).tr (Go.new g2.i ht)) ⟨hp, hp2⟩ ((mV u n2 H).st (Go.new g2.i ht) (mV_re hm2)) ⟨t, _, _, rfl, .inl (.inl upd_same), r.mono (g2.b.tr (Ex.new (g2.i.back ht))) rv, s.mono (Ex.new (g2.i.back ht)) rv2⟩⟩⟩⟩
/-- xs[e] -/
theorem ef_ix {xs : List α} (ha : EE X Γ (rLst X.K r) a xs) (hb : EF X Γ u n n1 rInt b (fun i => 0 ≤ i ∧ i < xs.length)) (hs : PlainIx b := by exact fun _ _ => rfl) : EF X Γ u n n1 r (.Subscript a b pos) (fun y => y ∈ xs) :=
  PE.imp (pe_ix ix_list ha hb hs) fun σ H Q ⟨B, en, ex, m, q⟩ => ⟨B, en, ex, fun v B1 H1 g1 ⟨c, vs, e1, e2, e3⟩ => ⟨B1, en.mono g1.b, g1.i, mV_re ((mV u n H).st g1 m), fun v2 i B2 H2 g2 ⟨hi, hj⟩ hm rv2 => by
    have e : xs[i.toNat]? = some (xs[i.toNat]'(by omega)) := List.getElem?_eq_getElem _
    have ha : atI xs i = some (xs[i.toNat]'(by omega)) := by unfold atI ixN; rw [if_pos hi, if_pos hj]; exact e
    obtain ⟨z, h1, h2⟩ := (e3.mono g2.b).at ha
    exact ⟨c, vs, i, z, e1, rv2, .inl (.inl (g2.i _ _ (g2.b _ _ e2))), h1, q z _ B2 H2 (g1.w.tr g2) (List.getElem_mem _) (mV_re hm) h2⟩⟩⟩
/-- return e -/
theorem tr_rtEF {post : β → Prop} (h : EF X Γ u n n1 s e post) (hD : D.rt = RtE (fun a => a = u) B0 H0 s post (fun _ => mV u n1 H0) := by rfl) : Tr X (At (fun a => a = u) B0 H0 BX Γ (mV u n H0)) (.Return (some e) pos :: rest) D :=
  tr_cons (ps_ret h) fun σ H ⟨B, g, bx, en, m⟩ => ⟨B, en, g.i, mV_re m, fun v y B2 H2 g2 hp hm rv => by show D.rt _ _; rw [hD]; exact ⟨B2, y, g.tr g2, hp, mV_re hm, rv⟩⟩
end
end K81
set_option Elab.async false
set_option linter.all false
set_option maxRecDepth 100000
set_option maxHeartbeats 1900000
namespace K81
open PySem L2
structure OfA where
  u : Addr
  n : Int
  xs : List Str
structure StA where
  u : Addr
  n : Int
  high : Int
abbrev spTakeU : Sp := PmU (A := TkA) (β := Int) (·.u) (·.n) (fun x => x.n + 1) (fun x => [dt (rAdr x.u) (), dt rInt x.low]) (fun x => 0 < x.low ∧ x.low < 1000000 ∧ x.n < 1000000) rInt (fun x y => 0 ≤ y ∧ y < x.low)
abbrev spOf (K : Fr) : Sp := PmU (A := OfA) (β := Str) (·.u) (·.n) (fun x => x.n + 1) (fun x => [dt (rAdr x.u) (), dt (rLst K rStr) x.xs]) (fun x => 0 < x.xs.length ∧ x.xs.length < 1000 ∧ x.n < 1000000) rStr (fun x y => y ∈ x.xs)
def StepIs (high : Int) (y : Str × Int) : Prop := y.1 ∈ kinds ∧ 1 ≤ y.2 ∧ y.2 ≤ high
abbrev spStep (K : Fr) : Sp := PmU (A := StA) (β := Str × Int) (·.u) (·.n) (fun x => x.n + 1 + 1) (fun x => [dt (rAdr x.u) (), dt rInt x.high]) (fun x => 0 < x.high ∧ x.high < 1000000 ∧ x.n < 999999) (rPr K rStr rInt) (fun x y => StepIs x.high y)
section
variable {P : Program} {w : World} {K : Fr} {mg : Str → Option Value} {base : Heap} {f : Addr} {fd : FuncData} {C Cc Cs Cr : Addr} {tk tk2 tk3 : Tok}
theorem ok_law_of (T : Bn mg) (c79 : Cal P w K mg base 1 "_law_take" spTakeU) (F : Fun K "_law_of" "_law_of" (tS 81) f fd) : FnE P w K mg base 2 f (spOf K) := by
  refine fn_eff F sc81 (fun _ => rfl) (fun _ _ _ _ _ _ us hl => match us, hl with | [_, _], _ => rfl) fun q B0 H0 y hr hp => ?_
  obtain ⟨u, n, xs⟩ := y
  obtain ⟨h1, h2, h3⟩ : 0 < xs.length ∧ xs.length < 1000 ∧ n < 1000000 := hp
  exact tr_rtEF (n := n) (n1 := n + 1) (ef_ix (ee_var 1 rfl) (ef_callA c79 hr (by decide) ⟨u, n, (xs.length : Int)⟩ (ea_cons (ee_var 0 rfl) (ea_cons (ee_len T.len (ee_seqL (ee_var 1 rfl))) ea_nil)) ⟨by show (0 : Int) < (xs.length : Int); omega, by show (xs.length : Int) < 1000000; omega, h3⟩))
theorem ok_law_step (c79 : Cal P w K mg base 1 "_law_take" spTakeU) (c81 : Cal P w K mg base 2 "_law_of" (spOf K)) (F : Fun K "_law_step" "_law_step" (tS 83) f fd) : FnE P w K mg base 3 f (spStep K) := by
  refine fn_eff F sc83 (fun _ => rfl) (fun _ _ _ _ _ _ us hl => match us, hl with | [_, _], _ => rfl) fun q B0 H0 y hr hp => ?_
  obtain ⟨u, n, high⟩ := y
  obtain ⟨h1, h2, h3⟩ : 0 < high ∧ high < 1000000 ∧ n < 999999 := hp
  refine tr_rtEF (n := n) (n1 := n + 1 + 1) (EF.imp (ef_pr (ef_callA c81 hr (by decide) ⟨u, n, ["town", "county"]⟩ (ea_cons (ee_var 0 rfl) (ea_cons (ee_lst (el_cons (ee_str (i := "town")) (el_cons (ee_str (i := "county")) el_nil)) (by simp)) ea_nil)) ⟨by show 0 < 2; decide, by show 2 < 1000; decide, by show n < 1000000; omega⟩) (ef_add ee_int (ef_callA c79 hr (by decide) ⟨u, n + 1, high⟩ (ea_cons (ee_var 0 rfl) (ea_cons (ee_var 1 rfl) ea_nil)) ⟨h1, h2, by show n + 1 < 1000000; omega⟩))) fun y hy => ?_)
  obtain ⟨e1, z, ⟨z1, z2⟩, z3⟩ := hy
  have z2 : z < high := z2
  exact ⟨e1, by omega, by show y.2 ≤ high; omega⟩
end
end K81
set_option Elab.async false
set_option linter.all false
set_option maxRecDepth 100000
set_option maxHeartbeats 1900000
namespace K81
open PySem L2
def tItF (Γ : List Slot) (u : Addr) (n n' : Int) {α : Type} (r : RT α) (px : List α → Prop) : TI := fun σ H R => ∃ B, Env B Γ σ ∧ Ex B H ∧ (mV u n H).ok B H ∧ ∀ J B1 H1 xs, Go (fun a => a = u) B H B1 H1 → px xs → (mV u n' H).ok B1 H1 → Its J r xs B1 → R J H1
def EIF (X : Cx) (Γ : List Slot) (tg e : Expr) (u : Addr) (n n' : Int) {α : Type} (r : RT α) (px : List α → Prop) : Prop := PI X tg e (tItF Γ u n n' r px)
theorem mV_le {u : Addr} {n n' : Int} {H0 B H : Hp} (h : (mV u n H0).ok B H) (k : n ≤ n') : (mV u n' H0).ok B H := let ⟨x0, x1, x2, ⟨a, b, c, d⟩, z⟩ := h; ⟨x0, x1, x2, ⟨a, b, c, by omega⟩, z⟩
theorem mV_some {u : Addr} {n : Int} {H0 B H : Hp} (h : (mV u n H0).ok B H) : H u ≠ none := by obtain ⟨_, _, _, _, _, _, vs, e, _⟩ := h; rw [e]; simp
theorem mV_ne {u D : Addr} {n : Int} {H0 B H : Hp} {o : HO} (h : (mV u n H0).ok B H) (hD : D ≠ u) : (mV u n H0).ok B (upd H D o) := let ⟨x0, x1, x2, k, f, w, vs, e, z⟩ := h; ⟨x0, x1, x2, k, f, w, vs, by rw [upd_ne hD.symm]; exact e, z⟩
section
variable {X : Cx} {Γ Γ' : List Slot} {M M' : Mem} {α β γ : Type} {r : RT α} {s : RT β} {tg a b e o : Expr} {es elts : List Expr} {pos p2 p tpos apos : Pos} {m : Str} {kk j k : Nat} {w : Addr → Prop} {B0 H0 BX : Hp} {D D' : Ends} {rest ss : List Stmt} {u : Addr} {n n1 n2 : Int}
theorem eif_pure {xs : List α} (h : EI X Γ tg e r xs) : EIF X Γ tg e u n n r (fun ys => ys = xs) := PI.imp h fun σ H R ⟨B, en, ex, m, q⟩ => ⟨B, en, ex, fun J B1 H1 g it => q J B1 H1 xs g.w rfl ((mV u n H).st g m) it⟩
theorem eif_range {l : Int} (hm : X.mg "range" = none) (h : EF X Γ u n n1 rInt a (fun y => 0 ≤ y ∧ y < l)) (hl : l < 2 ^ 62) (hg : Gl X "range" := by rfl) (he : starEach [a] X.env = (false, eval a X.env) :: starEach [] X.env := by rfl) :
    EIF X Γ tg (.Call (.Name "range" p) [a] [] pos) u n n1 rInt (fun xs => (xs.length : Int) < l) :=
  PI.imp (pi_range1 hg hm (pa_cons h pa_nil he) he) fun σ H R ⟨B, en, ex, m, q⟩ => ⟨B, en, ex, m, fun v y B1 H1 g ⟨h1, h2⟩ hm rv => ⟨y, by rw [show v = V.int y from rv], by omega, by omega, q _ B1 H1 ((List.range y.toNat).map fun i : Nat => (i : Int)) g (by simp; omega) hm ⟨fun H e => by show y.toNat ≤ _; simp, fun i H e hi => by show i < y.toNat; simpa using hi, fun i H v H' B x eb eh hx hy => ⟨B, by rw [hy.1]; exact Go.rf eh, by
    show v = .int x
    rw [hy.2]
    rw [List.getElem?_map] at hx
    cases q : (List.range y.toNat)[i]? with
    | none => rw [q] at hx; cases hx
    | some j =>
      rw [q] at hx
      have e1 : (j : Int) = x := Option.some.inj hx
      obtain ⟨h1, h2⟩ := List.getElem?_eq_some_iff.mp q
      rw [List.getElem_range] at h2
      subst h2
      rw [← e1, Int.zero_add]⟩⟩⟩⟩
/-- [elt for tg in iter], the elements draw -/
theorem ef_lc {elt iter : Expr} {scope : Scope} {own : List (Str × Nat)} {px : List α → Prop} {ts : List Nat} {f : α → List Slot → List Slot} {post : β → Prop} (d : Int) (L : Nat) (hd0 : 0 ≤ d) (hc : X.calm = true) (hN : X.N.Nodup) {N : List Str} {sc : Scope} (ok : blkC N sc scope own = true) (hi : EIF X Γ tg iter u n n1 r px) (hL : ∀ xs, px xs → xs.length ≤ L) (hL2 : L ≤ 100000)
    (ht : ∀ q : BlkA, ET (bk X scope q) tg ts r f) (he : ∀ q : BlkA, ∀ (x : α) (i : Nat), i < L → EF (bk X scope q) (f x (gwipe Γ (own.map (·.2)))) u (n1 + d * i) (n1 + d * (i + 1)) s elt post)
    (hts : ∀ i ∈ ts, i ∈ own.map (·.2) := by decide) (hs : ∀ x, foldedSetIterable iter X.env x = pure x := by intro _; rfl) (eN : X.N = N := by rfl) (eS : X.env.scope = sc := by rfl) : EF X Γ u n (n1 + d * L) (rLst X.K s) (.ListComp elt [⟨tg, iter, [], 0⟩] scope pos) (fun ys => ys.length ≤ L ∧ ∀ y ∈ ys, post y) := by
  refine PE.imp (pe_lc hc hN hi (blkOk_by (by rw [eN, eS]; exact ok)) (fun s H C cl fp => ht ⟨s, H, C, cl, fp⟩) (fun s H C cl fp => PTs.ex (P := fun _ : α => True) (t := fun x => tBo (f x (gwipe Γ (own.map (·.2)))) true) fun x hx => pts_yes) (fun s H C cl fp => PE.ex (P := fun p : α × Nat => p.2 < L) fun p hp => he ⟨s, H, C, cl, fp⟩ p.1 p.2 hp) hs) fun σ H Q ⟨B, en, ex, m, q⟩ => ?_
  refine ⟨B, en, ex, m, fun J B1 H1 xs g1 hx hm it D hD => ?_⟩
  have hB1 : B1 D = none := g1.i.back hD
  have hDu : D ≠ u := fun z => mV_some hm (z ▸ hD)
  have hxl := hL xs hx
  refine ⟨fun i m H => m = xs.length - i ∧ i ≤ xs.length ∧ ∃ Bi acc ys, Go (fun a => a = u) B1 H1 Bi H ∧ Bi D = none ∧ H D = some (.lst acc) ∧ Vs s Bi acc ys ∧ ys.length = i ∧ (∀ y ∈ ys, post y) ∧ (mV u (n1 + d * i) H).ok Bi H, ⟨xs.length, rfl, Nat.zero_le _, B1, [], [], Go.newH g1.i hD, hB1, upd_same, .nil, rfl, (fun _ h => nomatch h), mV_re (mV_ne (mV_le (n' := n1 + d * ((0 : Nat) : Int)) hm (by rw [Int.natCast_zero, Int.mul_zero]; omega)) hDu)⟩, ?_⟩
  rintro i m H ⟨rfl, hi, Bi, acc, ys, gi, hbi, hDi, hv, hyl, hyp, hmi⟩
  by_cases hlt : i < xs.length
  · refine .inr ⟨it.go i H (gi.b.tr gi.i) hlt, fun H' => ∃ Bi acc ys, Go (fun a => a = u) B1 H1 Bi H' ∧ Bi D = none ∧ H' D = some (.lst acc) ∧ Vs s Bi acc ys ∧ ys.length = i + 1 ∧ (∀ y ∈ ys, post y) ∧ (mV u (n1 + d * ((i + 1 : Nat) : Int)) H').ok Bi H', fun H' q => ⟨xs.length - (i + 1), by omega, rfl, hlt, q⟩, fun v H' hy => ?_⟩
    have hxi : xs[i]? = some xs[i] := List.getElem?_eq_getElem hlt
    obtain ⟨B', g', rv⟩ := it.yld i H v H' Bi _ gi.b gi.i hxi hy
    have hb' : B' D = none := g'.n D (by rw [hDi]; simp) hbi
    have hd' := g'.hx _ _ hDi
    have hm' := (mV u (n1 + d * i) H).st g' hmi
    refine ⟨gwipe Γ (own.map (·.2)), B', xs[i], ((en.mono (g1.b.tr (gi.b.tr g'.b))).wipe _), g'.i, rv, fun σ2 en2 hw2 => ⟨(hw2 _ hts).trans (wipe_wipe fun i hi => hi), xs[i], trivial, B', en2, g'.i, fun B2 H2 g2 => iteT ⟨(xs[i], i), by show i < L; omega, B2, en2.mono g2.b, g2.i, mV_re ((mV u (n1 + d * i) H).st g2 hm'), fun z y B3 H3 g3 hp hm3 rz => ?_⟩⟩⟩
    have hb2 : B2 D = none := g2.n D (by rw [hd']; simp) hb'
    have hd2 := g2.hx _ _ hd'
    have hb3 : B3 D = none := g3.n D (by rw [hd2]; simp) hb2
    have hd3 : H3 D = some (.lst acc) := g3.h _ _ hDu hd2
    have gg : Go (fun a => a = u) B1 H1 B3 H3 := ((gi.tr g'.w).tr g2.w).tr g3
    refine ⟨acc, hd3, ?_, B3, acc ++ [z], ys ++ [y], gg.mut hb3 (.inl hD), hb3, upd_same, ((hv.mono ((g'.b.tr g2.b).tr g3.b))).app (.cons rz .nil), by simp [hyl], fun t ht => ?_, mV_ne (mV_re (mV_le hm3 (by simp))) hDu⟩
    · rw [hv.len, hyl]; exact bigL (by omega)
    · rcases List.mem_append.mp ht with ht | ht
      · exact hyp t ht
      · rw [List.mem_singleton.mp ht]; exact hp
  · have e : i = xs.length := by omega
    subst e
    refine .inl ⟨it.stop H (gi.b.tr gi.i), q _ ys (upd Bi D (.lst acc)) H (g1.tr (gi.show hbi hD hDi)) ⟨by omega, hyp⟩ ?_ ⟨D, acc, rfl, upd_same, hv.mono (Ex.new hbi)⟩⟩
    have hle : n1 + d * (xs.length : Int) ≤ n1 + d * (L : Int) := by
      have := Int.mul_le_mul_of_nonneg_left (show (xs.length : Int) ≤ (L : Int) by omega) hd0
      omega
    obtain ⟨x0, x1, x2, h1, h2, h3, vs, h4, h5⟩ := mV_le hmi hle
    exact ⟨x0, x1, x2, h1, by rw [upd_ne hDu.symm]; exact h2, .inr rfl, vs, h4, h5.mono (Ex.new hbi)⟩
end
end K81
set_option Elab.async false
set_option linter.all false
set_option maxRecDepth 100000
set_option maxHeartbeats 1900000
namespace K81
open PySem L2
structure SmA where
  u : Addr
  n : Int
  most : Int
  high : Int
abbrev spSome (K : Fr) : Sp := PmU (A := SmA) (β := List (Str × Int)) (·.u) (·.n) (fun x => x.n + 1 + 2 * (x.most.toNat : Int)) (fun x => [dt (rAdr x.u) (), dt rInt x.most, dt rInt x.high]) (fun x => 0 ≤ x.most ∧ x.most < 100 ∧ 0 < x.high ∧ x.high < 1000000 ∧ x.n < 900000) (rLst K (rPr K rStr rInt)) (fun x ys => ys.length ≤ x.most.toNat ∧ ∀ y ∈ ys, StepIs x.high y)
theorem EF.eqn {X : Cx} {Γ : List Slot} {u : Addr} {n n1 n2 : Int} {α : Type} {r : RT α} {e : Expr} {post : α → Prop} (h : EF X Γ u n n1 r e post) (q : n1 = n2) : EF X Γ u n n2 r e post := q ▸ h
section
variable {P : Program} {w : World} {K : Fr} {mg : Str → Option Value} {base : Heap} {f : Addr} {fd : FuncData} {C Cc Cs Cr : Addr} {tk tk2 tk3 : Tok}
theorem ok_law_some (T : Bn mg) (c79 : Cal P w K mg base 1 "_law_take" spTakeU) (c83 : Cal P w K mg base 3 "_law_step" (spStep K)) (F : Fun K "_law_some" "_law_some" (tS 84) f fd) : FnE P w K mg base 4 f (spSome K) := by
  refine fn_eff F sc84 (fun _ => rfl) (fun _ _ _ _ _ _ us hl => match us, hl with | [_, _, _], _ => rfl) fun q B0 H0 y hr hp => ?_
  obtain ⟨u, n, most, high⟩ := y
  obtain ⟨h0, h1, h2, h3, h4⟩ : 0 ≤ most ∧ most < 100 ∧ 0 < high ∧ high < 1000000 ∧ n < 900000 := hp
  exact tr_rtEF (n := n) (n1 := n + 1 + 2 * (most.toNat : Int)) (ef_lc (s := rPr K rStr rInt) (post := StepIs high) (own := [("_law_turn", 3)]) (N := N84) (sc := defScope (tS 84)) 2 most.toNat (by decide) rfl sc84.nd (by decide +kernel)
    (eif_range T.range (l := most + 1) (ef_callA c79 hr (by decide) ⟨u, n, most + 1⟩ (ea_cons (ee_var 0 rfl) (ea_cons (ee_add (ee_var 1 rfl) ee_int) ea_nil)) ⟨by show 0 < most + 1; omega, by show most + 1 < 1000000; omega, by show n < 1000000; omega⟩) (by omega)) (fun xs h => by omega) (by omega) (fun q => et_skip 3 sc84.nd)
    (fun q x i hi => EF.eqn (n1 := n + 1 + 2 * (i : Int) + 1 + 1) (ef_callA (X := bk _ _ q) c83 hr (by decide) ⟨u, n + 1 + 2 * (i : Int), high⟩ (ea_cons (ee_var 0 rfl) (ea_cons (ee_var 2 rfl) ea_nil)) ⟨h2, h3, by show n + 1 + 2 * (i : Int) < 999999; omega⟩) (by show n + 1 + 2 * (i : Int) + 1 + 1 = _; omega)))
end
end K81
set_option Elab.async false
set_option linter.all false
set_option maxRecDepth 100000
set_option maxHeartbeats 1900000
namespace K81
open PySem L2
theorem le_lt {l : List Int} (h : l.Pairwise (· ≤ ·)) (n : l.Nodup) : l.Pairwise (· < ·) := by
  induction l with
  | nil => exact .nil
  | cons x l ih =>
    obtain ⟨h1, h2⟩ := List.pairwise_cons.mp h
    obtain ⟨n1, n2⟩ := List.nodup_cons.mp n
    exact List.pairwise_cons.mpr ⟨fun y hy => by have := h1 y hy; have : x ≠ y := fun e => n1 (e ▸ hy); omega, ih h2 n2⟩
section
variable {X : Cx} {Γ Γ' : List Slot} {M M' : Mem} {α β γ : Type} {r : RT α} {s : RT β} {tg a b e o : Expr} {es elts : List Expr} {pos p2 p tpos apos : Pos} {m : Str} {kk j k : Nat} {w : Addr → Prop} {B0 H0 BX : Hp} {D D' : Ends} {rest ss : List Stmt} {u : Addr} {n n1 n2 : Int}
/-- sorted(d), the keys ints -/
theorem ee_sortD {ks : List (Int × Int)} (hc : X.calm = true) (hm : X.mg "sorted" = none) (ha : EE X Γ rDk a ks) (hn : (ks.map (·.1)).Nodup) (hl : ks.length < 64) (hg : Gl X "sorted" := by rfl) (he : starEach [a] X.env = (false, eval a X.env) :: starEach [] X.env := by rfl) : EE X Γ (rLst X.K rInt) (.Call (.Name "sorted" p) [a] [] pos) (sortU (ks.map (·.1))) :=
  ee_cb1 (call_sortedDI hc) (by rfl) hm ha (fun v B H Q ex ⟨d, e1, e2⟩ q => ⟨d, embK ks, ks.map (·.1), by rw [e1], .inl (ex _ _ e2), by unfold embK; rw [List.map_map, List.map_map]; rfl, by rw [List.length_map]; exact hl, fun ys l h1 h2 hp => by
    have e : ys = sortU (ks.map (·.1)) := lt_uniq (le_lt h2 (h1.nodup_iff.mpr hn)) (lt_sortU _) fun k => by rw [h1.mem_iff, mem_sortU]
    subst e
    exact q _ (upd B l _) _ (Go.new ex hp) ⟨l, _, rfl, upd_same, vs_ints _ _⟩⟩) hg (by decide) (by decide) he
/-- d[k] -/
theorem ee_dgetI {ks : List (Int × Int)} {k x : Int} (hu : X.A.units + 1 < cLine) (ha : EE X Γ rDk a ks) (hb : EE X Γ rInt b k) (hx : getI ks k = some x) (hs : NoSl b := by exact fun _ _ => rfl) : EE X Γ rInt (.Subscript a b pos) x :=
  PE.imp (pe_dget hu ha hb hs) fun σ H Q ⟨B, en, ex, q⟩ => ⟨B, en, ex, fun v B1 H1 g1 ⟨d, e1, e2⟩ => ⟨B1, en.mono g1.b, g1.i, fun y B2 H2 g2 ry => by
    have ry : y = .int k := ry
    subst ry
    refine ⟨d, .int x, e1, ?_, q _ B2 H2 (g1.tr g2) rfl⟩
    have := DGet.k (k := Sum.inl k) (g2.hx _ _ (g1.i _ _ e2))
    rw [valV_emb, hx] at this
    exact this⟩⟩
/-- d[k] = e, both draw -/
theorem tr_dputF {f : Addr} {ks : List (Int × Int)} {p1 p2' : Int → Prop} (hu : X.A.units + 1 < cLine) (hfu : f ≠ u) (h0 : H0 f = none) (h : EF X Γ u n n1 rInt e p1) (hf : EE X Γ (rAdr f) a ()) (hi : EF X Γ u n1 n2 rInt b p2') (hl : ks.length < 100000)
    (kk : ∀ x k, p1 x → p2' k → Tr X (At (fun a => a = u) B0 H0 BX Γ (mA (mV u n2 H0) (mD (fun a => a = u) H0 f (putI ks k x)))) rest D)
    (hs : swapsWith e (some (.Subscript a b apos)) pos.line X.env = pure false := by rfl) :
    Tr X (At (fun a => a = u) B0 H0 BX Γ (mA (mV u n H0) (mD (fun a => a = u) H0 f ks))) (.Assign [.Subscript a b apos] e pos :: rest) D :=
  tr_cons (ps_dput hu hf hi h hs) fun σ H ⟨B, g, bx, en, m, hB, hw, hH⟩ => ⟨B, en, g.i, mV_re m, fun v1 x B1 H1 g1 hx m1 r1 => ⟨B1, en.mono g1.b, g1.i, fun v B2 H2 g2 rv => ⟨B2, en.mono (g1.b.tr g2.b), g2.i, mV_re ((mV u n1 H).st g2 m1), fun z k B3 H3 g3 hk m3 rz => by
    have rv : v = .ref f := rv
    subst rv
    have r1 : v1 = .int x := r1
    have rz : z = .int k := rz
    subst r1 rz
    have hH1 := g1.h _ _ hfu hH
    have hB1 : B1 f = none := g1.n f (by rw [hH]; simp) hB
    have hH2 := g2.hx _ _ hH1
    have hB2 : B2 f = none := g2.n f (by rw [hH1]; simp) hB1
    have hH3 := g3.h _ _ hfu hH2
    have hB3 : B3 f = none := g3.n f (by rw [hH2]; simp) hB2
    refine ⟨f, _, rfl, DPut.k (k := Sum.inl k) hH3 (by unfold embK; rw [List.length_map]; exact bigL hl), ?_⟩
    rw [putK_emb]
    exact (kk x k hx hk).wk _ _ ⟨B3, (((g.tr g1).tr g2.w).tr g3).mut hB3 (.inl h0), bx.tr ((g1.b.tr g2.b).tr g3.b), en.mono ((g1.b.tr g2.b).tr g3.b), mV_ne (mV_re m3) hfu, hB3, .inl h0, upd_same⟩⟩⟩⟩
/-- for tg in iter, drawing -/
theorem tr_forF {ι : Type} {ts : List Nat} {iter : Expr} {body : List Stmt} {px : List α → Prop} {f : α → List Slot → List Slot} {N : Mem} (G : ι → List Slot) (Mm : ι → Mem) (L : Nat) (P : Nat → ι → Prop) (k0 : ι) (hc : X.calm = true) (hi : EIF X Γ tg iter u n n1 r px) (hL : ∀ xs, px xs → xs.length ≤ L) (ht : ET X tg ts r f)
    (hN2 : ∀ B H B2 H2, Go (fun a => a = u) B H B2 H2 → N.ok B H → N.ok B2 H2) (h0 : P 0 k0) (hw0 : Wkn Γ (G k0)) (hm0 : ∀ B H, (mA (mV u n1 H0) N).ok B H → (Mm k0).ok B H)
    (hb : ∀ BX', Ex BX BX' → ∀ i x k, i < L → P i k → Tr X (At (fun a => a = u) B0 H0 BX' (f x (G k)) (Mm k)) body { D with nx := fun σ H => ∃ k', P (i + 1) k' ∧ At (fun a => a = u) B0 H0 BX' (G k') (Mm k') σ H, ct := fun σ H => ∃ k', P (i + 1) k' ∧ At (fun a => a = u) B0 H0 BX' (G k') (Mm k') σ H, bk := Wk X rest D })
    (hr : ∀ i k, i ≤ L → P i k → Tr X (At (fun a => a = u) B0 H0 BX (G k) (Mm k)) rest D) (hs : ∀ x, foldedSetIterable iter X.env x = pure x := by intro _; rfl) (hp : PassesOwn (model X.prog X.w) X.A X.env X.xe := by exact PassesOwn.never) :
    Tr X (At (fun a => a = u) B0 H0 BX Γ (mA (mV u n H0) N)) (.For tg iter body [] pos :: rest) D := by
  have hbody : PSs X body (fun D' σ H => ∃ BX' i x k, Ex BX BX' ∧ i < L ∧ P i k ∧ D' = { D with nx := fun σ H => ∃ k', P (i + 1) k' ∧ At (fun a => a = u) B0 H0 BX' (G k') (Mm k') σ H, ct := fun σ H => ∃ k', P (i + 1) k' ∧ At (fun a => a = u) B0 H0 BX' (G k') (Mm k') σ H, bk := Wk X rest D } ∧ At (fun a => a = u) B0 H0 BX' (f x (G k)) (Mm k) σ H) :=
    ⟨fun pins s σ H D' j ⟨BX', i, x, k, e1, e2, e3, e4, e5⟩ => by subst e4; exact hb BX' e1 i x k e2 e3 pins s σ H j e5⟩
  refine tr_cons (ps_for hp hc hi ht hbody hs) fun σ H ⟨B, g, bx, en, m, mn⟩ => ⟨B, en, g.i, mV_re m, fun J B1 H1 xs g1 hx m1 it => ?_⟩
  have gB : Ex BX B1 := bx.tr g1.b
  have hxl := hL xs hx
  refine ⟨fun i m σ H => m = xs.length - i ∧ i ≤ xs.length ∧ ∃ k, P i k ∧ At (fun a => a = u) B0 H0 B1 (G k) (Mm k) σ H, ⟨xs.length, rfl, Nat.zero_le _, k0, h0, B1, g.tr g1, Ex.rfl', (en.mono g1.b).wkn hw0, hm0 _ _ ⟨mV_re m1, hN2 _ _ _ _ g1 mn⟩⟩, ?_⟩
  rintro i m σ H ⟨rfl, hi, k, hk, Bi, gi, bi, eni, mi⟩
  by_cases hlt : i < xs.length
  · have hxi : xs[i]? = some xs[i] := List.getElem?_eq_getElem hlt
    refine .inr ⟨it.go i H (bi.tr gi.i) hlt, fun σ' H' => ∃ k', P (i + 1) k' ∧ At (fun a => a = u) B0 H0 B1 (G k') (Mm k') σ' H', fun σ' H' q => ⟨xs.length - (i + 1), by omega, rfl, hlt, q⟩, fun v H' hy => ?_⟩
    obtain ⟨B', g', rv⟩ := it.yld i H v H' Bi _ bi gi.i hxi hy
    exact ⟨G k, B', xs[i], eni.mono g'.b, g'.i, rv, fun σ2 en2 _ => ⟨B1, i, xs[i], k, gB, by omega, hk, rfl, B', gi.tr g'.w, bi.tr g'.b, en2, (Mm k).st g' mi⟩⟩
  · have e : i = xs.length := by omega
    subst e
    exact .inl ⟨it.stop H (bi.tr gi.i), (hr _ k hxl hk).wk _ _ ⟨Bi, gi, gB.tr bi, eni, mi⟩⟩
end
end K81
set_option Elab.async false
set_option linter.all false
set_option maxRecDepth 100000
set_option maxHeartbeats 1900000
namespace K81
open PySem L2
/-- a dict -/
def isD : HO → Prop
  | .dK _ => True
  | _ => False
theorem noTupD : NoTup isD := ⟨fun _ h => h, fun _ _ h => h⟩
theorem fz_lstD {K : Fr} {α : Type} {r : RT α} (k : Fz isD r) : Fz isD (rLst K r) := fun H f o v x h hl ⟨a, vs, h1, h2, h3⟩ => ⟨a, vs, h1, by
  rw [hide_ne]
  · exact h2
  · rintro rfl; rw [h2] at h; cases h; exact hl, fz_vs k h hl h3⟩
theorem EE.opDD {X : Cx} {Γ : List Slot} {α : Type} {r : RT α} {e : Expr} {w : Addr → Prop} {H0 : Hp} {N : Mem} {f : Addr} {ks : List (Int × Int)} {x : α} (i : Nat) (h : EE X (Γ.set i (sl rDk ks)) r e x) (hz : Fz isD r) (hi : Γ[i]? = some (sl (rAdr f) ())) : EM X Γ (mA N (mD w H0 f ks)) r e x :=
  PE.imp h fun σ H Q ⟨B, en, ex, ⟨_, hf, _, hH⟩, q⟩ => by
    obtain ⟨v, h1, h2⟩ := en.get hi
    have h2 : v = .ref f := h2
    subst h2
    have en2 := Env.set (s := sl rDk ks) (o := some (V.ref f)) ⟨_, rfl, f, rfl, upd_same⟩ i (en.put (o := .dK (embK ks)) hf)
    have e3 : σ.set i (some (V.ref f)) = σ := by
      obtain ⟨hl, hh⟩ := List.getElem?_eq_some_iff.mp h1
      rw [← hh]; exact List.set_getElem_self hl
    rw [e3] at en2
    refine ⟨upd B f _, en2, fun a u ha => ?_, fun v B2 H2 g rv => ?_⟩
    · by_cases q : a = f
      · subst q; rw [upd_same] at ha; rw [hH]; exact ha
      · rw [upd_ne q] at ha; exact ex a u ha
    · obtain ⟨g2, h4⟩ := open_go ex hf hH g
      exact q v _ H2 g2 (hz _ f _ v x h4 trivial rv)
theorem tr_fact {X : Cx} {Γ : List Slot} {w : Addr → Prop} {B0 H0 BX : Hp} {M : Mem} {ss : List Stmt} {D : Ends} {p : Prop} (h : ∀ B H, M.ok B H → p) (k : p → Tr X (At w B0 H0 BX Γ M) ss D) : Tr X (At w B0 H0 BX Γ M) ss D := fun pins s σ H J hh => by
  obtain ⟨B, g, bx, en, m⟩ := id hh
  exact k (h _ _ m) pins s σ H J hh
structure BgA where
  u : Addr
  n : Int
  kinds : Int
  high : Int
  many : Int
structure BagOk (high many : Int) (ks : List (Int × Int)) : Prop where
  nd : (ks.map (·.1)).Nodup
  al : ∀ p ∈ ks, 1 ≤ p.1 ∧ p.1 ≤ high ∧ 1 ≤ p.2 ∧ p.2 ≤ many
def BagIs (kinds high many : Int) (ys : List (Int × Int)) : Prop := (ys.length : Int) ≤ kinds ∧ ∀ p ∈ ys, 1 ≤ p.1 ∧ p.1 ≤ high ∧ 1 ≤ p.2 ∧ p.2 ≤ many
theorem putI_lenB (ks : List (Int × Int)) (k v : Int) : (putI ks k v).length ≤ ks.length + 1 := by
  unfold putI
  split
  · rw [List.length_map]; omega
  · rw [List.length_append]; simp
theorem putI_ok {high many : Int} {ks : List (Int × Int)} {k v : Int} (h : BagOk high many ks) (h1 : 1 ≤ k) (h2 : k ≤ high) (h3 : 1 ≤ v) (h4 : v ≤ many) : BagOk high many (putI ks k v) := by
  unfold putI
  by_cases q : (ks.any fun p => decide (p.1 = k)) = true
  · rw [if_pos q]
    refine ⟨?_, fun p hp => ?_⟩
    · rw [List.map_map]
      have e : (fun p : Int × Int => p.1) ∘ (fun p : Int × Int => if p.1 = k then (p.1, v) else p) = fun p => p.1 := by
        funext p
        show (if p.1 = k then (p.1, v) else p).1 = p.1
        split <;> rfl
      rw [e]
      exact h.nd
    · obtain ⟨p', hp', rfl⟩ := List.mem_map.mp hp
      have := h.al p' hp'
      by_cases z : p'.1 = k
      · rw [if_pos z]; exact ⟨this.1, this.2.1, h3, h4⟩
      · rw [if_neg z]; exact this
  · rw [if_neg q]
    refine ⟨?_, fun p hp => ?_⟩
    · rw [List.map_append]
      refine List.nodup_append.mpr ⟨h.nd, by simp, fun a ha b hb => ?_⟩
      have hb : b = k := by simpa using hb
      subst hb
      rintro rfl
      obtain ⟨p, hp, e⟩ := List.mem_map.mp ha
      exact q (List.any_eq_true.mpr ⟨p, hp, decide_eq_true e⟩)
    · rcases List.mem_append.mp hp with hp | hp
      · exact h.al p hp
      · rw [List.mem_singleton.mp hp]; exact ⟨h1, h2, h3, h4⟩
theorem getI_mem {ks : List (Int × Int)} {k : Int} (h : k ∈ ks.map (·.1)) : ∃ v, getI ks k = some v ∧ (k, v) ∈ ks := by
  obtain ⟨p, hp, e⟩ := List.mem_map.mp h
  unfold getI
  cases z : ks.find? fun p => decide (p.1 = k) with
  | none => exact absurd (decide_eq_true e) (List.find?_eq_none.mp z p hp)
  | some q =>
    have h1 : q.1 = k := by simpa using List.find?_some z
    exact ⟨q.2, rfl, by rw [← h1]; exact List.mem_of_find?_eq_some z⟩
theorem sortU_lenB : ∀ xs : List Int, (sortU xs).length ≤ xs.length
  | [] => Nat.le_refl _
  | x :: xs => by
    have ins : ∀ ys : List Int, (insU x ys).length ≤ ys.length + 1 := by
      intro ys
      induction ys with
      | nil => simp [insU]
      | cons y ys ih =>
        unfold insU
        split
        · simp
        · split
          · simp
          · simp only [List.length_cons]; omega
    have := sortU_lenB xs
    have := ins (sortU xs)
    simp only [sortU, List.length_cons]
    omega
abbrev spBag (K : Fr) : Sp := PmU (A := BgA) (β := List (Int × Int)) (·.u) (·.n) (fun x => x.n + 1 + 2 * (x.kinds.toNat : Int)) (fun x => [dt (rAdr x.u) (), dt rInt x.kinds, dt rInt x.high, dt rInt x.many]) (fun x => 0 ≤ x.kinds ∧ x.kinds < 50 ∧ 0 < x.high ∧ x.high < 1000000 ∧ 0 < x.many ∧ x.many < 1000000 ∧ x.n < 900000) (rLst K (rPr K rInt rInt)) (fun x ys => BagIs x.kinds x.high x.many ys)
section
variable {P : Program} {w : World} {K : Fr} {mg : Str → Option Value} {base : Heap} {f : Addr} {fd : FuncData} {C Cc Cs Cr : Addr} {tk tk2 tk3 : Tok}
theorem ok_law_bag (T : Bn mg) (c79 : Cal P w K mg base 1 "_law_take" spTakeU) (F : Fun K "_law_bag" "_law_bag" (tS 82) f fd) : FnE P w K mg base 2 f (spBag K) := by
  refine fn_eff F sc82 (fun _ => rfl) (fun _ _ _ _ _ _ us hl => match us, hl with | [_, _, _, _], _ => rfl) fun q B0 H0 y hr hp => ?_
  obtain ⟨u, n, kinds, high, many⟩ := y
  obtain ⟨h0, h1, h2, h3, h4, h5, h6⟩ : 0 ≤ kinds ∧ kinds < 50 ∧ 0 < high ∧ high < 1000000 ∧ 0 < many ∧ many < 1000000 ∧ n < 900000 := hp
  refine tr_newD 4 sc82.nd fun o ho => ?_
  refine tr_fact (p := o ≠ u) (fun B H ⟨m1, m2⟩ z => ?_) fun hne => ?_
  · obtain ⟨_, _, _, _, _, _, vs, e, _⟩ := m1
    obtain ⟨_, _, e2⟩ := m2
    rw [z, e] at e2
    cases e2
  refine tr_forF (n := n) (n1 := n + 1) (ι := Nat × List (Int × Int)) (N := mD (fun a => a = u) H0 o []) (fun _ => [sl (rAdr u) (), sl rInt kinds, sl rInt high, sl rInt many, sl (rAdr o) (), none, none]) (fun k => mA (mV u (n + 1 + 2 * (k.1 : Int)) H0) (mD (fun a => a = u) H0 o k.2)) kinds.toNat (fun i k => k.1 = i ∧ BagOk high many k.2 ∧ k.2.length ≤ i) (0, []) rfl
    (eif_range T.range (l := kinds + 1) (ef_callA c79 hr (by decide) ⟨u, n, kinds + 1⟩ (ea_cons (ee_var 0 rfl) (ea_cons (ee_add (ee_var 1 rfl) ee_int) ea_nil)) ⟨by show 0 < kinds + 1; omega, by show kinds + 1 < 1000000; omega, by show n < 1000000; omega⟩) (by omega)) (fun xs h => by omega) (et_skip 5 sc82.nd)
    (fun B H B2 H2 g ⟨m1, m2, m3⟩ => ⟨g.n o (by rw [m3]; simp) m1, .inl ho, g.h _ _ hne m3⟩) ⟨rfl, ⟨.nil, fun _ h => nomatch h⟩, Nat.le_refl _⟩ (by repeat constructor) (fun B H ⟨m1, m2⟩ => ⟨mV_le m1 (by show n + 1 ≤ n + 1 + 2 * ((0 : Nat) : Int); omega), m2⟩) (fun BX e i x k hi ⟨e1, e2, e3⟩ => ?_) (fun i k hi ⟨e1, e2, e3⟩ => ?_)
  · obtain ⟨j, ks⟩ := k
    have e1 : j = i := e1
    subst e1
    have e3 : ks.length ≤ j := e3
    refine tr_dputF (n := n + 1 + 2 * (j : Int)) (n1 := n + 1 + 2 * (j : Int) + 1) (n2 := n + 1 + 2 * (j : Int) + 1 + 1) (hu_of hr) hne ho (ef_add ee_int (ef_callA c79 hr (by decide) ⟨u, n + 1 + 2 * (j : Int), many⟩ (ea_cons (ee_var 0 rfl) (ea_cons (ee_var 3 rfl) ea_nil)) ⟨h4, h5, by show n + 1 + 2 * (j : Int) < 1000000; omega⟩)) (ee_var 4 rfl)
      (ef_add ee_int (ef_callA c79 hr (by decide) ⟨u, n + 1 + 2 * (j : Int) + 1, high⟩ (ea_cons (ee_var 0 rfl) (ea_cons (ee_var 2 rfl) ea_nil)) ⟨h2, h3, by show n + 1 + 2 * (j : Int) + 1 < 1000000; omega⟩)) (by omega) fun x k hx hk => ?_
    obtain ⟨z, ⟨z1, z2⟩, z3⟩ := hx
    obtain ⟨t, ⟨t1, t2⟩, t3⟩ := hk
    have z2 : z < many := z2
    have t2 : t < high := t2
    have pl := putI_lenB ks k x
    refine tr_nil fun σ H h => ⟨(j + 1, putI ks k x), ⟨rfl, putI_ok e2 (by omega) (by omega) (by omega) (by omega), by show (putI ks k x).length ≤ j + 1; omega⟩, ?_⟩
    exact At.wk (M' := mA (mV u (n + 1 + 2 * ((j + 1 : Nat) : Int)) H0) (mD (fun a => a = u) H0 o (putI ks k x))) (M := mA (mV u (n + 1 + 2 * (j : Int) + 1 + 1) H0) (mD (fun a => a = u) H0 o (putI ks k x))) (by repeat constructor) (fun B H ⟨m1, m2⟩ => ⟨mV_le m1 (by show _ ≤ n + 1 + 2 * ((j + 1 : Nat) : Int); omega), m2⟩) σ H h
  · obtain ⟨j, ks⟩ := k
    have e1 : j = i := e1
    subst e1
    have e3 : ks.length ≤ j := e3
    have sl := sortU_lenB (ks.map (·.1))
    rw [List.length_map] at sl
    refine tr_rtF (M := mA (mV u (n + 1 + 2 * (j : Int)) H0) (mD (fun a => a = u) H0 o ks)) (post := BagIs kinds high many) (M2 := fun _ => mV u (n + 1 + 2 * (kinds.toNat : Int)) H0) (x := (sortU (ks.map (·.1))).map fun k => (k, (getI ks k).getD 0)) (EE.opDD 4 (ee_lc (s := rPr K rInt rInt) (own := [("_law_own", 6)]) (N := N82) (sc := defScope (tS 82)) rfl sc82.nd (by decide +kernel) (ei_lst (ee_sortD rfl T.sorted (ee_var 4 rfl) e2.nd (by omega))) (fun q => et_name 6 sc82.nd) (fun q x hx => ee_pr (ee_var 6 rfl) (ee_dgetI (hu_of hr) (ee_var 4 rfl) (ee_var 6 rfl) ?_)) (by omega)) (fz_lstD (fz_pr noTupD fz_int fz_int)) rfl) ⟨?_, fun p hp => ?_⟩ fun B H ⟨m1, m2⟩ => mV_le m1 (by show n + 1 + 2 * (j : Int) ≤ _; omega)
    · obtain ⟨v, e4, _⟩ := getI_mem (mem_sortU.mp hx)
      rw [e4]; rfl
    · rw [List.length_map]; omega
    · obtain ⟨k, hk, rfl⟩ := List.mem_map.mp hp
      obtain ⟨v, e4, e5⟩ := getI_mem (mem_sortU.mp hk)
      rw [e4]
      exact e2.al _ e5
end
end K81
set_option Elab.async false
set_option linter.all false
set_option maxRecDepth 100000
set_option maxHeartbeats 1900000
namespace K81
open PySem L2
def stepPr (s : Stp) : Str × Int := (kindS s.1, s.2)
abbrev rStx (K : Fr) : RT Stp := rVia (rPr K rStr rInt) stepPr
theorem eb_neNil {X : Cx} {Γ : List Slot} {α β : Type} {r : RT α} {s : RT β} {a b : Expr} {pos : Pos} {xs : List α} (hu : X.A.units < cLine) (ha : EE X Γ (rLst X.K r) a xs) (hb : EE X Γ (rLst X.K s) b []) : EB X Γ (.Compare a [.NotEq] [b] pos) (!xs.isEmpty) :=
  eb_cmp (op_neNil hu) ha hb (fun u v B H Q ex ⟨p, vs, e1, e2, e3⟩ ⟨q, ws, f1, f2, f3⟩ k => by
    cases f3
    refine ⟨p, q, vs, e1, f1, ex.lst e2, ex.lst f2, ?_⟩
    rw [show (!vs.isEmpty) = !xs.isEmpty by cases e3 <;> rfl]
    exact k B H (Go.rf ex)) (nomark b)
section
variable {P : Program} {w : World} {K : Fr} {mg : Str → Option Value} {base : Heap} {f : Addr} {fd : FuncData} {C Cc Cs Cr : Addr} {tk tk2 tk3 : Tok}
theorem allS_len2 : ∀ s ∈ allS, (kindS s.1 ++ (" " : Str)).length + ((toString s.2 : String) : Str).length ≤ 8 := by decide +kernel
theorem allS_len : ∀ s ∈ allS, (kindS s.1).length ≤ 6 ∧ s.2.natAbs.log2 < 1920 ∧ ((toString s.2 : String) : Str).length ≤ 1 := by decide +kernel
abbrev spLine (K : Fr) : Sp := Pm1 (rLst K (rStx K)) rStr (fun l => l.length ≤ 50 ∧ ∀ s ∈ l, s ∈ allS) lineOf
theorem ok_law_line (T : Bn mg) (F : Fun K "_law_line" "_law_line" (tS 85) f fd) : FnE P w K mg base 1 f (spLine K) := by
  refine fn_pm F sc85 (fun _ => rfl) (fun _ _ _ _ _ _ us hl => match us, hl with | [_], _ => rfl) fun q B0 H0 l hr ⟨hl, ha⟩ => ?_
  have ha : ∀ s ∈ l, s ∈ allS := ha
  have hl : l.length ≤ 50 := hl
  have vp : ∀ {X : Cx} {Γ : List Slot} {e : Expr} {s : Stp}, EE X Γ (rStx K) e s → EE X Γ (rPr K rStr rInt) e (stepPr s) := fun h => ee_imp h fun H v z => z
  refine tr_rtE (EE.m (ee_if (x := !l.isEmpty) (y := Txt.join "; " (l.map stepText)) (z := "-") (eb_neNil (s := rInt) hr.units0 (ee_var 0 rfl) (ee_lst el_nil (by decide))) (fun h => ?_) fun _ => ee_str)) ?_
  · refine ee_join ee_str (ee_lc (s := rStr) (own := [("_law_own", 1)]) (N := N85) (sc := defScope (tS 85)) rfl sc85.nd (by decide +kernel) (ei_lst (ee_var 0 rfl)) (fun q => et_name 1 sc85.nd) (fun q s hs => ?_) (by omega)) ?_
    · obtain ⟨h1, h2, h3⟩ := allS_len s (ha s hs)
      refine ee_addS (ee_addS (x := kindS s.1) (y := " ") (ee_eq (ee_fst (vp (ee_var 1 rfl)) ee_int) rfl) ee_str ?_) (ee_strI T.str (ee_eq (ee_snd (vp (ee_var 1 rfl)) ee_int) rfl) h2) ?_
      · have e : (" " : Str).length = 1 := by decide +kernel
        omega
      · exact Nat.le_trans (allS_len2 s (ha s hs)) (by decide)
    · have e : ∀ l : List Stp, (∀ s ∈ l, s ∈ allS) → ((l.map stepText).map (·.length)).sum ≤ 8 * l.length := by
        intro l
        induction l with
        | nil => intro _; exact Nat.zero_le _
        | cons x l ih =>
          intro h
          have h1 := (allS_facts x (h x (by simp))).2.2.2.1
          have h2 := ih fun s hs => h s (by simp [hs])
          simp only [List.map_cons, List.sum_cons, List.length_cons]
          omega
      have e1 := e l ha
      have e2 : ("; " : Str).length = 2 := by decide +kernel
      have e3 : (l.map stepText).length = l.length := List.length_map _
      show ((l.map stepText).map (·.length)).sum + (l.map stepText).length * ("; " : Str).length ≤ 16777216
      rw [e2, e3]
      omega
  · unfold lineOf
    cases l <;> rfl
end
end K81
set_option Elab.async false
set_option linter.all false
set_option maxRecDepth 100000
set_option maxHeartbeats 1900000
namespace K81
open PySem L2
section
variable {P : Program} {w : World} {K : Fr} {mg : Str → Option Value} {base : Heap} {f : Addr} {fd : FuncData} {C Cc Cs Cr : Addr} {tk tk2 tk3 : Tok}
theorem ok_law_county (T : Bn mg) (mk : Mkr P w K mg base 2 "County" Cc (spCtyInit K Cc)) (F : Fun K "_law_county" "_law_county" (tS 87) f fd) : FnE P w K mg base 4 f (Pm1 (rLst K (rPr K rInt rInt)) (rCty K Cc) PreRuns summedM) := by
  refine fn_pm F sc87 (fun _ => rfl) (fun _ _ _ _ _ _ us hl => match us, hl with | [_], _ => rfl) fun q B0 H0 l hr hp => ?_
  exact tr_rt (EE.m (ee_mkCty mk hr (ee_seqT (ee_tupleOf T.tuple (ee_seqL (ee_var 0 rfl)))) hp))
theorem ok_law_made (co : Stm P w K mg base 7 C "of" (spScrOf K C Cs)) (c85 : Cal P w K mg base 1 "_law_line" (spLine K)) (mC : mg "Script" = some (.ref C)) (F : Fun K "_law_made" "_law_made" (tS 86) f fd) : FnE P w K mg base 8 f (Pm1 (rLst K (rStx K)) (rScr K C Cs) (fun l => l.length ≤ 50 ∧ ∀ s ∈ l, s ∈ allS) id) := by
  refine fn_pm F sc86 (fun _ => rfl) (fun _ _ _ _ _ _ us hl => match us, hl with | [_], _ => rfl) fun q B0 H0 l hr hp => ?_
  exact tr_rtE (y := l) (EE.m (ee_sta (x := l) co hr (ee_cls mC) (ee_imp (s := rVia rStr lineOf) (ee_call1 (x := l) c85 hr (ee_var 0 rfl) hp) fun H v z => z) hp)) rfl
end
end K81
set_option Elab.async false
set_option linter.all false
set_option maxRecDepth 100000
set_option maxHeartbeats 1900000
namespace K81
open PySem L2
abbrev spBox (K : Fr) : Sp := PmE (A := List Int × Int) (β := Addr) (fun x => [dt (rLst K rInt) x.1, dt rInt x.2]) (fun _ => no) (fun _ _ => mE) (fun x => 0 ≤ x.2 ∧ x.2 < 2 ∧ x.2 < (x.1.length : Int)) rRef (fun _ _ => True) (fun _ u H => mU no H u 0)
section
variable {P : Program} {w : World} {K : Fr} {mg : Str → Option Value} {base : Heap} {f : Addr} {fd : FuncData} {C Cc Cs Cr : Addr} {tk tk2 tk3 : Tok}
theorem ee_pow {X : Cx} {Γ : List Slot} {a b : Expr} {pos : Pos} {x y : Int} (ha : EE X Γ rInt a x) (hb : EE X Γ rInt b y) (hc : CPow x y) : EE X Γ rInt (.BinOp a .Pow b pos) (x ^ y.toNat) := ee_op op_pow ha hb (kI (g := fun i j => i ^ j.toNat) hc)
theorem oneB (b : Bool) : -(2 ^ 64) < (if b then (1 : Int) else 0) ∧ (if b then (1 : Int) else 0) < 2 ^ 64 := by cases b <;> decide
theorem ok_law_box (T : Bn mg) (F : Fun K "_law_box" "_law_box" (tS 78) f fd) : FnE P w K mg base 1 f (spBox K) := by
  refine fn_eff F sc78 (fun _ => rfl) (fun _ _ _ _ _ _ us hl => match us, hl with | [_, _], _ => rfl) fun q B0 H0 y hr hp => ?_
  obtain ⟨xs, k⟩ := y
  obtain ⟨h1, h2, h3⟩ : 0 ≤ k ∧ k < 2 ∧ k < (xs.length : Int) := hp
  obtain ⟨c, hc⟩ : ∃ c, atI xs k = some c := by
    have e : xs[k.toNat]? = some (xs[k.toNat]'(by omega)) := List.getElem?_eq_getElem _
    exact ⟨_, by unfold atI ixN; rw [if_pos h1, if_pos h3]; exact e⟩
  refine tr_set 2 sc78.nd (y := c) (EE.m (ee_eq (ee_if (z := 0) (eb_lt (ee_var 1 rfl) (ee_len T.len (ee_seqL (ee_var 0 rfl)))) (fun _ => ee_ixL (ee_var 0 rfl) (ee_var 1 rfl) hc) fun _ => ee_int) (by rw [if_pos (by show decide (k < (xs.length : Int)) = true; exact decide_eq_true h3)]))) ?_
  refine tr_cons (ps_ret (pe_lst (el_cons (r := rInt) (ee_mul (ee_abs T.abs (ee_var 2 rfl)) (ee_intB T.int (ee_ge (ee_abs T.abs (ee_var 2 rfl)) (ee_pow ee_int ee_int ⟨by decide, by decide, by decide⟩))) (.inr (oneB _)))
    (el_cons (ee_add (ee_add (ee_mod (ee_intI T.int (ee_var 2 rfl)) ee_int (by decide)) (ee_mul ee_int (ee_var 1 rfl) (.inl ⟨by decide, by decide⟩))) ee_int) (el_cons ee_int el_nil))))) fun σ H ⟨B, g, bx, en, m⟩ => ⟨B, en, g.i, fun vs B2 H2 g2 rv => ⟨by rw [rv.len]; exact big (by simp), fun p hp => ?_⟩⟩
  have h0 : H0 p = none := by
    cases z : H0 p with
    | none => rfl
    | some o => exact absurd hp ((g.tr g2).e p (by rw [z]; simp))
  refine ⟨B2, p, (g.tr g2).tr (Go.newH g2.i hp), trivial, ⟨_, _, 0, ⟨?_, ?_, by decide, by decide⟩, g2.i.back hp, .inl h0, vs, upd_same, rv⟩, rfl⟩
  · have := Int.emod_nonneg c (b := 2305843009213693951) (by decide)
    omega
  · have := Int.emod_lt_of_pos c (b := 2305843009213693951) (by decide)
    omega
end
end K81
set_option Elab.async false
set_option linter.all false
set_option maxRecDepth 100000
set_option maxHeartbeats 1900000
namespace K81
open PySem L2
/-! ### a + b by an own __add__ whose answer is an object -/
def rAddO (C : Addr) (sp : Sp) : R2 := fun x y H Q => ∃ a dxk fsk b dy gs, x = .ref a ∧ y = .ref b ∧ H a = some (.ins C dxk fsk) ∧ H b = some (.ins C dy gs) ∧
  sp [.ref a, .ref b] H (fun v H' => (∃ p, v = .ref p) ∧ Q v H') E0
section
variable {X : Cx} {k : Nat} {C g : Addr} {sp : Sp}
theorem op_addO (c : Spc X.K C "__add__" g) (hsf : PySem.W.selfFirst X.K C = true) (F : FnR X.prog X.w X.K X.mg X.base CX0 k g sp) (hr : Room k X.A) : OpR X (binaryOp .Add) (rAddO C sp) := by
  intro pins s σ H x y v u Q I rxk ryk h
  obtain ⟨a, dxk, fsk, b, dy, gs, rfl, rfl, ha, hb, q⟩ := h
  obtain rfl : v = Value.ref a := rxk
  obtain rfl : u = Value.ref b := ryk
  obtain ⟨mAk, O, _⟩ := ins_get I.hok ha
  obtain ⟨odk, J, _⟩ := O.look
  obtain ⟨mBk, O', _⟩ := ins_get I.hok hb
  obtain ⟨od', J', _⟩ := O'.look
  obtain ⟨m, hF⟩ := I.fr
  refine PySem.W.binop_K (op := .Add) hF I.ok.mod.kin J J'.type hsf c.at_ c.fn ?_
  refine thn (wpAny_call (run_fnR (us := [.ref a, .ref b]) (vs := [.ref a, .ref b]) F hr pass0 I (.cons rfl (.cons rfl .nil)) q)) fun w s1k ⟨z, H1k, I1k, rz, ⟨p, ez⟩, qz⟩ => ?_
  subst ez
  obtain rfl : w = Value.ref p := rz
  exact ⟨.ref p, H1k, I1k, rfl, qz⟩
end
section
variable {X : Cx} {Γ Γ' : List Slot} {M M' : Mem} {α β γ : Type} {r : RT α} {s : RT β} {tg a b e o : Expr} {es elts : List Expr} {pos p2k p tpos apos : Pos} {n : Str} {kk j k : Nat} {w : Addr → Prop} {B0 H0k BX : Hp} {D D' : Ends} {rest ss : List Stmt}
theorem ee_addO {C : Addr} {fds : α → List (Str × Dat)} {pr : α → Prop} {pre : α → α → Prop} {x y : α} {g : α → α → α} (cl : Spm X.prog X.w X.K X.mg X.base j C "__add__" (Pm2 (rIns C fds pr) (rIns C fds pr) (rIns C fds pr) pre g)) (hsf : PySem.W.selfFirst X.K C = true) (hr : Room k X.A) (ha : EE X Γ (rIns C fds pr) a x) (hb : EE X Γ (rIns C fds pr) b y) (hp : pre x y) (hk : j ≤ k := by decide) :
    EE X Γ (rIns C fds pr) (.BinOp a .Add b pos) (g x y) := by
  obtain ⟨gg, c, F⟩ := cl
  exact ee_op (op_addO c hsf F.r (hr.mono hk)) ha hb fun u v B H Q ex ruk rw' q => by
    obtain ⟨h0k, p, dxk, vs, e1k, e2k, e3k⟩ := id ruk
    obtain ⟨h0k', p', dy, ws, f1k, f2k, f3k⟩ := id rw'
    subst e1k f1k
    exact ⟨p, dxk, vs, p', dy, ws, rfl, rfl, ex _ _ e2k, ex _ _ f2k, B, (x, y), ex, .cons ruk (.cons rw' .nil), hp, fun z B2 H2k g2k rz => ⟨by
      obtain ⟨_, pz, _, _, ez, _⟩ := id rz
      exact ⟨pz, ez⟩, q z B2 H2k g2k rz⟩⟩
/-- a or b, lists made here -/
theorem en_or {xs ys : List α} (ha : EN X Γ r a xs) (hb : EN X Γ r b ys) : EN X Γ r (.BoolOp .Or [a, b] pos) (if xs.isEmpty then ys else xs) :=
  PE.imp (pe_orT ha (pe_one hb)) fun σ H Q ⟨B, en, ex, q⟩ => ⟨B, en, ex, fun B2 H2k f vs g h1k h2k h3k h4k => ⟨!vs.isEmpty, .inl ⟨vs, .inl (.inl h3k), rfl⟩, by
    cases h4k with
    | nil => exact iteF ⟨B2, en.mono g.b, g.i, fun B3 H3k f3k vs3 g3k k1k k2k k3k k4k => q B3 H3k f3k vs3 (g.tr g3k) k1k (g.hx.back k2k) k3k k4k⟩
    | cons r1k r2k => exact iteT (q B2 H2k f _ g h1k h2k h3k (.cons r1k r2k))⟩⟩
/-- maybe a number against a number -/
theorem kNeOI {x : Option Int} {y : Int} : ∀ u w B H (Q : VK), Ex B H → (rOpt rInt).rep B u x → rInt.rep B w y → (∀ B2 H2k, Go no B H B2 H2k → Q (.bl (!decide (x = some y))) H2k) → rNe u w H Q := fun u w B H Q ex e1k e2k q => by
  obtain rfl : w = V.int y := e2k
  cases x with
  | none =>
    obtain rfl : u = V.non := e1k
    exact ⟨rfl, q B H (Go.rf ex)⟩
  | some z =>
    obtain rfl : u = V.int z := e1k.2
    refine ⟨rfl, ?_⟩
    rw [show decide (V.int z = V.int y) = decide (some z = some y) from decide_eq_decide.mpr ⟨fun h => by rw [V.int.inj h], fun h => by rw [Option.some.inj h]⟩]
    exact q B H (Go.rf ex)
theorem kEqOI {x : Option Int} {y : Int} : ∀ u w B H (Q : VK), Ex B H → (rOpt rInt).rep B u x → rInt.rep B w y → (∀ B2 H2k, Go no B H B2 H2k → Q (.bl (decide (x = some y))) H2k) → rEq u w H Q := fun u w B H Q ex e1k e2k q => by
  obtain rfl : w = V.int y := e2k
  cases x with
  | none =>
    obtain rfl : u = V.non := e1k
    exact ⟨rfl, q B H (Go.rf ex)⟩
  | some z =>
    obtain rfl : u = V.int z := e1k.2
    refine ⟨rfl, ?_⟩
    rw [show decide (V.int z = V.int y) = decide (some z = some y) from decide_eq_decide.mpr ⟨fun h => by rw [V.int.inj h], fun h => by rw [Option.some.inj h]⟩]
    exact q B H (Go.rf ex)
theorem ee_neOI {x : Option Int} {y : Int} (ha : EE X Γ (rOpt rInt) a x) (hb : EE X Γ rInt b y) : EE X Γ rBl (.Compare a [.NotEq] [b] pos) (!decide (x = some y)) := ee_cmp op_ne ha hb kNeOI (nomark b)
theorem ee_eqOI {x : Option Int} {y : Int} (ha : EE X Γ (rOpt rInt) a x) (hb : EE X Γ rInt b y) : EE X Γ rBl (.Compare a [.Eq] [b] pos) (decide (x = some y)) := ee_cmp op_eq ha hb kEqOI (nomark b)
/-- x not in (None, h), x None or alike to h -/
theorem eb_noNone {C Cs : Addr} {x : Option (List Stp)} {l : List Stp} (cl : Spm X.prog X.w X.K X.mg X.base 3 C "__eq__" (spScrEq X.K C Cs)) (hn : PySem.W.subIn X.K (.ref C) (.type "NoneType") = some false) (hr : Room k X.A) (ha : EE X Γ (rOpt (rScr X.K C Cs)) a x) (hb : EE X Γ (rPr X.K rNon (rScr X.K C Cs)) b ((), l)) (hxk : ∀ g, x = some g → formOfSteps g = formOfSteps l) (hk : 4 ≤ k := by decide)
    (hm : behindInMarks .NotIn b = false := by with_unfolding_all rfl) : EB X Γ (.Compare a [.NotIn] [b] pos) false := by
  obtain ⟨gg, c, F⟩ := cl
  refine eb_cmp (op_noNone c hn F.r (hr.mono hk)) ha hb (fun u v B H Q ex ruk rvk q => ?_) hm
  obtain ⟨p, u0k, h, e1k, e2k, e3k, e4k⟩ := rvk
  obtain rfl : u0k = V.non := e3k
  obtain ⟨h0k, ph, dh, fh, f1k, f2k, f3k⟩ := id e4k
  subst f1k
  refine ⟨p, ph, dh, fh, e1k, ex.sqT e2k, ex _ _ f2k, fun H' e => q B H' ⟨Ex.rfl', fun a o _ h => e a o h, ex.tr (fun a o h => e a o h), fun _ _ q => q, fun a h0k => by
      cases z : H a with
      | none => exact absurd z h0k
      | some o => rw [e a o z]; simp⟩, ?_⟩
  cases x with
  | none => exact .inl ruk
  | some g =>
    obtain ⟨n0k, k1k⟩ := id ruk
    obtain ⟨h0k', pa, da, fa, g1k, g2k, g3k⟩ := id k1k
    subst g1k
    refine .inr ⟨pa, da, fa, rfl, ex _ _ g2k, ⟨B, (g, none), ex, .cons k1k (.cons rfl .nil), trivial, fun v B2 H2k g2k rz => ⟨rz, fun a o h => g2k.hx a o h⟩⟩, fun H1k x1k => ⟨B, (l, some g), ex.tr (fun a o h => x1k a o h), .cons e4k (.cons ruk .nil), trivial, fun v B2 H2k g2k rz => ⟨?_, fun a o h => g2k.hx a o h⟩⟩⟩
    rw [show v = V.bl (eqScr l (some g)) from rz]
    show V.bl (true && decide (formOfSteps l = formOfSteps g)) = _
    rw [hxk g rfl]
    simp
end
end K81
set_option Elab.async false
set_option linter.all false
set_option maxRecDepth 100000
set_option maxHeartbeats 1900000
namespace K81
open PySem L2
/-! ### the law's cells -/
def cellStep (acc : List Int) (p : Int × Int) : List Int := acc.set (p.1 % 2).toNat ((acc[(p.1 % 2).toNat]?).getD 0 + p.2 * (p.1 + 2))
def cells0 (s : List Int) : List Int := if (cut s none (some 2)).isEmpty then [0] else cut s none (some 2)
def cellsM (s : List Int) : List Int := (enumI (cut s (some 2) (some 63))).foldl cellStep (cells0 s)
theorem cellStep_len (acc : List Int) (p : Int × Int) : (cellStep acc p).length = acc.length := List.length_set
theorem cells0_two {s : List Int} (h : cut s (some 2) (some 63) ≠ []) : (cells0 s).length = 2 := by
  have h1 : 2 < s.length := by
    apply Classical.byContradiction
    intro hn
    apply h
    show (s.drop (HT.sIx s.length 0 (some ((2 : Nat) : Int)))).take _ = []
    rw [HT.sIx_nat, Nat.min_eq_right (by omega), List.drop_length, List.take_nil]
  unfold cells0
  rw [show cut s none (some 2) = s.take 2 from cut_to s 2]
  rw [if_neg (by
    intro z
    have : (s.take 2).length = 0 := by rw [List.isEmpty_iff.mp z]; rfl
    rw [List.length_take] at this
    omega), List.length_take]
  omega
theorem cells0_len (s : List Int) : 0 < (cells0 s).length ∧ (cells0 s).length ≤ 2 := by
  unfold cells0
  rw [show cut s none (some 2) = s.take 2 from cut_to s 2]
  split
  · decide
  · rename_i h
    rw [List.length_take]
    cases s with
    | nil => exact absurd rfl h
    | cons a s => simp only [List.length_cons]; omega
theorem cellsM_len (s : List Int) : 0 < (cellsM s).length ∧ (cellsM s).length ≤ 2 := by
  have : ∀ (l : List (Int × Int)) (b : List Int), (l.foldl cellStep b).length = b.length := by
    intro l
    induction l with
    | nil => intro b; rfl
    | cons x l ih => intro b; rw [List.foldl_cons, ih, cellStep_len]
  unfold cellsM
  rw [this]
  exact cells0_len s
abbrev spCells (K : Fr) : Sp := Pm2 (rLsF K rInt) rInt (rLst K rInt) (fun s m => m = 2 ∧ s.length ≤ 63) (fun s _ => cellsM s)
section
variable {P : Program} {w : World} {K : Fr} {mg : Str → Option Value} {base : Heap} {f : Addr} {fd : FuncData} {C Cc Cs Cr : Addr} {tk tk2 tk3 : Tok}
theorem ok_law_cells (T : Bn mg) (F : Fun K "_law_cells" "_law_cells" (tS 80) f fd) : FnE P w K mg base 1 f (spCells K) := by
  refine fn_pm F sc80 (fun _ => rfl) (fun _ _ _ _ _ _ us hl => match us, hl with | [_, _], _ => rfl) fun q B0 H0 y hr hp => ?_
  obtain ⟨s, m⟩ := y
  obtain ⟨hm, hl⟩ : m = 2 ∧ s.length ≤ 63 := hp
  subst hm
  refine tr_newN (xs := cells0 s) 2 sc80.nd (en_or (en_listOf T.list (ee_seqL (ee_slF (ee_var 0 rfl) eo_none (eo_some (ee_var 1 rfl))))) (en_lst (el_cons ee_int el_nil) (by decide))) fun o ho => ?_
  refine tr_fold cellStep (cells0 s) (fun b => [sl (rLsF K rInt) s, sl rInt 2, sl (rAdr o) (), none, none, none]) (fun b => mA mE (mL no H0 o rInt b)) (fun i b => b.length = (cells0 s).length) rfl
    (ei_enumL T.enumerate (ee_slF (ee_var 0 rfl) (eo_some (ee_var 1 rfl)) (eo_some ee_int))) (et_pr rfl (et_name 3 sc80.nd) (et_name 4 sc80.nd)) rfl (fun i x b hx hb => by rw [cellStep_len]; exact hb) (by repeat constructor) (fun _ _ h => h) (fun BX e i x b hx hb => ?_) fun hb => ?_
  · have hne : cut s (some 2) (some 63) ≠ [] := by
      intro z
      have := enumI_at hx
      rw [z] at this
      simp at this
    have hk := (enumI_at hx).1
    have hb2 : b.length = 2 := hb.trans (cells0_two hne)
    have hm0 := Int.emod_nonneg x.1 (b := 2) (by decide)
    have hm1 := Int.emod_lt_of_pos x.1 (b := 2) (by decide)
    refine tr_set 5 sc80.nd (EE.m (ee_mod (ee_intI T.int (ee_var 3 rfl)) (ee_var 1 rfl) (by decide))) ?_
    have hat : atI b (x.1 % 2) = some ((b[(x.1 % 2).toNat]?).getD 0) := by
      have e : b[(x.1 % 2).toNat]? = some (b[(x.1 % 2).toNat]'(by omega)) := List.getElem?_eq_getElem _
      unfold atI ixN
      rw [if_pos hm0, if_pos (by omega)]
      show b[(x.1 % 2).toNat]? = _
      rw [e]
      rfl
    refine tr_put (j := (x.1 % 2).toNat) (EE.op (s := rInt) (xs := b) 2 (ee_add (ee_ixL (ee_var 2 rfl) (ee_var 5 rfl) hat) (ee_mul (ee_var 4 rfl) (ee_add (ee_var 3 rfl) ee_int) (.inr ⟨by omega, ?_⟩))) fz_int rfl) (ee_var 2 rfl) (ee_var 5 rfl) ?_ mE_free ?_
    · have : i < (enumI (cut s (some 2) (some 63))).length := (List.getElem?_eq_some_iff.mp hx).1
      rw [enumI_len] at this
      have h3 : (cut s (some 2) (some 63)).length ≤ s.length := by
        unfold cut
        rw [List.length_take, List.length_drop]
        omega
      omega
    · unfold ixN
      rw [if_pos hm0, if_pos (by omega)]
    · exact tr_done rfl (by repeat constructor) fun _ _ z => z
  · exact tr_rtL (ee_var 2 rfl) rfl ho
end
end K81
set_option Elab.async false
set_option linter.all false
set_option maxRecDepth 100000
set_option maxHeartbeats 1900000
namespace K81
open PySem L2
/-! ### towns, right -/
structure TownOk (l : List Stp) (c : Form) (x : Int) : Prop where
  has : hasTown c x = true
  lose : decide (toLose l c x = some 0) = !hasTown (runSteps l c) x
  take : (takenBy l c x).isNone = hasTown (runSteps l c) x
  add : decide (toAdd l c x = some 0) = hasTown (runSteps l c) x
  non : (toAdd l c x).isNone = decide (x < leastIn (formOfSteps l))
def TownsOk (l : List Stp) (c : Form) : Prop := ∀ p ∈ c, TownOk l c p.1
abbrev spLose (K : Fr) (C Cs Cc : Addr) : Sp := Pm3 (rScr K C Cs) (rCty K Cc) rInt (rOpt rInt) (fun _ c size => hasTown c size = true) toLose
abbrev spAddT (K : Fr) (C Cs Cc : Addr) : Sp := Pm3 (rScr K C Cs) (rCty K Cc) rInt (rOpt rInt) (fun _ c size => hasTown c size = true) toAdd
abbrev spTaken (K : Fr) (C Cs Cc : Addr) : Sp := Pm3 (rScr K C Cs) (rCty K Cc) rInt (rOpt rInt) (fun _ c size => hasTown c size = true) takenBy
abbrev spTowns (K : Fr) (C Cs Cc : Addr) : Sp := Pm2 (rScr K C Cs) (rTup K (rCty K Cc)) rBl (fun l pages => ∀ c ∈ pages, TownsOk l c) (fun _ _ => true)
section
variable {P : Program} {w : World} {K : Fr} {mg : Str → Option Value} {base : Heap} {f : Addr} {fd : FuncData} {C Cc Cs Cr : Addr} {tk tk2 tk3 : Tok}
theorem ok_law_towns_right (Y : ScrF K mg C) (Yc : CtyF K mg Cc) (cr : Prp P w K mg base 1 Cc "runs" (spRunsC K Cc)) (sh : Mth P w K mg base 7 C "shows" (spShows K C Cs Cc)) (c63 : Cal P w K mg base 4 "town_to_add" (spAddT K C Cs Cc)) (c62 : Cal P w K mg base 8 "towns_to_lose" (spLose K C Cs Cc)) (c56 : Cal P w K mg base 6 "taken_by" (spTaken K C Cs Cc)) (cl : Prp P w K mg base 2 C "least" (spLeastS K C Cs))
    (F : Fun K "_law_towns_right" "_law_towns_right" (tS 89) f fd) : FnE P w K mg base 9 f (spTowns K C Cs Cc) := by
  refine fn_pm F sc89 (fun _ => rfl) (fun _ _ _ _ _ _ us hl => match us, hl with | [_, _], _ => rfl) fun q B0 H0 y hr hp => ?_
  obtain ⟨l, pages⟩ := y
  have hp : ∀ c ∈ pages, TownsOk l c := hp
  refine tr_fold (β := Unit) (fun b _ => b) () (fun _ => [sl (rScr K C Cs) l, sl (rTup K (rCty K Cc)) pages, none, none, none, none, none]) (fun _ => mE) (fun _ _ => True) rfl (ei_tup (ee_var 1 rfl)) (et_name 2 sc89.nd) trivial (fun _ _ _ _ _ => trivial) (by repeat constructor) (fun _ _ h => h) (fun BX e i c b hc _ => ?_) fun _ => tr_rt (EE.m ee_bl)
  have hpc : TownsOk l c := hp c (List.mem_of_getElem? hc)
  refine tr_know 2 rfl fun hy => ?_
  refine tr_fold (β := Unit) (fun b _ => b) () (fun _ => [sl (rScr K C Cs) l, sl (rTup K (rCty K Cc)) pages, sl (rCty K Cc) c, none, none, none, none]) (fun _ => mE) (fun _ _ => True) rfl
    (ei_lst (ee_lc (s := rInt) (own := [("_law_own", 4)]) (N := N89) (sc := defScope (tS 89)) rfl sc89.nd (by decide +kernel) (ei_tup (ee_prop cr hr Yc.isc.cl (ee_var 2 rfl) trivial)) (fun q => et_name 4 sc89.nd) (fun q x hx => ee_fst (ee_var 4 rfl) ee_int) (Nat.le_trans hy.len (by decide)))) (et_name 3 sc89.nd) trivial (fun _ _ _ _ _ => trivial) (by repeat constructor) (fun _ _ h => h) (fun BX e i x b hx _ => ?_) fun _ => tr_done rfl (by repeat constructor) fun _ _ z => z
  obtain ⟨p, hp2, hpe⟩ := List.mem_map.mp (List.mem_of_getElem? hx)
  have ht : TownOk l c x := hpe ▸ hpc p hp2
  refine tr_par 5 6 rfl sc89.nd (ee_meth2 sh hr Y.isc.cl (ee_var 0 rfl) rfl (ee_var 2 rfl) (ee_var 3 rfl) ht.has) (ee_call3 c63 hr (ee_var 0 rfl) (ee_var 2 rfl) (ee_var 3 rfl) ht.has) ?_ rfl
  refine tr_ifF (EB.m (eb_eq (eb_neB (ee_neOI (ee_call3 c62 hr (ee_var 0 rfl) (ee_var 2 rfl) (ee_var 3 rfl) ht.has) ee_int) (ee_var 5 rfl)) ?_)) (tr_go ?_)
  · show (!decide ((!decide (toLose l c x = some 0)) = hasTown (runSteps l c) x)) = false
    rw [ht.lose]
    simp
  refine tr_ifF (EB.m (eb_eq (eb_neB (ee_isN (ee_call3 c56 hr (ee_var 0 rfl) (ee_var 2 rfl) (ee_var 3 rfl) ht.has)) (ee_var 5 rfl)) ?_)) (tr_go ?_)
  · show (!decide ((takenBy l c x).isNone = hasTown (runSteps l c) x)) = false
    rw [ht.take]
    simp
  refine tr_ifF (EB.m (eb_eq (eb_or (eb_neB (ee_eqOI (ee_var 6 rfl) ee_int) (ee_var 5 rfl)) fun _ => eb_neB (ee_isN (ee_var (r := rOpt rInt) 6 rfl)) (ee_lt (ee_var 3 rfl) (ee_prop cl hr Y.isc.cl (ee_var 0 rfl) trivial))) ?_)) (tr_go (tr_done rfl (by repeat constructor) fun _ _ z => z))
  show ((!decide (decide (toAdd l c x = some 0) = hasTown (runSteps l c) x)) || (!decide ((toAdd l c x).isNone = decide (x < leastIn (formOfSteps l))))) = false
  rw [ht.add, ht.non]
  simp
end
end K81
set_option Elab.async false
set_option linter.all false
set_option maxRecDepth 100000
set_option maxHeartbeats 1900000
namespace K81
open PySem L2
/-! ### a case, right -/
abbrev seenM (l : List Stp) : List Form := (tableM 7).map (runSteps l)
structure CaseL (l f : List Stp) (looks : List Look) : Prop where
  ok : l.length ≤ 50 ∧ ∀ s ∈ l, s ∈ allS
  so : searchOk 100 l st0 = true
  se : searchM 100 l st0 [] = (some f, looks)
  ro : readOk (seenM l) = true
  re : formOfSteps (readOff (seenM l)) = formOfSteps l
  fe : formOfSteps f = formOfSteps l
  il : InL looks
  ll : looks.length ≤ 1000
  fi : fitsM f looks = true
  ft : FitOk looks
  ws : (looks.filter fun q => q.2.2) ≠ [] → ∃ a, strictestFit looks = some a ∧ FL (formOfSteps a) ∧ FL (formOfSteps l) ∧ isWithin (formOfSteps a) (formOfSteps l) = true
  op : ∀ a, lowOf looks = some a → (justAbove a).length ≤ 1000 ∧ ∀ fm ∈ justAbove a, FL fm
  oe : ∀ g, onlyFit looks = some g → formOfSteps g = formOfSteps l
  nl : needlessM f = []
/-- with one more town -/
def moreC (l : List Stp) (c : Form) : Form := summedM (c ++ summedM [(newTown l c, 1)])
structure CaseP (l : List Stp) (c : Form) : Prop where
  pre : PreRuns [(newTown l c, 1)]
  len : c.length + (summedM [(newTown l c, 1)]).length ≤ 1000
  has : hasTown (moreC l c) (newTown l c) = true
  shw : hasTown (runSteps l (moreC l c)) (newTown l c) = true
  twn : TownsOk l c
abbrev spSearched (K : Fr) (C Cs Cc : Addr) : Sp := Pm2 (rScr K C Cs) rInt (rPr K (rOpt (rScr K C Cs)) (rLooks K Cc)) (fun l m => m = 7 ∧ searchOk 100 l st0 = true) (fun l _ => searchM 100 l st0 [])
abbrev spMade (K : Fr) (C Cs : Addr) : Sp := Pm1 (rLst K (rStx K)) (rScr K C Cs) (fun l => l.length ≤ 50 ∧ ∀ s ∈ l, s ∈ allS) id
abbrev spTelling (K : Fr) (Cc : Addr) : Sp := Pm1 rInt (rTup K (rCty K Cc)) (fun m => m = 7) tableM
abbrev spFits (K : Fr) (C Cs Cc : Addr) : Sp := Pm2 (rScr K C Cs) (rLooks K Cc) rBl (fun _ looks => InL looks ∧ looks.length ≤ 1000) fitsM
abbrev spStrictest (K : Fr) (C Cs Cc : Addr) : Sp := Pm1 (rLooks K Cc) (rOpt (rScr K C Cs)) FitOk strictestFit
abbrev spOnly (K : Fr) (C Cs Cc : Addr) : Sp := Pm1 (rLooks K Cc) (rOpt (rScr K C Cs)) (fun looks => FitOk looks ∧ ∀ a, lowOf looks = some a → (justAbove a).length ≤ 1000 ∧ ∀ fm ∈ justAbove a, FL fm) onlyFit
abbrev spNeedless (K : Fr) (C Cs : Addr) : Sp := Pm1 (rScr K C Cs) (rTup K rInt) (fun _ => True) needlessM
abbrev spNewTown (K : Fr) (C Cs Cc : Addr) : Sp := Pm2 (rScr K C Cs) (rCty K Cc) rInt (fun _ _ => True) newTown
abbrev spWithinS (K : Fr) (C Cs : Addr) : Sp := Pm2 (rScr K C Cs) (rScr K C Cs) rBl (fun x y => FL (formOfSteps x) ∧ FL (formOfSteps y)) fun x y => isWithin (formOfSteps x) (formOfSteps y)
abbrev spCallC (K : Fr) (C Cs Cc : Addr) : Sp := Pm2 (rScr K C Cs) (rCty K Cc) (rCty K Cc) (fun _ _ => True) runSteps
abbrev spAddC (K : Fr) (Cc : Addr) : Sp := Pm2 (rCty K Cc) (rCty K Cc) (rCty K Cc) (fun a b => a.length + b.length ≤ 1000) fun a b => summedM (a ++ b)
/-- what the case leans on -/
structure CaseF (P : Program) (w : World) (K : Fr) (mg : Str → Option Value) (base : Heap) (C Cs Cc : Addr) : Prop where
  T : Bn mg
  Y : ScrF K mg C
  mkC : Mkr P w K mg base 2 "County" Cc (spCtyInit K Cc)
  c86 : Cal P w K mg base 8 "_law_made" (spMade K C Cs)
  c73 : Cal P w K mg base 5 "telling_table" (spTelling K Cc)
  cc : Cll P w K mg base 6 C (spCallC K C Cs Cc)
  c88 : Cal P w K mg base 13 "_law_searched" (spSearched K C Cs Cc)
  c74 : Cal P w K mg base 8 "read_off" (spReadOff K C Cs Cc)
  ce : Spm P w K mg base 3 C "__eq__" (spScrEq K C Cs)
  sne : SNe K C
  snn : PySem.W.subIn K (.ref C) (.type "NoneType") = some false
  c65 : Cal P w K mg base 8 "fits" (spFits K C Cs Cc)
  c70 : Cal P w K mg base 8 "strictest_fit" (spStrictest K C Cs Cc)
  cw : Mth P w K mg base 3 C "within" (spWithinS K C Cs)
  c71 : Cal P w K mg base 8 "only_fit" (spOnly K C Cs Cc)
  c54 : Cal P w K mg base 8 "needless" (spNeedless K C Cs)
  c59 : Cal P w K mg base 4 "new_town" (spNewTown K C Cs Cc)
  sh : Mth P w K mg base 7 C "shows" (spShows K C Cs Cc)
  ad : Spm P w K mg base 4 Cc "__add__" (spAddC K Cc)
  adf : PySem.W.selfFirst K Cc = true
  c89 : Cal P w K mg base 9 "_law_towns_right" (spTowns K C Cs Cc)
abbrev spCase (K : Fr) (Cc : Addr) : Sp := Pm2 (rLst K (rStx K)) (rTup K (rCty K Cc)) rBl (fun l pages => (∃ f looks, CaseL l f looks) ∧ ∀ c ∈ pages, CaseP l c) (fun _ _ => true)
theorem tableM_len : (tableM 7).length ≤ 100000 := by decide +kernel
theorem ins_ref {C : Addr} {α : Type} {fds : α → List (Str × Dat)} {pr : α → Prop} {H : Hp} {v : V} {x : α} (h : (rIns C fds pr).rep H v x) : ∃ b dx vs, v = .ref b ∧ H b = some (.ins C dx vs) := by
  obtain ⟨_, a, dx, vs, e1, e2, _⟩ := h
  exact ⟨a, dx, vs, e1, e2⟩
section
variable {P : Program} {w : World} {K : Fr} {mg : Str → Option Value} {base : Heap} {f : Addr} {fd : FuncData} {C Cc Cs Cr : Addr} {tk tk2 tk3 : Tok}
theorem ok_law_case_right (Z : CaseF P w K mg base C Cs Cc) (F : Fun K "_law_case_right" "_law_case_right" (tS 90) f fd) : FnE P w K mg base 14 f (spCase K Cc) := by
  refine fn_pm F sc90 (fun _ => rfl) (fun _ _ _ _ _ _ us hl => match us, hl with | [_, _], _ => rfl) fun q B0 H0 y hr hp => ?_
  obtain ⟨l, pages⟩ := y
  obtain ⟨⟨fs, looks, hl⟩, hpg⟩ : (∃ f looks, CaseL l f looks) ∧ ∀ c ∈ pages, CaseP l c := hp
  refine tr_set 2 sc90.nd (y := l) (EE.m (ee_call1 (x := l) Z.c86 hr (ee_var 0 rfl) hl.ok)) ?_
  refine tr_set 3 sc90.nd (y := seenM l) (EE.m (ee_tupleOf Z.T.tuple (ee_seqL (ee_lc (s := rCty K Cc) (own := [("_law_own", 4)]) (N := N90) (sc := defScope (tS 90)) rfl sc90.nd (by decide +kernel) (ei_tup (ee_call1 Z.c73 hr ee_int rfl)) (fun q => et_name 4 sc90.nd) (fun q x hx => ee_callO Z.cc hr (ee_var (r := rScr K C Cs) 2 rfl) (ee_var 4 rfl) trivial) tableM_len)))) ?_
  refine tr_tg (x := (some fs, looks)) (EE.m (ee_eq (ee_call2 Z.c88 hr (ee_var 2 rfl) ee_int ⟨rfl, hl.so⟩) hl.se)) (et_pr rfl (et_name 5 sc90.nd) (et_name 6 sc90.nd)) ?_
  have vf : ∀ {Γ : List Slot} {pos : Pos}, Γ[5]? = some (sl (rOpt (rScr K C Cs)) (some fs)) → EE (cxE P w K mg base N90 "_law_case_right" (tS 90) f q) Γ (rScr K C Cs) (.Name "_law_found" pos) fs := fun h => ee_some (ee_var 5 h)
  have vo : ∀ {X : Cx} {Γ : List Slot} {e : Expr} {x : List Stp}, EE X Γ (rScr K C Cs) e x → EE X Γ (rOpt (rScr K C Cs)) e (some x) := fun h => ee_opt (fun H v => oi_scr H v _) h
  have ho : ∀ (x : List Stp) (H : Hp) (v : V), (rOpt (rScr K C Cs)).rep H v (some x) → ∃ b dx vs, v = .ref b ∧ H b = some (.ins C dx vs) := fun x H v h => ins_ref h.2
  refine tr_ifF (EB.m (eb_eq (eb_or3 (eb_neO Z.ce Z.sne hr (ee_call2 Z.c74 hr ee_int (ee_var 3 rfl) ⟨rfl, hl.ro⟩) (vo (ee_var 2 rfl)) (ho l) trivial) (fun _ => eb_neO Z.ce Z.sne hr (vf rfl) (vo (ee_var 2 rfl)) (ho l) trivial) fun _ _ => eb_not (eb_val (ee_call2 Z.c65 hr (vf rfl) (ee_var 6 rfl) ⟨hl.il, hl.ll⟩))) ?_)) (tr_go ?_)
  · show ((!eqScr (readOff (seenM l)) (some l)) || ((!eqScr fs (some l)) || !fitsM fs looks)) = false
    unfold eqScr
    show ((!(true && decide (formOfSteps (readOff (seenM l)) = formOfSteps l))) || ((!(true && decide (formOfSteps fs = formOfSteps l))) || !fitsM fs looks)) = false
    rw [hl.re, hl.fe, hl.fi]
    simp
  refine tr_ifF (EB.m (eb_eq (y := false) (eb_and (x := !(((looks.filter fun q => q.2.2).map fun q => q)).isEmpty) (y := false) (eb_neNil (s := rInt) hr.units0 (ee_lcIf (s := rTri K (rCty K Cc) rInt rBl) (own := [("_law_own", 4)]) (N := N90) (sc := defScope (tS 90)) rfl sc90.nd (by decide +kernel) (ei_tup (ee_var 6 rfl)) (fun q => et_name 4 sc90.nd) (fun q x hx => eb_val (ee_thd (ee_var 4 rfl) ee_int)) (fun q x hx _ => ee_var 4 rfl) (Nat.le_trans hl.ll (by decide))) (ee_lst el_nil (by decide))) fun h => ?_) (Bool.and_false _))) (tr_go ?_)
  · have hne : (looks.filter fun q => q.2.2) ≠ [] := by
      intro z
      rw [z] at h
      cases h
    obtain ⟨a, e1, e2, e3, e4⟩ := hl.ws hne
    exact eb_eq (eb_not (eb_val (ee_meth1 Z.cw hr Z.Y.isc.cl (ee_some (ee_eq (ee_call1 Z.c70 hr (ee_var 6 rfl) hl.ft) e1)) rfl (ee_var 2 rfl) ⟨e2, e3⟩))) (by show (!isWithin (formOfSteps a) (formOfSteps l)) = false; rw [e4]; rfl)
  refine tr_ifF (EB.m (eb_eq (y := false) (eb_or (eb_noNone Z.ce Z.snn hr (ee_call1 Z.c71 hr (ee_var 6 rfl) ⟨hl.ft, hl.op⟩) (ee_pr ee_non (ee_var 2 rfl)) hl.oe) fun _ => eb_neT (x := needlessM fs) (y := []) (eqT_tup eqT_int) (by decide) hr.units (ee_call1 Z.c54 hr (vf rfl) trivial) (ee_tupL el_nil (by decide))) (by rw [hl.nl]; rfl))) (tr_go ?_)
  refine tr_fold (β := Unit) (fun b _ => b) () (fun _ => [sl (rLst K (rStx K)) l, sl (rTup K (rCty K Cc)) pages, sl (rScr K C Cs) l, none, none, none, none, none, none]) (fun _ => mE) (fun _ _ => True) rfl (ei_tup (ee_var 1 rfl)) (et_name 7 sc90.nd) trivial (fun _ _ _ _ _ => trivial) (by repeat constructor) (fun _ _ h => h) (fun BX e i c b hc _ => ?_) fun _ => tr_rt (EE.m (ee_call2 Z.c89 hr (ee_var 2 rfl) (ee_var 1 rfl) fun c hc => (hpg c hc).twn))
  have hcp : CaseP l c := hpg c (List.mem_of_getElem? hc)
  refine tr_set 8 sc90.nd (EE.m (ee_call2 Z.c59 hr (ee_var 2 rfl) (ee_var 7 rfl) trivial)) ?_
  refine tr_ifF (EB.m (eb_eq (eb_not (eb_val (ee_meth2 Z.sh hr Z.Y.isc.cl (ee_var 2 rfl) rfl (ee_addO Z.ad Z.adf hr (ee_var (r := rCty K Cc) 7 rfl) (ee_mkCty Z.mkC hr (ee_seqT (ee_tupL (el_cons (ee_pr (ee_var 8 rfl) ee_int) el_nil) (by simp))) hcp.pre) hcp.len) (ee_var 8 rfl) hcp.has))) ?_)) (tr_go (tr_done rfl (by repeat constructor) fun _ _ z => z))
  show (!hasTown (runSteps l (moreC l c)) (newTown l c)) = false
  rw [hcp.shw]
  rfl
end
end K81
set_option Elab.async false
set_option linter.all false
set_option maxRecDepth 100000
set_option maxHeartbeats 1900000
namespace K81
open PySem L2
structure RtA where
  u : Addr
  n : Int
abbrev spRight : Sp := PmU (A := RtA) (β := Bool) (·.u) (·.n) (fun x => x.n + 49 * 8) (fun x => [dt (rAdr x.u) ()]) (fun x => x.n < 100000) rBl (fun _ y => y = true)
section
variable {X : Cx} {Γ Γ' : List Slot} {M M' : Mem} {α β γ : Type} {r : RT α} {s : RT β} {t : RT γ} {tg a b e o : Expr} {es elts : List Expr} {pos p2 p tpos apos pos2 : Pos} {m : Str} {kk j k : Nat} {w : Addr → Prop} {B0 H0 BX : Hp} {D D' : Ends} {rest ss : List Stmt} {u : Addr} {n n1 n2 : Int}
/-- f(e), e draws, f does not -/
theorem ef_call1 {pre : α → Prop} {g : α → β} {post : α → Prop} (cl : Cal X.prog X.w X.K X.mg X.base j m (Pm1 r s pre g)) (hr : Room k X.A) (hk : j ≤ k) (ha : EF X Γ u n n1 r a post) (hp : ∀ y, post y → pre y) (hg : Gl X m := by rfl) (hdb : (m == ("__debug__" : Str)) = false := by decide)
    (he : starEach [a] X.env = (false, eval a X.env) :: starEach [] X.env := by rfl) : EF X Γ u n n1 s (.Call (.Name m p) [a] [] pos) (fun z => ∃ y, post y ∧ z = g y) := by
  obtain ⟨f, h1, h2, fd, ps, F, b⟩ := cl
  exact PE.imp (pe_call F (hr.mono hk) hg h1 h2 b (dvs := []) .nil (pass0 (X := X)) (pa_cons ha pa_nil he) hdb he) fun σ H Q ⟨B, en, ex, m, q⟩ => ⟨B, en, ex, m, fun v y B1 H1 g1 hy hm rv => ⟨B1, y, g1.i, .cons rv .nil, hp y hy, fun z B2 H2 g2 rz => q z (g y) B2 H2 (g1.tr g2.w) ⟨y, hy, rfl⟩ ((mV u n1 H).st g2 hm) rz⟩⟩
theorem ef_call2 {pre : α → γ → Prop} {g : α → γ → β} {post : α → Prop} {x : γ} (cl : Cal X.prog X.w X.K X.mg X.base j m (Pm2 r t s pre g)) (hr : Room k X.A) (hk : j ≤ k) (ha : EF X Γ u n n1 r a post) (hb : EE X Γ t b x) (hp : ∀ y, post y → pre y x) (hg : Gl X m := by rfl) (hdb : (m == ("__debug__" : Str)) = false := by decide)
    (he : starEach [a, b] X.env = (false, eval a X.env) :: starEach [b] X.env := by rfl) (he2 : starEach [b] X.env = (false, eval b X.env) :: starEach [] X.env := by rfl) (hpl : (backTo pos (starEach [b] X.env)).any (·.1) = false := by rfl) : EF X Γ u n n1 s (.Call (.Name m p) [a, b] [] pos) (fun z => ∃ y, post y ∧ z = g y x) := by
  obtain ⟨f, h1, h2, fd, ps, F, bb⟩ := cl
  exact PE.imp (pe_call F (hr.mono hk) hg h1 h2 bb (dvs := []) .nil (pass0 (X := X)) (pa_cons ha (pa_cons hb pa_nil he2) he) hdb he hpl) fun σ H Q ⟨B, en, ex, m, q⟩ => ⟨B, en, ex, m, fun v y B1 H1 g1 hy hm rv => ⟨B1, en.mono g1.b, g1.i, fun v2 B2 H2 g2 rv2 => ⟨B2, (y, x), g2.i, .cons (r.mono g2.b rv) (.cons rv2 .nil), hp y hy, fun z B3 H3 g3 rz => q z (g y x) B3 H3 ((g1.tr g2.w).tr g3.w) ⟨y, hy, rfl⟩ ((mV u n1 H).st g3 ((mV u n1 H).st g2 hm)) rz⟩⟩⟩
/-- tuple(e), e draws -/
theorem ef_tupleOf {post : List α → Prop} (hm : X.mg "tuple" = none) (ha : EF X Γ u n n1 (rLst X.K r) a post) (hg : Gl X "tuple" := by rfl) (he : starEach [a] X.env = (false, eval a X.env) :: starEach [] X.env := by rfl) : EF X Γ u n n1 (rTup X.K r) (.Call (.Name "tuple" p) [a] [] pos) post :=
  PE.imp (pe_callTy call_tuple_of hg hm (by rfl) (pa_cons ha pa_nil he) (by decide) (by decide) he) fun σ H Q ⟨B, en, ex, m, q⟩ => ⟨B, en, ex, m, fun v y B1 H1 g1 hy hm ⟨c, vs, e1, e2, e3⟩ => ⟨c, vs, by rw [e1], .inl ⟨g1.i.lst e2, fun l hl => q _ y (upd B1 l (.tup vs)) _ (g1.tr (Go.new g1.i hl)) hy ((mV u n1 H).st (Go.new g1.i hl) hm) ⟨l, vs, rfl, .inl (.inl upd_same), e3.mono (Ex.new (g1.i.back hl))⟩⟩⟩⟩
/-- x = e, e draws -/
theorem tr_setF (i : Nat) {x : Str} {post : α → Prop} (hN : X.N.Nodup) (h : EF X Γ u n n1 r e post) (kq : ∀ y, post y → Tr X (At (fun a => a = u) B0 H0 BX (Γ.set i (sl r y)) (mV u n1 H0)) rest D) (hi : X.N[i]? = some x := by rfl) (hx : Loc X.env.scope x := by first | exact Or.inl rfl | exact Or.inr rfl)
    (hs : swapsWith e (some (.Name x p)) pos.line X.env = pure false := by rfl) (hf : X.fn x = true ∨ X.env.scope.names.lookup x = some .local := by first | exact .inl rfl | exact .inr rfl) :
    Tr X (At (fun a => a = u) B0 H0 BX Γ (mV u n H0)) (.Assign [.Name x p] e pos :: rest) D :=
  tr_cons (ps_set hN hi hx h hs hf) fun σ H ⟨B, g, bx, en, m⟩ => ⟨B, en, g.i, mV_re m, fun v y B2 H2 g2 hp hm rv => (kq y hp).wk _ _ ⟨B2, g.tr g2, bx.tr g2.b, (en.mono g2.b).set (s := sl r y) (o := some v) ⟨v, rfl, rv⟩ i, mV_re hm⟩⟩
/-- if not e: .., e draws and is true -/
theorem tr_ifNF {c : Expr} {ps qs : List Stmt} (h : EF X Γ u n n1 rBl c (fun y => y = true)) (kq : Tr X (At (fun a => a = u) B0 H0 BX Γ (mV u n1 H0)) qs { D with nx := Wk X rest D }) (he : ∀ whole, isTrue c X.env whole = (do let v ← whole; standAt c.pos; holding [v] (truthy v)) := by intro _; rfl) :
    Tr X (At (fun a => a = u) B0 H0 BX Γ (mV u n H0)) (.If (.UnaryOp .Not c p) ps qs pos :: rest) D := by
  have hp : PSs X ps (fun _ _ _ => False) := ⟨fun pins s σ H D' j h => h.elim⟩
  have hq : PSs X qs (fun D' σ H => D' = { D with nx := Wk X rest D } ∧ At (fun a => a = u) B0 H0 BX Γ (mV u n1 H0) σ H) := ⟨fun pins s σ H D' j ⟨e1, i⟩ => by subst e1; exact kq pins s σ H j i⟩
  refine tr_cons (ps_if (pt_not (pt_val h he)) hp hq) fun σ H ⟨B, g, bx, en, m⟩ => ⟨B, en, g.i, mV_re m, fun v y B2 H2 g2 hy hm rv => ⟨y, rv, ?_⟩⟩
  subst hy
  exact iteF ⟨rfl, B2, g.tr g2, bx.tr g2.b, en.mono g2.b, mV_re hm⟩
theorem ee_call0 {g : Unit → β} (cl : Cal X.prog X.w X.K X.mg X.base j m (Pm (A := Unit) (fun _ => []) s (fun _ => True) g)) (hr : Room k X.A) (hk : j ≤ k) (hg : Gl X m := by rfl) (hdb : (m == ("__debug__" : Str)) = false := by decide) : EE X Γ s (.Call (.Name m p) [] [] pos) (g ()) := by
  obtain ⟨f, h1, h2, fd, ps, F, b⟩ := cl
  exact PE.imp (pe_call0 F (hr.mono hk) hg h1 h2 b (dvs := []) .nil (pass0 (X := X)) hdb) fun σ H Q ⟨B, en, ex, q⟩ => ⟨B, (), ex, .nil, trivial, fun v B2 H2 g rr => q v B2 H2 g rr⟩
/-- the urn made and drawn from -/
theorem ee_rightBox {xs : List Int} {i : Int} (c92 : Cal X.prog X.w X.K X.mg X.base j "_law_right" spRight) (c78 : Cal X.prog X.w X.K X.mg X.base 1 "_law_box" (spBox X.K)) (hr : Room k X.A) (hk : j ≤ k) (hk1 : 1 ≤ k) (ha : EE X Γ (rLst X.K rInt) a xs) (hb : EE X Γ rInt b i) (hp : 0 ≤ i ∧ i < 2 ∧ i < (xs.length : Int)) (hg : Gl X "_law_right" := by rfl) (hg2 : Gl X "_law_box" := by rfl)
    (he : starEach [a, b] X.env = (false, eval a X.env) :: starEach [b] X.env := by rfl) (he2 : starEach [b] X.env = (false, eval b X.env) :: starEach [] X.env := by rfl) (hpl : (backTo pos2 (starEach [b] X.env)).any (·.1) = false := by rfl)
    (he3 : starEach [.Call (.Name "_law_box" p2) [a, b] [] pos2] X.env = (false, eval (.Call (.Name "_law_box" p2) [a, b] [] pos2) X.env) :: starEach [] X.env := by rfl) :
    EE X Γ rBl (.Call (.Name "_law_right" p) [.Call (.Name "_law_box" p2) [a, b] [] pos2] [] pos) true := by
  obtain ⟨f, h1, h2, fd, ps, F, bb⟩ := c92
  obtain ⟨f', h1', h2', fd', ps', F', bb'⟩ := c78
  refine PE.imp (pe_call F (hr.mono hk) hg h1 h2 bb (dvs := []) .nil (pass0 (X := X)) (pa_cons (pe_call F' (hr.mono hk1) hg2 h1' h2' bb' (dvs := []) .nil (pass0 (X := X)) (ea_cons ha (ea_cons hb ea_nil he2) he) (by decide) he hpl) pa_nil he3) (by decide) he3) fun σ H Q ⟨B, en, ex, q⟩ => ⟨B, en, ex, fun vs B1 H1 g1 rv => ⟨B1, (xs, i), g1.i, by rw [List.append_nil]; exact rv, hp, trivial, fun v y B2 H2 g2 _ hm rv2 => ?_⟩⟩
  obtain ⟨x0, x1, x2, k1, k2, k3, k4⟩ := hm
  have hy : H1 y = none := k3.elim id fun z => z.elim
  exact ⟨B2, ⟨y, 0⟩, g2.i, .cons rv2 .nil, by show (0 : Int) < 100000; decide, ⟨x0, x1, x2, k1, k2, .inr rfl, k4⟩, fun z d B3 H3 g3 hd hm3 rz => q z B3 H3 ((g1.tr g2).tw g3 fun c hc => .inl (by rw [show c = y from hc]; exact g1.hx.back hy)) (by
    have hd : d = true := hd
    subst hd
    exact rz)⟩
end
end K81
set_option Elab.async false
set_option linter.all false
set_option maxRecDepth 100000
set_option maxHeartbeats 1900000
namespace K81
open PySem L2
/-- the plain law -/
structure MathF : Prop where
  cs : ∀ l : List Stp, l.length ≤ 6 → (∀ s ∈ l, s ∈ allS) → ∃ f looks, CaseL l f looks
  pg : ∀ (l : List Stp) (c : Form), l.length ≤ 6 → (∀ s ∈ l, s ∈ allS) → CtyOk c → c.length ≤ 900 → CaseP l c
abbrev caseS1 : List (List Stp) := [[], [(true, 3)], [(false, 7)], [(false, 7), (true, 2), (false, 5), (true, 4)]]
abbrev caseS2 : List (List Stp) := [[(true, 4), (false, 7), (true, 2), (false, 7)], [(true, 7)]]
theorem cases_ok : ∀ l ∈ caseS1 ++ caseS2, l.length ≤ 6 ∧ ∀ s ∈ l, s ∈ allS := by decide +kernel
theorem pages_ok : ∀ c ∈ ofT.map countyOf, CtyOk c ∧ c.length ≤ 900 := by
  have h : ∀ c ∈ ofT.map countyOf, c.Pairwise (fun a b => a.1 < b.1) ∧ (∀ p ∈ c, 1 ≤ p.1 ∧ p.1 ≤ 1000000 ∧ 1 ≤ p.2) ∧ c.length ≤ 900 := by decide +kernel
  intro c hc
  obtain ⟨h1, h2, h3⟩ := h c hc
  exact ⟨⟨h1, h2, by omega⟩, h3⟩
abbrev spHand : Sp := Pm (A := Unit) (fun _ => []) rBl (fun _ => True) (fun _ => true)
section
variable {X : Cx} {Γ : List Slot} {i : Int} {p1 p2 p3 : Pos} {j1 j2 j3 : Nat}
/-- x = e, the statements told by an equation (the elaborator is not to run them) -/
theorem tr_setE {α : Type} {r : RT α} {e : Expr} {pos p : Pos} {M : Mem} {w : Addr → Prop} {B0 H0 BX : Hp} {D : Ends} {ss rest : List Stmt} (i' : Nat) {x : Str} {y : α} (hN : X.N.Nodup) (hss : ss = .Assign [.Name x p] e pos :: rest) (h : EM X Γ M r e y) (k : Tr X (At w B0 H0 BX (Γ.set i' (sl r y)) M) rest D) (hi : X.N[i']? = some x := by rfl) (hx : Loc X.env.scope x := by first | exact Or.inl rfl | exact Or.inr rfl)
    (hs : swapsWith e (some (.Name x p)) pos.line X.env = pure false := by rfl) (hf : X.fn x = true ∨ X.env.scope.names.lookup x = some .local := by first | exact .inl rfl | exact .inr rfl) : Tr X (At w B0 H0 BX Γ M) ss D := by
  subst hss
  exact tr_set i' hN h k hi hx hs hf
theorem tr_rtQ {β : Type} {s : RT β} {a : Expr} {pos : Pos} {M : Mem} {w : Addr → Prop} {B0 H0 BX : Hp} {D : Ends} {ss rest : List Stmt} {x y : β} (hss : ss = .Return (some a) pos :: rest) (h : EM X Γ M s a x) (hx : x = y) (hD : D.rt = Rt w B0 H0 s y := by rfl) : Tr X (At w B0 H0 BX Γ M) ss D := by
  subst hss
  exact tr_rtE h hx hD
/-- (kind, number), written -/
theorem ee_town (h1 : starEach [.Constant (.str "town") j1 p1, .Constant (.int i) j2 p2] X.env = (false, eval (.Constant (.str "town") j1 p1) X.env) :: starEach [.Constant (.int i) j2 p2] X.env := by rfl) (h2 : starEach [.Constant (.int i) j2 p2] X.env = (false, eval (.Constant (.int i) j2 p2) X.env) :: starEach [] X.env := by rfl) :
    EE X Γ (rStx X.K) (.Tuple [.Constant (.str "town") j1 p1, .Constant (.int i) j2 p2] j3 p3) ((true, i) : Stp) := ee_imp (x := ((("town" : Str), i) : Str × Int)) (ee_pr (ee_str (i := "town")) ee_int h1 h2) fun H v h => h
theorem ee_cnty (h1 : starEach [.Constant (.str "county") j1 p1, .Constant (.int i) j2 p2] X.env = (false, eval (.Constant (.str "county") j1 p1) X.env) :: starEach [.Constant (.int i) j2 p2] X.env := by rfl) (h2 : starEach [.Constant (.int i) j2 p2] X.env = (false, eval (.Constant (.int i) j2 p2) X.env) :: starEach [] X.env := by rfl) :
    EE X Γ (rStx X.K) (.Tuple [.Constant (.str "county") j1 p1, .Constant (.int i) j2 p2] j3 p3) ((false, i) : Stp) := ee_imp (x := ((("county" : Str), i) : Str × Int)) (ee_pr (ee_str (i := "county")) ee_int h1 h2) fun H v h => h
end
section
variable {P : Program} {w : World} {K : Fr} {mg : Str → Option Value} {base : Heap} {f : Addr} {fd : FuncData} {C Cc Cs Cr : Addr} {tk tk2 tk3 : Tok}
theorem ok_law_by_hand (Mf : MathF) (T : Bn mg) (Y : ScrF K mg C) (co : Stm P w K mg base 4 Cc "of" (spCtyOf K Cc)) (mC : mg "County" = some (.ref Cc)) (cs : Stm P w K mg base 7 C "of" (spScrOf K C Cs)) (mS : mg "Script" = some (.ref C)) (c90 : Cal P w K mg base 14 "_law_case_right" (spCase K Cc))
    (F : Fun K "_law_by_hand_right" "_law_by_hand_right" (tS 91) f fd) : FnE P w K mg base 15 f spHand := by
  refine fn_pm F sc91 (fun _ => rfl) (fun _ _ _ _ _ _ us hl => match us, hl with | [], _ => rfl) fun q B0 H0 y hr hp => ?_
  obtain ⟨pages, hpg⟩ : ∃ pages : List Form, pages = ofT.map countyOf := ⟨_, rfl⟩
  have pok : ∀ c ∈ pages, CtyOk c ∧ c.length ≤ 900 := by rw [hpg]; exact pages_ok
  refine tr_set 0 sc91.nd (y := pages) (EE.m (ee_eq (y := pages) (ee_tupleOf T.tuple (ee_seqL (ee_lc (s := rCty K Cc) (g := countyOf) (own := [("_law_own", 1)]) (N := N91) (sc := defScope (tS 91)) rfl sc91.nd (by decide +kernel) (ei_tup (ee_tupL (r := rStr) (el_cons ee_str (el_cons ee_str (el_cons ee_str (el_cons ee_str (el_cons ee_str (el_cons ee_str (el_cons ee_str el_nil))))))) (by decide))) (fun q => et_name 1 sc91.nd) (fun q x hx => ee_sta co hr (ee_cls mC) (ee_var 1 rfl) hx) (by decide)))) hpg.symm)) ?_
  obtain ⟨c1, h1⟩ : ∃ c : List (List Stp), c = caseS1 := ⟨_, rfl⟩
  obtain ⟨cc, hcc⟩ : ∃ c : List (List Stp), c = caseS1 ++ caseS2 := ⟨_, rfl⟩
  have cok : ∀ l ∈ cc, l.length ≤ 6 ∧ ∀ s ∈ l, s ∈ allS := by rw [hcc]; exact cases_ok
  have cln : cc.length ≤ 100000 := by rw [hcc]; decide
  generalize hss : (_ :: _ : List Stmt) = ss
  refine tr_setE 2 sc91.nd hss.symm (y := c1) (EE.m (ee_eq (y := c1) (ee_lst (r := rLst K (rStx K)) (el_cons (ee_lst (r := rStx K) el_nil (by decide)) (el_cons (ee_lst (r := rStx K) (el_cons ee_town el_nil) (by decide)) (el_cons (ee_lst (r := rStx K) (el_cons ee_cnty el_nil) (by decide)) (el_cons (ee_lst (r := rStx K) (el_cons ee_cnty (el_cons ee_town (el_cons ee_cnty (el_cons ee_town el_nil)))) (by decide)) el_nil)))) (by decide)) h1.symm)) ?_
  clear hss
  generalize hss : (_ :: _ : List Stmt) = ss
  refine tr_setE 2 sc91.nd hss.symm (y := cc) (EE.m (ee_eq (y := cc) (ee_catL (r := rLst K (rStx K)) (ee_var 2 rfl) (ee_lst (r := rLst K (rStx K)) (el_cons (ee_lst (r := rStx K) (el_cons ee_town (el_cons ee_cnty (el_cons ee_town (el_cons ee_cnty el_nil)))) (by decide)) (el_cons (ee_lst (r := rStx K) (el_cons ee_town el_nil) (by decide)) el_nil)) (by decide)) (by rw [h1]; decide)) (by rw [hcc, h1]))) ?_
  clear hss
  generalize hss : (_ :: _ : List Stmt) = ss
  refine tr_rtQ hss.symm (EE.m (ee_andV (ee_isC Y.isc T.isinstance (ee_sta (x := ([] : List Stp)) cs hr (ee_cls mS) (ee_imp (s := rVia rStr lineOf) (ee_str (i := "-")) fun H v h => h) ⟨by decide, fun s h => nomatch h⟩) (ee_cls mS)) fun _ => ee_all rfl T.all (ee_lc (s := rBl) (own := [("_law_own", 1)]) (N := N91) (sc := defScope (tS 91)) rfl sc91.nd (by decide +kernel) (ei_lst (ee_var 2 rfl)) (fun q => et_name 1 sc91.nd)
    (fun q x hx => ee_call2 c90 hr (ee_var 1 rfl) (ee_var 0 rfl) ⟨Mf.cs x (cok x hx).1 (cok x hx).2, fun c hc => Mf.pg x c (cok x hx).1 (cok x hx).2 (pok c hc).1 (pok c hc).2⟩) cln))) (by
    show (true && (cc.map fun _ => true).all id) = true
    rw [List.all_map]
    exact List.all_eq_true.mpr fun _ _ => rfl)
end
end K81
set_option Elab.async false
set_option linter.all false
set_option maxRecDepth 100000
set_option maxHeartbeats 1900000
namespace K81
open PySem L2
theorem stepIs_of {y : Str × Int} (h : StepIs 7 y) : ∃ s : Stp, s ∈ allS ∧ y = stepPr s := by
  obtain ⟨h1, h2, h3⟩ := h
  obtain ⟨z, i⟩ := y
  have h2 : 1 ≤ i := h2
  have h3 : i ≤ 7 := h3
  have hi : i = 1 ∨ i = 2 ∨ i = 3 ∨ i = 4 ∨ i = 5 ∨ i = 6 ∨ i = 7 := by omega
  have hz : z = ("town" : Str) ∨ z = ("county" : Str) := by simpa [kinds] using h1
  rcases hz with rfl | rfl
  · exact ⟨(true, i), by rcases hi with rfl | rfl | rfl | rfl | rfl | rfl | rfl <;> decide, rfl⟩
  · exact ⟨(false, i), by rcases hi with rfl | rfl | rfl | rfl | rfl | rfl | rfl <;> decide, rfl⟩
theorem steps_of : ∀ {ys : List (Str × Int)}, (∀ y ∈ ys, StepIs 7 y) → ∃ l : List Stp, (∀ s ∈ l, s ∈ allS) ∧ ys = l.map stepPr
  | [], _ => ⟨[], (fun _ h => nomatch h), rfl⟩
  | y :: ys, h => by
    obtain ⟨s, h1, h2⟩ := stepIs_of (h y (by simp))
    obtain ⟨l, h3, h4⟩ := steps_of (ys := ys) fun z hz => h z (by simp [hz])
    exact ⟨s :: l, fun t ht => (List.mem_cons.mp ht).elim (fun e => e ▸ h1) (h3 t), by rw [h2, h4]; rfl⟩
theorem vs_stx {K : Fr} {H : Hp} : ∀ {vs : List V} {l : List Stp}, Vs (rPr K rStr rInt) H vs (l.map stepPr) → Vs (rStx K) H vs l
  | [], [], _ => .nil
  | [], _ :: _, h => nomatch h
  | _ :: _, [], h => nomatch h
  | v :: vs, x :: xs, .cons h t => .cons h (vs_stx t)
section
variable {X : Cx} {Γ : List Slot} {α β : Type} {r : RT α} {s : RT β} {e : Expr} {u : Addr} {n n1 : Int}
/-- what was drawn, told another way -/
theorem ef_via {post : α → Prop} {post2 : β → Prop} (h : EF X Γ u n n1 r e post) (k : ∀ y, post y → ∃ z, post2 z ∧ ∀ H v, r.rep H v y → s.rep H v z) : EF X Γ u n n1 s e post2 :=
  PE.imp h fun σ H Q ⟨B, en, ex, m, q⟩ => ⟨B, en, ex, m, fun v y B1 H1 g1 hy hm rv => by
    obtain ⟨z, hz, f⟩ := k y hy
    exact q v z B1 H1 g1 hz hm (f _ _ rv)⟩
end
def PageIs (c : Form) : Prop := CtyOk c ∧ c.length ≤ 900
abbrev spCounty (K : Fr) (Cc : Addr) : Sp := Pm1 (rLst K (rPr K rInt rInt)) (rCty K Cc) PreRuns summedM
theorem bag_pre {ys : List (Int × Int)} (h : BagIs 4 8 2 ys) : PreRuns ys := ⟨fun p hp => by have := h.2 p hp; omega, by have := h.1; omega⟩
theorem bag_page {ys : List (Int × Int)} (h : BagIs 4 8 2 ys) : PageIs (summedM ys) := by
  have hp := bag_pre h
  refine ⟨summed_ok hp, ?_⟩
  obtain ⟨_, _, c⟩ := table_ok (acc := []) List.nodup_nil (fun _ h => nomatch h) hp.pos
  have pm : (summedM ys).Perm (tableOf ys) := perm_sortP
  rw [pm.length_eq]
  have c : (tableOf ys).length ≤ 0 + ys.length := c
  have := h.1
  omega
section
variable {P : Program} {w : World} {K : Fr} {mg : Str → Option Value} {base : Heap} {f : Addr} {fd : FuncData} {C Cc Cs Cr : Addr} {tk tk2 tk3 : Tok}
theorem ok_law_right (Mf : MathF) (T : Bn mg) (c82 : Cal P w K mg base 2 "_law_bag" (spBag K)) (c87 : Cal P w K mg base 4 "_law_county" (spCounty K Cc)) (c84 : Cal P w K mg base 4 "_law_some" (spSome K)) (c90 : Cal P w K mg base 14 "_law_case_right" (spCase K Cc)) (F : Fun K "_law_right" "_law_right" (tS 92) f fd) : FnE P w K mg base 15 f spRight := by
  refine fn_eff F sc92 (fun _ => rfl) (fun _ _ _ _ _ _ us hl => match us, hl with | [_], _ => rfl) fun q B0 H0 y hr hp => ?_
  obtain ⟨u, n⟩ := y
  have hp : n < 100000 := hp
  refine tr_imp (J := At (fun a => a = u) B0 H0 B0 (g0 [dt (rAdr u) ()] N92.length) (mA (mV u n H0) mE)) ?_ fun σ H ⟨B, g, bx, en, m⟩ => ⟨B, g, bx, en, m, trivial⟩
  refine tr_forF (n := n) (n1 := n) (ι := Nat) (N := mE) (fun _ => [sl (rAdr u) (), none, none, none]) (fun k => mV u (n + 49 * (k : Int)) H0) 8 (fun i k => k = i) 0 rfl
    (eif_pure (ei_range1 T.range ee_int ⟨by decide, by decide⟩)) (fun xs h => by rw [h]; simp) (et_skip 1 sc92.nd) (fun _ _ _ _ _ _ => trivial) rfl (by repeat constructor) (fun B H ⟨m1, m2⟩ => mV_le m1 (by show n ≤ n + 49 * ((0 : Nat) : Int); omega)) (fun BX e i x k hi hk => ?_) (fun i k hi hk => ?_)
  · subst hk
    refine tr_setF (n := n + 49 * (k : Int)) (n1 := n + 49 * (k : Int) + 9 * ((4 : Nat) : Int)) 2 sc92.nd (ef_tupleOf T.tuple (ef_lc (s := rCty K Cc) (post := PageIs) (own := [("_law_lap", 3)]) (N := N92) (sc := defScope (tS 92)) 9 4 (by decide) rfl sc92.nd (by decide +kernel)
      (eif_pure (ei_range1 T.range ee_int ⟨by decide, by decide⟩)) (fun xs h => by rw [h]; simp) (by decide) (fun q => et_skip 3 sc92.nd)
      (fun q x i hi2 => EF.imp (ef_call1 (X := bk _ _ q) c87 hr (by decide) (EF.eqn (n1 := n + 49 * (k : Int) + 9 * (i : Int) + 1 + 2 * ((4 : Int).toNat : Int)) (ef_callA (X := bk _ _ q) c82 hr (by decide) ⟨u, n + 49 * (k : Int) + 9 * (i : Int), 4, 8, 2⟩ (ea_cons (ee_var 0 rfl) (ea_cons ee_int (ea_cons ee_int (ea_cons ee_int ea_nil)))) ⟨by show (0 : Int) ≤ 4; decide, by show (4 : Int) < 50; decide, by show (0 : Int) < 8; decide, by show (8 : Int) < 1000000; decide, by show (0 : Int) < 2; decide, by show (2 : Int) < 1000000; decide, by show n + 49 * (k : Int) + 9 * (i : Int) < 900000; omega⟩) (by show n + 49 * (k : Int) + 9 * (i : Int) + 1 + 2 * (4 : Int) = n + 49 * (k : Int) + 9 * ((i : Int) + 1); omega)) fun y hy => bag_pre hy) fun z ⟨y, hy, e⟩ => by rw [e]; exact bag_page hy))) fun pages hpg => ?_
    obtain ⟨_, hpg⟩ := hpg
    refine tr_ifNF (n1 := n + 49 * (k : Int) + 9 * ((4 : Nat) : Int) + 1 + 2 * ((6 : Int).toNat : Int)) (EF.imp (ef_call2 (r := rLst K (rStx K)) (post := fun l : List Stp => l.length ≤ 6 ∧ ∀ s ∈ l, s ∈ allS) c90 hr (by decide) (ef_via (ef_callA c84 hr (by decide) ⟨u, n + 49 * (k : Int) + 9 * ((4 : Nat) : Int), 6, 7⟩ (ea_cons (ee_var 0 rfl) (ea_cons ee_int (ea_cons ee_int ea_nil))) ⟨by show (0 : Int) ≤ 6; decide, by show (6 : Int) < 100; decide, by show (0 : Int) < 7; decide, by show (7 : Int) < 1000000; decide, by show n + 49 * (k : Int) + 9 * (4 : Int) < 900000; omega⟩) fun ys hys => ?_) (ee_var 2 rfl) fun l hl => ⟨Mf.cs l hl.1 hl.2, fun c hc => Mf.pg l c hl.1 hl.2 (hpg c hc).1 (hpg c hc).2⟩) fun z ⟨_, _, e⟩ => e) (tr_go ?_)
    · obtain ⟨h1, h2⟩ := hys
      obtain ⟨l, h3, h4⟩ := steps_of h2
      subst h4
      have h1 : (l.map stepPr).length ≤ 6 := h1
      rw [List.length_map] at h1
      exact ⟨l, ⟨h1, h3⟩, fun H v ⟨c, vs, e1, e2, e3⟩ => ⟨c, vs, e1, e2, vs_stx e3⟩⟩
    · refine tr_nil fun σ H h => ⟨k + 1, rfl, ?_⟩
      exact At.wk (M' := mV u (n + 49 * ((k + 1 : Nat) : Int)) H0) (M := mV u (n + 49 * (k : Int) + 9 * ((4 : Nat) : Int) + 1 + 2 * ((6 : Int).toNat : Int)) H0) (by repeat constructor) (fun B H m => mV_le m (by show n + 49 * (k : Int) + 9 * (4 : Int) + 1 + 2 * (6 : Int) ≤ n + 49 * ((k + 1 : Nat) : Int); omega)) σ H h
  · subst hk
    exact tr_rtF (x := true) (post := fun y => y = true) (M2 := fun _ => mV u (n + 49 * 8) H0) (EE.m ee_bl) rfl fun B H m => mV_le m (by show n + 49 * (k : Int) ≤ n + 49 * 8; omega)
end
end K81
set_option Elab.async false
set_option linter.all false
set_option maxRecDepth 100000
set_option maxHeartbeats 1900000
namespace K81
open PySem L2
abbrev spLaw (K : Fr) : Sp := Pm1 (rLsF K rInt) rBl (fun s => s.length ≤ 63) (fun _ => true)
section
variable {P : Program} {w : World} {K : Fr} {mg : Str → Option Value} {base : Heap} {k : Nat} {f : Addr} {fd : FuncData} {N ps : List Str} {x qual : Str} {st : Stmt}
theorem fn_pmO {A β : Type} {ds : A → List Dat} {s : RT β} {pre : A → Prop} {g : A → β} (F : Fun K x qual st f fd) (S : FnScope N ps (defScope st)) (hl : ∀ x, (ds x).length = ps.length)
    (body : ∀ (q : Ent) (B0 H0 : Hp) (y : A), Room k (cxE P w K mg base N qual st f q).A → pre y → Tr (cxE P w K mg base N qual st f q) (At no B0 H0 B0 (g0 (ds y) N.length) mE) (defBody st) (endsR no B0 H0 s (g y))) : FnOk P w K mg base CX0 (k + 1) f fd ps (Pm ds s pre g) := by
  refine F.ok S (fun vs H Q E ⟨B, y, _, r, _⟩ => by rw [r.len, hl]) (fun cdv A outer s0 H vs Q E hr ⟨B, y, ex, r, hp, q⟩ => ?_)
  refine ⟨fun D σ H1 => D = { nx := fun _ H' => Q .non H', rt := Q } ∧ σ = L2.start N vs ∧ H1 = H, ⟨fun pins s1 σ H1 D I ⟨e1, e2, e3⟩ => ?_⟩, rfl, rfl, rfl⟩
  subst e1 e2 e3
  refine wpAny_mono (body ⟨cdv, A, outer, s0, H1, E⟩ B H1 y hr hp pins s1 (L2.start N vs) H1 I ⟨B, Go.rf ex, Ex.rfl', env0 N r, trivial⟩) (fun fl s2 hq => ?_) fun _ _ z => z
  cases fl with
  | ret u =>
    obtain ⟨v, σ', H', J, rv, B2, g2, z⟩ := hq
    exact ⟨v, σ', H', J, rv, q v B2 H' g2 z⟩
  | next =>
    obtain ⟨σ', H', J, B2, g2, z⟩ := hq
    exact ⟨σ', H', J, q _ B2 H' g2 z⟩
  | brk =>
    obtain ⟨_, _, _, z⟩ := hq
    exact z.elim
  | cont =>
    obtain ⟨_, _, _, z⟩ := hq
    exact z.elim
end
section
variable {P : Program} {w : World} {K : Fr} {mg : Str → Option Value} {base : Heap} {f : Addr} {fd : FuncData} {C Cc Cs Cr : Addr} {tk tk2 tk3 : Tok}
theorem ok_law (T : Bn mg) (c91 : Cal P w K mg base 15 "_law_by_hand_right" spHand) (c80 : Cal P w K mg base 1 "_law_cells" (spCells K)) (c92 : Cal P w K mg base 15 "_law_right" spRight) (c78 : Cal P w K mg base 1 "_law_box" (spBox K)) (F : Fun K "law" "law" (tS 93) f fd) : FnOk P w K mg base CX0 16 f fd ["_law_script"] (spLaw K) := by
  refine fn_pmO F sc93 (fun _ => rfl) fun q B0 H0 s hr hp => ?_
  have hp : s.length ≤ 63 := hp
  obtain ⟨h1, h2⟩ := cellsM_len s
  refine tr_ifF (EB.m (eb_eq (eb_not (eb_val (ee_call0 c91 hr (by decide)))) rfl)) (tr_go ?_)
  refine tr_set 1 sc93.nd (y := cellsM s) (EE.m (ee_eq (ee_call2 (x := s) (y := (2 : Int)) c80 hr (ee_var 0 rfl) ee_int ⟨rfl, hp⟩) rfl)) ?_
  refine tr_rtE (y := true) (EE.m (ee_all rfl T.all (ee_lc (s := rBl) (own := [("_law_k", 2)]) (N := N93) (sc := defScope (tS 93)) rfl sc93.nd (by decide +kernel) (ei_range1 T.range (ee_len T.len (ee_seqL (ee_var 1 rfl))) ⟨by omega, by omega⟩) (fun q => et_name 2 sc93.nd) (fun q x hx => ee_rightBox c92 c78 hr (by decide) (by decide) (ee_var 1 rfl) (ee_var 2 rfl) ?_) (by simp; omega)))) (by
    show (List.map _ _).all id = true
    rw [List.all_map]
    exact List.all_eq_true.mpr fun _ _ => rfl)
  obtain ⟨i, hi, e⟩ := List.mem_map.mp hx
  have hi := List.mem_range.mp hi
  rw [← e]
  omega
end
end K81
set_option Elab.async false
set_option linter.all false
set_option maxRecDepth 100000
set_option maxHeartbeats 1900000
namespace K81
open PySem L2
/-! ### an __init__ with a default -/
section
variable {P : Program} {w : World} {K : Fr} {mg : Str → Option Value} {base : Heap} {k : Nat} {f : Addr} {fd : FuncData} {N ps : List Str} {x qual : Str} {st : Stmt} {dvs : List V}
theorem fn_initD {A : Type} {C : Addr} {ds : A → List Dat} {pre : A → Prop} {fds : A → List (Str × Dat)} (F : FunD K x qual (defArgs st) (defBody st) (defScope st) dvs [] f fd) (S : FnScope N ps (defScope st)) (hl : ∀ x, (ds x).length + 1 = ps.length)
    (body : ∀ (q : Ent) (B0 H0 : Hp) (a : Addr) (y : A), Room k (cxE P w K mg base N qual st f q).A → pre y → Tr (cxE P w K mg base N qual st f q) (At (fun b => b = a) B0 H0 B0 (g0 (dt (rAdr a) () :: ds y) N.length) (mA mE (mI (fun b => b = a) H0 a C []))) (defBody st) (endsI C B0 H0 a (fds y))) : FnOk P w K mg base CX0 (k + 1) f fd ps (PmI C ds pre fds) := by
  refine F.ok S (fun vs H Q E ⟨B, y, a, dx, us, e, _, _, _, r, _⟩ => by rw [e, List.length_cons, r.len, hl]) (fun cdv A outer s0 H vs Q E hr ⟨B, y, a, dx, us, e, ex, hB, hH, r, hp, q⟩ => ?_)
  subst e
  refine ⟨fun D σ H1 => D = { nx := fun _ H' => Q .non H', rt := Q } ∧ σ = L2.start N (.ref a :: us) ∧ H1 = H, PSs.nox ⟨fun pins s1 σ H1 D I ⟨e1, e2, e3⟩ => ?_⟩, rfl, rfl, rfl⟩
  subst e1 e2 e3
  refine wpAny_mono (body ⟨cdv, A, outer, s0, H1, E⟩ B H1 a y hr hp pins s1 (L2.start N (.ref a :: us)) H1 I ⟨B, Go.rf ex, Ex.rfl', env0 N (.cons rfl r), trivial, hB, .inr rfl, dx, [], hH, .nil⟩) (fun fl s2 hq => ?_) fun _ _ z => z
  cases fl with
  | ret u =>
    obtain ⟨_, _, _, _, _, z⟩ := hq
    exact z.elim
  | next =>
    obtain ⟨σ', H', J, B2, dx', vs, g2, h1, h2, h3⟩ := hq
    exact ⟨σ', H', J, q B2 H' dx' vs g2 h1 h2 h3⟩
  | brk =>
    obtain ⟨_, _, _, z⟩ := hq
    exact z.elim
  | cont =>
    obtain ⟨_, _, _, z⟩ := hq
    exact z.elim
/-- all given, one default stands | one given, the default fills up -/
theorem binds_all {d : V} (F : FunD K x qual (defArgs st) (defBody st) (defScope st) [d] [] f fd) (hn : ps.length = 2)
    (h : ∀ (T : Addr) (kV doc pm : Value) (an : Option Addr) (cdv ct : Value) (us its : List Value), us.length = 2 → its.length = 1 →
      ∃ k, bindArgs (PySem.W.fnOf x qual (defArgs st) (defBody st) (defScope st) (.ref T) kV doc pm an cdv ct) ⟨us, []⟩ = seqItems? (.ref T) >>= k ∧ k (some its.toArray) = pure (ps.zip (us ++ its.drop 1))) : Binds K fd ps [] := by
  obtain ⟨ds, r, b⟩ := F.binds1 (ps := ps) 2 1 (by simp) (by rw [hn]; rfl) h
  cases r
  exact b
theorem binds_one {d : V} (F : FunD K x qual (defArgs st) (defBody st) (defScope st) [d] [] f fd) (hn : ps.length = 2)
    (h : ∀ (T : Addr) (kV doc pm : Value) (an : Option Addr) (cdv ct : Value) (us its : List Value), us.length = 1 → its.length = 1 →
      ∃ k, bindArgs (PySem.W.fnOf x qual (defArgs st) (defBody st) (defScope st) (.ref T) kV doc pm an cdv ct) ⟨us, []⟩ = seqItems? (.ref T) >>= k ∧ k (some its.toArray) = pure (ps.zip (us ++ its.drop 0))) : ∃ dv, RelV d dv ∧ Binds K fd ps [dv] := by
  obtain ⟨ds, r, b⟩ := F.binds1 (ps := ps) 1 0 (by simp) (by rw [hn]; rfl) h
  cases r with
  | cons r1 r2 =>
    cases r2
    exact ⟨_, r1, b⟩
end
section
variable {P : Program} {w : World} {K : Fr} {mg : Str → Option Value} {base : Heap} {f : Addr} {fd : FuncData} {C Cs : Addr} {dvs : List V}
theorem ok_cty_initD (Y : CtyF K mg C) (c27 : Cal P w K mg base 1 "summed" (spSummed K)) (F : FunD K "__init__" "County.__init__" (defArgs (tM 32 0)) (defBody (tM 32 0)) (defScope (tM 32 0)) dvs [] f fd) : FnOk P w K mg base CX0 2 f fd ["self", "runs"] (spCtyInit K C) := by
  refine fn_initD F sc32_0 (fun _ => rfl) fun q B0 H0 a y hr hp => ?_
  refine tr_for (ι := Unit) (fun _ => [sl (rAdr a) (), sl (rSeq K (rPr K rInt rInt)) y, none, none]) (fun _ => mA mE (mI (fun b => b = a) H0 a C [])) (fun _ _ => True) () rfl (ei_seq (ee_var 1 rfl)) (et_pr rfl (et_name 2 sc32_0.nd) (et_name 3 sc32_0.nd)) trivial (by repeat constructor) (fun _ _ h => h)
    (fun BX e i x k hx _ => ?_) fun _ _ => ?_
  · have hm := hp.pos x (List.mem_of_getElem? hx)
    refine tr_ifF (EB.m (eb_eq (eb_or (eb_lt (ee_var 2 rfl) ee_int) fun _ => eb_lt (ee_var 3 rfl) ee_int) ?_)) (tr_go (tr_nil fun σ H z => ⟨(), trivial, At.wk (by repeat constructor) (fun _ _ h => h) σ H z⟩))
    have h1 : ¬ x.1 < 1 := by omega
    have h2 : ¬ x.2 < 1 := by omega
    simp [h1, h2]
  · refine tr_fld (EE.m (ee_call1 c27 hr (ee_var 1 rfl) hp.len)) (ee_var 0 rfl) Y.isc.cl Y.nr (by decide) mE_free ?_
    exact tr_inited
theorem ok_scr_initD (T : Bn mg) (Y : ScrF K mg C) (c50 : Cal P w K mg base 4 "form_of_steps" (spFormOf K Cs)) (F : FunD K "__init__" "Script.__init__" (defArgs (tM 51 0)) (defBody (tM 51 0)) (defScope (tM 51 0)) dvs [] f fd) (hne : C ≠ Cs) : FnOk P w K mg base CX0 5 f fd ["self", "steps"] (spScrInit K C Cs) := by
  refine fn_initD F sc51_0 (fun _ => rfl) fun q B0 H0 a y hr hp => ?_
  refine tr_fld (EE.m (ee_tupleOf T.tuple (ee_var 1 rfl))) (ee_var 0 rfl) Y.isc.cl Y.ns (by decide) mE_free ?_
  refine tr_fld (EE.opI 0 (ee_call1 c50 hr (ee_fld (ee_var (r := rRaw C _) 0 rfl) Y.isc.cl Y.ns rfl) hp) (fz_form noTupI) rfl) (ee_var 0 rfl) Y.isc.cl Y.nf (by show (1 : Nat) < 1000; decide) mE_free ?_
  exact tr_inited
end
end K81
set_option Elab.async false
set_option linter.all false
set_option maxRecDepth 100000
set_option maxHeartbeats 1900000
namespace K81
open PySem L2
theorem inner_ok {K : Fr} {p : Addr} {T : String} (h : innerB K p T = true) : ∃ rest, PySem.W.recIn K p T = some (.ref (inner K p T) :: rest) := by
  unfold innerB at h
  unfold inner
  cases e : PySem.W.recIn K p T with
  | none => rw [e] at h; cases h
  | some l =>
    rw [e] at h
    cases l with
    | nil => cases h
    | cons v r =>
      cases v with
      | ref g => exact ⟨r, rfl⟩
      | _ => cases h
theorem Df.fn {K : Fr} {d : Df} (e : d.seen K = d.want) (c : d.good K = true) : ∃ fd, FunD K d.nm d.ql (defArgs d.st) (defBody d.st) (defScope d.st) (d.dv.map (He.Dv.v K)) [] (d.pl.at_ K) fd := by
  obtain ⟨kp, c2⟩ := He.ba c
  unfold Df.seen at e
  cases q : K.lookup (d.pl.at_ K) with
  | none => rw [q] at c2; cases c2
  | some o =>
    obtain ⟨oc, od, dt, osl⟩ := o
    rw [q] at c2 e
    cases dt with
    | func u =>
      obtain ⟨n1, n2, n3, n4, n5, n6, n7, n8, n9, n10, n11, n12, n13, n14, n15⟩ := u
      have e2 : (some (n1, n2, n3, n4, n5, n6, n7, n15) : He.FnW) = some (d.nm, d.ql, defArgs d.st, .stmts (defBody d.st), defScope d.st, mainGlobals, [], builtinsNs) := e
      simp only [Option.some.injEq, Prod.mk.injEq] at e2
      obtain ⟨a1, a2, a3, a4, a5, a6, a7, a8⟩ := e2
      subst a1 a2 a3 a4 a5 a6 a7 a8
      obtain ⟨k1, k2⟩ := He.ba (show (PySem.W.codeIn K n13 d.ql && He.dflB K n8 (d.dv.map (He.Dv.v K))) = true from c2)
      exact ⟨_, ⟨oc, od, n8, n9, n10, n11, n12, n13, n14, osl, rfl, q, k1, He.dflB_ok k2, .inl rfl⟩, kp⟩
    | _ => cases c2
theorem tupAt_ok {K : Fr} {a : Addr} {vs : List He.Dv} (h : tupAt K a vs = true) (H : Hp) : SqT K H a (vs.map (He.Dv.v K)) := by
  unfold tupAt at h
  cases q : K.lookup a with
  | none => rw [q] at h; cases h
  | some o =>
    obtain ⟨oc, od, dt, osl⟩ := o
    rw [q] at h
    cases oc with
    | type T =>
      cases dt with
      | seq l n =>
        obtain ⟨h1, h2⟩ := He.ba (show (decide (T = "tuple") && (decide (l.size ≤ sizeLine) && He.relAll (vs.map (He.Dv.v K)) l.toList)) = true from h)
        obtain ⟨h3, h4⟩ := He.ba h2
        exact .inr ⟨_, l, n, q, congrArg Value.type (of_decide_eq_true h1), rfl, of_decide_eq_true h3, He.relAll_ok h4⟩
      | _ => cases h
    | _ => cases dt <;> cases h
section
variable {K : Fr} {x y f : Str} {t c : Value} {b : Bool}
theorem Fy.prp_ok (h : (Fy.prp x f).ok K = true) : PropOf K (He.ga K x) f (He.ma K (He.ga K x) f) (inner K (He.ma K (He.ga K x) f) "property") := by
  obtain ⟨h1, h⟩ := He.ba h
  obtain ⟨h2, h⟩ := He.ba h
  obtain ⟨h3, h4⟩ := He.ba h
  exact ⟨He.eqO_ok h1, He.eqO_ok h2, of_decide_eq_true h3, inner_ok h4⟩
theorem Fy.sta_ok (h : (Fy.sta x f).ok K = true) : CSta K (He.ga K x) (.type "type") f (He.ma K (He.ga K x) f) (inner K (He.ma K (He.ga K x) f) "staticmethod") := by
  obtain ⟨h1, h⟩ := He.ba h
  obtain ⟨h2, h⟩ := He.ba h
  obtain ⟨h3, h⟩ := He.ba h
  obtain ⟨h4, h5⟩ := He.ba h
  refine ⟨h1, He.eqO_ok h2, ?_, inner_ok h4, h5⟩
  split at h3
  · rename_i s p c e
    obtain ⟨k1, k⟩ := He.ba h3
    obtain ⟨k2, k3⟩ := He.ba k
    rw [e, of_decide_eq_true k1, of_decide_eq_true k2, of_decide_eq_true k3]
  · cases h3
theorem Fy.cal_ok (h : (Fy.cal x).ok K = true) : PySem.W.fnIn K (He.ma K (He.ga K x) "__call__") = true := h
theorem Fy.isc_ok (h : (Fy.isc x).ok K = true) : PySem.W.findIn K (.ref (He.ga K x)) "__class__" = some (some (.builtin "object.__class__")) ∧ PySem.W.specialIn K (.builtin "object.__class__") "__get__" = some (some (.builtin "getset_descriptor.__get__")) ∧ PySem.W.takesIn K (.builtin "object.__class__") = some true ∧ PySem.W.mroIn K (He.ga K x) (.type "object") = some true ∧ PySem.W.kitOne K (.ref (He.ga K x)) (.ref (He.ga K x)) = some true := by
  obtain ⟨h1, h⟩ := He.ba h
  obtain ⟨h2, h⟩ := He.ba h
  obtain ⟨h3, h⟩ := He.ba h
  obtain ⟨h4, h5⟩ := He.ba h
  exact ⟨He.eqO_ok h1, He.eqO_ok h2, of_decide_eq_true h3, of_decide_eq_true h4, of_decide_eq_true h5⟩
theorem Fy.sne_ok (h : (Fy.sne x).ok K = true) : SNe K (He.ga K x) := by
  obtain ⟨h1, h2⟩ := He.ba h
  exact ⟨He.eqO_ok h1, of_decide_eq_true h2⟩
theorem Fy.sb_ok (h : (Fy.sb x).ok K = true) : PySem.W.subIn K (.ref (He.ga K x)) (.type "NoneType") = some false := of_decide_eq_true h
theorem Fy.sf_ok (h : (Fy.sf x).ok K = true) : PySem.W.selfFirst K (He.ga K x) = true := h
theorem Fy.kn_ok (h : (Fy.kn x).ok K = true) : PySem.W.kitOne K (.type "NoneType") (.ref (He.ga K x)) = some false := of_decide_eq_true h
theorem Fy.kt_ok (h : (Fy.kt t c b).ok K = true) : PySem.W.kitOne K t c = some b := of_decide_eq_true h
theorem Fy.kac_ok (h : (Fy.kac x).ok K = true) : PySem.W.kitAny K (.ref (He.ga K x)) [.type "list", .type "tuple"] = some false := of_decide_eq_true h
theorem Fy.kat_ok (h : Fy.kat.ok K = true) : PySem.W.kitAny K (.type "tuple") [.type "list", .type "tuple"] = some true := of_decide_eq_true h
theorem Fy.ne2_ok (h : (Fy.ne2 x y).ok K = true) : He.ga K x ≠ He.ga K y := of_decide_eq_true h
theorem Fy.tpd_ok (h : (Fy.tpd x).ok K = true) (H : Hp) : SqT K H (He.dflAt (x, some "__init__") 0 K) [] := tupAt_ok h H
theorem Fy.kin_ok (h : Fy.kin.ok K = true) (H : Hp) : SqT K H (He.ga K "KINDS") [.str "town", .str "county"] := tupAt_ok h H
theorem Fy.sta1_ok (h : Fy.sta1.ok K = true) (H : Hp) : SqT K H (He.ga K "START") [.ref (elt0 K (He.ga K "START"))] ∧ SqT K H (elt0 K (He.ga K "START")) [.int 1, .int 1] := by
  obtain ⟨h1, h2⟩ := He.ba h
  exact ⟨tupAt_ok h1 H, tupAt_ok h2 H⟩
end
/-- what the law's end leans on -/
structure Z81 (K : Fr) (mg : Str → Option Value) : Prop where
  hp : ∃ h : Heap, K.In h ∧ h.Ns mainGlobals mg
  fa1 : ∀ f ∈ faL, f.ok K = true
  fy1 : ∀ f ∈ fyL, f.ok K = true
  df1 : ∀ d ∈ dfL, d.seen K = d.want ∧ d.good K = true
section
variable {K : Fr} {mg : Str → Option Value}
theorem Z81.fa (Z : Z81 K mg) (i : Nat) {f : He.Fa} (h : faL[i]? = some f) : f.ok K = true := Z.fa1 f (List.mem_of_getElem? h)
theorem Z81.fy (Z : Z81 K mg) (i : Nat) {f : Fy} (h : fyL[i]? = some f) : f.ok K = true := Z.fy1 f (List.mem_of_getElem? h)
theorem Z81.fnD (Z : Z81 K mg) (i : Nat) {d : Df} (h : dfL[i]? = some d) : ∃ fd, FunD K d.nm d.ql (defArgs d.st) (defBody d.st) (defScope d.st) (d.dv.map (He.Dv.v K)) [] (d.pl.at_ K) fd := Df.fn (Z.df1 d (List.mem_of_getElem? h)).1 (Z.df1 d (List.mem_of_getElem? h)).2
theorem Z81.fn (Z : Z81 K mg) (i : Nat) {d : Df} (h : dfL[i]? = some d) (hd : d.dv = []) : ∃ fd, Fun K d.nm d.ql d.st (d.pl.at_ K) fd := by
  obtain ⟨fd, ⟨oc, od, dV, kV, doc, pm, an, cdv, ct, osl, e1, e2, e3, e4, _⟩, kp⟩ := Z.fnD i h
  rw [hd] at e4
  rcases e4 with ⟨_, e4⟩ | ⟨e4, _⟩
  · subst e4
    exact ⟨fd, ⟨oc, od, kV, doc, pm, an, cdv, ct, osl, e1, e2, e3⟩, kp⟩
  · exact absurd rfl e4
theorem Z81.glo (Z : Z81 K mg) {x : Str} (c : (He.Fa.glo x).ok K = true) : mg x = some (.ref (He.ga K x)) := let ⟨_, h1, h2⟩ := Z.hp; He.glo_ok h1 h2 c
theorem Z81.free (Z : Z81 K mg) {x : Str} (c : (He.Fa.free x).ok K = true) : mg x = none := let ⟨_, h1, h2⟩ := Z.hp; He.free_ok h1 h2 c
theorem Z81.int (Z : Z81 K mg) {x : Str} {i : Int} (c : (He.Fa.int x i).ok K = true) : ∃ t, mg x = some (.int i t) := let ⟨_, h1, h2⟩ := Z.hp; He.int_ok h1 h2 c
theorem Z81.str (Z : Z81 K mg) {x z : Str} (c : (He.Fa.str x z).ok K = true) : ∃ t, mg x = some (.str z t) := let ⟨_, h1, h2⟩ := Z.hp; He.str_ok h1 h2 c
end
theorem z81_of {K : Fr} {mg : Str → Option Value} {h : Heap} (hK : K.In h) (hN : h.Ns mainGlobals mg) (c : look81 K = want81) : Z81 K mg := by
  have c1 : (faL.all fun f => f.ok K) = true := congrArg (fun z : Al81 => z.1.1) c
  have c2 : (fyL.all fun f => f.ok K) = true := congrArg (fun z : Al81 => z.1.2.1) c
  have c3 : (dfL.all fun d => d.good K) = true := congrArg (fun z : Al81 => z.1.2.2) c
  have c4 : dfL.map (fun d => d.seen K) = dfL.map Df.want := congrArg (fun z : Al81 => z.2) c
  exact ⟨⟨h, hK, hN⟩, fun f hf => List.all_eq_true.mp c1 f hf, fun f hf => List.all_eq_true.mp c2 f hf, fun d hd => ⟨List.map_inj_left.mp c4 d hd, List.all_eq_true.mp c3 d hd⟩⟩
end K81
set_option Elab.async false
set_option linter.all false
set_option maxRecDepth 100000
set_option maxHeartbeats 1900000
namespace K81
open PySem L2
/-! ### each def by its name, behind the top (written by gen_h.py) -/
section
variable {P : Program} {w : World} {K : Fr} {mg : Str → Option Value} {base : Heap}
theorem Z81.bn (Z : Z81 K mg) : Bn mg := ⟨Z.free (Z.fa 89 rfl), Z.free (Z.fa 90 rfl), Z.free (Z.fa 91 rfl), Z.free (Z.fa 92 rfl), Z.free (Z.fa 93 rfl), Z.free (Z.fa 94 rfl), Z.free (Z.fa 95 rfl), Z.free (Z.fa 96 rfl), Z.free (Z.fa 97 rfl), Z.free (Z.fa 98 rfl), Z.free (Z.fa 99 rfl), Z.free (Z.fa 100 rfl), Z.free (Z.fa 101 rfl), Z.free (Z.fa 102 rfl), Z.free (Z.fa 103 rfl), Z.free (Z.fa 104 rfl), Z.free (Z.fa 105 rfl)⟩
theorem Z81.cty (Z : Z81 K mg) : CtyF K mg (He.ga K "County") := ⟨⟨He.cls_ok (Z.fa 106 rfl), (Fy.isc_ok (Z.fy 28 rfl)).1, (Fy.isc_ok (Z.fy 28 rfl)).2.1, (Fy.isc_ok (Z.fy 28 rfl)).2.2.1, (Fy.isc_ok (Z.fy 28 rfl)).2.2.2.1, (Fy.isc_ok (Z.fy 28 rfl)).2.2.2.2⟩, He.noat_ok (Z.fa 107 rfl), Z.glo (Z.fa 16 rfl)⟩
theorem Z81.stp (Z : Z81 K mg) : StpF K mg (He.ga K "Step") := ⟨⟨He.cls_ok (Z.fa 108 rfl), (Fy.isc_ok (Z.fy 29 rfl)).1, (Fy.isc_ok (Z.fy 29 rfl)).2.1, (Fy.isc_ok (Z.fy 29 rfl)).2.2.1, (Fy.isc_ok (Z.fy 29 rfl)).2.2.2.1, (Fy.isc_ok (Z.fy 29 rfl)).2.2.2.2⟩, He.noat_ok (Z.fa 109 rfl), He.noat_ok (Z.fa 110 rfl), Z.glo (Z.fa 30 rfl)⟩
theorem Z81.scr (Z : Z81 K mg) : ScrF K mg (He.ga K "Script") := ⟨⟨He.cls_ok (Z.fa 111 rfl), (Fy.isc_ok (Z.fy 30 rfl)).1, (Fy.isc_ok (Z.fy 30 rfl)).2.1, (Fy.isc_ok (Z.fy 30 rfl)).2.2.1, (Fy.isc_ok (Z.fy 30 rfl)).2.2.2.1, (Fy.isc_ok (Z.fy 30 rfl)).2.2.2.2⟩, He.noat_ok (Z.fa 112 rfl), He.noat_ok (Z.fa 113 rfl), Z.glo (Z.fa 37 rfl), Fy.kn_ok (Z.fy 31 rfl)⟩
theorem Z81.srf (Z : Z81 K mg) : SrF K mg (He.ga K "Search") := ⟨⟨He.cls_ok (Z.fa 114 rfl), (Fy.isc_ok (Z.fy 32 rfl)).1, (Fy.isc_ok (Z.fy 32 rfl)).2.1, (Fy.isc_ok (Z.fy 32 rfl)).2.2.1, (Fy.isc_ok (Z.fy 32 rfl)).2.2.2.1, (Fy.isc_ok (Z.fy 32 rfl)).2.2.2.2⟩, He.noat_ok (Z.fa 115 rfl), He.noat_ok (Z.fa 116 rfl), He.noat_ok (Z.fa 117 rfl), He.noat_ok (Z.fa 118 rfl), He.noat_ok (Z.fa 119 rfl), He.noat_ok (Z.fa 120 rfl), He.noat_ok (Z.fa 121 rfl), Z.glo (Z.fa 70 rfl)⟩
theorem Z81.isk (Z : Z81 K mg) : IsK K := ⟨Fy.kt_ok (Z.fy 4 rfl), Fy.kt_ok (Z.fy 5 rfl), Fy.kt_ok (Z.fy 33 rfl)⟩
theorem Z81.kinds (Z : Z81 K mg) : GTup K mg "KINDS" (rTup K rStr) kinds := ⟨_, Z.glo (Z.fa 122 rfl), fun H => ⟨_, [.str "town", .str "county"], rfl, Fy.kin_ok (Z.fy 34 rfl) H, .cons rfl (.cons rfl .nil)⟩⟩
theorem Z81.start (Z : Z81 K mg) : GTup K mg "START" (rForm K) [(1, 1)] := ⟨_, Z.glo (Z.fa 123 rfl), fun H => ⟨_, [.ref (elt0 K (He.ga K "START"))], rfl, (Fy.sta1_ok (Z.fy 35 rfl) H).1, .cons ⟨_, .int 1, .int 1, rfl, (Fy.sta1_ok (Z.fy 35 rfl) H).2, rfl, rfl⟩ .nil⟩⟩
theorem c_many_from (Z : Z81 K mg) : Cal P w K mg base 1 "many_from" (Pm2 (rForm K) rInt rInt (fun form _ => FL form) manyFrom) := by
  obtain ⟨fd, F⟩ := Z.fn 0 rfl rfl
  exact ⟨_, Z.glo (Z.fa 0 rfl), F.kp, ok_many_from Z.bn F⟩
theorem c_has (Z : Z81 K mg) : Cal P w K mg base 1 "has" (Pm2 (rForm K) rInt rBl (fun form _ => FL form) hasN) := by
  obtain ⟨fd, F⟩ := Z.fn 1 rfl rfl
  exact ⟨_, Z.glo (Z.fa 1 rfl), F.kp, ok_has Z.bn F⟩
theorem c_places_of (Z : Z81 K mg) : Cal P w K mg base 1 "places_of" (Pm2 (rForm K) (rForm K) (rLst K rInt) (fun one other => FL one ∧ FL other) placesOf) := by
  obtain ⟨fd, F⟩ := Z.fn 2 rfl rfl
  exact ⟨_, Z.glo (Z.fa 2 rfl), F.kp, ok_places_of Z.bn F⟩
theorem c_joined (Z : Z81 K mg) : Cal P w K mg base 1 "joined" (Pm1 (rSeq K (rPr K rInt rInt)) (rForm K) (fun runs => runs.length ≤ 1000) joined) := by
  obtain ⟨fd, F⟩ := Z.fn 3 rfl rfl
  exact ⟨_, Z.glo (Z.fa 3 rfl), F.kp, ok_joined Z.bn F⟩
theorem c_is_within (Z : Z81 K mg) : Cal P w K mg base 2 "is_within" (spWithin K) := by
  obtain ⟨fd, F⟩ := Z.fn 4 rfl rfl
  exact ⟨_, Z.glo (Z.fa 4 rfl), F.kp, ok_is_within Z.bn (c_many_from Z) (c_places_of Z) F⟩
theorem c_blended (Z : Z81 K mg) : Cal P w K mg base 2 "blended" (spBlended K) := by
  obtain ⟨fd, F⟩ := Z.fn 5 rfl rfl
  exact ⟨_, Z.glo (Z.fa 5 rfl), F.kp, ok_blended Z.bn (c_many_from Z) (c_has Z) (c_places_of Z) (c_joined Z) F⟩
theorem c_least_around (Z : Z81 K mg) : Cal P w K mg base 3 "least_around" (spAround K) := by
  obtain ⟨fd, F⟩ := Z.fn 6 rfl rfl
  exact ⟨_, Z.glo (Z.fa 6 rfl), F.kp, ok_least_around (c_blended Z) F⟩
theorem c_just_above (Z : Z81 K mg) : Cal P w K mg base 2 "just_above" (spAbove K) := by
  obtain ⟨fd, F⟩ := Z.fn 7 rfl rfl
  exact ⟨_, Z.glo (Z.fa 7 rfl), F.kp, ok_just_above Z.bn (c_many_from Z) (c_has Z) (c_joined Z) F⟩
theorem c_least_in (Z : Z81 K mg) : Cal P w K mg base 1 "least_in" (spLeastIn K) := by
  obtain ⟨fd, F⟩ := Z.fn 8 rfl rfl
  exact ⟨_, Z.glo (Z.fa 8 rfl), F.kp, ok_least_in Z.bn F⟩
theorem c_floors_in (Z : Z81 K mg) : Cal P w K mg base 1 "floors_in" (spFloors K) := by
  obtain ⟨fd, F⟩ := Z.fn 9 rfl rfl
  exact ⟨_, Z.glo (Z.fa 9 rfl), F.kp, ok_floors_in Z.bn F⟩
theorem c_form_with (Z : Z81 K mg) : Cal P w K mg base 1 "form_with" (spFormWith K) := by
  obtain ⟨fd, F⟩ := Z.fn 10 rfl rfl
  exact ⟨_, Z.glo (Z.fa 10 rfl), F.kp, ok_form_with Z.bn F⟩
theorem c_form_behind (Z : Z81 K mg) : Cal P w K mg base 2 "form_behind" (spBehind K) := by
  obtain ⟨fd, F⟩ := Z.fn 11 rfl rfl
  exact ⟨_, Z.glo (Z.fa 11 rfl), F.kp, ok_form_behind Z.bn (c_least_in Z) (c_floors_in Z) (c_form_with Z) F⟩
theorem c_summed (Z : Z81 K mg) : Cal P w K mg base 1 "summed" (spSummed K) := by
  obtain ⟨fd, F⟩ := Z.fn 12 rfl rfl
  exact ⟨_, Z.glo (Z.fa 12 rfl), F.kp, ok_summed Z.bn F⟩
theorem prp_County_runs (Z : Z81 K mg) : Prp P w K mg base 1 (He.ga K "County") "runs" (Pm1 (rCty K (He.ga K "County")) (rForm K) (fun _ => True) id) := by
  obtain ⟨fd, F⟩ := Z.fn 13 rfl rfl
  exact ⟨_, _, Fy.prp_ok (Z.fy 0 rfl), ok_cty_runs Z.cty F⟩
theorem spm_County___len__ (Z : Z81 K mg) : Spm P w K mg base 1 (He.ga K "County") "__len__" (Pm1 (rCty K (He.ga K "County")) rInt (fun _ => True) fun runs => (runs.length : Int)) := by
  obtain ⟨fd, F⟩ := Z.fn 14 rfl rfl
  have h := He.meth_ok (Z.fa 13 rfl)
  exact ⟨_, ⟨h.at_, h.fn⟩, ok_cty_len Z.bn Z.cty F⟩
theorem prp_County_rows (Z : Z81 K mg) : Prp P w K mg base 1 (He.ga K "County") "rows" (Pm1 (rCty K (He.ga K "County")) rInt (fun _ => True) rowsM) := by
  obtain ⟨fd, F⟩ := Z.fn 15 rfl rfl
  exact ⟨_, _, Fy.prp_ok (Z.fy 1 rfl), ok_cty_rows Z.bn Z.cty F⟩
theorem prp_County_towns (Z : Z81 K mg) : Prp P w K mg base 1 (He.ga K "County") "towns" (Pm1 (rCty K (He.ga K "County")) rInt (fun _ => True) townsM) := by
  obtain ⟨fd, F⟩ := Z.fn 16 rfl rfl
  exact ⟨_, _, Fy.prp_ok (Z.fy 2 rfl), ok_cty_towns Z.bn Z.cty F⟩
theorem spm_County___contains__ (Z : Z81 K mg) : Spm P w K mg base 1 (He.ga K "County") "__contains__" (Pm2 (rCty K (He.ga K "County")) rInt rBl (fun _ _ => True) hasTown) := by
  obtain ⟨fd, F⟩ := Z.fn 17 rfl rfl
  have h := He.meth_ok (Z.fa 14 rfl)
  exact ⟨_, ⟨h.at_, h.fn⟩, ok_cty_has Z.bn Z.cty F⟩
theorem mth_County_rows_from (Z : Z81 K mg) : Mth P w K mg base 1 (He.ga K "County") "rows_from" (Pm2 (rCty K (He.ga K "County")) rInt rInt (fun _ _ => True) rowsFrom) := by
  obtain ⟨fd, F⟩ := Z.fn 18 rfl rfl
  exact ⟨_, He.meth_ok (Z.fa 15 rfl), ok_cty_rows_from Z.bn Z.cty F⟩
theorem mk_County (Z : Z81 K mg) : Mkr P w K mg base 2 "County" (He.ga K "County") (spCtyInit K (He.ga K "County")) := by
  obtain ⟨fd, F⟩ := Z.fnD 19 rfl
  have E := ok_cty_initD (P := P) (w := w) (base := base) Z.cty (c_summed Z) F
  have B := binds_all (ps := ["self", "runs"]) F rfl fun T kV doc pm an cdv ct us its h1 h2 => match us, its, h1, h2 with | [_, _], [_], _, _ => ⟨_, rfl, rfl⟩
  exact ⟨_, Z.glo (Z.fa 16 rfl), He.mkr_ok (Z.fa 17 rfl), FnE.r ⟨_, _, E, B⟩⟩
theorem mk0_County (Z : Z81 K mg) : CtyMk0 P w K mg base (He.ga K "County") := by
  obtain ⟨fd, F⟩ := Z.fnD 19 rfl
  have E := ok_cty_initD (P := P) (w := w) (base := base) Z.cty (c_summed Z) F
  obtain ⟨dv, r, B⟩ := binds_one (ps := ["self", "runs"]) F rfl fun T kV doc pm an cdv ct us its h1 h2 => match us, its, h1, h2 with | [_], [_], _, _ => ⟨_, rfl, rfl⟩
  exact ⟨_, _, _, dv, _, E, Z.glo (Z.fa 16 rfl), He.mkr_ok (Z.fa 17 rfl), B, r, fun H => ⟨_, [], rfl, .inr (Fy.tpd_ok (Z.fy 3 rfl) H), .nil⟩⟩
theorem mth_County_only (Z : Z81 K mg) : Mth P w K mg base 4 (He.ga K "County") "only" (Pm2 (rCty K (He.ga K "County")) rInt (rCty K (He.ga K "County")) (fun _ _ => True) onlyM) := by
  obtain ⟨fd, F⟩ := Z.fn 20 rfl rfl
  exact ⟨_, He.meth_ok (Z.fa 18 rfl), ok_cty_only Z.cty (mk_County Z) F⟩
theorem spm_County___add__ (Z : Z81 K mg) : Spm P w K mg base 4 (He.ga K "County") "__add__" (Pm2 (rCty K (He.ga K "County")) (rCty K (He.ga K "County")) (rCty K (He.ga K "County")) (fun a b => a.length + b.length ≤ 1000) fun a b => summedM (a ++ b)) := by
  obtain ⟨fd, F⟩ := Z.fn 21 rfl rfl
  have h := He.meth_ok (Z.fa 19 rfl)
  exact ⟨_, ⟨h.at_, h.fn⟩, ok_cty_add Z.bn Z.cty (prp_County_runs Z) (mk_County Z) F⟩
theorem spm_County___eq__ (Z : Z81 K mg) : Spm P w K mg base 3 (He.ga K "County") "__eq__" (Pm2 (rCty K (He.ga K "County")) (rCty K (He.ga K "County")) rBl (fun _ _ => True) fun a b => decide (a = b)) := by
  obtain ⟨fd, F⟩ := Z.fn 22 rfl rfl
  have h := He.meth_ok (Z.fa 20 rfl)
  exact ⟨_, ⟨h.at_, h.fn⟩, ok_cty_eq Z.bn Z.cty (prp_County_runs Z) F⟩
theorem c_number_in (Z : Z81 K mg) : Cal P w K mg base 1 "number_in" (spNumIn K) := by
  obtain ⟨fd, F⟩ := Z.fn 23 rfl rfl
  exact ⟨_, Z.glo (Z.fa 21 rfl), F.kp, ok_number_in Z.bn F⟩
theorem c_is_number (Z : Z81 K mg) : Cal P w K mg base 1 "is_number" (Pm1 rInt rBl (fun _ => True) (fun _ => true)) := by
  obtain ⟨fd, F⟩ := Z.fn 24 rfl rfl
  exact ⟨_, Z.glo (Z.fa 23 rfl), F.kp, ok_is_number Z.bn (Fy.kt_ok (Z.fy 4 rfl)) (Fy.kt_ok (Z.fy 5 rfl)) (Z.free (Z.fa 22 rfl)) F⟩
theorem c_is_run (Z : Z81 K mg) : Cal P w K mg base 2 "is_run" (spIsRun K) := by
  obtain ⟨_, hP⟩ := Z.int (Z.fa 24 rfl)
  obtain ⟨fd, F⟩ := Z.fn 25 rfl rfl
  exact ⟨_, Z.glo (Z.fa 25 rfl), F.kp, ok_is_run Z.bn Z.isk (c_is_number Z) hP F⟩
theorem c_is_runs (Z : Z81 K mg) : Cal P w K mg base 3 "is_runs" (spIsRuns K) := by
  obtain ⟨fd, F⟩ := Z.fn 26 rfl rfl
  exact ⟨_, Z.glo (Z.fa 26 rfl), F.kp, ok_is_runs Z.bn Z.isk (c_is_run Z) F⟩
theorem c_run_in (Z : Z81 K mg) : Cal P w K mg base 2 "run_in" (spRunIn K) := by
  obtain ⟨_, hP⟩ := Z.int (Z.fa 24 rfl)
  obtain ⟨_, hX⟩ := Z.str (Z.fa 27 rfl)
  obtain ⟨fd, F⟩ := Z.fn 27 rfl rfl
  exact ⟨_, Z.glo (Z.fa 28 rfl), F.kp, ok_run_in Z.bn (c_number_in Z) hP hX F⟩
theorem sta_County_of (Z : Z81 K mg) : Stm P w K mg base 4 (He.ga K "County") "of" (spCtyOf K (He.ga K "County")) := by
  obtain ⟨_, hN⟩ := Z.str (Z.fa 29 rfl)
  obtain ⟨fd, F⟩ := Z.fn 28 rfl rfl
  exact ⟨_, _, _, Fy.sta_ok (Z.fy 6 rfl), ok_cty_of Z.bn (c_run_in Z) (c_is_runs Z) (mk_County Z) (mk0_County Z) hN F⟩
theorem mk_Step (Z : Z81 K mg) : Mkr P w K mg base 1 "Step" (He.ga K "Step") (spStpInit (He.ga K "Step")) := by
  obtain ⟨fd, F⟩ := Z.fn 29 rfl rfl
  exact ⟨_, Z.glo (Z.fa 30 rfl), He.mkr_ok (Z.fa 31 rfl), FnE.r (ok_stp_init Z.stp Z.kinds F)⟩
theorem prp_Step_kind (Z : Z81 K mg) : Prp P w K mg base 1 (He.ga K "Step") "kind" (Pm1 (rStp (He.ga K "Step")) rStr (fun _ => True) fun x => kindS x.1) := by
  obtain ⟨fd, F⟩ := Z.fn 30 rfl rfl
  exact ⟨_, _, Fy.prp_ok (Z.fy 7 rfl), ok_stp_kind Z.stp F⟩
theorem prp_Step_least (Z : Z81 K mg) : Prp P w K mg base 1 (He.ga K "Step") "least" (Pm1 (rStp (He.ga K "Step")) rInt (fun _ => True) fun x => x.2) := by
  obtain ⟨fd, F⟩ := Z.fn 31 rfl rfl
  exact ⟨_, _, Fy.prp_ok (Z.fy 8 rfl), ok_stp_least Z.stp F⟩
theorem cll_Step (Z : Z81 K mg) : Cll P w K mg base 5 (He.ga K "Step") (Pm2 (rStp (He.ga K "Step")) (rCty K (He.ga K "County")) (rCty K (He.ga K "County")) (fun _ _ => True) stepRun) := by
  obtain ⟨_, hT⟩ := Z.str (Z.fa 32 rfl)
  obtain ⟨fd, F⟩ := Z.fn 32 rfl rfl
  have h := He.meth_ok (Z.fa 33 rfl)
  exact ⟨_, ⟨h.at_, h.fn, Fy.cal_ok (Z.fy 9 rfl)⟩, ok_stp_call Z.stp Z.cty hT (mth_County_only Z) (prp_County_rows Z) (mk0_County Z) F⟩
theorem c_form_of_step (Z : Z81 K mg) : Cal P w K mg base 3 "form_of_step" (Pm1 (rStp (He.ga K "Step")) (rForm K) (fun _ => True) formOfStep) := by
  obtain ⟨fd, F⟩ := Z.fn 33 rfl rfl
  exact ⟨_, Z.glo (Z.fa 34 rfl), F.kp, ok_form_of_step Z.stp (prp_Step_kind Z) (prp_Step_least Z) F⟩
theorem c_plain_steps (Z : Z81 K mg) : Cal P w K mg base 3 "plain_steps" (spPlain K (He.ga K "Step")) := by
  obtain ⟨fd, F⟩ := Z.fn 34 rfl rfl
  exact ⟨_, Z.glo (Z.fa 35 rfl), F.kp, ok_plain_steps Z.bn (mk_Step Z) (c_least_in Z) (c_floors_in Z) F⟩
theorem sta_Step_of (Z : Z81 K mg) : Stm P w K mg base 3 (He.ga K "Step") "of" (spStpOf (He.ga K "Step")) := by
  obtain ⟨fd, F⟩ := Z.fn 35 rfl rfl
  exact ⟨_, _, _, Fy.sta_ok (Z.fy 10 rfl), ok_stp_of Z.bn Z.kinds (c_number_in Z) (mk_Step Z) F⟩
theorem c_form_of_steps (Z : Z81 K mg) : Cal P w K mg base 4 "form_of_steps" (spFormOf K (He.ga K "Step")) := by
  obtain ⟨fd, F⟩ := Z.fn 36 rfl rfl
  exact ⟨_, Z.glo (Z.fa 36 rfl), F.kp, ok_form_of_steps Z.start (c_form_of_step Z) (c_form_behind Z) F⟩
theorem mk_Script (Z : Z81 K mg) : Mkr P w K mg base 5 "Script" (He.ga K "Script") (spScrInit K (He.ga K "Script") (He.ga K "Step")) := by
  obtain ⟨fd, F⟩ := Z.fnD 37 rfl
  have E := ok_scr_initD (P := P) (w := w) (base := base) Z.bn Z.scr (c_form_of_steps Z) F (Fy.ne2_ok (Z.fy 11 rfl))
  have B := binds_all (ps := ["self", "steps"]) F rfl fun T kV doc pm an cdv ct us its h1 h2 => match us, its, h1, h2 with | [_, _], [_], _, _ => ⟨_, rfl, rfl⟩
  exact ⟨_, Z.glo (Z.fa 37 rfl), He.mkr_ok (Z.fa 38 rfl), FnE.r ⟨_, _, E, B⟩⟩
theorem mk0_Script (Z : Z81 K mg) : ScrMk0 P w K mg base (He.ga K "Script") (He.ga K "Step") := by
  obtain ⟨fd, F⟩ := Z.fnD 37 rfl
  have E := ok_scr_initD (P := P) (w := w) (base := base) Z.bn Z.scr (c_form_of_steps Z) F (Fy.ne2_ok (Z.fy 11 rfl))
  obtain ⟨dv, r, B⟩ := binds_one (ps := ["self", "steps"]) F rfl fun T kV doc pm an cdv ct us its h1 h2 => match us, its, h1, h2 with | [_], [_], _, _ => ⟨_, rfl, rfl⟩
  exact ⟨_, _, _, dv, _, E, Z.glo (Z.fa 37 rfl), He.mkr_ok (Z.fa 38 rfl), B, r, fun H => ⟨_, [], rfl, .inr (Fy.tpd_ok (Z.fy 12 rfl) H), .nil⟩⟩
theorem prp_Script_steps (Z : Z81 K mg) : Prp P w K mg base 1 (He.ga K "Script") "steps" (Pm1 (rScr K (He.ga K "Script") (He.ga K "Step")) (rTup K (rStp (He.ga K "Step"))) (fun _ => True) id) := by
  obtain ⟨fd, F⟩ := Z.fn 38 rfl rfl
  exact ⟨_, _, Fy.prp_ok (Z.fy 13 rfl), ok_scr_steps Z.scr F⟩
theorem prp_Script_form (Z : Z81 K mg) : Prp P w K mg base 1 (He.ga K "Script") "form" (Pm1 (rScr K (He.ga K "Script") (He.ga K "Step")) (rForm K) (fun _ => True) formOfSteps) := by
  obtain ⟨fd, F⟩ := Z.fn 39 rfl rfl
  exact ⟨_, _, Fy.prp_ok (Z.fy 14 rfl), ok_scr_form Z.scr F⟩
theorem prp_Script_least (Z : Z81 K mg) : Prp P w K mg base 2 (He.ga K "Script") "least" (Pm1 (rScr K (He.ga K "Script") (He.ga K "Step")) rInt (fun _ => True) fun x => leastIn (formOfSteps x)) := by
  obtain ⟨fd, F⟩ := Z.fn 40 rfl rfl
  exact ⟨_, _, Fy.prp_ok (Z.fy 15 rfl), ok_scr_least Z.scr (c_least_in Z) F⟩
theorem mth_Script_within (Z : Z81 K mg) : Mth P w K mg base 3 (He.ga K "Script") "within" (Pm2 (rScr K (He.ga K "Script") (He.ga K "Step")) (rScr K (He.ga K "Script") (He.ga K "Step")) rBl (fun x y => FL (formOfSteps x) ∧ FL (formOfSteps y)) fun x y => isWithin (formOfSteps x) (formOfSteps y)) := by
  obtain ⟨fd, F⟩ := Z.fn 41 rfl rfl
  exact ⟨_, He.meth_ok (Z.fa 39 rfl), ok_scr_within Z.scr (c_is_within Z) (prp_Script_form Z) F⟩
theorem cll_Script (Z : Z81 K mg) : Cll P w K mg base 6 (He.ga K "Script") (Pm2 (rScr K (He.ga K "Script") (He.ga K "Step")) (rCty K (He.ga K "County")) (rCty K (He.ga K "County")) (fun _ _ => True) runSteps) := by
  obtain ⟨fd, F⟩ := Z.fn 42 rfl rfl
  have h := He.meth_ok (Z.fa 40 rfl)
  exact ⟨_, ⟨h.at_, h.fn, Fy.cal_ok (Z.fy 16 rfl)⟩, ok_scr_call Z.scr (cll_Step Z) F⟩
theorem mth_Script_shows (Z : Z81 K mg) : Mth P w K mg base 7 (He.ga K "Script") "shows" (spShows K (He.ga K "Script") (He.ga K "Step") (He.ga K "County")) := by
  obtain ⟨fd, F⟩ := Z.fn 43 rfl rfl
  exact ⟨_, He.meth_ok (Z.fa 41 rfl), ok_scr_shows Z.cty (cll_Script Z) (spm_County___contains__ Z) F⟩
theorem spm_Script___len__ (Z : Z81 K mg) : Spm P w K mg base 1 (He.ga K "Script") "__len__" (Pm1 (rScr K (He.ga K "Script") (He.ga K "Step")) rInt (fun _ => True) fun l => (l.length : Int)) := by
  obtain ⟨fd, F⟩ := Z.fn 44 rfl rfl
  have h := He.meth_ok (Z.fa 42 rfl)
  exact ⟨_, ⟨h.at_, h.fn⟩, ok_scr_len Z.bn Z.scr F⟩
theorem spm_Script___eq__ (Z : Z81 K mg) : Spm P w K mg base 3 (He.ga K "Script") "__eq__" (spScrEq K (He.ga K "Script") (He.ga K "Step")) := by
  obtain ⟨fd, F⟩ := Z.fn 45 rfl rfl
  have h := He.meth_ok (Z.fa 43 rfl)
  exact ⟨_, ⟨h.at_, h.fn⟩, ok_scr_eq Z.bn Z.scr (prp_Script_form Z) F⟩
theorem c_without (Z : Z81 K mg) : Cal P w K mg base 7 "without" (Pm2 (rScr K (He.ga K "Script") (He.ga K "Step")) rInt (rScr K (He.ga K "Script") (He.ga K "Step")) (fun _ n => 0 ≤ n) withoutM) := by
  obtain ⟨fd, F⟩ := Z.fn 46 rfl rfl
  exact ⟨_, Z.glo (Z.fa 44 rfl), F.kp, ok_without Z.scr (mk_Script Z) (prp_Script_steps Z) F⟩
theorem c_needless (Z : Z81 K mg) : Cal P w K mg base 8 "needless" (Pm1 (rScr K (He.ga K "Script") (He.ga K "Step")) (rTup K rInt) (fun _ => True) needlessM) := by
  obtain ⟨fd, F⟩ := Z.fn 47 rfl rfl
  exact ⟨_, Z.glo (Z.fa 45 rfl), F.kp, ok_needless Z.bn Z.scr (spm_Script___eq__ Z) (spm_Script___len__ Z) (c_without Z) F⟩
theorem c_check_town (Z : Z81 K mg) : Cal P w K mg base 2 "check_town" (spCheck K (He.ga K "County")) := by
  obtain ⟨fd, F⟩ := Z.fn 48 rfl rfl
  exact ⟨_, Z.glo (Z.fa 46 rfl), F.kp, ok_check_town (spm_County___contains__ Z) F⟩
theorem c_taken_by (Z : Z81 K mg) : Cal P w K mg base 6 "taken_by" (Pm3 (rScr K (He.ga K "Script") (He.ga K "Step")) (rCty K (He.ga K "County")) rInt (rOpt rInt) (fun _ c size => hasTown c size = true) takenBy) := by
  obtain ⟨fd, F⟩ := Z.fn 49 rfl rfl
  exact ⟨_, Z.glo (Z.fa 47 rfl), F.kp, ok_taken_by Z.bn Z.scr (c_check_town Z) (prp_Script_steps Z) (cll_Step Z) (spm_County___contains__ Z) F⟩
theorem c_form_for (Z : Z81 K mg) : Cal P w K mg base 3 "form_for" (Pm2 (rCty K (He.ga K "County")) rInt (rForm K) (fun c size => hasTown c size = true) formFor) := by
  obtain ⟨fd, F⟩ := Z.fn 50 rfl rfl
  exact ⟨_, Z.glo (Z.fa 48 rfl), F.kp, ok_form_for Z.bn Z.cty (c_check_town Z) (prp_County_runs Z) (mth_County_rows_from Z) (c_form_with Z) F⟩
theorem c_script_with (Z : Z81 K mg) : Cal P w K mg base 7 "script_with" (spScriptWith K (He.ga K "Script") (He.ga K "Step")) := by
  obtain ⟨fd, F⟩ := Z.fn 51 rfl rfl
  exact ⟨_, Z.glo (Z.fa 49 rfl), F.kp, ok_script_with (mk_Script Z) (c_plain_steps Z) F⟩
theorem c_new_town (Z : Z81 K mg) : Cal P w K mg base 4 "new_town" (Pm2 (rScr K (He.ga K "Script") (He.ga K "Step")) (rCty K (He.ga K "County")) rInt (fun _ _ => True) newTown) := by
  obtain ⟨fd, F⟩ := Z.fn 52 rfl rfl
  exact ⟨_, Z.glo (Z.fa 50 rfl), F.kp, ok_new_town Z.bn Z.scr Z.cty (prp_Script_least Z) (prp_Script_form Z) (c_floors_in Z) (mth_County_rows_from Z) F⟩
theorem c_fewer (Z : Z81 K mg) : Cal P w K mg base 4 "fewer" (Pm2 (rCty K (He.ga K "County")) rInt (rCty K (He.ga K "County")) (fun _ _ => True) fewerM) := by
  obtain ⟨fd, F⟩ := Z.fn 53 rfl rfl
  exact ⟨_, Z.glo (Z.fa 51 rfl), F.kp, ok_fewer Z.bn Z.cty (prp_County_runs Z) (mk_County Z) F⟩
theorem c_towns_for (Z : Z81 K mg) : Cal P w K mg base 3 "towns_for" (Pm2 (rCty K (He.ga K "County")) rInt rInt (fun _ _ => True) townsFor) := by
  obtain ⟨fd, F⟩ := Z.fn 54 rfl rfl
  exact ⟨_, Z.glo (Z.fa 52 rfl), F.kp, ok_towns_for Z.bn Z.cty (prp_County_runs Z) F⟩
theorem sta_Script_of (Z : Z81 K mg) : Stm P w K mg base 7 (He.ga K "Script") "of" (spScrOf K (He.ga K "Script") (He.ga K "Step")) := by
  obtain ⟨_, hN⟩ := Z.str (Z.fa 29 rfl)
  obtain ⟨_, hB⟩ := Z.str (Z.fa 53 rfl)
  obtain ⟨fd, F⟩ := Z.fn 55 rfl rfl
  exact ⟨_, _, _, Fy.sta_ok (Z.fy 17 rfl), ok_scr_of Z.bn (mk_Script Z) (mk0_Script Z) (sta_Step_of Z) (Z.glo (Z.fa 30 rfl)) hN hB F⟩
theorem c_towns_to_lose (Z : Z81 K mg) : Cal P w K mg base 8 "towns_to_lose" (Pm3 (rScr K (He.ga K "Script") (He.ga K "Step")) (rCty K (He.ga K "County")) rInt (rOpt rInt) (fun _ c size => hasTown c size = true) toLose) := by
  obtain ⟨fd, F⟩ := Z.fn 56 rfl rfl
  exact ⟨_, Z.glo (Z.fa 54 rfl), F.kp, ok_towns_to_lose Z.bn Z.scr Z.cty (c_check_town Z) (mth_Script_shows Z) (c_fewer Z) (c_towns_for Z) (c_floors_in Z) (prp_Script_form Z) (mth_County_rows_from Z) F⟩
theorem c_town_to_add (Z : Z81 K mg) : Cal P w K mg base 4 "town_to_add" (Pm3 (rScr K (He.ga K "Script") (He.ga K "Step")) (rCty K (He.ga K "County")) rInt (rOpt rInt) (fun _ c size => hasTown c size = true) toAdd) := by
  obtain ⟨fd, F⟩ := Z.fn 57 rfl rfl
  exact ⟨_, Z.glo (Z.fa 55 rfl), F.kp, ok_town_to_add Z.bn Z.scr Z.cty (c_check_town Z) (prp_Script_least Z) (c_floors_in Z) (prp_Script_form Z) (mth_County_rows_from Z) F⟩
theorem c_fits (Z : Z81 K mg) : Cal P w K mg base 8 "fits" (Pm2 (rScr K (He.ga K "Script") (He.ga K "Step")) (rLooks K (He.ga K "County")) rBl (fun _ looks => InL looks ∧ looks.length ≤ 1000) fitsM) := by
  obtain ⟨fd, F⟩ := Z.fn 58 rfl rfl
  exact ⟨_, Z.glo (Z.fa 56 rfl), F.kp, ok_fits Z.bn Z.scr (mth_Script_shows Z) F⟩
theorem c_low_of (Z : Z81 K mg) : Cal P w K mg base 4 "low_of" (Pm1 (rLooks K (He.ga K "County")) (rOpt (rForm K)) LowOk lowOf) := by
  obtain ⟨fd, F⟩ := Z.fn 59 rfl rfl
  exact ⟨_, Z.glo (Z.fa 57 rfl), F.kp, ok_low_of (c_form_for Z) (c_least_around Z) F⟩
theorem c_banned_by (Z : Z81 K mg) : Cal P w K mg base 4 "banned_by" (Pm1 (rLooks K (He.ga K "County")) (rLst K (rForm K)) (fun looks => InL looks ∧ looks.length ≤ 1000) bannedBy) := by
  obtain ⟨fd, F⟩ := Z.fn 60 rfl rfl
  exact ⟨_, Z.glo (Z.fa 58 rfl), F.kp, ok_banned_by (c_form_for Z) F⟩
theorem c_is_banned (Z : Z81 K mg) : Cal P w K mg base 3 "is_banned" (spIsBanned K) := by
  obtain ⟨fd, F⟩ := Z.fn 61 rfl rfl
  exact ⟨_, Z.glo (Z.fa 59 rfl), F.kp, ok_is_banned Z.bn (c_is_within Z) F⟩
theorem c_checked (Z : Z81 K mg) : Cal P w K mg base 5 "checked" (spChecked K (He.ga K "County")) := by
  obtain ⟨fd, F⟩ := Z.fn 62 rfl rfl
  exact ⟨_, Z.glo (Z.fa 60 rfl), F.kp, ok_checked (c_low_of Z) (c_banned_by Z) (c_is_banned Z) F⟩
theorem c_strictest_fit (Z : Z81 K mg) : Cal P w K mg base 8 "strictest_fit" (Pm1 (rLooks K (He.ga K "County")) (rOpt (rScr K (He.ga K "Script") (He.ga K "Step"))) FitOk strictestFit) := by
  obtain ⟨fd, F⟩ := Z.fn 63 rfl rfl
  exact ⟨_, Z.glo (Z.fa 61 rfl), F.kp, ok_strictest (c_checked Z) (c_script_with Z) F⟩
theorem c_only_fit (Z : Z81 K mg) : Cal P w K mg base 8 "only_fit" (Pm1 (rLooks K (He.ga K "County")) (rOpt (rScr K (He.ga K "Script") (He.ga K "Step"))) (fun looks => FitOk looks ∧ ∀ a, lowOf looks = some a → (justAbove a).length ≤ 1000 ∧ ∀ fm ∈ justAbove a, FL fm) onlyFit) := by
  obtain ⟨fd, F⟩ := Z.fn 64 rfl rfl
  exact ⟨_, Z.glo (Z.fa 62 rfl), F.kp, ok_only_fit Z.bn (c_checked Z) (c_is_banned Z) (c_just_above Z) (c_script_with Z) F⟩
theorem c_asking (Z : Z81 K mg) : Cal P w K mg base 4 "asking" (spAsking K (He.ga K "County")) := by
  obtain ⟨fd, F⟩ := Z.fn 65 rfl rfl
  exact ⟨_, Z.glo (Z.fa 63 rfl), F.kp, ok_asking (mk_County Z) F⟩
theorem c_telling_table (Z : Z81 K mg) : Cal P w K mg base 5 "telling_table" (Pm1 rInt (rTup K (rCty K (He.ga K "County"))) (fun m => m = 7) tableM) := by
  obtain ⟨fd, F⟩ := Z.fn 66 rfl rfl
  exact ⟨_, Z.glo (Z.fa 64 rfl), F.kp, ok_telling_table Z.bn (mk_County Z) (c_asking Z) F⟩
theorem c_tupled1 (Z : Z81 K mg) : Cal P w K mg base 1 "tupled" (spTupC K (He.ga K "County")) := by
  obtain ⟨fd, F⟩ := Z.fn 67 rfl rfl
  exact ⟨_, Z.glo (Z.fa 65 rfl), F.kp, ok_tupled1 Z.bn Z.cty (Fy.kac_ok (Z.fy 18 rfl)) F⟩
theorem c_tupled2 (Z : Z81 K mg) : Cal P w K mg base 2 "tupled" (Pm1 (rTup K (rCty K (He.ga K "County"))) (rTup K (rCty K (He.ga K "County"))) (fun l => l.length ≤ 1000) id) := by
  obtain ⟨fd, F⟩ := Z.fn 67 rfl rfl
  exact ⟨_, Z.glo (Z.fa 65 rfl), F.kp, ok_tupled2 Z.bn (Fy.kat_ok (Z.fy 19 rfl)) (c_tupled1 Z) F⟩
theorem c_size_in (Z : Z81 K mg) : Cal P w K mg base 2 "size_in" (Pm2 (rCty K (He.ga K "County")) (rPr K rInt rInt) rBl (fun _ _ => True) fun c p => hasTown c p.2) := by
  obtain ⟨fd, F⟩ := Z.fn 68 rfl rfl
  exact ⟨_, Z.glo (Z.fa 66 rfl), F.kp, ok_size_in (spm_County___contains__ Z) F⟩
theorem prp_Search_script (Z : Z81 K mg) : Prp P w K mg base 8 (He.ga K "Search") "script" (spSrScript K (He.ga K "Search") (He.ga K "Script") (He.ga K "Step")) := by
  obtain ⟨fd, F⟩ := Z.fn 69 rfl rfl
  exact ⟨_, _, Fy.prp_ok (Z.fy 20 rfl), ok_sr_script Z.bn Z.srf (c_form_with Z) (c_script_with Z) F⟩
theorem mth_Search_first_open (Z : Z81 K mg) : Mth P w K mg base 1 (He.ga K "Search") "first_open" (spFirst K (He.ga K "Search")) := by
  obtain ⟨fd, F⟩ := Z.fn 70 rfl rfl
  exact ⟨_, He.meth_ok (Z.fa 67 rfl), ok_sr_first Z.bn Z.srf F⟩
theorem mth_Search_settle (Z : Z81 K mg) : Mth P w K mg base 10 (He.ga K "Search") "settle" (spSettle K (He.ga K "Search")) := by
  obtain ⟨fd, F⟩ := Z.fn 71 rfl rfl
  exact ⟨_, He.meth_ok (Z.fa 68 rfl), ok_sr_settle Z.bn Z.srf (prp_Search_script Z) (mth_Search_first_open Z) F⟩
theorem prp_Search_ask (Z : Z81 K mg) : Prp P w K mg base 10 (He.ga K "Search") "ask" (Pm1 (rSr K (He.ga K "Search")) (rPr K (rCty K (He.ga K "County")) rInt) (fun st => askOk st = true) askM) := by
  obtain ⟨fd, F⟩ := Z.fn 72 rfl rfl
  exact ⟨_, _, Fy.prp_ok (Z.fy 21 rfl), ok_sr_ask Z.bn Z.srf (mk_County Z) (c_asking Z) (prp_Search_script Z) (mth_Search_first_open Z) F⟩
theorem mth_Search_tell (Z : Z81 K mg) : Mth P w K mg base 11 (He.ga K "Search") "tell" (spTell K (He.ga K "Search")) := by
  obtain ⟨fd, F⟩ := Z.fn 73 rfl rfl
  exact ⟨_, He.meth_ok (Z.fa 69 rfl), ok_sr_tell Z.bn Z.srf (prp_Search_script Z) (mth_Search_settle Z) F⟩
theorem mk_Search (Z : Z81 K mg) : Mkr P w K mg base 11 "Search" (He.ga K "Search") (spSrInit K (He.ga K "Search")) := by
  obtain ⟨fd, F⟩ := Z.fn 74 rfl rfl
  exact ⟨_, Z.glo (Z.fa 70 rfl), He.mkr_ok (Z.fa 71 rfl), FnE.r (ok_sr_init Z.bn Z.srf (mth_Search_settle Z) F)⟩
theorem c__law_searched (Z : Z81 K mg) : Cal P w K mg base 13 "_law_searched" (Pm2 (rScr K (He.ga K "Script") (He.ga K "Step")) rInt (rPr K (rOpt (rScr K (He.ga K "Script") (He.ga K "Step"))) (rLooks K (He.ga K "County"))) (fun l m => m = 7 ∧ searchOk 100 l st0 = true) (fun l _ => searchM 100 l st0 [])) := by
  obtain ⟨fd, F⟩ := Z.fn 75 rfl rfl
  exact ⟨_, Z.glo (Z.fa 72 rfl), F.kp, ok_searched Z.bn Z.srf Z.scr (Fy.ne2_ok (Z.fy 22 rfl)) (Fy.ne2_ok (Z.fy 23 rfl)) (Fy.ne2_ok (Z.fy 24 rfl)) (mk_Search Z) (prp_Search_script Z) (prp_Search_ask Z) (mth_Search_tell Z) (mth_Script_shows Z) F⟩
theorem c_read_off (Z : Z81 K mg) : Cal P w K mg base 8 "read_off" (spReadOff K (He.ga K "Script") (He.ga K "Step") (He.ga K "County")) := by
  obtain ⟨fd, F⟩ := Z.fn 76 rfl rfl
  exact ⟨_, Z.glo (Z.fa 73 rfl), F.kp, ok_read_off Z.bn Z.cty Z.scr (c_tupled2 Z) (c_telling_table Z) (prp_County_towns Z) (c_size_in Z) (c_joined Z) (c_script_with Z) (cll_Script Z) (spm_County___eq__ Z) F⟩
theorem c__law_take (Z : Z81 K mg) : Cal P w K mg base 1 "_law_take" spTakeU := by
  obtain ⟨fd, F⟩ := Z.fn 77 rfl rfl
  exact ⟨_, Z.glo (Z.fa 74 rfl), F.kp, ok_law_take Z.bn F⟩
theorem c__law_of (Z : Z81 K mg) : Cal P w K mg base 2 "_law_of" (spOf K) := by
  obtain ⟨fd, F⟩ := Z.fn 78 rfl rfl
  exact ⟨_, Z.glo (Z.fa 75 rfl), F.kp, ok_law_of Z.bn (c__law_take Z) F⟩
theorem c__law_step (Z : Z81 K mg) : Cal P w K mg base 3 "_law_step" (spStep K) := by
  obtain ⟨fd, F⟩ := Z.fn 79 rfl rfl
  exact ⟨_, Z.glo (Z.fa 76 rfl), F.kp, ok_law_step (c__law_take Z) (c__law_of Z) F⟩
theorem c__law_some (Z : Z81 K mg) : Cal P w K mg base 4 "_law_some" (spSome K) := by
  obtain ⟨fd, F⟩ := Z.fn 80 rfl rfl
  exact ⟨_, Z.glo (Z.fa 77 rfl), F.kp, ok_law_some Z.bn (c__law_take Z) (c__law_step Z) F⟩
theorem c__law_bag (Z : Z81 K mg) : Cal P w K mg base 2 "_law_bag" (spBag K) := by
  obtain ⟨fd, F⟩ := Z.fn 81 rfl rfl
  exact ⟨_, Z.glo (Z.fa 78 rfl), F.kp, ok_law_bag Z.bn (c__law_take Z) F⟩
theorem c__law_line (Z : Z81 K mg) : Cal P w K mg base 1 "_law_line" (spLine K) := by
  obtain ⟨fd, F⟩ := Z.fn 82 rfl rfl
  exact ⟨_, Z.glo (Z.fa 79 rfl), F.kp, ok_law_line Z.bn F⟩
theorem c__law_county (Z : Z81 K mg) : Cal P w K mg base 4 "_law_county" (Pm1 (rLst K (rPr K rInt rInt)) (rCty K (He.ga K "County")) PreRuns summedM) := by
  obtain ⟨fd, F⟩ := Z.fn 83 rfl rfl
  exact ⟨_, Z.glo (Z.fa 80 rfl), F.kp, ok_law_county Z.bn (mk_County Z) F⟩
theorem c__law_made (Z : Z81 K mg) : Cal P w K mg base 8 "_law_made" (Pm1 (rLst K (rStx K)) (rScr K (He.ga K "Script") (He.ga K "Step")) (fun l => l.length ≤ 50 ∧ ∀ s ∈ l, s ∈ allS) id) := by
  obtain ⟨fd, F⟩ := Z.fn 84 rfl rfl
  exact ⟨_, Z.glo (Z.fa 81 rfl), F.kp, ok_law_made (sta_Script_of Z) (c__law_line Z) (Z.glo (Z.fa 37 rfl)) F⟩
theorem c__law_box (Z : Z81 K mg) : Cal P w K mg base 1 "_law_box" (spBox K) := by
  obtain ⟨fd, F⟩ := Z.fn 85 rfl rfl
  exact ⟨_, Z.glo (Z.fa 82 rfl), F.kp, ok_law_box Z.bn F⟩
theorem c__law_cells (Z : Z81 K mg) : Cal P w K mg base 1 "_law_cells" (spCells K) := by
  obtain ⟨fd, F⟩ := Z.fn 86 rfl rfl
  exact ⟨_, Z.glo (Z.fa 83 rfl), F.kp, ok_law_cells Z.bn F⟩
theorem c__law_towns_right (Z : Z81 K mg) : Cal P w K mg base 9 "_law_towns_right" (spTowns K (He.ga K "Script") (He.ga K "Step") (He.ga K "County")) := by
  obtain ⟨fd, F⟩ := Z.fn 87 rfl rfl
  exact ⟨_, Z.glo (Z.fa 84 rfl), F.kp, ok_law_towns_right Z.scr Z.cty (prp_County_runs Z) (mth_Script_shows Z) (c_town_to_add Z) (c_towns_to_lose Z) (c_taken_by Z) (prp_Script_least Z) F⟩
theorem caseF (Z : Z81 K mg) : CaseF P w K mg base (He.ga K "Script") (He.ga K "Step") (He.ga K "County") where
  T := Z.bn
  Y := Z.scr
  mkC := mk_County Z
  c86 := c__law_made Z
  c73 := c_telling_table Z
  cc := cll_Script Z
  c88 := c__law_searched Z
  c74 := c_read_off Z
  ce := spm_Script___eq__ Z
  sne := Fy.sne_ok (Z.fy 25 rfl)
  snn := Fy.sb_ok (Z.fy 26 rfl)
  c65 := c_fits Z
  c70 := c_strictest_fit Z
  cw := mth_Script_within Z
  c71 := c_only_fit Z
  c54 := c_needless Z
  c59 := c_new_town Z
  sh := mth_Script_shows Z
  ad := spm_County___add__ Z
  adf := Fy.sf_ok (Z.fy 27 rfl)
  c89 := c__law_towns_right Z
theorem c__law_case_right (Z : Z81 K mg) : Cal P w K mg base 14 "_law_case_right" (spCase K (He.ga K "County")) := by
  obtain ⟨fd, F⟩ := Z.fn 88 rfl rfl
  exact ⟨_, Z.glo (Z.fa 85 rfl), F.kp, ok_law_case_right (caseF Z) F⟩
theorem c__law_by_hand_right (Z : Z81 K mg) (Mf : MathF) : Cal P w K mg base 15 "_law_by_hand_right" spHand := by
  obtain ⟨fd, F⟩ := Z.fn 89 rfl rfl
  exact ⟨_, Z.glo (Z.fa 86 rfl), F.kp, ok_law_by_hand Mf Z.bn Z.scr (sta_County_of Z) (Z.glo (Z.fa 16 rfl)) (sta_Script_of Z) (Z.glo (Z.fa 37 rfl)) (c__law_case_right Z) F⟩
theorem c__law_right (Z : Z81 K mg) (Mf : MathF) : Cal P w K mg base 15 "_law_right" spRight := by
  obtain ⟨fd, F⟩ := Z.fn 90 rfl rfl
  exact ⟨_, Z.glo (Z.fa 87 rfl), F.kp, ok_law_right Mf Z.bn (c__law_bag Z) (c__law_county Z) (c__law_some Z) (c__law_case_right Z) F⟩
theorem law_facts (Z : Z81 K mg) (Mf : MathF) : ∃ fd, (∀ (s : Shared) (v : Value), BindsTo s fd ⟨[v], []⟩ [("_law_script", v)]) ∧ ∀ (P : Program) (w : World) (base : Heap), FnOk P w K mg base CX0 16 (He.ga K "law") fd ["_law_script"] (spLaw K) := by
  obtain ⟨fd, F⟩ := Z.fn 91 rfl rfl
  obtain ⟨fd2, F2⟩ := Z.fnD 91 rfl
  have e : fd2 = fd := by
    obtain ⟨oc, od, dV, kV, doc, pm, an, cdv, ct, osl, e1, e2, _⟩ := F2.ex
    obtain ⟨oc', od', kV', doc', pm', an', cdv', ct', osl', e1', e2', _⟩ := F.ex
    rw [e2] at e2'
    injection e2' with e3
    injection e3 with _ _ e4
    injection e4
  subst e
  have b := FunD.bindsA (ps := ["_law_script"]) F2 fun _ _ _ _ _ _ us hl => match us, hl with | [_], _ => rfl
  exact ⟨fd2, fun s v => b s [v] rfl, fun P w base => ok_law Z.bn (c__law_by_hand_right Z Mf) (c__law_cells Z) (c__law_right Z Mf) (c__law_box Z) F⟩
end
end K81
set_option Elab.async false
set_option linter.all false
set_option maxRecDepth 100000
set_option maxHeartbeats 0
namespace K81
open PySem L2
theorem law_glo {K : Fr} {mg : Str → Option Value} (Z : Z81 K mg) : mg "law" = some (.ref (He.ga K "law")) := Z.glo (Z.fa 88 rfl)
theorem spLaw_at {K : Fr} {H : Hp} {a : Addr} {ns : List Int} (hl : ns.length ≤ 63) (hS : SqL K H a (ns.map V.int)) : spLaw K [.ref a] H (fun v _ => v = .bl true) fun _ _ _ => False :=
  ⟨H, ns, Ex.rfl', .cons ⟨a, _, rfl, hS, vs_ints _ _⟩ .nil, hl, fun u B2 H2 g r => r⟩
end K81
open PySem PySem.W PySem.Calls PyProof.Rows
theorem k81_of (Mf : K81.MathF) : PySem.Challenge.rw_smalltowns_k81_whole_one_hidden_script_b.Holds := by
  w_on; o_law
  refine HandSHeadRun.head_any (r := OpenLaw.row PySem.Challenge.rw_smalltowns_k81_whole_one_hidden_script_b) (q := K81.vw81) (H := K81.hook81) (ob := K81.ob81) (M := 12000) (loose := K81.names81) (d := HandSHeadRun.topDef (OpenLaw.row PySem.Challenge.rw_smalltowns_k81_whole_one_hidden_script_b).prog 93) (kwd := []) K81.ob81_eq
    (by kernel_rfl) (fun s => by kernel_rfl) K81.run81 (by kernel_rfl) (by kernel_rfl) (by kernel_rfl) (by rfl) (by first | assumption | decide +kernel) (by decide +kernel) ⟨rfl, rfl, rfl, rfl, rfl, by decide +kernel⟩ ?hw ?hc
  case hw => w_witness2
  case hc =>
    refine L2.walk_ofE (l := PySem.Challenge.rw_smalltowns_k81_whole_one_hidden_script_b) (n := 63) (k := 16) (x := "_law_script") (CX := L2.CX0) rfl (by decide) (by kernel_rfl) ⟨rfl, by decide, by decide⟩ ?F (fun _ _ _ _ z => z)
    intro w mg f h Y G hmg0
    obtain ⟨K, KX, c⟩ := Y
    have Z : K81.Z81 K mg := K81.z81_of KX G c
    have hmg : mg ("law" : PySem.Str) = some (.ref f) := by
      have e : (HandSHeadRun.topDef (OpenLaw.row PySem.Challenge.rw_smalltowns_k81_whole_one_hidden_script_b).prog 93).name = ("law" : PySem.Str) := by kernel_rfl
      rw [← e]
      exact hmg0
    have e := hmg.symm.trans (K81.law_glo Z)
    cases e
    obtain ⟨fd, hb, hF⟩ := K81.law_facts Z Mf
    exact ⟨K, fd, K81.spLaw K, KX, hb, fun H a ns hl _ hS => K81.spLaw_at hl hS, fun base _ _ => hF _ _ base⟩
set_option Elab.async false
set_option linter.all false
set_option maxRecDepth 100000
set_option maxHeartbeats 1900000
namespace K81
open PySem L2
/-! ### the forms with numbers to 7: 127 sets -/
def setOf (m : Nat) : Form := joined (((List.range 7).filter fun i => m.testBit i).map fun i : Nat => ((i : Int) + 1, (i : Int) + 1))
def forms7 : List Form := (List.range 127).map fun m => setOf (m + 1)
def okLooks (looks : List Look) : Bool := (looks.all fun q => hasTown q.1 q.2.1) && decide (looks.length ≤ 1000)
def lowB (looks : List Look) : Bool := (looks.all fun q => decide ((formFor q.1 q.2.1).length ≤ 15)) && (List.range looks.length).all fun i => match (looks.take i).foldl lowStep none with
  | none => true
  | some a => decide (a.length ≤ 15)
def fitB (looks : List Look) : Bool := match lowOf looks with
  | none => true
  | some a => decide (a.length ≤ 15) && (!isBanned a (bannedBy looks) && (decide (0 < a.length) && (decide (0 ≤ leastIn a) && (decide ((justAbove a).length ≤ 1000) && (justAbove a).all fun fm => decide (fm.length ≤ 15)))))
def wsB (l : List Stp) (looks : List Look) : Bool := decide ((looks.filter fun q => q.2.2) = []) || match strictestFit looks with
  | none => false
  | some a => decide ((formOfSteps a).length ≤ 15) && (decide ((formOfSteps l).length ≤ 15) && isWithin (formOfSteps a) (formOfSteps l))
def oeB (l : List Stp) (looks : List Look) : Bool := match onlyFit looks with
  | none => true
  | some g => decide (formOfSteps g = formOfSteps l)
def caseB (l : List Stp) : Bool := searchOk 100 l st0 && (match searchM 100 l st0 [] with
  | (none, _) => false
  | (some f, looks) => readOk (seenM l) && (decide (formOfSteps (readOff (seenM l)) = formOfSteps l) && (decide (formOfSteps f = formOfSteps l) && (okLooks looks && (fitsM f looks && (lowB looks && (fitB looks && (wsB l looks && (oeB l looks && decide (needlessM f = []))))))))))
end K81
set_option Elab.async false
set_option linter.all false
set_option maxRecDepth 100000
set_option maxHeartbeats 1900000
namespace K81
open PySem L2
/-! ### a script is its form: plain Lean -/
def PosC (c : Form) : Prop := ∀ p ∈ c, 1 ≤ p.1 ∧ 1 ≤ p.2
theorem rowsFrom_nil (s : Int) : rowsFrom [] s = 0 := rfl
theorem rowsFrom_cons (p : Int × Int) (c : Form) (s : Int) : rowsFrom (p :: c) s = (if s ≤ p.1 then p.1 * p.2 else 0) + rowsFrom c s := by
  unfold rowsFrom
  by_cases h : s ≤ p.1
  · rw [List.filter_cons_of_pos (by simpa using h), List.map_cons, List.sum_cons, if_pos h]
  · rw [List.filter_cons_of_neg (by simpa using h), if_neg h, Int.zero_add]
theorem mul_pos1 {a b : Int} (ha : 1 ≤ a) (hb : 1 ≤ b) : a ≤ a * b := by
  have : a * 1 ≤ a * b := Int.mul_le_mul_of_nonneg_left hb (by omega)
  omega
theorem rowsFrom_nonneg {c : Form} (h : PosC c) (s : Int) : 0 ≤ rowsFrom c s := by
  induction c with
  | nil => exact Int.le_refl _
  | cons p c ih =>
    have hp := h p (by simp)
    have := mul_pos1 hp.1 hp.2
    have := ih fun q hq => h q (by simp [hq])
    rw [rowsFrom_cons]
    split <;> omega
theorem rowsFrom_anti {c : Form} (h : PosC c) {s t : Int} (hst : s ≤ t) : rowsFrom c t ≤ rowsFrom c s := by
  induction c with
  | nil => exact Int.le_refl _
  | cons p c ih =>
    have hp := h p (by simp)
    have := mul_pos1 hp.1 hp.2
    have := ih fun q hq => h q (by simp [hq])
    rw [rowsFrom_cons, rowsFrom_cons]
    split <;> split <;> omega
theorem rowsFrom_ge {c : Form} (h : PosC c) {p : Int × Int} (hp : p ∈ c) {s : Int} (hs : s ≤ p.1) : p.1 * p.2 ≤ rowsFrom c s := by
  induction c with
  | nil => cases hp
  | cons q c ih =>
    have hc : PosC c := fun q hq => h q (by simp [hq])
    rw [rowsFrom_cons]
    rcases List.mem_cons.mp hp with e | hp
    · subst e
      have := rowsFrom_nonneg hc s
      rw [if_pos hs]
      omega
    · have hq := h q (by simp)
      have := mul_pos1 hq.1 hq.2
      have := ih hc hp
      split <;> omega
theorem onlyM_eq (c : Form) (a : Int) : onlyM c a = c.filter fun p => decide (a ≤ p.1) := by unfold onlyM; exact List.map_id _
theorem onlyM_onlyM (c : Form) (a b : Int) : onlyM (onlyM c a) b = onlyM c (max a b) := by
  rw [onlyM_eq, onlyM_eq, onlyM_eq, List.filter_filter]
  refine List.filter_congr fun p _ => ?_
  rw [← Bool.decide_and]
  exact decide_eq_decide.mpr (by omega)
theorem rowsM_only (c : Form) (a : Int) : rowsM (onlyM c a) = rowsFrom c a := by rw [onlyM_eq]; rfl
theorem mem_only {c : Form} {a : Int} {p : Int × Int} : p ∈ onlyM c a ↔ p ∈ c ∧ a ≤ p.1 := by rw [onlyM_eq, List.mem_filter, decide_eq_true_iff]
theorem only_ge {c : Form} (h : PosC c) {k : Int} (hn : onlyM c k ≠ []) : k ≤ rowsFrom c k := by
  obtain ⟨p, hp⟩ := List.exists_mem_of_ne_nil _ hn
  obtain ⟨h1, h2⟩ := mem_only.mp hp
  have := rowsFrom_ge h h1 h2
  have := mul_pos1 (h p h1).1 (h p h1).2
  omega
/-! floors -/
def lastS (b : Int) : Form → Int
  | [] => b
  | q :: t => lastS q.1 t
def fGo (n : Int) : Form → Form
  | [] => []
  | p :: t => (n + p.2 - p.1 + 1, p.2 + n) :: fGo (n + p.2 - p.1 + 1) t
def wGo (b : Int) : Form → Form
  | [] => []
  | p :: t => (p.2 - p.1 + 1, p.2 - b) :: wGo p.1 t
theorem fold_fStep (l : Form) : ∀ (acc : Form) (n : Int), (l.foldl fStep (acc, n)).1 = acc ++ fGo n l := by
  induction l with
  | nil => intro acc n; simp [fGo]
  | cons p l ih =>
    intro acc n
    rw [List.foldl_cons]
    show (l.foldl fStep (acc ++ [(n + p.2 - p.1 + 1, p.2 + n)], n + p.2 - p.1 + 1)).1 = _
    rw [ih]
    simp [fGo]
theorem fold_wStep (l : Form) : ∀ (acc : Form) (b : Int), (l.foldl wStep (acc, b)).1 = acc ++ wGo b l := by
  induction l with
  | nil => intro acc n; simp [wGo]
  | cons p l ih =>
    intro acc b
    rw [List.foldl_cons]
    show (l.foldl wStep (acc ++ [(p.2 - p.1 + 1, p.2 - b)], p.1)).1 = _
    rw [ih]
    simp [wGo]
theorem floorsIn_eq (F : Form) : floorsIn F = fGo 0 F.reverse := by unfold floorsIn; rw [fold_fStep]; rfl
theorem formWith_eq (fl : Form) : formWith fl = (wGo 0 (keptOf fl)).reverse := by unfold formWith; rw [fold_wStep]; rfl
theorem fGo_wGo (ks : Form) : ∀ b, fGo b (wGo b ks) = ks := by
  induction ks with
  | nil => intro b; rfl
  | cons p t ih =>
    intro b
    obtain ⟨s, r⟩ := p
    show (b + (r - b) - (r - s + 1) + 1, r - b + b) :: fGo (b + (r - b) - (r - s + 1) + 1) (wGo s t) = (s, r) :: t
    have e1 : b + (r - b) - (r - s + 1) + 1 = s := by omega
    have e2 : r - b + b = r := by omega
    rw [e1, e2, ih]
theorem floorsIn_with (fl : Form) : floorsIn (formWith fl) = keptOf fl := by rw [floorsIn_eq, formWith_eq, List.reverse_reverse, fGo_wGo]
theorem lastS_fGo (l : Form) : ∀ n, lastS n (fGo n l) = n + (l.map fun p => p.2 - p.1 + 1).sum := by
  induction l with
  | nil => intro n; simp [fGo, lastS]
  | cons p l ih =>
    intro n
    show lastS (n + p.2 - p.1 + 1) (fGo (n + p.2 - p.1 + 1) l) = _
    rw [ih, List.map_cons, List.sum_cons]
    omega
theorem least_last (F : Form) : leastIn F = lastS 0 (floorsIn F) := by
  rw [floorsIn_eq, lastS_fGo]
  unfold leastIn
  rw [List.map_reverse, List.sum_reverse]
  omega
/-! kept -/
theorem keptOf_nil : keptOf [] = [] := rfl
theorem keptOf_one (x : Int × Int) : keptOf [x] = if x.2 = 0 then [] else [x] := by
  unfold keptOf
  show (([(x, ((0 : Int), (0 : Int)))] : List ((Int × Int) × (Int × Int))).filter _).map _ = _
  by_cases h : x.2 = 0
  · rw [if_pos h, List.filter_cons_of_neg (by simp [h])]; rfl
  · rw [if_neg h, List.filter_cons_of_pos (by simp; omega)]; rfl
theorem keptOf_cons (x y : Int × Int) (t : Form) : keptOf (x :: y :: t) = if y.2 = x.2 then keptOf (y :: t) else x :: keptOf (y :: t) := by
  unfold keptOf
  show (((x, y) :: ((y :: t).zip (t ++ [((0 : Int), (0 : Int))]))).filter _).map _ = _
  by_cases h : y.2 = x.2
  · rw [if_pos h, List.filter_cons_of_neg (by simp [h])]; rfl
  · rw [if_neg h, List.filter_cons_of_pos (by simp [h]), List.map_cons]; rfl
def okF (fl c : Form) : Prop := ∀ q ∈ fl, q.2 ≤ rowsFrom c q.1
def Asc (fl : Form) : Prop := fl.Pairwise fun a b => a.1 < b.1
theorem kept_sub : ∀ fl : Form, (keptOf fl).Sublist fl
  | [] => List.Sublist.refl _
  | [x] => by rw [keptOf_one]; split; exact List.nil_sublist _; exact List.Sublist.refl _
  | x :: y :: t => by
    rw [keptOf_cons]
    have := kept_sub (y :: t)
    split
    · exact this.trans (List.sublist_cons_self _ _)
    · exact this.cons_cons _
theorem kept_last : ∀ {fl : Form} (b : Int), (∀ q ∈ fl, 1 ≤ q.2) → lastS b (keptOf fl) = lastS b fl
  | [], b, _ => rfl
  | [x], b, h => by
    rw [keptOf_one, if_neg (by have := h x (by simp); omega)]
  | x :: y :: t, b, h => by
    rw [keptOf_cons]
    have ih := fun b => kept_last (fl := y :: t) b fun q hq => h q (by simp [List.mem_cons.mp hq])
    split
    · exact ih b
    · exact ih x.1
theorem kept_ok {c : Form} (hc : PosC c) : ∀ {fl : Form}, Asc fl → (∀ q ∈ fl, 1 ≤ q.2) → (okF (keptOf fl) c ↔ okF fl c)
  | [], _, _ => Iff.rfl
  | [x], _, h => by rw [keptOf_one, if_neg (by have := h x (by simp); omega)]
  | x :: y :: t, a, h => by
    rw [keptOf_cons]
    obtain ⟨a1, a2⟩ := List.pairwise_cons.mp a
    have ih := kept_ok hc (fl := y :: t) a2 fun q hq => h q (by simp [List.mem_cons.mp hq])
    split
    · rename_i e
      rw [ih]
      constructor
      · intro k q hq
        rcases List.mem_cons.mp hq with e2 | hq
        · subst e2
          have h1 := k y (by simp)
          have h2 := rowsFrom_anti hc (Int.le_of_lt (a1 y (by simp)))
          omega
        · exact k q hq
      · exact fun k q hq => k q (by simp [List.mem_cons.mp hq])
    · constructor
      · intro k q hq
        rcases List.mem_cons.mp hq with e2 | hq
        · subst e2; exact k q (by simp)
        · exact ih.mp (fun q hq => k q (by simp [hq])) q hq
      · intro k q hq
        rcases List.mem_cons.mp hq with e2 | hq
        · subst e2; exact k q (by simp)
        · exact ih.mpr (fun q hq => k q (by simp [List.mem_cons.mp hq])) q hq
theorem kept_ne : ∀ {fl : Form}, fl ≠ [] → (∀ q ∈ fl, 1 ≤ q.2) → keptOf fl ≠ []
  | [], h, _ => absurd rfl h
  | [x], _, h => by rw [keptOf_one, if_neg (by have := h x (by simp); omega)]; simp
  | x :: y :: t, _, h => by
    rw [keptOf_cons]
    split
    · exact kept_ne (by simp) fun q hq => h q (by simp [List.mem_cons.mp hq])
    · simp
/-- a form's stair -/
structure Inv7 (F : Form) : Prop where
  ne : floorsIn F ≠ []
  asc : Asc (floorsIn F)
  pos : ∀ q ∈ floorsIn F, 1 ≤ q.1
  low : ∀ q ∈ floorsIn F, leastIn F ≤ q.2
theorem lastS_mem : ∀ {fl : Form} (b : Int), fl ≠ [] → ∃ q ∈ fl, lastS b fl = q.1
  | [], _, h => absurd rfl h
  | [x], b, _ => ⟨x, by simp, rfl⟩
  | x :: y :: t, b, _ => by
    obtain ⟨q, hq, e⟩ := lastS_mem (fl := y :: t) x.1 (by simp)
    exact ⟨q, by simp [List.mem_cons.mp hq], e⟩
theorem lastS_ge : ∀ {fl : Form} (b : Int), Asc fl → ∀ q ∈ fl, q.1 ≤ lastS b fl
  | [], _, _, _, h => nomatch h
  | [x], b, _, q, h => by
    have : q = x := by simpa using h
    subst this
    exact Int.le_refl _
  | x :: y :: t, b, a, q, h => by
    obtain ⟨a1, a2⟩ := List.pairwise_cons.mp a
    rcases List.mem_cons.mp h with e | h
    · subst e
      have := lastS_ge (fl := y :: t) q.1 a2 y (by simp)
      have := a1 y (by simp)
      show q.1 ≤ lastS q.1 (y :: t)
      omega
    · exact lastS_ge (fl := y :: t) x.1 a2 q h
theorem Inv7.least {F : Form} (h : Inv7 F) : 1 ≤ leastIn F ∧ (∀ q ∈ floorsIn F, q.1 ≤ leastIn F) ∧ ∃ q ∈ floorsIn F, leastIn F = q.1 := by
  obtain ⟨q, hq, e⟩ := lastS_mem (fl := floorsIn F) 0 h.ne
  rw [least_last]
  refine ⟨?_, fun q hq => lastS_ge 0 h.asc q hq, q, hq, e⟩
  have := h.pos q hq
  omega
end K81
set_option Elab.async false
set_option linter.all false
set_option maxRecDepth 100000
set_option maxHeartbeats 1900000
namespace K81
open PySem L2
open Classical in
/-- what a form shows of a county -/
noncomputable def semF (F c : Form) : Form := if okF (floorsIn F) c then onlyM c (leastIn F) else []
theorem semF_ok {F c : Form} (h : okF (floorsIn F) c) : semF F c = onlyM c (leastIn F) := if_pos h
theorem semF_no {F c : Form} (h : ¬ okF (floorsIn F) c) : semF F c = [] := if_neg h
/-- floors that are told anew -/
theorem form_with {fl : Form} {L : Int} (ne : fl ≠ []) (asc : Asc fl) (pos : ∀ q ∈ fl, 1 ≤ q.1) (hL : lastS 0 fl = L) (low : ∀ q ∈ fl, L ≤ q.2) (h1 : 1 ≤ L) : Inv7 (formWith fl) ∧ leastIn (formWith fl) = L ∧ ∀ c, PosC c → (okF (floorsIn (formWith fl)) c ↔ okF fl c) := by
  have rows : ∀ q ∈ fl, 1 ≤ q.2 := fun q hq => by have := low q hq; omega
  have e : leastIn (formWith fl) = L := by rw [least_last, floorsIn_with, kept_last 0 rows, hL]
  have sub := kept_sub fl
  refine ⟨⟨?_, ?_, ?_, ?_⟩, e, fun c hc => ?_⟩
  · rw [floorsIn_with]; exact kept_ne ne rows
  · rw [floorsIn_with]; exact asc.sublist sub
  · rw [floorsIn_with]; exact fun q hq => pos q (sub.subset hq)
  · rw [e, floorsIn_with]; exact fun q hq => low q (sub.subset hq)
  · rw [floorsIn_with]; exact kept_ok hc asc rows
theorem floors_town (k : Int) : floorsIn [(1, k)] = [(k, k)] := by
  show [((0 : Int) + k - 1 + 1, k + (0 : Int))] = _
  rw [show (0 : Int) + k - 1 + 1 = k by omega, Int.add_zero]
theorem floors_cnty (k : Int) : floorsIn [(k, k)] = [(1, k)] := by
  show [((0 : Int) + k - k + 1, k + (0 : Int))] = _
  rw [show (0 : Int) + k - k + 1 = 1 by omega, Int.add_zero]
def lift (k : Int) (fl : Form) : Form := fl.map fun q => (q.1, max q.2 k)
theorem lift_asc {k : Int} {fl : Form} (h : Asc fl) : Asc (lift k fl) := List.pairwise_map.mpr h
theorem lift_last {k : Int} : ∀ {fl : Form} (b : Int), lastS b (lift k fl) = lastS b fl
  | [], b => rfl
  | x :: t, b => lift_last (fl := t) x.1
theorem lastS_app (t : Form) (q : Int × Int) : ∀ b, lastS b (t ++ [q]) = q.1 := by
  induction t with
  | nil => intro b; rfl
  | cons x t ih => intro b; exact ih x.1
theorem mem_lift {k : Int} {fl : Form} {q : Int × Int} (h : q ∈ lift k fl) : ∃ p ∈ fl, q = (p.1, max p.2 k) := by
  obtain ⟨p, hp, e⟩ := List.mem_map.mp h
  exact ⟨p, hp, e.symm⟩
theorem okF_lift {k : Int} {fl c : Form} : okF (lift k fl) c ↔ okF fl c ∧ ∀ q ∈ fl, k ≤ rowsFrom c q.1 := by
  constructor
  · intro h
    refine ⟨fun q hq => ?_, fun q hq => ?_⟩
    · have := h (q.1, max q.2 k) (List.mem_map.mpr ⟨q, hq, rfl⟩)
      have : max q.2 k ≤ rowsFrom c q.1 := this
      omega
    · have := h (q.1, max q.2 k) (List.mem_map.mpr ⟨q, hq, rfl⟩)
      have : max q.2 k ≤ rowsFrom c q.1 := this
      omega
  · rintro ⟨h1, h2⟩ q hq
    obtain ⟨p, hp, e⟩ := mem_lift hq
    subst e
    have := h1 p hp
    have := h2 p hp
    show max p.2 k ≤ rowsFrom c p.1
    omega
/-- a town step -/
theorem step_town {F : Form} (h : Inv7 F) {k : Int} (hk : 1 ≤ k) : Inv7 (formBehind F [(1, k)]) ∧ ∀ c, PosC c → semF (formBehind F [(1, k)]) c = onlyM (semF F c) k := by
  obtain ⟨l1, l2, q0, hq0, l3⟩ := h.least
  have eB : formBehind F [(1, k)] = formWith (lift k (floorsIn F) ++ (([(k, k)] : Form).filter fun q => decide (leastIn F < q.1)).map fun q => (q.1, q.2)) := by
    unfold formBehind; rw [floors_town]; rfl
  by_cases hlt : leastIn F < k
  · have e2 : ((([(k, k)] : Form).filter fun q => decide (leastIn F < q.1)).map fun q => (q.1, q.2)) = [(k, k)] := by
      rw [List.filter_cons_of_pos (by simpa using hlt)]; rfl
    rw [e2] at eB
    have main := form_with (fl := lift k (floorsIn F) ++ [(k, k)]) (L := k) (by simp) (List.pairwise_append.mpr ⟨lift_asc h.asc, List.pairwise_singleton _ _, fun a ha b hb => by
        obtain ⟨p, hp, e⟩ := mem_lift ha
        have hb : b = (k, k) := by simpa using hb
        subst e hb
        have := l2 p hp
        show p.1 < k
        omega⟩) (fun q hq => by
        rcases List.mem_append.mp hq with hq | hq
        · obtain ⟨p, hp, e⟩ := mem_lift hq
          subst e
          exact h.pos p hp
        · have : q = (k, k) := by simpa using hq
          subst this
          exact hk) (lastS_app _ _ _) (fun q hq => by
        rcases List.mem_append.mp hq with hq | hq
        · obtain ⟨p, hp, e⟩ := mem_lift hq
          subst e
          show k ≤ max p.2 k
          omega
        · have : q = (k, k) := by simpa using hq
          subst this
          exact Int.le_refl _) hk
    rw [eB]
    obtain ⟨m1, m2, m3⟩ := main
    refine ⟨m1, fun c hc => ?_⟩
    have key : onlyM c k ≠ [] → (okF (lift k (floorsIn F) ++ [(k, k)]) c ↔ okF (floorsIn F) c) := fun hn => by
      have g := only_ge hc hn
      constructor
      · intro z
        exact ((okF_lift (k := k)).mp fun q hq => z q (List.mem_append.mpr (.inl hq))).1
      · intro z q hq
        rcases List.mem_append.mp hq with hq | hq
        · refine (okF_lift (k := k)).mpr ⟨z, fun p hp => ?_⟩ q hq
          have := rowsFrom_anti hc (show p.1 ≤ k by have := l2 p hp; omega)
          omega
        · have : q = (k, k) := by simpa using hq
          subst this
          exact g
    by_cases hn : onlyM c k = []
    · have r1 : onlyM (semF F c) k = [] := by
        by_cases z : okF (floorsIn F) c
        · rw [semF_ok z, onlyM_onlyM, show max (leastIn F) k = k by omega, hn]
        · rw [semF_no z]; rfl
      rw [r1]
      by_cases z : okF (floorsIn (formWith (lift k (floorsIn F) ++ [(k, k)]))) c
      · rw [semF_ok z, m2, hn]
      · rw [semF_no z]
    · by_cases z : okF (floorsIn F) c
      · rw [semF_ok ((m3 c hc).mpr ((key hn).mpr z)), m2, semF_ok z, onlyM_onlyM, show max (leastIn F) k = k by omega]
      · rw [semF_no fun y => z ((key hn).mp ((m3 c hc).mp y)), semF_no z]; rfl
  · have e2 : ((([(k, k)] : Form).filter fun q => decide (leastIn F < q.1)).map fun q => (q.1, q.2)) = [] := by
      rw [List.filter_cons_of_neg (by simpa using hlt)]; rfl
    rw [e2, List.append_nil] at eB
    have e3 : lift k (floorsIn F) = floorsIn F := by
      unfold lift
      conv => rhs; rw [← List.map_id (floorsIn F)]
      refine List.map_congr_left fun q hq => ?_
      have := h.low q hq
      rw [show max q.2 k = q.2 by omega]
      rfl
    rw [e3] at eB
    obtain ⟨m1, m2, m3⟩ := form_with (fl := floorsIn F) (L := leastIn F) h.ne h.asc h.pos (least_last F).symm h.low l1
    rw [eB]
    refine ⟨m1, fun c hc => ?_⟩
    by_cases z : okF (floorsIn F) c
    · rw [semF_ok ((m3 c hc).mpr z), m2, semF_ok z, onlyM_onlyM, show max (leastIn F) k = leastIn F by omega]
    · rw [semF_no fun y => z ((m3 c hc).mp y), semF_no z]; rfl
/-- a county step -/
theorem step_cnty {F : Form} (h : Inv7 F) {k : Int} (hk : 1 ≤ k) : Inv7 (formBehind F [(k, k)]) ∧ ∀ c, PosC c → semF (formBehind F [(k, k)]) c = if k ≤ rowsM (semF F c) then semF F c else [] := by
  obtain ⟨l1, l2, q0, hq0, l3⟩ := h.least
  have eB : formBehind F [(k, k)] = formWith (lift k (floorsIn F)) := by
    unfold formBehind
    rw [floors_cnty]
    show formWith (lift k (floorsIn F) ++ (([((1 : Int), k)] : Form).filter fun q => decide (leastIn F < q.1)).map fun q => (q.1, q.2)) = _
    rw [List.filter_cons_of_neg (by simp; omega)]
    show formWith (lift k (floorsIn F) ++ []) = _
    rw [List.append_nil]
  obtain ⟨m1, m2, m3⟩ := form_with (fl := lift k (floorsIn F)) (L := leastIn F) (by unfold lift; simpa using h.ne) (lift_asc h.asc) (fun q hq => by
    obtain ⟨p, hp, e⟩ := mem_lift hq
    subst e
    exact h.pos p hp) (by rw [lift_last]; exact (least_last F).symm) (fun q hq => by
    obtain ⟨p, hp, e⟩ := mem_lift hq
    subst e
    have := h.low p hp
    show leastIn F ≤ max p.2 k
    omega) l1
  rw [eB]
  refine ⟨m1, fun c hc => ?_⟩
  by_cases z : okF (floorsIn F) c
  · rw [semF_ok z, rowsM_only]
    by_cases y : k ≤ rowsFrom c (leastIn F)
    · rw [if_pos y, semF_ok ((m3 c hc).mpr (okF_lift.mpr ⟨z, fun q hq => by have := rowsFrom_anti hc (l2 q hq); omega⟩)), m2]
    · rw [if_neg y, semF_no fun x => y (by rw [l3]; exact (okF_lift.mp ((m3 c hc).mp x)).2 q0 hq0)]
  · rw [semF_no z, semF_no fun x => z (okF_lift.mp ((m3 c hc).mp x)).1]
    split <;> rfl
theorem step_sem {F : Form} (h : Inv7 F) {s : Stp} (hs : 1 ≤ s.2) : Inv7 (formBehind F (formOfStep s)) ∧ ∀ c, PosC c → semF (formBehind F (formOfStep s)) c = stepRun s (semF F c) := by
  obtain ⟨b, k⟩ := s
  cases b with
  | true => exact step_town h hs
  | false => exact step_cnty h hs
theorem inv7_start : Inv7 [(1, 1)] := ⟨by decide, List.pairwise_singleton _ _, by decide, by decide⟩
theorem sem_start {c : Form} (hc : PosC c) : semF [(1, 1)] c = c := by
  have e : onlyM c 1 = c := by
    rw [onlyM_eq]
    exact List.filter_eq_self.mpr fun p hp => decide_eq_true (hc p hp).1
  by_cases z : c = []
  · subst z
    rw [semF_no fun y => by have := y (1, 1) (by decide); simp [rowsFrom_nil] at this]
  · have hok : okF (floorsIn [(1, 1)]) c := fun q hq => by
      have hq : q = (1, 1) := by simpa [floorsIn, fStep] using hq
      subst hq
      exact only_ge hc (by rw [e]; exact z)
    rw [semF_ok hok]
    exact e
theorem run_fold (l : List Stp) : ∀ {F : Form}, Inv7 F → (∀ s ∈ l, 1 ≤ s.2) → Inv7 (l.foldl (fun fm s => formBehind fm (formOfStep s)) F) ∧ ∀ c, PosC c → l.foldl (fun c s => stepRun s c) (semF F c) = semF (l.foldl (fun fm s => formBehind fm (formOfStep s)) F) c := by
  induction l with
  | nil => intro F h _; exact ⟨h, fun c _ => rfl⟩
  | cons s l ih =>
    intro F h hs
    obtain ⟨h1, h2⟩ := step_sem h (hs s (by simp))
    obtain ⟨h3, h4⟩ := ih h1 fun t ht => hs t (by simp [ht])
    refine ⟨h3, fun c hc => ?_⟩
    rw [List.foldl_cons, List.foldl_cons, ← h2 c hc]
    exact h4 c hc
/-- a script shows what its form shows -/
theorem run_sem {l : List Stp} (hs : ∀ s ∈ l, 1 ≤ s.2) : Inv7 (formOfSteps l) ∧ ∀ c, PosC c → runSteps l c = semF (formOfSteps l) c := by
  obtain ⟨h1, h2⟩ := run_fold l inv7_start hs
  refine ⟨h1, fun c hc => ?_⟩
  have := h2 c hc
  rw [sem_start hc] at this
  exact this
end K81
set_option Elab.async false
set_option linter.all false
set_option maxRecDepth 100000
set_option maxHeartbeats 1900000
namespace K81
open PySem L2
theorem has_iff {c : Form} {x : Int} : hasTown c x = true ↔ ∃ p ∈ c, p.1 = x := by
  unfold hasTown
  rw [List.any_map, List.any_eq_true]
  constructor
  · rintro ⟨p, hp, e⟩
    exact ⟨p, hp, of_decide_eq_true e⟩
  · rintro ⟨p, hp, e⟩
    exact ⟨p, hp, decide_eq_true e⟩
theorem has_sem {F c : Form} {x : Int} : hasTown (semF F c) x = true ↔ okF (floorsIn F) c ∧ leastIn F ≤ x ∧ hasTown c x = true := by
  by_cases z : okF (floorsIn F) c
  · rw [semF_ok z, has_iff, has_iff]
    constructor
    · rintro ⟨p, hp, e⟩
      obtain ⟨h1, h2⟩ := mem_only.mp hp
      exact ⟨z, by omega, p, h1, e⟩
    · rintro ⟨_, h, p, hp, e⟩
      exact ⟨p, mem_only.mpr ⟨hp, by omega⟩, e⟩
  · rw [semF_no z]
    constructor
    · intro h; cases h
    · intro h; exact absurd h.1 z
/-! greatest, least -/
theorem foldl_max_ge : ∀ (xs : List Int) (b : Int), b ≤ xs.foldl max b ∧ ∀ x ∈ xs, x ≤ xs.foldl max b
  | [], b => ⟨Int.le_refl _, fun _ h => nomatch h⟩
  | y :: xs, b => by
    obtain ⟨h1, h2⟩ := foldl_max_ge xs (max b y)
    rw [List.foldl_cons]
    refine ⟨by omega, fun x hx => ?_⟩
    rcases List.mem_cons.mp hx with e | hx
    · subst e; omega
    · exact h2 x hx
theorem foldl_max_le {m : Int} : ∀ (xs : List Int) (b : Int), b ≤ m → (∀ x ∈ xs, x ≤ m) → xs.foldl max b ≤ m
  | [], b, h, _ => h
  | y :: xs, b, h, k => by
    rw [List.foldl_cons]
    have := k y (by simp)
    exact foldl_max_le xs (max b y) (by omega) fun x hx => k x (by simp [hx])
theorem foldl_min_ge {m : Int} : ∀ (xs : List Int) (b : Int), m ≤ b → (∀ x ∈ xs, m ≤ x) → m ≤ xs.foldl min b
  | [], b, h, _ => h
  | y :: xs, b, h, k => by
    rw [List.foldl_cons]
    have := k y (by simp)
    exact foldl_min_ge xs (min b y) (by omega) fun x hx => k x (by simp [hx])
theorem maxOf_ge {y : Int} {xs : List Int} {x : Int} (h : x ∈ y :: xs) : x ≤ maxOf (y :: xs) := (foldl_max_ge (y :: xs) y).2 x h
theorem maxOf_le {y m : Int} {xs : List Int} (h : ∀ x ∈ y :: xs, x ≤ m) : maxOf (y :: xs) ≤ m := foldl_max_le (y :: xs) y (h y (by simp)) h
theorem minOf_ge {m : Int} {xs : List Int} (hn : xs ≠ []) (h : ∀ x ∈ xs, m ≤ x) : m ≤ minOf xs := by
  cases xs with
  | nil => exact absurd rfl hn
  | cons y xs => exact foldl_min_ge (y :: xs) y (h y (by simp)) h
/-! taken by a step -/
theorem step_less {s : Stp} {c : Form} {x : Int} (h : hasTown (stepRun s c) x = true) : hasTown c x = true := by
  obtain ⟨p, hp, e⟩ := has_iff.mp h
  refine has_iff.mpr ⟨p, ?_, e⟩
  unfold stepRun at hp
  split at hp
  · exact (mem_only.mp hp).1
  · split at hp
    · exact hp
    · cases hp
theorem steps_less : ∀ {l : List Stp} {c : Form} {x : Int}, hasTown (l.foldl (fun c s => stepRun s c) c) x = true → hasTown c x = true
  | [], _, _, h => h
  | s :: l, c, x, h => step_less (steps_less (l := l) (c := stepRun s c) h)
theorem taken_go {x : Int} : ∀ {l : List Stp} {n : Int} {c : Form}, hasTown c x = true → (takenGo x n c l).isNone = hasTown (l.foldl (fun c s => stepRun s c) c) x
  | [], n, c, h => h.symm
  | s :: l, n, c, h => by
    rw [List.foldl_cons]
    unfold takenGo
    cases e : hasTown (stepRun s c) x with
    | true => exact taken_go (l := l) e
    | false =>
      have : hasTown (l.foldl (fun c s => stepRun s c) (stepRun s c)) x = false := by
        cases q : hasTown (l.foldl (fun c s => stepRun s c) (stepRun s c)) x with
        | false => rfl
        | true => rw [steps_less q] at e; cases e
      rw [this]
      rfl
/-! towns to lose -/
theorem tStep_mono {p : Int × Int} (hp : 1 ≤ p.1 ∧ 1 ≤ p.2) (a : Int × Int) : a.1 ≤ (tStep a p).1 := by
  unfold tStep
  split
  · rename_i h
    have h : 0 < a.2 := of_decide_eq_true h
    have : 0 ≤ (a.2 + p.1 - 1) / p.1 := Int.ediv_nonneg (by omega) (by omega)
    show a.1 ≤ a.1 + min p.2 ((a.2 + p.1 - 1) / p.1)
    omega
  · exact Int.le_refl _
theorem tFold_mono : ∀ {l : Form}, PosC l → ∀ a : Int × Int, a.1 ≤ (l.foldl tStep a).1
  | [], _, a => Int.le_refl _
  | p :: l, h, a => by
    rw [List.foldl_cons]
    have := tFold_mono (l := l) (fun q hq => h q (by simp [hq])) (tStep a p)
    have := tStep_mono (h p (by simp)) a
    omega
theorem townsFor_pos {c : Form} (hc : PosC c) (hn : c ≠ []) {r : Int} (hr : 1 ≤ r) : 1 ≤ townsFor c r := by
  unfold townsFor
  have hcr : PosC c.reverse := fun q hq => hc q (List.mem_reverse.mp hq)
  cases e : c.reverse with
  | nil => exact absurd (List.reverse_eq_nil_iff.mp e) hn
  | cons p l =>
    rw [e] at hcr
    rw [List.foldl_cons]
    have hp := hcr p (by simp)
    have h1 : (1 : Int) ≤ (tStep (0, r) p).1 := by
      unfold tStep
      rw [if_pos (decide_eq_true (show (0 : Int) < r by omega))]
      have : 1 ≤ (r + p.1 - 1) / p.1 := by
        rw [Int.le_ediv_iff_mul_le (by omega)]
        omega
      show (1 : Int) ≤ 0 + min p.2 ((r + p.1 - 1) / p.1)
      omega
    have := tFold_mono (l := l) (fun q hq => hcr q (by simp [hq])) (tStep (0, r) p)
    omega
theorem fewer_pos {c : Form} (hc : PosC c) (x : Int) : PosC (fewerM c x) := by
  intro q hq
  unfold fewerM at hq
  obtain ⟨p, hp, e⟩ := List.mem_map.mp hq
  obtain ⟨h1, h2⟩ := List.mem_filter.mp hp
  have := hc p h1
  subst e
  refine ⟨this.1, ?_⟩
  show 1 ≤ p.2 - if decide (p.1 = x) then 1 else 0
  by_cases z : p.1 = x
  · rw [if_pos (by simpa using z)]
    have : 1 < p.2 := by simpa [z] using h2
    omega
  · rw [if_neg (by simpa using z)]
    omega
theorem fewer_ne {c : Form} (hc : CtyOk c) {x s : Int} (hx : 1 ≤ x) (h : x < rowsFrom c s) : fewerM c x ≠ [] := by
  intro z
  have hall : ∀ p ∈ c, p.1 = x ∧ p.2 ≤ 1 := by
    intro p hp
    have h2 : p ∉ c.filter fun p => !decide (p.1 = x) || decide (1 < p.2) := by
      intro y
      have : (p.1, p.2 - if decide (p.1 = x) then 1 else 0) ∈ fewerM c x := List.mem_map.mpr ⟨p, y, rfl⟩
      rw [z] at this
      cases this
    rw [List.mem_filter] at h2
    by_cases e : p.1 = x
    · refine ⟨e, ?_⟩
      have : ¬ (1 < p.2) := fun y => h2 ⟨hp, by simp [y]⟩
      omega
    · exact absurd ⟨hp, by simp [e]⟩ h2
  cases c with
  | nil => rw [rowsFrom_nil] at h; omega
  | cons p t =>
    cases t with
    | nil =>
      have := hall p (by simp)
      have h3 := hc.pos p (by simp)
      have : p.2 = 1 := by omega
      rw [rowsFrom_cons, rowsFrom_nil, this] at h
      split at h <;> omega
    | cons q t =>
      have h1 := hall p (by simp)
      have h2 := hall q (by simp)
      have := (List.pairwise_cons.mp hc.srt).1 q (by simp)
      omega
theorem lose_mem (c : Form) (x : Int) : ∀ (fl : Form) (acc : List Int), ∀ n ∈ fl.foldl (lStep c x) acc, n ∈ acc ∨ ∃ q ∈ fl, x < q.2 ∧ n = townsFor (fewerM c x) (rowsFrom c q.1 - q.2 + 1)
  | [], acc, n, h => .inl h
  | q :: fl, acc, n, h => by
    rw [List.foldl_cons] at h
    rcases lose_mem c x fl (lStep c x acc q) n h with h | ⟨p, hp, h1, h2⟩
    · unfold lStep at h
      split at h
      · rename_i k
        rcases List.mem_append.mp h with h | h
        · exact .inl h
        · exact .inr ⟨q, by simp, of_decide_eq_true k, by simpa using h⟩
      · exact .inl h
    · exact .inr ⟨p, by simp [hp], h1, h2⟩
theorem pos_of {c : Form} (hc : CtyOk c) : PosC c := fun p hp => ⟨(hc.pos p hp).1, (hc.pos p hp).2.2⟩
theorem town_ok {l : List Stp} {c : Form} (hs : ∀ s ∈ l, 1 ≤ s.2) (hc : CtyOk c) {x : Int} (hx : hasTown c x = true) : TownOk l c x := by
  obtain ⟨inv, sem⟩ := run_sem hs
  have pc := pos_of hc
  have hsem := sem c pc
  have x1 : 1 ≤ x := by
    obtain ⟨p, hp, e⟩ := has_iff.mp hx
    have := (hc.pos p hp).1
    omega
  refine ⟨hx, ?_, taken_go hx, ?_, ?_⟩
  · cases e : hasTown (runSteps l c) x with
    | false =>
      unfold toLose
      rw [e]
      rfl
    | true =>
      have hk := e
      rw [hsem] at hk
      obtain ⟨k1, k2, k3⟩ := has_sem.mp hk
      unfold toLose
      rw [e, if_neg (by simp)]
      by_cases z : (0 : Int) < ((loseL l c x).length : Int)
      · rw [if_pos (by simpa using z)]
        have hne : loseL l c x ≠ [] := by
          intro y
          rw [y] at z
          simp at z
        have h1 : 1 ≤ minOf (loseL l c x) := minOf_ge hne fun n hn => by
          rcases lose_mem c x (floorsIn (formOfSteps l)) [] n hn with h | ⟨q, hq, h1, h2⟩
          · cases h
          · have := k1 q hq
            rw [h2]
            exact townsFor_pos (fewer_pos pc x) (fewer_ne hc x1 (s := q.1) (by omega)) (by omega)
        exact decide_eq_false fun y => by
          have := Option.some.inj y
          omega
      · rw [if_neg (by simpa using z)]
        rfl
  · unfold toAdd
    by_cases z : x < leastIn (formOfSteps l)
    · rw [if_pos (by simpa using z)]
      have : hasTown (runSteps l c) x = false := by
        cases e : hasTown (runSteps l c) x with
        | false => rfl
        | true =>
          rw [hsem] at e
          have := (has_sem.mp e).2.1
          omega
      rw [this]
      rfl
    · rw [if_neg (by simpa using z)]
      by_cases k : okF (floorsIn (formOfSteps l)) c
      · have e1 : hasTown (runSteps l c) x = true := by rw [hsem]; exact has_sem.mpr ⟨k, by omega, hx⟩
        have e2 : (lacksOf l c).filter (fun q => decide (0 < q.2)) = [] := List.filter_eq_nil_iff.mpr fun q hq => by
          obtain ⟨p, hp, e⟩ := List.mem_map.mp hq
          have := k p hp
          subst e
          simp
          omega
        rw [e1, e2]
        rfl
      · have e1 : hasTown (runSteps l c) x = false := by
          cases e : hasTown (runSteps l c) x with
          | false => rfl
          | true =>
            rw [hsem] at e
            exact absurd (has_sem.mp e).1 k
        obtain ⟨q, hq⟩ := Classical.not_forall.mp k
        obtain ⟨hq, hlt⟩ := Classical.not_imp.mp hq
        have hm : max q.1 (q.2 - rowsFrom c q.1) ∈ (0 : Int) :: ((((lacksOf l c).filter fun q => decide (0 < q.2)).map fun q => max q.1 q.2) ++ []) := by
          rw [List.append_nil]
          refine List.mem_cons_of_mem _ (List.mem_map.mpr ⟨(q.1, q.2 - rowsFrom c q.1), List.mem_filter.mpr ⟨List.mem_map.mpr ⟨q, hq, rfl⟩, ?_⟩, rfl⟩)
          exact decide_eq_true (by show 0 < q.2 - rowsFrom c q.1; omega)
        have := maxOf_ge hm
        rw [e1]
        exact decide_eq_false fun y => by
          have := Option.some.inj y
          omega
  · unfold toAdd
    by_cases z : x < leastIn (formOfSteps l)
    · rw [if_pos (by simpa using z), decide_eq_true z]; rfl
    · rw [if_neg (by simpa using z), decide_eq_false z]; rfl
/-! one more town -/
theorem rowsFrom_w (c : Form) (s : Int) : rowsFrom c s = (c.map fun p => (if s ≤ p.1 then p.1 else 0) * p.2).sum := by
  induction c with
  | nil => rfl
  | cons p c ih =>
    rw [rowsFrom_cons, ih, List.map_cons, List.sum_cons]
    split <;> simp
theorem summed_rows (runs : Form) (s : Int) : rowsFrom (summedM runs) s = rowsFrom runs s := by
  rw [rowsFrom_w, rowsFrom_w]
  exact summed_weight (fun z => if s ≤ z then z else 0) runs
theorem sum_zero {l : List Int} (h : ∀ x ∈ l, x = 0) : l.sum = 0 := by
  induction l with
  | nil => rfl
  | cons x l ih => rw [List.sum_cons, h x (by simp), ih fun y hy => h y (by simp [hy])]; rfl
theorem sum_nonneg {l : List Int} (h : ∀ x ∈ l, 0 ≤ x) : 0 ≤ l.sum := by
  induction l with
  | nil => exact Int.le_refl _
  | cons x l ih =>
    rw [List.sum_cons]
    have := h x (by simp)
    have := ih fun y hy => h y (by simp [hy])
    omega
theorem summed_has {runs : Form} (hp : PosC runs) {x : Int} (h : ∃ p ∈ runs, p.1 = x) : hasTown (summedM runs) x = true := by
  apply Classical.byContradiction
  intro hn
  have e := summed_weight (fun z => if z = x then 1 else 0) runs
  have e1 : ((summedM runs).map fun p => (if p.1 = x then (1 : Int) else 0) * p.2).sum = 0 := sum_zero fun y hy => by
    obtain ⟨p, hp, e⟩ := List.mem_map.mp hy
    have : p.1 ≠ x := fun z => hn (has_iff.mpr ⟨p, hp, z⟩)
    rw [← e, if_neg this, Int.zero_mul]
  rw [e1] at e
  obtain ⟨p, hm, hx⟩ := h
  have key : ∀ l : Form, PosC l → p ∈ l → 1 ≤ (l.map fun p => (if p.1 = x then (1 : Int) else 0) * p.2).sum := by
    intro l
    induction l with
    | nil => intro _ h; cases h
    | cons q l ih =>
      intro hl hpl
      have hq := hl q (by simp)
      have hl2 : PosC l := fun r hr => hl r (by simp [hr])
      rw [List.map_cons, List.sum_cons]
      have nn : 0 ≤ (l.map fun p => (if p.1 = x then (1 : Int) else 0) * p.2).sum := sum_nonneg fun y hy => by
        obtain ⟨r, hr, e⟩ := List.mem_map.mp hy
        have := hl2 r hr
        rw [← e]
        split
        · omega
        · rw [Int.zero_mul]; exact Int.le_refl _
      rcases List.mem_cons.mp hpl with e | hpl
      · subst e
        rw [if_pos hx, Int.one_mul]
        omega
      · have := ih hl2 hpl
        have : 0 ≤ (if q.1 = x then (1 : Int) else 0) * q.2 := by
          split
          · omega
          · rw [Int.zero_mul]; exact Int.le_refl _
        omega
  have := key runs hp hm
  have e : (0 : Int) = (runs.map fun p => (if p.1 = x then (1 : Int) else 0) * p.2).sum := e
  omega
theorem rowsFrom_app (c d : Form) (s : Int) : rowsFrom (c ++ d) s = rowsFrom c s + rowsFrom d s := by
  rw [rowsFrom_w, rowsFrom_w, rowsFrom_w, List.map_append, List.sum_append]
theorem page_ok {l : List Stp} {c : Form} (hs : ∀ s ∈ l, 1 ≤ s.2) (hb : leastIn (formOfSteps l) ≤ 1000 ∧ ∀ q ∈ floorsIn (formOfSteps l), q.2 ≤ 1000) (hc : CtyOk c) (hl : c.length ≤ 900) : CaseP l c := by
  obtain ⟨inv, sem⟩ := run_sem hs
  obtain ⟨l1, l2, _⟩ := inv.least
  have pc := pos_of hc
  have f1 : leastIn (formOfSteps l) ≤ newTown l c := maxOf_ge (by simp)
  have f2 : ∀ q ∈ floorsIn (formOfSteps l), q.2 - rowsFrom c q.1 ≤ newTown l c := fun q hq => maxOf_ge (List.mem_cons_of_mem _ (by rw [List.append_nil]; exact List.mem_map.mpr ⟨q, hq, rfl⟩))
  have f3 : newTown l c ≤ 1000 := maxOf_le fun y hy => by
    rcases List.mem_cons.mp hy with e | hy
    · rw [e]; exact hb.1
    · rw [List.append_nil] at hy
      obtain ⟨q, hq, e⟩ := List.mem_map.mp hy
      have := hb.2 q hq
      have := rowsFrom_nonneg pc q.1
      omega
  have pre : PreRuns [(newTown l c, 1)] := ⟨fun p hp => by
    have hp : p = (newTown l c, 1) := by simpa using hp
    subst hp
    exact ⟨by omega, by omega, Int.le_refl _⟩, by simp⟩
  have e1 : summedM [(newTown l c, 1)] = [(newTown l c, 1)] := summed_id (List.pairwise_singleton _ _)
  have pre2 : PreRuns (c ++ [(newTown l c, 1)]) := ⟨fun p hp => by
    rcases List.mem_append.mp hp with hp | hp
    · exact hc.pos p hp
    · exact pre.pos p hp, by rw [List.length_append]; show c.length + 1 ≤ 1000; omega⟩
  have eM : moreC l c = summedM (c ++ [(newTown l c, 1)]) := by unfold moreC; rw [e1]
  have cm : CtyOk (moreC l c) := by rw [eM]; exact summed_ok pre2
  have has : hasTown (moreC l c) (newTown l c) = true := by
    rw [eM]
    exact summed_has (fun p hp => ⟨(pre2.pos p hp).1, (pre2.pos p hp).2.2⟩) ⟨(newTown l c, 1), by simp, rfl⟩
  refine ⟨pre, by rw [e1]; show c.length + 1 ≤ 1000; omega, has, ?_, fun p hp => town_ok hs hc (has_iff.mpr ⟨p, hp, rfl⟩)⟩
  rw [sem _ (pos_of cm)]
  refine has_sem.mpr ⟨fun q hq => ?_, f1, has⟩
  rw [eM, summed_rows, rowsFrom_app, rowsFrom_cons, rowsFrom_nil]
  have := l2 q hq
  have := f2 q hq
  rw [if_pos (show q.1 ≤ newTown l c by omega)]
  show q.2 ≤ rowsFrom c q.1 + (newTown l c * 1 + 0)
  omega
end K81
set_option Elab.async false
set_option linter.all false
set_option maxRecDepth 100000
set_option maxHeartbeats 1900000
namespace K81
open PySem L2
theorem start7 : [(1, 1)] ∈ forms7 := by decide +kernel
/-- a set's number -/
def maskOf (F : Form) : Nat := ((List.range 7).map fun i : Nat => if hasN F ((i : Int) + 1) then 2 ^ i else 0).sum
def is7 (F : Form) : Prop := F = setOf (maskOf F) ∧ 1 ≤ maskOf F ∧ maskOf F ≤ 127
instance (F : Form) : Decidable (is7 F) := inferInstanceAs (Decidable (_ ∧ _))
theorem mem7 {F : Form} (h : is7 F) : F ∈ forms7 := by
  obtain ⟨h1, h2, h3⟩ := h
  rw [h1]
  exact List.mem_map.mpr ⟨maskOf F - 1, List.mem_range.mpr (by omega), by rw [show maskOf F - 1 + 1 = maskOf F by omega]⟩
theorem of7 {p : Form → Prop} (h0 : ∀ j, j < 16 → p (setOf (0 + j + 1))) (h1 : ∀ j, j < 16 → p (setOf (16 + j + 1))) (h2 : ∀ j, j < 16 → p (setOf (32 + j + 1))) (h3 : ∀ j, j < 16 → p (setOf (48 + j + 1))) (h4 : ∀ j, j < 16 → p (setOf (64 + j + 1))) (h5 : ∀ j, j < 16 → p (setOf (80 + j + 1))) (h6 : ∀ j, j < 16 → p (setOf (96 + j + 1))) (h7 : ∀ j, j < 15 → p (setOf (112 + j + 1))) {F : Form} (h : F ∈ forms7) : p F := by
  obtain ⟨m, hm, e⟩ := List.mem_map.mp (show F ∈ (List.range 127).map fun m => setOf (m + 1) from h)
  have hm := List.mem_range.mp hm
  subst e
  by_cases k0 : m < 16
  · have k := h0 (m - 0) (by omega)
    rw [show 0 + (m - 0) + 1 = m + 1 by omega] at k
    exact k
  by_cases k1 : m < 32
  · have k := h1 (m - 16) (by omega)
    rw [show 16 + (m - 16) + 1 = m + 1 by omega] at k
    exact k
  by_cases k2 : m < 48
  · have k := h2 (m - 32) (by omega)
    rw [show 32 + (m - 32) + 1 = m + 1 by omega] at k
    exact k
  by_cases k3 : m < 64
  · have k := h3 (m - 48) (by omega)
    rw [show 48 + (m - 48) + 1 = m + 1 by omega] at k
    exact k
  by_cases k4 : m < 80
  · have k := h4 (m - 64) (by omega)
    rw [show 64 + (m - 64) + 1 = m + 1 by omega] at k
    exact k
  by_cases k5 : m < 96
  · have k := h5 (m - 80) (by omega)
    rw [show 80 + (m - 80) + 1 = m + 1 by omega] at k
    exact k
  by_cases k6 : m < 112
  · have k := h6 (m - 96) (by omega)
    rw [show 96 + (m - 96) + 1 = m + 1 by omega] at k
    exact k
  have k := h7 (m - 112) (by omega)
  rw [show 112 + (m - 112) + 1 = m + 1 by omega] at k
  exact k
theorem closed7_0 : ∀ j, j < 16 → ∀ s ∈ allS, is7 (formBehind (setOf (0 + j + 1)) (formOfStep s)) := by decide +kernel
theorem closed7_1 : ∀ j, j < 16 → ∀ s ∈ allS, is7 (formBehind (setOf (16 + j + 1)) (formOfStep s)) := by decide +kernel
theorem closed7_2 : ∀ j, j < 16 → ∀ s ∈ allS, is7 (formBehind (setOf (32 + j + 1)) (formOfStep s)) := by decide +kernel
theorem closed7_3 : ∀ j, j < 16 → ∀ s ∈ allS, is7 (formBehind (setOf (48 + j + 1)) (formOfStep s)) := by decide +kernel
theorem closed7_4 : ∀ j, j < 16 → ∀ s ∈ allS, is7 (formBehind (setOf (64 + j + 1)) (formOfStep s)) := by decide +kernel
theorem closed7_5 : ∀ j, j < 16 → ∀ s ∈ allS, is7 (formBehind (setOf (80 + j + 1)) (formOfStep s)) := by decide +kernel
theorem closed7_6 : ∀ j, j < 16 → ∀ s ∈ allS, is7 (formBehind (setOf (96 + j + 1)) (formOfStep s)) := by decide +kernel
theorem closed7_7 : ∀ j, j < 15 → ∀ s ∈ allS, is7 (formBehind (setOf (112 + j + 1)) (formOfStep s)) := by decide +kernel
theorem closed7 {F : Form} (h : F ∈ forms7) (s : Stp) (hs : s ∈ allS) : formBehind F (formOfStep s) ∈ forms7 := mem7 (of7 (p := fun F => ∀ s ∈ allS, is7 (formBehind F (formOfStep s))) closed7_0 closed7_1 closed7_2 closed7_3 closed7_4 closed7_5 closed7_6 closed7_7 h s hs)
theorem plain7 : ∀ F ∈ forms7, formOfSteps (plainSteps F) = F ∧ (∀ s ∈ plainSteps F, 1 ≤ s.2) ∧ leastIn F ≤ 1000 ∧ ∀ q ∈ floorsIn F, q.2 ≤ 1000 := by decide +kernel
theorem case7_0 : ∀ j, j < 16 → caseB (plainSteps (setOf (0 + j + 1))) = true := by decide +kernel
theorem case7_1 : ∀ j, j < 16 → caseB (plainSteps (setOf (16 + j + 1))) = true := by decide +kernel
theorem case7_2 : ∀ j, j < 16 → caseB (plainSteps (setOf (32 + j + 1))) = true := by decide +kernel
theorem case7_3 : ∀ j, j < 16 → caseB (plainSteps (setOf (48 + j + 1))) = true := by decide +kernel
theorem case7_4 : ∀ j, j < 16 → caseB (plainSteps (setOf (64 + j + 1))) = true := by decide +kernel
theorem case7_5 : ∀ j, j < 16 → caseB (plainSteps (setOf (80 + j + 1))) = true := by decide +kernel
theorem case7_6 : ∀ j, j < 16 → caseB (plainSteps (setOf (96 + j + 1))) = true := by decide +kernel
theorem case7_7 : ∀ j, j < 15 → caseB (plainSteps (setOf (112 + j + 1))) = true := by decide +kernel
theorem table7 : ∀ c ∈ tableM 7, ∀ p ∈ c, 1 ≤ p.1 ∧ 1 ≤ p.2 := by decide +kernel
theorem allS_pos : ∀ s ∈ allS, 1 ≤ s.2 := by decide
theorem case7 {F : Form} (h : F ∈ forms7) : caseB (plainSteps F) = true := of7 (p := fun F => caseB (plainSteps F) = true) case7_0 case7_1 case7_2 case7_3 case7_4 case7_5 case7_6 case7_7 h
theorem fold7 : ∀ {l : List Stp} {F : Form}, F ∈ forms7 → (∀ s ∈ l, s ∈ allS) → l.foldl (fun fm s => formBehind fm (formOfStep s)) F ∈ forms7
  | [], _, h, _ => h
  | s :: l, F, h, k => fold7 (l := l) (closed7 h s (k s (by simp))) fun t ht => k t (by simp [ht])
theorem form7 {l : List Stp} (k : ∀ s ∈ l, s ∈ allS) : formOfSteps l ∈ forms7 := fold7 start7 k
/-! the search asks the same -/
theorem ask_pos {place rows : Int} (h1 : place ≤ 1000) (h2 : 1 ≤ rows) (h3 : rows ≤ 1000) : PosC (askCty place rows 7) := by
  unfold askCty
  have pre : PreRuns ((if decide (1 < place) then [(place - 1, (7 : Int))] else []) ++ [(rows, 1)]) := ⟨fun p hp => by
    rcases List.mem_append.mp hp with hp | hp
    · split at hp
      · rename_i z
        have z : 1 < place := of_decide_eq_true z
        have hp : p = (place - 1, 7) := by simpa using hp
        subst hp
        exact ⟨by show 1 ≤ place - 1; omega, by show place - 1 ≤ 1000000; omega, by show (1 : Int) ≤ 7; decide⟩
      · cases hp
    · have hp : p = (rows, 1) := by simpa using hp
      subst hp
      exact ⟨h2, by show rows ≤ 1000000; omega, Int.le_refl _⟩, by split <;> simp⟩
  exact pos_of (summed_ok pre)
theorem askM_pos {st : SrS} (h : askOk st = true) : PosC (askM st).1 := by
  unfold askOk at h
  unfold askM
  rw [Bool.and_eq_true] at h
  obtain ⟨_, h⟩ := h
  by_cases a : st.least.isNone = true
  · rw [if_pos a] at h
    rw [if_pos a]
    simp only [Bool.and_eq_true, decide_eq_true_eq] at h; exact pos_of (summed_ok ⟨fun p hp => by
      have hp : p = (midOf st, 7) := by simpa using hp
      subst hp
      exact ⟨h.1, by show midOf st ≤ 1000000; omega, by show (1 : Int) ≤ 7; decide⟩, by simp⟩)
  · rw [if_neg a] at h
    rw [if_neg a]
    by_cases b : st.isEnd = true
    · rw [if_pos b] at h
      rw [if_pos b]
      simp only [Bool.and_eq_true, decide_eq_true_eq] at h; exact ask_pos h.1.1 h.1.2 h.2
    · rw [if_neg b] at h
      rw [if_neg b]
      simp only [Bool.and_eq_true, decide_eq_true_eq] at h; exact ask_pos h.1.1 h.1.2 h.2
theorem search_eq {l m : List Stp} (e : ∀ c, PosC c → runSteps l c = runSteps m c) : ∀ (n : Nat) (st : SrS) (ls : List Look), searchOk n m st = true → searchOk n l st = true ∧ searchM n l st ls = searchM n m st ls
  | 0, st, ls, h => ⟨h, rfl⟩
  | n + 1, st, ls, h => by
    cases g : (scriptM st).isNone with
    | false =>
      refine ⟨?_, by rw [search_stop g, search_stop g]⟩
      have g' : (scriptM st).isSome = true := by
        cases q : scriptM st with
        | none => rw [q] at g; cases g
        | some a => rfl
      have := searchOk_st h
      unfold searchOk
      rw [this, g']
      rfl
    | true =>
      obtain ⟨k, ek, h1, h2, h3, h4, h5⟩ := search_go (ls := ls) h g
      have ek : n = k := by omega
      subst ek
      have ea : ansS l st = ansS m st := by
        unfold ansS
        rw [e _ (askM_pos h1)]
      obtain ⟨i1, i2⟩ := search_eq e n (tellM st (ansS m st)) (ls ++ [((askM st).1, (askM st).2, ansS m st)]) h4
      constructor
      · have := searchOk_st h
        unfold searchOk
        rw [ea, this, h1, h2, h3, i1]
        simp
      · rw [h5, searchM, if_pos g, ea]
        exact i2
theorem and_t {a b : Bool} (h : (a && b) = true) : a = true ∧ b = true := Bool.and_eq_true_iff.mp h
theorem looks_ok {looks : List Look} (h1 : okLooks looks = true) (h2 : lowB looks = true) : LowOk looks := by
  obtain ⟨a, b⟩ := and_t h1
  obtain ⟨c, d⟩ := and_t h2
  refine ⟨fun q hq => List.all_eq_true.mp a q hq, of_decide_eq_true b, fun q hq => of_decide_eq_true (List.all_eq_true.mp c q hq), fun i hi x hx => ?_⟩
  have := List.all_eq_true.mp d i (List.mem_range.mpr hi)
  rw [hx] at this
  exact of_decide_eq_true this
theorem fit_ok {looks : List Look} (h : LowOk looks) (k : fitB looks = true) : FitOk looks ∧ ∀ a, lowOf looks = some a → (justAbove a).length ≤ 1000 ∧ ∀ fm ∈ justAbove a, FL fm := by
  have key : ∀ a, lowOf looks = some a → a.length ≤ 15 ∧ isBanned a (bannedBy looks) = false ∧ 0 < a.length ∧ 0 ≤ leastIn a ∧ (justAbove a).length ≤ 1000 ∧ ∀ fm ∈ justAbove a, fm.length ≤ 15 := by
    intro a ha
    unfold fitB at k
    rw [ha] at k
    obtain ⟨k1, k⟩ := and_t k
    obtain ⟨k2, k⟩ := and_t k
    obtain ⟨k3, k⟩ := and_t k
    obtain ⟨k4, k⟩ := and_t k
    obtain ⟨k5, k6⟩ := and_t k
    exact ⟨of_decide_eq_true k1, by simpa using k2, of_decide_eq_true k3, of_decide_eq_true k4, of_decide_eq_true k5, fun fm hf => of_decide_eq_true (List.all_eq_true.mp k6 fm hf)⟩
  exact ⟨⟨⟨h, fun a ha => (key a ha).1, fun a ha => (key a ha).2.1⟩, fun a ha => ⟨(key a ha).2.2.1, (key a ha).2.2.2.1⟩⟩, fun a ha => (key a ha).2.2.2.2⟩
theorem case_ok {l : List Stp} (hl : l.length ≤ 6) (hs : ∀ s ∈ l, s ∈ allS) : ∃ f looks, CaseL l f looks := by
  have h7 := form7 hs
  obtain ⟨p1, p2, _, _⟩ := plain7 _ h7
  have hc := case7 h7
  generalize hm : plainSteps (formOfSteps l) = m at p1 p2 hc
  have e : ∀ c, PosC c → runSteps l c = runSteps m c := fun c pc => by
    rw [(run_sem fun s h => allS_pos s (hs s h)).2 c pc, (run_sem p2).2 c pc, p1]
  have seen : seenM l = seenM m := List.map_congr_left fun c hc => e c (table7 c hc)
  unfold caseB at hc
  obtain ⟨s1, hc⟩ := and_t hc
  cases r : searchM 100 m st0 [] with
  | mk f0 looks =>
    rw [r] at hc
    cases f0 with
    | none => cases hc
    | some f =>
      obtain ⟨c1, hc⟩ := and_t hc
      obtain ⟨c2, hc⟩ := and_t hc
      obtain ⟨c3, hc⟩ := and_t hc
      obtain ⟨c4, hc⟩ := and_t hc
      obtain ⟨c5, hc⟩ := and_t hc
      obtain ⟨c6, hc⟩ := and_t hc
      obtain ⟨c7, hc⟩ := and_t hc
      obtain ⟨c8, hc⟩ := and_t hc
      obtain ⟨c9, c10⟩ := and_t hc
      obtain ⟨q1, q2⟩ := search_eq e 100 st0 [] s1
      have lk := looks_ok c4 c6
      obtain ⟨ft, op⟩ := fit_ok lk c7
      refine ⟨f, looks, ⟨⟨by omega, hs⟩, q1, q2.trans r, by rw [seen]; exact c1, by rw [seen, ← p1]; exact of_decide_eq_true c2, (of_decide_eq_true c3).trans p1, lk.inl, lk.len, c5, ft, fun hne => ?_, op, fun g hg => ?_, of_decide_eq_true c10⟩⟩
      · unfold wsB at c8
        rw [decide_eq_false hne, Bool.false_or] at c8
        cases z : strictestFit looks with
        | none => rw [z] at c8; cases c8
        | some a =>
          rw [z] at c8
          obtain ⟨k1, k⟩ := and_t c8
          obtain ⟨k2, k3⟩ := and_t k
          rw [p1] at k2 k3
          exact ⟨a, rfl, of_decide_eq_true k1, of_decide_eq_true k2, k3⟩
      · unfold oeB at c9
        rw [hg] at c9
        exact (of_decide_eq_true c9).trans p1
theorem mathF : MathF := ⟨fun l h1 h2 => case_ok h1 h2, fun l c h1 h2 hc hl => page_ok (fun s h => allS_pos s (h2 s h)) (plain7 _ (form7 h2)).2.2 hc hl⟩
end K81
set_option Elab.async false
set_option linter.all false
set_option maxRecDepth 100000
set_option maxHeartbeats 1900000
set_option maxHeartbeats 8000000 in
theorem PySem.Challenge.cw_smalltowns_k81_whole_one_hidden_script_b_holds : PySem.Challenge.rw_smalltowns_k81_whole_one_hidden_script_b.Holds :=
  k81_of K81.mathF
