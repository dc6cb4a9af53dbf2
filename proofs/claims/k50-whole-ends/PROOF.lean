import PyProof.Rows.All
import Wide.All
import OpenK.AllK
import Wide.FinOn
import KE.KStateDown
import HandS.ForMost
import HandS.ForExc
import HandS.Defaults
import PySem.Challenge.RW_lookmade_k50_whole_ends_before_and_behin
import HandS.Head0
import HandS.Head1
import HandS.Head2
import HandS.HeadEnd
import HandS.HeadHook1
import HandS.HeadHook2
import KE.KSuper
import HandS.Codes
import HandS.IsInst
import HandS.Conv
import HandS.Walk
import HandS.Zip
import HandS.Sort
import HandS.SortRule
import HandS.SortInts
import HandS.Deep
import HandS.DictComp
import HandS.NoneIn
import HandS.TupSets
import HandS.SetFor
import HandS.Star
import KE.KDictPairs
import PyProof.Rows.SortShellAny
import PyProof.P3Eq
import HandS.Evl
import HandS.DictTup
import HandS.MethStar
import HandS.Nested
import HandS.Style
section
set_option Elab.async false
set_option linter.all false
set_option maxRecDepth 100000
set_option maxHeartbeats 4000000
/-! the text by places -/
namespace K50
open PySem L2
abbrev PW : Program := PySem.Challenge.pw_lookmade_k50_whole_ends_before_and_behin
def top (i : Nat) : Stmt := PW.main.body.getD i (.Pass ⟨0, 0, 0, 0⟩)
abbrev s_is_integer : Stmt := top 9
abbrev s_is_within : Stmt := top 10
abbrev s_is_turn : Stmt := top 11
abbrev s_is_lot : Stmt := top 12
abbrev s_need_number : Stmt := top 13
abbrev s_pairs_in : Stmt := top 14
abbrev s_is_things : Stmt := top 25
abbrev s_is_string : Stmt := top 26
abbrev s_strings_from : Stmt := top 27
abbrev s_things_from : Stmt := top 28
abbrev s_turns_from : Stmt := top 29
abbrev s_Net_init : Stmt := inClass (top 33) 0
abbrev s_need_net : Stmt := top 34
abbrev s_near_in : Stmt := top 35
abbrev s_fixed : Stmt := top 37
abbrev s_Paper_init : Stmt := inClass (top 38) 0
abbrev s_Lesser_init : Stmt := inClass (top 42) 0
abbrev s_need_thing : Stmt := top 43
abbrev s_is_inner : Stmt := top 44
abbrev s_is_quarter : Stmt := top 45
abbrev s_is_pair : Stmt := top 46
abbrev s_between : Stmt := top 47
abbrev s_without : Stmt := top 48
abbrev s_quarter_in : Stmt := top 49
abbrev s_pair_in : Stmt := top 50
abbrev s_first_step : Stmt := top 51
abbrev s_behind_step : Stmt := top 52
abbrev s_may_quarter : Stmt := top 53
abbrev s_may_pair : Stmt := top 54
abbrev s_quarter : Stmt := top 55
abbrev s_pair : Stmt := top 56
abbrev s_lesser : Stmt := top 57
abbrev s_odd_in : Stmt := top 58
abbrev s_law_ferry : Stmt := top 60
abbrev s_law_cross : Stmt := top 61
abbrev s_law_pick : Stmt := top 62
abbrev s_law_mixed : Stmt := top 63
abbrev s_law_drawn : Stmt := top 64
abbrev s_law_turn : Stmt := top 65
abbrev s_law_wired : Stmt := top 66
abbrev s_law_toggled : Stmt := top 67
abbrev s_law_near : Stmt := top 68
abbrev s_law_is_free : Stmt := top 69
abbrev s_law_may : Stmt := top 70
abbrev s_law_made : Stmt := top 74
abbrev s_law_parts : Stmt := top 75
abbrev s_law_turned : Stmt := top 76
abbrev s_law_times : Stmt := top 77
abbrev s_law_end : Stmt := top 78
abbrev s_law_are_alike : Stmt := top 79
abbrev s_law_spread : Stmt := top 80
abbrev s_law_steps : Stmt := top 81
abbrev s_law_goes_right : Stmt := top 82
abbrev s_law : Stmt := top 83
/-- a def of the text, without defaults -/
abbrev FnP (K : PySem.W.Frag) (x : Str) (st : Stmt) (f : Addr) (fd : FuncData) : Prop := FunD K x x (defArgs st) (defBody st) (defScope st) [] [] f fd
end K50
end
section
set_option Elab.async false
set_option linter.all false
set_option maxRecDepth 100000
set_option maxHeartbeats 0
/-! the head: the facts by names, the run -/
namespace K50
open PySem PySem.Spec PyProof.Rows L2

def d_is_integer : He.DefD := ⟨("is_integer", none), "is_integer", "is_integer", defArgs s_is_integer, defBody s_is_integer, defScope s_is_integer, [], []⟩
def d_is_within : He.DefD := ⟨("is_within", none), "is_within", "is_within", defArgs s_is_within, defBody s_is_within, defScope s_is_within, [], []⟩
def d_is_turn : He.DefD := ⟨("is_turn", none), "is_turn", "is_turn", defArgs s_is_turn, defBody s_is_turn, defScope s_is_turn, [], []⟩
def d_is_lot : He.DefD := ⟨("is_lot", none), "is_lot", "is_lot", defArgs s_is_lot, defBody s_is_lot, defScope s_is_lot, [], []⟩
def d_need_number : He.DefD := ⟨("need_number", none), "need_number", "need_number", defArgs s_need_number, defBody s_need_number, defScope s_need_number, [], []⟩
def d_pairs_in : He.DefD := ⟨("pairs_in", none), "pairs_in", "pairs_in", defArgs s_pairs_in, defBody s_pairs_in, defScope s_pairs_in, [], []⟩
def d_is_things : He.DefD := ⟨("is_things", none), "is_things", "is_things", defArgs s_is_things, defBody s_is_things, defScope s_is_things, [], []⟩
def d_is_string : He.DefD := ⟨("is_string", none), "is_string", "is_string", defArgs s_is_string, defBody s_is_string, defScope s_is_string, [], []⟩
def d_strings_from : He.DefD := ⟨("strings_from", none), "strings_from", "strings_from", defArgs s_strings_from, defBody s_strings_from, defScope s_strings_from, [], []⟩
def d_things_from : He.DefD := ⟨("things_from", none), "things_from", "things_from", defArgs s_things_from, defBody s_things_from, defScope s_things_from, [], []⟩
def d_turns_from : He.DefD := ⟨("turns_from", none), "turns_from", "turns_from", defArgs s_turns_from, defBody s_turns_from, defScope s_turns_from, [], []⟩
def d_Net_init : He.DefD := ⟨("Net", some "__init__"), "__init__", "Net.__init__", defArgs s_Net_init, defBody s_Net_init, defScope s_Net_init, [], []⟩
def d_need_net : He.DefD := ⟨("need_net", none), "need_net", "need_net", defArgs s_need_net, defBody s_need_net, defScope s_need_net, [.str "net"], []⟩
def d_near_in : He.DefD := ⟨("near_in", none), "near_in", "near_in", defArgs s_near_in, defBody s_near_in, defScope s_near_in, [], []⟩
def d_fixed : He.DefD := ⟨("fixed", none), "fixed", "fixed", defArgs s_fixed, defBody s_fixed, defScope s_fixed, [], []⟩
def d_Paper_init : He.DefD := ⟨("Paper", some "__init__"), "__init__", "Paper.__init__", defArgs s_Paper_init, defBody s_Paper_init, defScope s_Paper_init, [], []⟩
def d_need_thing : He.DefD := ⟨("need_thing", none), "need_thing", "need_thing", defArgs s_need_thing, defBody s_need_thing, defScope s_need_thing, [], []⟩
def d_is_inner : He.DefD := ⟨("is_inner", none), "is_inner", "is_inner", defArgs s_is_inner, defBody s_is_inner, defScope s_is_inner, [], []⟩
def d_is_quarter : He.DefD := ⟨("is_quarter", none), "is_quarter", "is_quarter", defArgs s_is_quarter, defBody s_is_quarter, defScope s_is_quarter, [], []⟩
def d_is_pair : He.DefD := ⟨("is_pair", none), "is_pair", "is_pair", defArgs s_is_pair, defBody s_is_pair, defScope s_is_pair, [], []⟩
def d_between : He.DefD := ⟨("between", none), "between", "between", defArgs s_between, defBody s_between, defScope s_between, [], []⟩
def d_without : He.DefD := ⟨("without", none), "without", "without", defArgs s_without, defBody s_without, defScope s_without, [], []⟩
def d_quarter_in : He.DefD := ⟨("quarter_in", none), "quarter_in", "quarter_in", defArgs s_quarter_in, defBody s_quarter_in, defScope s_quarter_in, [], []⟩
def d_pair_in : He.DefD := ⟨("pair_in", none), "pair_in", "pair_in", defArgs s_pair_in, defBody s_pair_in, defScope s_pair_in, [], []⟩
def d_first_step : He.DefD := ⟨("first_step", none), "first_step", "first_step", defArgs s_first_step, defBody s_first_step, defScope s_first_step, [], []⟩
def d_behind_step : He.DefD := ⟨("behind_step", none), "behind_step", "behind_step", defArgs s_behind_step, defBody s_behind_step, defScope s_behind_step, [], []⟩
def d_may_quarter : He.DefD := ⟨("may_quarter", none), "may_quarter", "may_quarter", defArgs s_may_quarter, defBody s_may_quarter, defScope s_may_quarter, [], []⟩
def d_may_pair : He.DefD := ⟨("may_pair", none), "may_pair", "may_pair", defArgs s_may_pair, defBody s_may_pair, defScope s_may_pair, [], []⟩
def d_quarter : He.DefD := ⟨("quarter", none), "quarter", "quarter", defArgs s_quarter, defBody s_quarter, defScope s_quarter, [], []⟩
def d_pair : He.DefD := ⟨("pair", none), "pair", "pair", defArgs s_pair, defBody s_pair, defScope s_pair, [], []⟩
def d_lesser : He.DefD := ⟨("lesser", none), "lesser", "lesser", defArgs s_lesser, defBody s_lesser, defScope s_lesser, [], []⟩
def d_odd_in : He.DefD := ⟨("odd_in", none), "odd_in", "odd_in", defArgs s_odd_in, defBody s_odd_in, defScope s_odd_in, [], []⟩
def d_law_ferry : He.DefD := ⟨("_law_ferry", none), "_law_ferry", "_law_ferry", defArgs s_law_ferry, defBody s_law_ferry, defScope s_law_ferry, [], []⟩
def d_law_cross : He.DefD := ⟨("_law_cross", none), "_law_cross", "_law_cross", defArgs s_law_cross, defBody s_law_cross, defScope s_law_cross, [], []⟩
def d_law_pick : He.DefD := ⟨("_law_pick", none), "_law_pick", "_law_pick", defArgs s_law_pick, defBody s_law_pick, defScope s_law_pick, [], []⟩
def d_law_mixed : He.DefD := ⟨("_law_mixed", none), "_law_mixed", "_law_mixed", defArgs s_law_mixed, defBody s_law_mixed, defScope s_law_mixed, [], []⟩
def d_law_drawn : He.DefD := ⟨("_law_drawn", none), "_law_drawn", "_law_drawn", defArgs s_law_drawn, defBody s_law_drawn, defScope s_law_drawn, [], []⟩
def d_law_turn : He.DefD := ⟨("_law_turn", none), "_law_turn", "_law_turn", defArgs s_law_turn, defBody s_law_turn, defScope s_law_turn, [], []⟩
def d_law_wired : He.DefD := ⟨("_law_wired", none), "_law_wired", "_law_wired", defArgs s_law_wired, defBody s_law_wired, defScope s_law_wired, [], []⟩
def d_law_toggled : He.DefD := ⟨("_law_toggled", none), "_law_toggled", "_law_toggled", defArgs s_law_toggled, defBody s_law_toggled, defScope s_law_toggled, [], []⟩
def d_law_near : He.DefD := ⟨("_law_near", none), "_law_near", "_law_near", defArgs s_law_near, defBody s_law_near, defScope s_law_near, [], []⟩
def d_law_is_free : He.DefD := ⟨("_law_is_free", none), "_law_is_free", "_law_is_free", defArgs s_law_is_free, defBody s_law_is_free, defScope s_law_is_free, [], []⟩
def d_law_may : He.DefD := ⟨("_law_may", none), "_law_may", "_law_may", defArgs s_law_may, defBody s_law_may, defScope s_law_may, [], []⟩
def d_law_made : He.DefD := ⟨("_law_made", none), "_law_made", "_law_made", defArgs s_law_made, defBody s_law_made, defScope s_law_made, [], []⟩
def d_law_parts : He.DefD := ⟨("_law_parts", none), "_law_parts", "_law_parts", defArgs s_law_parts, defBody s_law_parts, defScope s_law_parts, [], []⟩
def d_law_turned : He.DefD := ⟨("_law_turned", none), "_law_turned", "_law_turned", defArgs s_law_turned, defBody s_law_turned, defScope s_law_turned, [], []⟩
def d_law_times : He.DefD := ⟨("_law_times", none), "_law_times", "_law_times", defArgs s_law_times, defBody s_law_times, defScope s_law_times, [], []⟩
def d_law_end : He.DefD := ⟨("_law_end", none), "_law_end", "_law_end", defArgs s_law_end, defBody s_law_end, defScope s_law_end, [], []⟩
def d_law_are_alike : He.DefD := ⟨("_law_are_alike", none), "_law_are_alike", "_law_are_alike", defArgs s_law_are_alike, defBody s_law_are_alike, defScope s_law_are_alike, [], []⟩
def d_law_spread : He.DefD := ⟨("_law_spread", none), "_law_spread", "_law_spread", defArgs s_law_spread, defBody s_law_spread, defScope s_law_spread, [], []⟩
def d_law_steps : He.DefD := ⟨("_law_steps", none), "_law_steps", "_law_steps", defArgs s_law_steps, defBody s_law_steps, defScope s_law_steps, [], []⟩
def d_law_goes_right : He.DefD := ⟨("_law_goes_right", none), "_law_goes_right", "_law_goes_right", defArgs s_law_goes_right, defBody s_law_goes_right, defScope s_law_goes_right, [], []⟩
def d_law : He.DefD := ⟨("law", none), "law", "law", defArgs s_law, defBody s_law, defScope s_law, [], []⟩
def fn0 : List He.DefD := [d_is_integer, d_is_within, d_is_turn, d_is_lot, d_need_number, d_pairs_in, d_is_things, d_is_string, d_strings_from, d_things_from, d_turns_from, d_Net_init, d_need_net, d_near_in, d_fixed, d_Paper_init, d_need_thing, d_is_inner, d_is_quarter, d_is_pair]
def fn1 : List He.DefD := [d_between, d_without, d_quarter_in, d_pair_in, d_first_step, d_behind_step, d_may_quarter, d_may_pair, d_quarter, d_pair, d_lesser, d_odd_in, d_law_ferry, d_law_cross, d_law_pick, d_law_mixed, d_law_drawn, d_law_turn, d_law_wired, d_law_toggled]
def fn2 : List He.DefD := [d_law_near, d_law_is_free, d_law_may, d_law_made, d_law_parts, d_law_turned, d_law_times, d_law_end, d_law_are_alike, d_law_spread, d_law_steps, d_law_goes_right, d_law]
def fn : List He.DefD := fn0 ++ fn1 ++ fn2
def fa0 : List He.Fa := [.glo "is_integer", .glo "is_within", .glo "is_turn", .glo "is_lot", .glo "need_number", .glo "pairs_in", .glo "is_things", .glo "is_string", .glo "strings_from", .glo "things_from", .glo "turns_from", .glo "need_net", .glo "near_in", .glo "fixed", .glo "need_thing", .glo "is_inner", .glo "is_quarter", .glo "is_pair", .glo "between", .glo "without"]
def fa1 : List He.Fa := [.glo "quarter_in", .glo "pair_in", .glo "first_step", .glo "behind_step", .glo "may_quarter", .glo "may_pair", .glo "quarter", .glo "pair", .glo "lesser", .glo "odd_in", .glo "_law_ferry", .glo "_law_cross", .glo "_law_pick", .glo "_law_mixed", .glo "_law_drawn", .glo "_law_turn", .glo "_law_wired", .glo "_law_toggled", .glo "_law_near", .glo "_law_is_free"]
def fa2 : List He.Fa := [.glo "_law_may", .glo "_law_made", .glo "_law_parts", .glo "_law_turned", .glo "_law_times", .glo "_law_end", .glo "_law_are_alike", .glo "_law_spread", .glo "_law_steps", .glo "_law_goes_right", .glo "law", .glo "Net", .glo "Paper", .glo "Lesser", .glo "QUARTERS", .glo "HALVES", .glo "BadNumber", .glo "BadNet", .glo "Misfit", .free "isinstance"]
def fa3 : List He.Fa := [.free "int", .free "bool", .free "list", .free "tuple", .free "dict", .free "len", .free "set", .free "all", .free "any", .free "sorted", .free "range", .free "min", .free "max", .free "enumerate", .free "zip", .free "sum", .free "abs", .free "super", .int "TURNS" 8, .int "MOST_THINGS" 120]
def fa4 : List He.Fa := [.cls "Net", .cls "Lesser", .mkr "Net", .mkr "Lesser", .keep "Net", .keep "Lesser", .noat "Net" "things", .noat "Net" "strings", .noat "Net" "given", .noat "Net" "kept", .noat "Net" "looked", .noat "Net" "turns", .noat "Lesser" "word", .noat "Lesser" "parts", .noat "Lesser" "steps", .noat "Lesser" "net"]
def fa : List He.Fa := fa0 ++ fa1 ++ fa2 ++ fa3 ++ fa4

/-! ### more facts -/
/-- QUARTERS = {2: 6, 6: 2} -/
def quB (K : PySem.W.Frag) : Bool := match K.lookup (He.ga K "QUARTERS") with
  | some ⟨.type c, none, .dict es _, sl⟩ => decide (c = "dict") && (sl.isEmpty && (!(He.ga K "QUARTERS" == sysModules) && (match es.toList with
    | [⟨h1, .int i1 _, .int v1 _⟩, ⟨h2, .int i2 _, .int v2 _⟩] => decide (h1 = hashInt 2 ∧ i1 = 2 ∧ v1 = 6 ∧ h2 = hashInt 6 ∧ i2 = 6 ∧ v2 = 2)
    | _ => false)))
  | _ => false
/-- Lesser.__init__: its cell, its code -/
def lesI (K : PySem.W.Frag) : Addr := He.ma K (He.ga K "Lesser") "__init__"
abbrev FnC : Type := Option (Str × Str × Arguments × FuncBody × Scope × Addr × List Str × Addr)
def lesF (K : PySem.W.Frag) : FnC := match K.lookup (lesI K) with
  | some ⟨_, _, .func fd, _⟩ => some (fd.name, fd.qualname, fd.params, fd.body, fd.scope, fd.globals, fd.closure.map (·.1), fd.builtins)
  | _ => none
def lesV : FnC := some ("__init__", "Lesser.__init__", defArgs s_Lesser_init, .stmts (defBody s_Lesser_init), defScope s_Lesser_init, mainGlobals, ["__class__"], builtinsNs)
def lesB (K : PySem.W.Frag) : Bool := match K.lookup (lesI K) with
  | some ⟨_, _, .func fd, _⟩ => PySem.W.codeIn K fd.code "Lesser.__init__" && ((match fd.defaults with | .none => true | _ => false) && ((match fd.closure with
    | [(_, cc)] => (match K.lookup cc with
      | some ⟨_, _, .cell (some (.ref D)), _⟩ => decide (D = He.ga K "Lesser")
      | _ => false)
    | _ => false) && (match fd.code with
      | .ref cda => (match K.lookup cda with
        | some ⟨_, _, .fields vs, _⟩ => (match (vs[2]? : Option Value) with
          | some (.str file _) => (PW.main.file : Str) == file
          | _ => false)
        | _ => false)
      | _ => false)))
  | _ => false
def supB (K : PySem.W.Frag) : Bool := (PySem.W.clsIn K (He.ga K "Lesser")).isSome && (decide (PySem.W.mroIn K (He.ga K "Lesser") (.ref (He.ga K "Lesser")) = some true) && (He.eqO (PySem.W.nsIn K cStatics "thirdparty.any") (some none) &&
  (He.eqO (PySem.W.ks_superIn K (He.ga K "Lesser") (He.ga K "Lesser") "__init__") (some (some (.ref (He.ma K (He.ga K "Paper") "__init__")))) && decide (PySem.W.typeIn K (.ref (He.ma K (He.ga K "Paper") "__init__")) = some (.type "function")))))
/-- a Net's type -/
def insB (K : PySem.W.Frag) : Bool := He.eqO (PySem.W.findIn K (.ref (He.ga K "Net")) "__class__") (some (some (.builtin "object.__class__"))) && (He.eqO (PySem.W.specialIn K (.builtin "object.__class__") "__get__") (some (some (.builtin "getset_descriptor.__get__"))) &&
  (decide (PySem.W.takesIn K (.builtin "object.__class__") = some true) && (decide (PySem.W.mroIn K (He.ga K "Net") (.type "object") = some true) && decide (PySem.W.kitAny K (.ref (He.ga K "Net")) [.type "list", .type "tuple"] = some false))))
def exB (K : PySem.W.Frag) : Bool := quB K && (He.tupB K "HALVES" [.int 0, .int 4] && (lesB K && (supB K && insB K)))
abbrev AlM : Type := He.AlD × (Bool × FnC)
def obsM (K : PySem.W.Frag) : AlM := (He.obsD fa fn K, exB K, lesF K)
def valM : AlM := (He.valD fn, true, lesV)
def SaysM (K : PySem.W.Frag) : Prop := obsM K = valM
/-- adds to acc what is new of bs (m: the mask of what is in), then k -/
def addN {α : Type} (k : Nat → List Addr → α) : List Addr → Nat → List Addr → α
  | [], m, acc => k m acc
  | b :: bs, m, acc => match Nat.land (Nat.shiftRight m b) 1 with
    | 0 => HandSHeadRun.frNat b fun b => HandSHeadRun.frNat (Nat.lor m (Nat.shiftLeft 1 b)) fun m => addN k bs m (b :: acc)
    | _ + 1 => addN k bs m acc
/-- what the module's names reach in n steps, each object looked at once -/
def bfs (g : Addr → Option Obj) : Nat → List Addr → Nat → List Addr → List Addr
  | 0, _, _, acc => acc
  | n + 1, fr, m, acc => addN (fun m new => bfs g n new m (new ++ acc)) (fr.flatMap fun a => match g a with
    | some o => He.refsD o
    | none => []) m []
def asM (g : Addr → Option Obj) (n : Nat) : List Addr := cStatics :: bfs g n [mainGlobals] (Nat.shiftLeft 1 mainGlobals) [mainGlobals]
def hk : PySem.W.Hook where
  α := AlM
  obs := fun s => obsM (He.frG s.heap.get? (asM s.heap.get? 6))
  val := fun _ => valM
  says := fun _ h => ∃ K : PySem.W.Frag, K.In h ∧ SaysM K
  of := fun _ _ e => ⟨_, He.frG_in, e⟩
  keeps := fun _ _ _ ⟨K, hK, c⟩ k => ⟨K, PySem.W.Frag.In.keeps hK k, c⟩
abbrev R : PySem.W.OpenRow := PySem.W.OpenLaw.row PySem.Challenge.rw_lookmade_k50_whole_ends_before_and_behin
def ob (s : PySem.W.SharedT) : AlM := obsM (He.frG (HandSHeadRun.getT s) (asM (HandSHeadRun.getT s) 6))
theorem ob_eq (s : PySem.W.SharedT) : ob s = hk.obs s.abs := by
  have e : HandSHeadRun.getT s = s.abs.heap.get? := funext (HandSHeadRun.getT_eq s)
  show obsM (He.frG (HandSHeadRun.getT s) (asM (HandSHeadRun.getT s) 6)) = obsM (He.frG s.abs.heap.get? (asM s.abs.heap.get? 6))
  rw [e]

def lo0 : List PySem.Str := ["_wall", "LookError", "BadNumber", "BadNet", "Misfit", "BadText", "TURNS", "is_integer", "is_within", "is_turn", "is_lot", "need_number", "pairs_in", "FIGURES", "MOST_FIGURES", "written", "Scan", "scans_of", "scan_at", "MOST_THINGS", "LAST_TURN", "is_things", "is_string", "strings_from", "things_from", "turns_from", "taken_things", "taken_string", "taken_turn", "Net"]
def lo1 : List PySem.Str := ["need_net", "near_in", "fixed", "Paper", "QUARTERS", "HALVES", "Lesser", "need_thing", "is_inner", "is_quarter", "is_pair", "between", "without", "quarter_in", "pair_in", "first_step", "behind_step", "may_quarter", "may_pair", "quarter", "pair", "lesser", "odd_in", "_law_ferry", "_law_cross", "_law_pick", "_law_mixed", "_law_drawn", "_law_turn", "_law_wired"]
def lo2 : List PySem.Str := ["_law_toggled", "_law_near", "_law_is_free", "_law_may", "_law_less", "_law_done", "_law_next", "_law_made", "_law_parts", "_law_turned", "_law_times", "_law_end", "_law_are_alike", "_law_spread", "_law_steps", "_law_goes_right"]
def lo : List PySem.Str := lo0 ++ lo1 ++ lo2
abbrev qv : Program := PySem.W.view R.prog [83]
end K50
end
section
set_option Elab.async false
set_option linter.all false
set_option maxRecDepth 100000
set_option maxHeartbeats 0
/-! the head: the run -/
namespace K50
open PySem PySem.Spec PyProof.Rows L2
theorem run_false (w : World) : HandSHeadRun.RunEq R qv hk ob 8000 lo (w.withFollow "special-get-raises" false) := by
  intro os
  kernel_rfl
end K50
end
section
set_option Elab.async false
set_option linter.all false
set_option maxRecDepth 100000
set_option maxHeartbeats 0
/-! the head: the run -/
namespace K50
open PySem PySem.Spec PyProof.Rows L2
theorem run_true (w : World) : HandSHeadRun.RunEq R qv hk ob 8000 lo (w.withFollow "special-get-raises" true) := by
  intro os
  kernel_rfl
end K50
end
section
set_option Elab.async false
set_option linter.all false
set_option maxRecDepth 100000
set_option maxHeartbeats 4000000
/-! the head's facts under names -/
namespace K50
open PySem PySem.Spec PyProof.Rows L2
theorem K_lookup_of {K : PySem.W.Frag} {a : Addr} {p : Obj → Prop} {f : Obj → Bool} (h : (match K.lookup a with | some o => f o | none => false) = true) (k : ∀ o, f o = true → p o) : ∃ o, K.lookup a = some o ∧ p o := by
  cases e : K.lookup a with
  | none => rw [e] at h; cases h
  | some o => rw [e] at h; exact ⟨o, rfl, k o h⟩
structure TX (K : PySem.W.Frag) (mg : Str → Option Value) : Prop where
  says : SaysM K
  ns : ∃ h : Heap, K.In h ∧ h.Ns mainGlobals mg
section
variable {K : PySem.W.Frag} {mg : Str → Option Value}
theorem TX.d (T : TX K mg) : He.SaysD fa fn K := congrArg (fun z : AlM => z.1) T.says
theorem TX.ex (T : TX K mg) : exB K = true := congrArg (fun z : AlM => z.2.1) T.says
theorem TX.les (T : TX K mg) : lesF K = lesV := congrArg (fun z : AlM => z.2.2) T.says
theorem TX.g_is_integer (T : TX K mg) : mg "is_integer" = some (.ref (He.ga K "is_integer")) := let ⟨_, X, G⟩ := T.ns; He.glo_ok X G (T.d.fact 0 (f := .glo "is_integer") rfl)
theorem TX.g_is_within (T : TX K mg) : mg "is_within" = some (.ref (He.ga K "is_within")) := let ⟨_, X, G⟩ := T.ns; He.glo_ok X G (T.d.fact 1 (f := .glo "is_within") rfl)
theorem TX.g_is_turn (T : TX K mg) : mg "is_turn" = some (.ref (He.ga K "is_turn")) := let ⟨_, X, G⟩ := T.ns; He.glo_ok X G (T.d.fact 2 (f := .glo "is_turn") rfl)
theorem TX.g_is_lot (T : TX K mg) : mg "is_lot" = some (.ref (He.ga K "is_lot")) := let ⟨_, X, G⟩ := T.ns; He.glo_ok X G (T.d.fact 3 (f := .glo "is_lot") rfl)
theorem TX.g_need_number (T : TX K mg) : mg "need_number" = some (.ref (He.ga K "need_number")) := let ⟨_, X, G⟩ := T.ns; He.glo_ok X G (T.d.fact 4 (f := .glo "need_number") rfl)
theorem TX.g_pairs_in (T : TX K mg) : mg "pairs_in" = some (.ref (He.ga K "pairs_in")) := let ⟨_, X, G⟩ := T.ns; He.glo_ok X G (T.d.fact 5 (f := .glo "pairs_in") rfl)
theorem TX.g_is_things (T : TX K mg) : mg "is_things" = some (.ref (He.ga K "is_things")) := let ⟨_, X, G⟩ := T.ns; He.glo_ok X G (T.d.fact 6 (f := .glo "is_things") rfl)
theorem TX.g_is_string (T : TX K mg) : mg "is_string" = some (.ref (He.ga K "is_string")) := let ⟨_, X, G⟩ := T.ns; He.glo_ok X G (T.d.fact 7 (f := .glo "is_string") rfl)
theorem TX.g_strings_from (T : TX K mg) : mg "strings_from" = some (.ref (He.ga K "strings_from")) := let ⟨_, X, G⟩ := T.ns; He.glo_ok X G (T.d.fact 8 (f := .glo "strings_from") rfl)
theorem TX.g_things_from (T : TX K mg) : mg "things_from" = some (.ref (He.ga K "things_from")) := let ⟨_, X, G⟩ := T.ns; He.glo_ok X G (T.d.fact 9 (f := .glo "things_from") rfl)
theorem TX.g_turns_from (T : TX K mg) : mg "turns_from" = some (.ref (He.ga K "turns_from")) := let ⟨_, X, G⟩ := T.ns; He.glo_ok X G (T.d.fact 10 (f := .glo "turns_from") rfl)
theorem TX.g_need_net (T : TX K mg) : mg "need_net" = some (.ref (He.ga K "need_net")) := let ⟨_, X, G⟩ := T.ns; He.glo_ok X G (T.d.fact 11 (f := .glo "need_net") rfl)
theorem TX.g_near_in (T : TX K mg) : mg "near_in" = some (.ref (He.ga K "near_in")) := let ⟨_, X, G⟩ := T.ns; He.glo_ok X G (T.d.fact 12 (f := .glo "near_in") rfl)
theorem TX.g_fixed (T : TX K mg) : mg "fixed" = some (.ref (He.ga K "fixed")) := let ⟨_, X, G⟩ := T.ns; He.glo_ok X G (T.d.fact 13 (f := .glo "fixed") rfl)
theorem TX.g_need_thing (T : TX K mg) : mg "need_thing" = some (.ref (He.ga K "need_thing")) := let ⟨_, X, G⟩ := T.ns; He.glo_ok X G (T.d.fact 14 (f := .glo "need_thing") rfl)
theorem TX.g_is_inner (T : TX K mg) : mg "is_inner" = some (.ref (He.ga K "is_inner")) := let ⟨_, X, G⟩ := T.ns; He.glo_ok X G (T.d.fact 15 (f := .glo "is_inner") rfl)
theorem TX.g_is_quarter (T : TX K mg) : mg "is_quarter" = some (.ref (He.ga K "is_quarter")) := let ⟨_, X, G⟩ := T.ns; He.glo_ok X G (T.d.fact 16 (f := .glo "is_quarter") rfl)
theorem TX.g_is_pair (T : TX K mg) : mg "is_pair" = some (.ref (He.ga K "is_pair")) := let ⟨_, X, G⟩ := T.ns; He.glo_ok X G (T.d.fact 17 (f := .glo "is_pair") rfl)
theorem TX.g_between (T : TX K mg) : mg "between" = some (.ref (He.ga K "between")) := let ⟨_, X, G⟩ := T.ns; He.glo_ok X G (T.d.fact 18 (f := .glo "between") rfl)
theorem TX.g_without (T : TX K mg) : mg "without" = some (.ref (He.ga K "without")) := let ⟨_, X, G⟩ := T.ns; He.glo_ok X G (T.d.fact 19 (f := .glo "without") rfl)
theorem TX.g_quarter_in (T : TX K mg) : mg "quarter_in" = some (.ref (He.ga K "quarter_in")) := let ⟨_, X, G⟩ := T.ns; He.glo_ok X G (T.d.fact 20 (f := .glo "quarter_in") rfl)
theorem TX.g_pair_in (T : TX K mg) : mg "pair_in" = some (.ref (He.ga K "pair_in")) := let ⟨_, X, G⟩ := T.ns; He.glo_ok X G (T.d.fact 21 (f := .glo "pair_in") rfl)
theorem TX.g_first_step (T : TX K mg) : mg "first_step" = some (.ref (He.ga K "first_step")) := let ⟨_, X, G⟩ := T.ns; He.glo_ok X G (T.d.fact 22 (f := .glo "first_step") rfl)
theorem TX.g_behind_step (T : TX K mg) : mg "behind_step" = some (.ref (He.ga K "behind_step")) := let ⟨_, X, G⟩ := T.ns; He.glo_ok X G (T.d.fact 23 (f := .glo "behind_step") rfl)
theorem TX.g_may_quarter (T : TX K mg) : mg "may_quarter" = some (.ref (He.ga K "may_quarter")) := let ⟨_, X, G⟩ := T.ns; He.glo_ok X G (T.d.fact 24 (f := .glo "may_quarter") rfl)
theorem TX.g_may_pair (T : TX K mg) : mg "may_pair" = some (.ref (He.ga K "may_pair")) := let ⟨_, X, G⟩ := T.ns; He.glo_ok X G (T.d.fact 25 (f := .glo "may_pair") rfl)
theorem TX.g_quarter (T : TX K mg) : mg "quarter" = some (.ref (He.ga K "quarter")) := let ⟨_, X, G⟩ := T.ns; He.glo_ok X G (T.d.fact 26 (f := .glo "quarter") rfl)
theorem TX.g_pair (T : TX K mg) : mg "pair" = some (.ref (He.ga K "pair")) := let ⟨_, X, G⟩ := T.ns; He.glo_ok X G (T.d.fact 27 (f := .glo "pair") rfl)
theorem TX.g_lesser (T : TX K mg) : mg "lesser" = some (.ref (He.ga K "lesser")) := let ⟨_, X, G⟩ := T.ns; He.glo_ok X G (T.d.fact 28 (f := .glo "lesser") rfl)
theorem TX.g_odd_in (T : TX K mg) : mg "odd_in" = some (.ref (He.ga K "odd_in")) := let ⟨_, X, G⟩ := T.ns; He.glo_ok X G (T.d.fact 29 (f := .glo "odd_in") rfl)
theorem TX.g_law_ferry (T : TX K mg) : mg "_law_ferry" = some (.ref (He.ga K "_law_ferry")) := let ⟨_, X, G⟩ := T.ns; He.glo_ok X G (T.d.fact 30 (f := .glo "_law_ferry") rfl)
theorem TX.g_law_cross (T : TX K mg) : mg "_law_cross" = some (.ref (He.ga K "_law_cross")) := let ⟨_, X, G⟩ := T.ns; He.glo_ok X G (T.d.fact 31 (f := .glo "_law_cross") rfl)
theorem TX.g_law_pick (T : TX K mg) : mg "_law_pick" = some (.ref (He.ga K "_law_pick")) := let ⟨_, X, G⟩ := T.ns; He.glo_ok X G (T.d.fact 32 (f := .glo "_law_pick") rfl)
theorem TX.g_law_mixed (T : TX K mg) : mg "_law_mixed" = some (.ref (He.ga K "_law_mixed")) := let ⟨_, X, G⟩ := T.ns; He.glo_ok X G (T.d.fact 33 (f := .glo "_law_mixed") rfl)
theorem TX.g_law_drawn (T : TX K mg) : mg "_law_drawn" = some (.ref (He.ga K "_law_drawn")) := let ⟨_, X, G⟩ := T.ns; He.glo_ok X G (T.d.fact 34 (f := .glo "_law_drawn") rfl)
theorem TX.g_law_turn (T : TX K mg) : mg "_law_turn" = some (.ref (He.ga K "_law_turn")) := let ⟨_, X, G⟩ := T.ns; He.glo_ok X G (T.d.fact 35 (f := .glo "_law_turn") rfl)
theorem TX.g_law_wired (T : TX K mg) : mg "_law_wired" = some (.ref (He.ga K "_law_wired")) := let ⟨_, X, G⟩ := T.ns; He.glo_ok X G (T.d.fact 36 (f := .glo "_law_wired") rfl)
theorem TX.g_law_toggled (T : TX K mg) : mg "_law_toggled" = some (.ref (He.ga K "_law_toggled")) := let ⟨_, X, G⟩ := T.ns; He.glo_ok X G (T.d.fact 37 (f := .glo "_law_toggled") rfl)
theorem TX.g_law_near (T : TX K mg) : mg "_law_near" = some (.ref (He.ga K "_law_near")) := let ⟨_, X, G⟩ := T.ns; He.glo_ok X G (T.d.fact 38 (f := .glo "_law_near") rfl)
theorem TX.g_law_is_free (T : TX K mg) : mg "_law_is_free" = some (.ref (He.ga K "_law_is_free")) := let ⟨_, X, G⟩ := T.ns; He.glo_ok X G (T.d.fact 39 (f := .glo "_law_is_free") rfl)
theorem TX.g_law_may (T : TX K mg) : mg "_law_may" = some (.ref (He.ga K "_law_may")) := let ⟨_, X, G⟩ := T.ns; He.glo_ok X G (T.d.fact 40 (f := .glo "_law_may") rfl)
theorem TX.g_law_made (T : TX K mg) : mg "_law_made" = some (.ref (He.ga K "_law_made")) := let ⟨_, X, G⟩ := T.ns; He.glo_ok X G (T.d.fact 41 (f := .glo "_law_made") rfl)
theorem TX.g_law_parts (T : TX K mg) : mg "_law_parts" = some (.ref (He.ga K "_law_parts")) := let ⟨_, X, G⟩ := T.ns; He.glo_ok X G (T.d.fact 42 (f := .glo "_law_parts") rfl)
theorem TX.g_law_turned (T : TX K mg) : mg "_law_turned" = some (.ref (He.ga K "_law_turned")) := let ⟨_, X, G⟩ := T.ns; He.glo_ok X G (T.d.fact 43 (f := .glo "_law_turned") rfl)
theorem TX.g_law_times (T : TX K mg) : mg "_law_times" = some (.ref (He.ga K "_law_times")) := let ⟨_, X, G⟩ := T.ns; He.glo_ok X G (T.d.fact 44 (f := .glo "_law_times") rfl)
theorem TX.g_law_end (T : TX K mg) : mg "_law_end" = some (.ref (He.ga K "_law_end")) := let ⟨_, X, G⟩ := T.ns; He.glo_ok X G (T.d.fact 45 (f := .glo "_law_end") rfl)
theorem TX.g_law_are_alike (T : TX K mg) : mg "_law_are_alike" = some (.ref (He.ga K "_law_are_alike")) := let ⟨_, X, G⟩ := T.ns; He.glo_ok X G (T.d.fact 46 (f := .glo "_law_are_alike") rfl)
theorem TX.g_law_spread (T : TX K mg) : mg "_law_spread" = some (.ref (He.ga K "_law_spread")) := let ⟨_, X, G⟩ := T.ns; He.glo_ok X G (T.d.fact 47 (f := .glo "_law_spread") rfl)
theorem TX.g_law_steps (T : TX K mg) : mg "_law_steps" = some (.ref (He.ga K "_law_steps")) := let ⟨_, X, G⟩ := T.ns; He.glo_ok X G (T.d.fact 48 (f := .glo "_law_steps") rfl)
theorem TX.g_law_goes_right (T : TX K mg) : mg "_law_goes_right" = some (.ref (He.ga K "_law_goes_right")) := let ⟨_, X, G⟩ := T.ns; He.glo_ok X G (T.d.fact 49 (f := .glo "_law_goes_right") rfl)
theorem TX.g_law (T : TX K mg) : mg "law" = some (.ref (He.ga K "law")) := let ⟨_, X, G⟩ := T.ns; He.glo_ok X G (T.d.fact 50 (f := .glo "law") rfl)
theorem TX.g_Net (T : TX K mg) : mg "Net" = some (.ref (He.ga K "Net")) := let ⟨_, X, G⟩ := T.ns; He.glo_ok X G (T.d.fact 51 (f := .glo "Net") rfl)
theorem TX.g_Paper (T : TX K mg) : mg "Paper" = some (.ref (He.ga K "Paper")) := let ⟨_, X, G⟩ := T.ns; He.glo_ok X G (T.d.fact 52 (f := .glo "Paper") rfl)
theorem TX.g_Lesser (T : TX K mg) : mg "Lesser" = some (.ref (He.ga K "Lesser")) := let ⟨_, X, G⟩ := T.ns; He.glo_ok X G (T.d.fact 53 (f := .glo "Lesser") rfl)
theorem TX.g_QUARTERS (T : TX K mg) : mg "QUARTERS" = some (.ref (He.ga K "QUARTERS")) := let ⟨_, X, G⟩ := T.ns; He.glo_ok X G (T.d.fact 54 (f := .glo "QUARTERS") rfl)
theorem TX.g_HALVES (T : TX K mg) : mg "HALVES" = some (.ref (He.ga K "HALVES")) := let ⟨_, X, G⟩ := T.ns; He.glo_ok X G (T.d.fact 55 (f := .glo "HALVES") rfl)
theorem TX.g_BadNumber (T : TX K mg) : mg "BadNumber" = some (.ref (He.ga K "BadNumber")) := let ⟨_, X, G⟩ := T.ns; He.glo_ok X G (T.d.fact 56 (f := .glo "BadNumber") rfl)
theorem TX.g_BadNet (T : TX K mg) : mg "BadNet" = some (.ref (He.ga K "BadNet")) := let ⟨_, X, G⟩ := T.ns; He.glo_ok X G (T.d.fact 57 (f := .glo "BadNet") rfl)
theorem TX.g_Misfit (T : TX K mg) : mg "Misfit" = some (.ref (He.ga K "Misfit")) := let ⟨_, X, G⟩ := T.ns; He.glo_ok X G (T.d.fact 58 (f := .glo "Misfit") rfl)
theorem TX.f_isinstance (T : TX K mg) : mg "isinstance" = none := let ⟨_, X, G⟩ := T.ns; He.free_ok X G (T.d.fact 59 (f := .free "isinstance") rfl)
theorem TX.f_int (T : TX K mg) : mg "int" = none := let ⟨_, X, G⟩ := T.ns; He.free_ok X G (T.d.fact 60 (f := .free "int") rfl)
theorem TX.f_bool (T : TX K mg) : mg "bool" = none := let ⟨_, X, G⟩ := T.ns; He.free_ok X G (T.d.fact 61 (f := .free "bool") rfl)
theorem TX.f_list (T : TX K mg) : mg "list" = none := let ⟨_, X, G⟩ := T.ns; He.free_ok X G (T.d.fact 62 (f := .free "list") rfl)
theorem TX.f_tuple (T : TX K mg) : mg "tuple" = none := let ⟨_, X, G⟩ := T.ns; He.free_ok X G (T.d.fact 63 (f := .free "tuple") rfl)
theorem TX.f_dict (T : TX K mg) : mg "dict" = none := let ⟨_, X, G⟩ := T.ns; He.free_ok X G (T.d.fact 64 (f := .free "dict") rfl)
theorem TX.f_len (T : TX K mg) : mg "len" = none := let ⟨_, X, G⟩ := T.ns; He.free_ok X G (T.d.fact 65 (f := .free "len") rfl)
theorem TX.f_set (T : TX K mg) : mg "set" = none := let ⟨_, X, G⟩ := T.ns; He.free_ok X G (T.d.fact 66 (f := .free "set") rfl)
theorem TX.f_all (T : TX K mg) : mg "all" = none := let ⟨_, X, G⟩ := T.ns; He.free_ok X G (T.d.fact 67 (f := .free "all") rfl)
theorem TX.f_any (T : TX K mg) : mg "any" = none := let ⟨_, X, G⟩ := T.ns; He.free_ok X G (T.d.fact 68 (f := .free "any") rfl)
theorem TX.f_sorted (T : TX K mg) : mg "sorted" = none := let ⟨_, X, G⟩ := T.ns; He.free_ok X G (T.d.fact 69 (f := .free "sorted") rfl)
theorem TX.f_range (T : TX K mg) : mg "range" = none := let ⟨_, X, G⟩ := T.ns; He.free_ok X G (T.d.fact 70 (f := .free "range") rfl)
theorem TX.f_min (T : TX K mg) : mg "min" = none := let ⟨_, X, G⟩ := T.ns; He.free_ok X G (T.d.fact 71 (f := .free "min") rfl)
theorem TX.f_max (T : TX K mg) : mg "max" = none := let ⟨_, X, G⟩ := T.ns; He.free_ok X G (T.d.fact 72 (f := .free "max") rfl)
theorem TX.f_enumerate (T : TX K mg) : mg "enumerate" = none := let ⟨_, X, G⟩ := T.ns; He.free_ok X G (T.d.fact 73 (f := .free "enumerate") rfl)
theorem TX.f_zip (T : TX K mg) : mg "zip" = none := let ⟨_, X, G⟩ := T.ns; He.free_ok X G (T.d.fact 74 (f := .free "zip") rfl)
theorem TX.f_sum (T : TX K mg) : mg "sum" = none := let ⟨_, X, G⟩ := T.ns; He.free_ok X G (T.d.fact 75 (f := .free "sum") rfl)
theorem TX.f_abs (T : TX K mg) : mg "abs" = none := let ⟨_, X, G⟩ := T.ns; He.free_ok X G (T.d.fact 76 (f := .free "abs") rfl)
theorem TX.f_super (T : TX K mg) : mg "super" = none := let ⟨_, X, G⟩ := T.ns; He.free_ok X G (T.d.fact 77 (f := .free "super") rfl)
theorem TX.i_TURNS (T : TX K mg) : ∃ t, mg "TURNS" = some (.int 8 t) := let ⟨_, X, G⟩ := T.ns; He.int_ok X G (T.d.fact 78 (f := .int "TURNS" 8) rfl)
theorem TX.i_MOST_THINGS (T : TX K mg) : ∃ t, mg "MOST_THINGS" = some (.int 120 t) := let ⟨_, X, G⟩ := T.ns; He.int_ok X G (T.d.fact 79 (f := .int "MOST_THINGS" 120) rfl)
theorem TX.c_Net (T : TX K mg) : Cls K (He.ga K "Net") := He.cls_ok (T.d.fact 80 (f := .cls "Net") rfl)
theorem TX.c_Lesser (T : TX K mg) : Cls K (He.ga K "Lesser") := He.cls_ok (T.d.fact 81 (f := .cls "Lesser") rfl)
theorem TX.m_Net (T : TX K mg) : Mk K (He.ga K "Net") (He.ma K (He.ga K "Net") "__init__") := He.mkr_ok (T.d.fact 82 (f := .mkr "Net") rfl)
theorem TX.m_Lesser (T : TX K mg) : Mk K (He.ga K "Lesser") (He.ma K (He.ga K "Lesser") "__init__") := He.mkr_ok (T.d.fact 83 (f := .mkr "Lesser") rfl)
theorem TX.k_Net (T : TX K mg) : PySem.W.keepIn K (.ref (He.ga K "Net")) = true := He.keep_ok (T.d.fact 84 (f := .keep "Net") rfl)
theorem TX.k_Lesser (T : TX K mg) : PySem.W.keepIn K (.ref (He.ga K "Lesser")) = true := He.keep_ok (T.d.fact 85 (f := .keep "Lesser") rfl)
theorem TX.n_Net_things (T : TX K mg) : NoAttr K (He.ga K "Net") "things" := He.noat_ok (T.d.fact 86 (f := .noat "Net" "things") rfl)
theorem TX.n_Net_strings (T : TX K mg) : NoAttr K (He.ga K "Net") "strings" := He.noat_ok (T.d.fact 87 (f := .noat "Net" "strings") rfl)
theorem TX.n_Net_given (T : TX K mg) : NoAttr K (He.ga K "Net") "given" := He.noat_ok (T.d.fact 88 (f := .noat "Net" "given") rfl)
theorem TX.n_Net_kept (T : TX K mg) : NoAttr K (He.ga K "Net") "kept" := He.noat_ok (T.d.fact 89 (f := .noat "Net" "kept") rfl)
theorem TX.n_Net_looked (T : TX K mg) : NoAttr K (He.ga K "Net") "looked" := He.noat_ok (T.d.fact 90 (f := .noat "Net" "looked") rfl)
theorem TX.n_Net_turns (T : TX K mg) : NoAttr K (He.ga K "Net") "turns" := He.noat_ok (T.d.fact 91 (f := .noat "Net" "turns") rfl)
theorem TX.n_Lesser_word (T : TX K mg) : NoAttr K (He.ga K "Lesser") "word" := He.noat_ok (T.d.fact 92 (f := .noat "Lesser" "word") rfl)
theorem TX.n_Lesser_parts (T : TX K mg) : NoAttr K (He.ga K "Lesser") "parts" := He.noat_ok (T.d.fact 93 (f := .noat "Lesser" "parts") rfl)
theorem TX.n_Lesser_steps (T : TX K mg) : NoAttr K (He.ga K "Lesser") "steps" := He.noat_ok (T.d.fact 94 (f := .noat "Lesser" "steps") rfl)
theorem TX.n_Lesser_net (T : TX K mg) : NoAttr K (He.ga K "Lesser") "net" := He.noat_ok (T.d.fact 95 (f := .noat "Lesser" "net") rfl)
theorem TX.d_is_integer (T : TX K mg) : ∃ f, FunD K "is_integer" "is_integer" (defArgs s_is_integer) (defBody s_is_integer) (defScope s_is_integer) [] [] (He.ga K "is_integer") f := T.d.def_ 0 (d := K50.d_is_integer) rfl
theorem TX.d_is_within (T : TX K mg) : ∃ f, FunD K "is_within" "is_within" (defArgs s_is_within) (defBody s_is_within) (defScope s_is_within) [] [] (He.ga K "is_within") f := T.d.def_ 1 (d := K50.d_is_within) rfl
theorem TX.d_is_turn (T : TX K mg) : ∃ f, FunD K "is_turn" "is_turn" (defArgs s_is_turn) (defBody s_is_turn) (defScope s_is_turn) [] [] (He.ga K "is_turn") f := T.d.def_ 2 (d := K50.d_is_turn) rfl
theorem TX.d_is_lot (T : TX K mg) : ∃ f, FunD K "is_lot" "is_lot" (defArgs s_is_lot) (defBody s_is_lot) (defScope s_is_lot) [] [] (He.ga K "is_lot") f := T.d.def_ 3 (d := K50.d_is_lot) rfl
theorem TX.d_need_number (T : TX K mg) : ∃ f, FunD K "need_number" "need_number" (defArgs s_need_number) (defBody s_need_number) (defScope s_need_number) [] [] (He.ga K "need_number") f := T.d.def_ 4 (d := K50.d_need_number) rfl
theorem TX.d_pairs_in (T : TX K mg) : ∃ f, FunD K "pairs_in" "pairs_in" (defArgs s_pairs_in) (defBody s_pairs_in) (defScope s_pairs_in) [] [] (He.ga K "pairs_in") f := T.d.def_ 5 (d := K50.d_pairs_in) rfl
theorem TX.d_is_things (T : TX K mg) : ∃ f, FunD K "is_things" "is_things" (defArgs s_is_things) (defBody s_is_things) (defScope s_is_things) [] [] (He.ga K "is_things") f := T.d.def_ 6 (d := K50.d_is_things) rfl
theorem TX.d_is_string (T : TX K mg) : ∃ f, FunD K "is_string" "is_string" (defArgs s_is_string) (defBody s_is_string) (defScope s_is_string) [] [] (He.ga K "is_string") f := T.d.def_ 7 (d := K50.d_is_string) rfl
theorem TX.d_strings_from (T : TX K mg) : ∃ f, FunD K "strings_from" "strings_from" (defArgs s_strings_from) (defBody s_strings_from) (defScope s_strings_from) [] [] (He.ga K "strings_from") f := T.d.def_ 8 (d := K50.d_strings_from) rfl
theorem TX.d_things_from (T : TX K mg) : ∃ f, FunD K "things_from" "things_from" (defArgs s_things_from) (defBody s_things_from) (defScope s_things_from) [] [] (He.ga K "things_from") f := T.d.def_ 9 (d := K50.d_things_from) rfl
theorem TX.d_turns_from (T : TX K mg) : ∃ f, FunD K "turns_from" "turns_from" (defArgs s_turns_from) (defBody s_turns_from) (defScope s_turns_from) [] [] (He.ga K "turns_from") f := T.d.def_ 10 (d := K50.d_turns_from) rfl
theorem TX.d_Net_init (T : TX K mg) : ∃ f, FunD K "__init__" "Net.__init__" (defArgs s_Net_init) (defBody s_Net_init) (defScope s_Net_init) [] [] (He.ma K (He.ga K "Net") "__init__") f := T.d.def_ 11 (d := K50.d_Net_init) rfl
theorem TX.d_need_net (T : TX K mg) : ∃ f, FunD K "need_net" "need_net" (defArgs s_need_net) (defBody s_need_net) (defScope s_need_net) [.str "net"] [] (He.ga K "need_net") f := T.d.def_ 12 (d := K50.d_need_net) rfl
theorem TX.d_near_in (T : TX K mg) : ∃ f, FunD K "near_in" "near_in" (defArgs s_near_in) (defBody s_near_in) (defScope s_near_in) [] [] (He.ga K "near_in") f := T.d.def_ 13 (d := K50.d_near_in) rfl
theorem TX.d_fixed (T : TX K mg) : ∃ f, FunD K "fixed" "fixed" (defArgs s_fixed) (defBody s_fixed) (defScope s_fixed) [] [] (He.ga K "fixed") f := T.d.def_ 14 (d := K50.d_fixed) rfl
theorem TX.d_Paper_init (T : TX K mg) : ∃ f, FunD K "__init__" "Paper.__init__" (defArgs s_Paper_init) (defBody s_Paper_init) (defScope s_Paper_init) [] [] (He.ma K (He.ga K "Paper") "__init__") f := T.d.def_ 15 (d := K50.d_Paper_init) rfl
theorem TX.d_need_thing (T : TX K mg) : ∃ f, FunD K "need_thing" "need_thing" (defArgs s_need_thing) (defBody s_need_thing) (defScope s_need_thing) [] [] (He.ga K "need_thing") f := T.d.def_ 16 (d := K50.d_need_thing) rfl
theorem TX.d_is_inner (T : TX K mg) : ∃ f, FunD K "is_inner" "is_inner" (defArgs s_is_inner) (defBody s_is_inner) (defScope s_is_inner) [] [] (He.ga K "is_inner") f := T.d.def_ 17 (d := K50.d_is_inner) rfl
theorem TX.d_is_quarter (T : TX K mg) : ∃ f, FunD K "is_quarter" "is_quarter" (defArgs s_is_quarter) (defBody s_is_quarter) (defScope s_is_quarter) [] [] (He.ga K "is_quarter") f := T.d.def_ 18 (d := K50.d_is_quarter) rfl
theorem TX.d_is_pair (T : TX K mg) : ∃ f, FunD K "is_pair" "is_pair" (defArgs s_is_pair) (defBody s_is_pair) (defScope s_is_pair) [] [] (He.ga K "is_pair") f := T.d.def_ 19 (d := K50.d_is_pair) rfl
theorem TX.d_between (T : TX K mg) : ∃ f, FunD K "between" "between" (defArgs s_between) (defBody s_between) (defScope s_between) [] [] (He.ga K "between") f := T.d.def_ 20 (d := K50.d_between) rfl
theorem TX.d_without (T : TX K mg) : ∃ f, FunD K "without" "without" (defArgs s_without) (defBody s_without) (defScope s_without) [] [] (He.ga K "without") f := T.d.def_ 21 (d := K50.d_without) rfl
theorem TX.d_quarter_in (T : TX K mg) : ∃ f, FunD K "quarter_in" "quarter_in" (defArgs s_quarter_in) (defBody s_quarter_in) (defScope s_quarter_in) [] [] (He.ga K "quarter_in") f := T.d.def_ 22 (d := K50.d_quarter_in) rfl
theorem TX.d_pair_in (T : TX K mg) : ∃ f, FunD K "pair_in" "pair_in" (defArgs s_pair_in) (defBody s_pair_in) (defScope s_pair_in) [] [] (He.ga K "pair_in") f := T.d.def_ 23 (d := K50.d_pair_in) rfl
theorem TX.d_first_step (T : TX K mg) : ∃ f, FunD K "first_step" "first_step" (defArgs s_first_step) (defBody s_first_step) (defScope s_first_step) [] [] (He.ga K "first_step") f := T.d.def_ 24 (d := K50.d_first_step) rfl
theorem TX.d_behind_step (T : TX K mg) : ∃ f, FunD K "behind_step" "behind_step" (defArgs s_behind_step) (defBody s_behind_step) (defScope s_behind_step) [] [] (He.ga K "behind_step") f := T.d.def_ 25 (d := K50.d_behind_step) rfl
theorem TX.d_may_quarter (T : TX K mg) : ∃ f, FunD K "may_quarter" "may_quarter" (defArgs s_may_quarter) (defBody s_may_quarter) (defScope s_may_quarter) [] [] (He.ga K "may_quarter") f := T.d.def_ 26 (d := K50.d_may_quarter) rfl
theorem TX.d_may_pair (T : TX K mg) : ∃ f, FunD K "may_pair" "may_pair" (defArgs s_may_pair) (defBody s_may_pair) (defScope s_may_pair) [] [] (He.ga K "may_pair") f := T.d.def_ 27 (d := K50.d_may_pair) rfl
theorem TX.d_quarter (T : TX K mg) : ∃ f, FunD K "quarter" "quarter" (defArgs s_quarter) (defBody s_quarter) (defScope s_quarter) [] [] (He.ga K "quarter") f := T.d.def_ 28 (d := K50.d_quarter) rfl
theorem TX.d_pair (T : TX K mg) : ∃ f, FunD K "pair" "pair" (defArgs s_pair) (defBody s_pair) (defScope s_pair) [] [] (He.ga K "pair") f := T.d.def_ 29 (d := K50.d_pair) rfl
theorem TX.d_lesser (T : TX K mg) : ∃ f, FunD K "lesser" "lesser" (defArgs s_lesser) (defBody s_lesser) (defScope s_lesser) [] [] (He.ga K "lesser") f := T.d.def_ 30 (d := K50.d_lesser) rfl
theorem TX.d_odd_in (T : TX K mg) : ∃ f, FunD K "odd_in" "odd_in" (defArgs s_odd_in) (defBody s_odd_in) (defScope s_odd_in) [] [] (He.ga K "odd_in") f := T.d.def_ 31 (d := K50.d_odd_in) rfl
theorem TX.d_law_ferry (T : TX K mg) : ∃ f, FunD K "_law_ferry" "_law_ferry" (defArgs s_law_ferry) (defBody s_law_ferry) (defScope s_law_ferry) [] [] (He.ga K "_law_ferry") f := T.d.def_ 32 (d := K50.d_law_ferry) rfl
theorem TX.d_law_cross (T : TX K mg) : ∃ f, FunD K "_law_cross" "_law_cross" (defArgs s_law_cross) (defBody s_law_cross) (defScope s_law_cross) [] [] (He.ga K "_law_cross") f := T.d.def_ 33 (d := K50.d_law_cross) rfl
theorem TX.d_law_pick (T : TX K mg) : ∃ f, FunD K "_law_pick" "_law_pick" (defArgs s_law_pick) (defBody s_law_pick) (defScope s_law_pick) [] [] (He.ga K "_law_pick") f := T.d.def_ 34 (d := K50.d_law_pick) rfl
theorem TX.d_law_mixed (T : TX K mg) : ∃ f, FunD K "_law_mixed" "_law_mixed" (defArgs s_law_mixed) (defBody s_law_mixed) (defScope s_law_mixed) [] [] (He.ga K "_law_mixed") f := T.d.def_ 35 (d := K50.d_law_mixed) rfl
theorem TX.d_law_drawn (T : TX K mg) : ∃ f, FunD K "_law_drawn" "_law_drawn" (defArgs s_law_drawn) (defBody s_law_drawn) (defScope s_law_drawn) [] [] (He.ga K "_law_drawn") f := T.d.def_ 36 (d := K50.d_law_drawn) rfl
theorem TX.d_law_turn (T : TX K mg) : ∃ f, FunD K "_law_turn" "_law_turn" (defArgs s_law_turn) (defBody s_law_turn) (defScope s_law_turn) [] [] (He.ga K "_law_turn") f := T.d.def_ 37 (d := K50.d_law_turn) rfl
theorem TX.d_law_wired (T : TX K mg) : ∃ f, FunD K "_law_wired" "_law_wired" (defArgs s_law_wired) (defBody s_law_wired) (defScope s_law_wired) [] [] (He.ga K "_law_wired") f := T.d.def_ 38 (d := K50.d_law_wired) rfl
theorem TX.d_law_toggled (T : TX K mg) : ∃ f, FunD K "_law_toggled" "_law_toggled" (defArgs s_law_toggled) (defBody s_law_toggled) (defScope s_law_toggled) [] [] (He.ga K "_law_toggled") f := T.d.def_ 39 (d := K50.d_law_toggled) rfl
theorem TX.d_law_near (T : TX K mg) : ∃ f, FunD K "_law_near" "_law_near" (defArgs s_law_near) (defBody s_law_near) (defScope s_law_near) [] [] (He.ga K "_law_near") f := T.d.def_ 40 (d := K50.d_law_near) rfl
theorem TX.d_law_is_free (T : TX K mg) : ∃ f, FunD K "_law_is_free" "_law_is_free" (defArgs s_law_is_free) (defBody s_law_is_free) (defScope s_law_is_free) [] [] (He.ga K "_law_is_free") f := T.d.def_ 41 (d := K50.d_law_is_free) rfl
theorem TX.d_law_may (T : TX K mg) : ∃ f, FunD K "_law_may" "_law_may" (defArgs s_law_may) (defBody s_law_may) (defScope s_law_may) [] [] (He.ga K "_law_may") f := T.d.def_ 42 (d := K50.d_law_may) rfl
theorem TX.d_law_made (T : TX K mg) : ∃ f, FunD K "_law_made" "_law_made" (defArgs s_law_made) (defBody s_law_made) (defScope s_law_made) [] [] (He.ga K "_law_made") f := T.d.def_ 43 (d := K50.d_law_made) rfl
theorem TX.d_law_parts (T : TX K mg) : ∃ f, FunD K "_law_parts" "_law_parts" (defArgs s_law_parts) (defBody s_law_parts) (defScope s_law_parts) [] [] (He.ga K "_law_parts") f := T.d.def_ 44 (d := K50.d_law_parts) rfl
theorem TX.d_law_turned (T : TX K mg) : ∃ f, FunD K "_law_turned" "_law_turned" (defArgs s_law_turned) (defBody s_law_turned) (defScope s_law_turned) [] [] (He.ga K "_law_turned") f := T.d.def_ 45 (d := K50.d_law_turned) rfl
theorem TX.d_law_times (T : TX K mg) : ∃ f, FunD K "_law_times" "_law_times" (defArgs s_law_times) (defBody s_law_times) (defScope s_law_times) [] [] (He.ga K "_law_times") f := T.d.def_ 46 (d := K50.d_law_times) rfl
theorem TX.d_law_end (T : TX K mg) : ∃ f, FunD K "_law_end" "_law_end" (defArgs s_law_end) (defBody s_law_end) (defScope s_law_end) [] [] (He.ga K "_law_end") f := T.d.def_ 47 (d := K50.d_law_end) rfl
theorem TX.d_law_are_alike (T : TX K mg) : ∃ f, FunD K "_law_are_alike" "_law_are_alike" (defArgs s_law_are_alike) (defBody s_law_are_alike) (defScope s_law_are_alike) [] [] (He.ga K "_law_are_alike") f := T.d.def_ 48 (d := K50.d_law_are_alike) rfl
theorem TX.d_law_spread (T : TX K mg) : ∃ f, FunD K "_law_spread" "_law_spread" (defArgs s_law_spread) (defBody s_law_spread) (defScope s_law_spread) [] [] (He.ga K "_law_spread") f := T.d.def_ 49 (d := K50.d_law_spread) rfl
theorem TX.d_law_steps (T : TX K mg) : ∃ f, FunD K "_law_steps" "_law_steps" (defArgs s_law_steps) (defBody s_law_steps) (defScope s_law_steps) [] [] (He.ga K "_law_steps") f := T.d.def_ 50 (d := K50.d_law_steps) rfl
theorem TX.d_law_goes_right (T : TX K mg) : ∃ f, FunD K "_law_goes_right" "_law_goes_right" (defArgs s_law_goes_right) (defBody s_law_goes_right) (defScope s_law_goes_right) [] [] (He.ga K "_law_goes_right") f := T.d.def_ 51 (d := K50.d_law_goes_right) rfl
theorem TX.d_law (T : TX K mg) : ∃ f, FunD K "law" "law" (defArgs s_law) (defBody s_law) (defScope s_law) [] [] (He.ga K "law") f := T.d.def_ 52 (d := K50.d_law) rfl
end
end K50
end
section
set_option Elab.async false
set_option linter.all false
set_option maxRecDepth 100000
set_option maxHeartbeats 4000000
/-! heaps that grow: what is kept; data that stands in a heap; comprehensions and loops in short -/
namespace K50
open PySem PySem.Spec PyProof.Rows L2

/-! ### what is kept -/
abbrev N0 : Addr → Prop := fun _ => False
/-- what never changes: tuples, what is known to the object -/
def Sol (u : HO) : Prop := (∃ xs, u = .tup xs) ∨ ∃ o v, u = .frz o v
theorem sol_lst {xs : List V} : ¬ Sol (.lst xs) := fun h => by rcases h with ⟨_, z⟩ | ⟨_, _, z⟩ <;> cases z
theorem sol_dK {xs : List (Key × V)} : ¬ Sol (.dK xs) := fun h => by rcases h with ⟨_, z⟩ | ⟨_, _, z⟩ <;> cases z
theorem sol_dT {xs : List (List Key × V)} : ¬ Sol (.dT xs) := fun h => by rcases h with ⟨_, z⟩ | ⟨_, _, z⟩ <;> cases z
theorem sol_ins {C dx : Addr} {fs : List (Str × V)} : ¬ Sol (.ins C dx fs) := fun h => by rcases h with ⟨_, z⟩ | ⟨_, _, z⟩ <;> cases z
theorem sol_tup {xs : List V} : Sol (.tup xs) := .inl ⟨xs, rfl⟩
theorem sol_frz {o : Obj} {u : HO} : Sol (.frz o u) := .inr ⟨o, u, rfl⟩
/-- all that was known is kept but for what F lets change; what is solid in any case -/
structure Kp (F : Addr → Prop) (H H' : Hp) : Prop where
  k : ∀ a o, ¬ F a → H a = some o → H' a = some o
  s : ∀ a u, Sol u → H a = some u → H' a = some u
section
variable {F G : Addr → Prop} {H H1 H2 H3 : Hp} {a p : Addr} {o u : HO}
theorem Kp.t (e : Kp F H H1) (a : Addr) (xs : List V) (h : H a = some (.tup xs)) : H1 a = some (.tup xs) := e.s a _ sol_tup h
theorem Kp.refl : Kp F H H := ⟨fun _ _ _ h => h, fun _ _ _ h => h⟩
theorem Kp.trans (x : Kp F H H1) (y : Kp F H1 H2) : Kp F H H2 := ⟨fun a o n h => y.k a o n (x.k a o n h), fun a xs n h => y.s a xs n (x.s a xs n h)⟩
theorem Kp.weak (x : Kp N0 H H1) : Kp F H H1 := ⟨fun a o _ h => x.k a o id h, x.s⟩
theorem Kp.sub (x : Kp F H H1) (h : ∀ a, F a → G a) : Kp G H H1 := ⟨fun a o n e => x.k a o (fun z => n (h a z)) e, x.s⟩
theorem Kp.new (h : H p = none) : Kp F H (upd H p o) := ⟨fun a u _ e => by rw [upd_ne (ne_of_none e h)]; exact e, fun a xs _ e => by rw [upd_ne (ne_of_none e h)]; exact e⟩
theorem Kp.back (e : Kp N0 H H1) (h : H1 p = none) : H p = none := by
  cases q : H p with
  | none => rfl
  | some o => rw [e.k p o id q] at h; cases h
/-- an object that H does not know may change -/
theorem Kp.mut (e : Kp F H H1) (h : H p = none) : Kp F H (upd H1 p o) :=
  ⟨fun a u n ha => by rw [upd_ne (ne_of_none ha h)]; exact e.k a u n ha, fun a xs n ha => by
    rw [upd_ne (ne_of_none ha h)]; exact e.s a xs n ha⟩
/-- one that F lets change -/
theorem Kp.mutF (e : Kp F H H1) (h : F p) (hp : H1 p = some u) (hu : ¬ Sol u) : Kp F H (upd H1 p o) :=
  ⟨fun a u n ha => by rw [upd_ne (fun z : a = p => n (by rw [z]; exact h))]; exact e.k a u n ha, fun a xs n ha => by
    have q := e.s a xs n ha
    have ne : a ≠ p := fun z => by rw [z, hp] at q; exact hu (by rw [Option.some.inj q]; exact n)
    rw [upd_ne ne]; exact q⟩
/-- behind a lock -/
theorem Kp.lock {b : Obj} (hp : H p = some u) (hu : ¬ Sol u) (e : Kp F (upd H p (.frz b u)) H1) : Kp F H (upd H1 p u) :=
  ⟨fun a v n ha => by
    by_cases z : a = p
    · rw [z] at ha ⊢; rw [upd_same]; rw [hp] at ha; exact ha
    · rw [upd_ne z]; exact e.k a v n (by rw [upd_ne z]; exact ha), fun a v n ha => by
    have ne : a ≠ p := fun z => by rw [z, hp] at ha; exact hu (by rw [Option.some.inj ha]; exact n)
    rw [upd_ne ne]; exact e.s a v n (by rw [upd_ne ne]; exact ha)⟩
theorem Kp.get (e : Kp F H H1) (n : ¬ F a) (h : H a = some o) : H1 a = some o := e.k a o n h
theorem Kp.get0 (e : Kp N0 H H1) (h : H a = some o) : H1 a = some o := e.k a o id h
theorem Kp.rd (e : Kp N0 H H1) (h : Rd H a u) : Rd H1 a u := by
  rcases h with h | ⟨o, h⟩
  · exact .inl (e.k _ _ id h)
  · exact .inr ⟨o, e.k _ _ id h⟩
theorem Kp.rdF (e : Kp F H H1) (n : ¬ F a) (h : Rd H a u) : Rd H1 a u := by
  rcases h with h | ⟨o, h⟩
  · exact .inl (e.k _ _ n h)
  · exact .inr ⟨o, e.k _ _ n h⟩
theorem Kp.sqlF {K : PySem.W.Frag} {xs : List V} (e : Kp F H H1) (n : ¬ F a) (h : SqL K H a xs) : SqL K H1 a xs := by
  rcases h with h | h
  · exact .inl (e.rdF n h)
  · exact .inr h
theorem Kp.sql {K : PySem.W.Frag} {xs : List V} (e : Kp N0 H H1) (h : SqL K H a xs) : SqL K H1 a xs := e.sqlF id h
theorem Kp.sqtF {K : PySem.W.Frag} {xs : List V} (e : Kp F H H1) (n : ¬ F a) (h : SqT K H a xs) : SqT K H1 a xs := by
  rcases h with h | h
  · exact .inl (e.rdF n h)
  · exact .inr h
theorem Kp.sqt {K : PySem.W.Frag} {xs : List V} (e : Kp N0 H H1) (h : SqT K H a xs) : SqT K H1 a xs := e.sqtF id h
/-- a list or a tuple -/
def SqA (K : PySem.W.Frag) (H : Hp) (a : Addr) (xs : List V) : Prop := SqL K H a xs ∨ SqT K H a xs
theorem Kp.sqaF {K : PySem.W.Frag} {xs : List V} (e : Kp F H H1) (n : ¬ F a) (h : SqA K H a xs) : SqA K H1 a xs := h.imp (e.sqlF n) (e.sqtF n)
theorem Kp.sqa {K : PySem.W.Frag} {xs : List V} (e : Kp N0 H H1) (h : SqA K H a xs) : SqA K H1 a xs := e.sqaF id h
/-- what a new object asks -/
theorem newO {o : HO} {Q : Addr → Hp → Prop} (h : ∀ p H', H p = none → Kp N0 H H' → H' p = some o → Q p H') : ∀ p, H p = none → Q p (upd H p o) :=
  fun p hp => h p _ hp (Kp.new hp) upd_same
end

/-! ### data -/
/-- what is solid alone is kept -/
def Tp (H H' : Hp) : Prop := ∀ a u, Sol u → H a = some u → H' a = some u
theorem Tp.refl {H : Hp} : Tp H H := fun _ _ _ h => h
theorem Tp.trans {H H1 H2 : Hp} (x : Tp H H1) (y : Tp H1 H2) : Tp H H2 := fun a xs n h => y a xs n (x a xs n h)
theorem Kp.tp {F : Addr → Prop} {H H' : Hp} (e : Kp F H H') : Tp H H' := e.s
theorem Tp.upd {H : Hp} {p : Addr} {o u : HO} (hp : H p = some u) (hu : ¬ Sol u) : Tp H (L2.upd H p o) := fun a xs n h => by
  have ne : a ≠ p := fun z => by rw [z, hp] at h; exact hu (by rw [Option.some.inj h]; exact n)
  rw [upd_ne ne]; exact h
theorem Tp.new {H : Hp} {p : Addr} {o : HO} (hp : H p = none) : Tp H (L2.upd H p o) := fun a xs _ h => by rw [upd_ne (ne_of_none h hp)]; exact h
/-- a tuple of these ints -/
def IsT (H : Hp) (v : V) (ns : List Int) : Prop := ∃ t, v = .ref t ∧ H t = some (.tup (ns.map V.int))
theorem IsT.mono {H H' : Hp} {v : V} {ns : List Int} (e : Tp H H') (h : IsT H v ns) : IsT H' v ns := let ⟨t, h1, h2⟩ := h; ⟨t, h1, e _ _ sol_tup h2⟩
theorem Paired.mono {α β : Type} {F G : α → β → Prop} (f : ∀ a b, F a b → G a b) {l₁ : List α} {l₂ : List β} (h : Paired F l₁ l₂) : Paired G l₁ l₂ := Paired.mapP h f
/-- rows of ints, each a tuple, by what they tell -/
abbrev Rw {α : Type} (enc : α → List Int) (H : Hp) (vs : List V) (xs : List α) : Prop := Paired (fun v x => IsT H v (enc x)) vs xs
section
variable {α : Type} {enc : α → List Int} {H H' : Hp} {vs ws : List V} {xs ys : List α} {v : V} {x : α}
theorem Rw.mono (e : Tp H H') (h : Rw enc H vs xs) : Rw enc H' vs xs := Paired.mono (fun _ _ h => h.mono e) h
theorem Rw.length (h : Rw enc H vs xs) : vs.length = xs.length := Paired.length h
theorem Rw.nil : Rw enc H [] ([] : List α) := Paired.nil
theorem Rw.append (h : Rw enc H vs xs) (g : Rw enc H ws ys) : Rw enc H (vs ++ ws) (xs ++ ys) := by
  induction h with
  | nil => exact g
  | cons r _ ih => exact Paired.cons r ih
theorem Rw.snoc (h : Rw enc H vs xs) (hv : IsT H v (enc x)) : Rw enc H (vs ++ [v]) (xs ++ [x]) := h.append (Paired.cons hv .nil)
theorem Rw.get {i : Nat} (h : Rw enc H vs xs) (e : vs[i]? = some v) : ∃ x, xs[i]? = some x ∧ IsT H v (enc x) := by
  induction h generalizing i with
  | nil => simp at e
  | cons r _ ih =>
    cases i with
    | zero => simp at e; subst e; exact ⟨_, rfl, r⟩
    | succ i =>
      obtain ⟨x, h1, h2⟩ := ih (i := i) (by simpa using e)
      exact ⟨x, by simpa using h1, h2⟩
theorem Rw.get' {i : Nat} (h : Rw enc H vs xs) (e : xs[i]? = some x) : ∃ v, vs[i]? = some v ∧ IsT H v (enc x) := by
  have hi : i < vs.length := by rw [h.length]; exact (List.getElem?_eq_some_iff.mp e).1
  obtain ⟨y, h1, h2⟩ := h.get (i := i) (v := vs[i]) (by simp)
  rw [e] at h1; cases h1
  exact ⟨vs[i], by simp, h2⟩
theorem Rw.take (h : Rw enc H vs xs) (n : Nat) : Rw enc H (vs.take n) (xs.take n) := by
  induction h generalizing n with
  | nil => simp; exact .nil
  | cons r _ ih =>
    cases n with
    | zero => simp; exact .nil
    | succ n => simp only [List.take_succ_cons]; exact .cons r (ih n)
theorem Rw.drop (h : Rw enc H vs xs) (n : Nat) : Rw enc H (vs.drop n) (xs.drop n) := by
  induction h generalizing n with
  | nil => simp; exact .nil
  | cons r t ih =>
    cases n with
    | zero => simp only [List.drop_zero]; exact .cons r t
    | succ n => simp only [List.drop_succ_cons]; exact ih n
theorem Rw.perm {us ts : List V} (p : us.Perm ts) : ∀ {xs : List α}, Rw enc H ts xs → ∃ ys : List α, ys.Perm xs ∧ Rw enc H us ys := by
  induction p with
  | nil => intro xs h; cases h; exact ⟨[], .refl _, .nil⟩
  | cons a _ ih =>
    intro xs h
    cases h with
    | cons r t => obtain ⟨ys, h1, h2⟩ := ih t; exact ⟨_, h1.cons _, .cons r h2⟩
  | swap a b l =>
    intro xs h
    cases h with
    | cons r t => cases t with
      | cons r' t' => exact ⟨_, List.Perm.swap _ _ _, .cons r' (.cons r t')⟩
  | trans _ _ ih1 ih2 =>
    intro xs h
    obtain ⟨ys, h1, h2⟩ := ih2 h
    obtain ⟨zs, h3, h4⟩ := ih1 h2
    exact ⟨zs, h3.trans h1, h4⟩
end
/-- a pair of ints -/
def pr (p : Int × Int) : List Int := [p.1, p.2]
abbrev Prs : Hp → List V → List (Int × Int) → Prop := Rw pr
theorem map_int_get {ns : List Int} {i : Nat} {v : V} (h : (ns.map V.int)[i]? = some v) : ∃ n, ns[i]? = some n ∧ v = .int n := by
  rw [List.getElem?_map] at h
  cases e : ns[i]? with
  | none => rw [e] at h; cases h
  | some n => rw [e] at h; cases h; exact ⟨n, rfl, rfl⟩
end K50
end
section
set_option Elab.async false
set_option linter.all false
set_option maxRecDepth 100000
set_option maxHeartbeats 4000000
namespace K50
open PySem PySem.Spec L2
open PyProof.Rows (envOfC)

/-! ### a def of the text keeps its promise: by its name -/
theorem mkCal {P : Program} {w : World} {K : PySem.W.Frag} {mg : Str → Option Value} {base : Heap} {x : Str} {st : Stmt} {N ps : List Str} {k : Nat} {sp : Sp} {f : Addr}
    (g : mg x = some (.ref f)) (F : ∃ fd, FnP K x st f fd)
    (bind : ∀ (kV doc pm : Value) (an : Option Addr) (cdv ct : Value) (us : List Value), us.length = ps.length → bindArgs (PySem.W.fnOf x x (defArgs st) (defBody st) (defScope st) .none kV doc pm an cdv ct) ⟨us, []⟩ = pure (ps.zip us))
    (S : FnScope N ps (defScope st)) (len : ∀ vs H Q E, sp vs H Q E → vs.length = ps.length)
    (body : ∀ (cdv : Value) (A : Around) (outer : List Env) (s : Shared) (H : Hp) (vs : List V) (Q : VK) (E : XK), Room k (A.deeper (envOfC x (defScope st) s.heap.objs.size f cdv)) → sp vs H Q E →
      ∃ t, PSs (cxOf CX0 P w K mg base N x (defScope st) f cdv A outer s H E).nox (defBody st) t ∧ t { nx := fun _ H' => Q .non H', rt := Q } (start N vs) H) :
    C8.Cal P w K mg base (k + 1) x sp [] := by
  obtain ⟨fd, F⟩ := F
  refine ⟨⟨f, fd, ps, [], F.ok S len fun cdv A outer s H vs Q E hr h => ?_, g, F.kp, F.bindsN bind, .nil⟩⟩
  obtain ⟨t, ht, hq⟩ := body cdv A outer s H vs Q E hr h
  exact ⟨t, ht.nox, hq⟩

/-! ### comprehensions: P tells of the turn, of what was made, of the heap (by its tuples) -/
section
variable {K : PySem.W.Frag} {a : Addr} {xs : List V} {g : TG} {tt : TT} {te : TE} {vs : List Nat} {σ : St} {H1 : Hp} {D : Addr} {Qd : Hp → Prop} {F : Addr → Prop} {J : It} {n : Nat} {G : Hp → Prop} {Y : Nat → Hp → V → Hp → Prop}
/-- over anything that is walked -/
theorem lcW (w : Walk J n G Y) (F : Addr → Prop) (P : Nat → List V → Hp → Prop) (hD : H1 D = none) (nF : ¬ F D) (hn : n < 1000000) (hG : ∀ H, Kp F H1 H → G H)
    (h0 : ∀ H, Kp N0 H1 H → P 0 [] H) (mono : ∀ i ys H H', Tp H H' → P i ys H → P i ys H')
    (hs : ∀ i x ys H H' (Zy : V → Hp → Prop) (Zn : Hp → Prop), i < n → Y i H x H' → Kp F H1 H → H D = some (.lst ys) → P i ys H → ys.length ≤ i →
      (∀ y H4, Kp F H H4 → P (i + 1) (ys ++ [y]) H4 → Zy y H4) → (∀ H4, Kp F H H4 → P (i + 1) ys H4 → Zn H4) →
      g x (wipe σ vs) H' fun σ2 H2 => wipe σ2 vs = wipe σ vs ∧ tt σ2 H2 fun b H3 => if b = true then te σ2 H3 Zy else Zn H3)
    (hd : ∀ ys H, Kp F H1 H → H D = some (.lst ys) → P n ys H → Qd H) :
    ∃ W : Nat → Nat → Hp → Prop, (∃ m, W 0 m (upd H1 D (.lst []))) ∧ ∀ i m H, W i m H →
      (J.stop i H ∧ Qd H) ∨ (J.go i H ∧ ∃ Nx : Hp → Prop, (∀ H', Nx H' → ∃ m', m' < m ∧ W (i + 1) m' H') ∧ ∀ x H', J.yld i H x H' → g x (wipe σ vs) H' fun σ2 H2 => wipe σ2 vs = wipe σ vs ∧ tt σ2 H2 fun b H3 =>
        if b = true then te σ2 H3 fun y H4 => ∃ acc, H4 D = some (.lst acc) ∧ acc.length < sizeLine ∧ Nx (upd H4 D (.lst (acc ++ [y]))) else Nx H3) := by
  refine lc_it w (fun i H => ∃ ys, Kp F H1 H ∧ H D = some (.lst ys) ∧ P i ys H ∧ ys.length ≤ i)
    ⟨[], Kp.new hD, upd_same, h0 _ (Kp.new hD), Nat.le_refl _⟩ (fun i H _ ⟨_, k, _⟩ => hG H k) ?_ ?_
  · rintro i x H H' hi ⟨ys, k, hy, p, hl⟩ y
    refine hs i x ys H H' _ _ hi y k hy p hl (fun v H4 k4 p4 => ?_) (fun H4 k4 p4 => ?_)
    · have h4 := k4.k D _ nF hy
      refine ⟨ys, h4, ?_, ys ++ [v], ?_, upd_same, ?_, by simp; omega⟩
      · have e : sizeLine = 16777216 := rfl
        omega
      · have k5 := k.trans k4
        exact ⟨fun b o nb e => by rw [upd_ne (ne_of_none e hD)]; exact k5.k b o nb e, fun b zs n e => by rw [upd_ne (ne_of_none e hD)]; exact k5.s b zs n e⟩
      · exact mono _ _ _ _ (Tp.upd h4 sol_lst) p4
    · exact ⟨ys, k.trans k4, k4.k D _ nF hy, p4, by omega⟩
  · rintro H ⟨ys, k, hy, p, hl⟩
    exact hd ys H k hy p
end

/-- no test -/
theorem yesT {σ : L2.St} {H : Hp} {A B : Hp → Prop} (h : A H) : tYes σ H fun b H3 => if b = true then A H3 else B H3 := by
  show (if true = true then A H else B H)
  rw [if_pos rfl]
  exact h
/-! ### a list or a tuple that is tracked -/
def LT (H : Hp) (a : Addr) (xs : List V) : Prop := H a = some (.lst xs) ∨ H a = some (.tup xs)
theorem LT.mono {F : Addr → Prop} {H H' : Hp} {a : Addr} {xs : List V} (e : Kp F H H') (n : ¬ F a) (h : LT H a xs) : LT H' a xs := h.imp (e.k _ _ n) (e.k _ _ n)
theorem LT.sqa {K : PySem.W.Frag} {H : Hp} {a : Addr} {xs : List V} (h : LT H a xs) : SqA K H a xs := h.imp SqL.of SqT.of
theorem LT.kit {K : PySem.W.Frag} {H : Hp} {a : Addr} {xs : List V} (h : LT H a xs) : ∃ t, TyX K H (.ref a) t ∧ PySem.W.kitAny K t [.type "list", .type "tuple"] = some true := by
  rcases h with h | h
  · exact ⟨_, .base (.lst h), kitAny_cons (kit_ty (by decide +kernel : kitB "list" "list" = some true)) (fun z => nomatch z) fun _ => rfl⟩
  · exact ⟨_, .base (.tup h), kitAny_cons (kit_ty (by decide +kernel : kitB "tuple" "list" = some false)) (fun _ => kitAny_cons (kit_ty (by decide +kernel : kitB "tuple" "tuple" = some true)) (fun z => nomatch z) fun _ => rfl) fun z => nomatch z⟩
def iOr (w1 w2 : TI) : TI := fun σ H R => w1 σ H R ∨ w2 σ H R
theorem pi_or {X : Cx} {tg e : Expr} {w1 w2 : TI} (h1 : PI X tg e w1) (h2 : PI X tg e w2) : PI X tg e (iOr w1 w2) :=
  ⟨fun pins s σ H R I h => h.elim (h1.run pins s σ H R I) (h2.run pins s σ H R I)⟩
theorem iLT_of {K : PySem.W.Frag} {H : Hp} {σ : L2.St} {i : Nat} {a : Addr} {xs : List V} {R : It → Hp → Prop} (hv : σ[i]? = some (some (.ref a))) (h : LT H a xs)
    (k : ∀ J G, Walk J xs.length G (YAt xs) → (∀ F H', ¬ F a → Kp F H H' → G H') → R J H) : iOr (iList K (tVar i)) (iTup K (tVar i)) σ H R := by
  rcases h with h | h
  · exact .inl ⟨_, hv, a, rfl, ⟨xs, SqL.of h⟩, k _ _ (walk_list (K := K)) fun F H' n e => e.sqlF n (SqL.of h)⟩
  · exact .inr ⟨_, hv, a, rfl, ⟨xs, SqT.of h⟩, k _ _ (walk_tup (K := K)) fun F H' n e => e.sqtF n (SqT.of h)⟩

/-! ### the reading of a for: the word Pv as it stands -/
section
variable {K : PySem.W.Frag} {H H' : Hp} {a : Addr} {xs : List V}
theorem wkL {F : Addr → Prop} (nF : ¬ F a) (h : SqL K H a xs) : ∀ H', Kp F H H' → SqL K H' a xs := fun _ e => e.sqlF nF h
theorem wkT {F : Addr → Prop} (nF : ¬ F a) (h : SqT K H a xs) : ∀ H', Kp F H H' → SqT K H' a xs := fun _ e => e.sqtF nF h
end

end K50
end
section
set_option Elab.async false
set_option linter.all false
set_option maxRecDepth 100000
set_option maxHeartbeats 4000000
/-! nets as data, and as they stand in a heap -/
namespace K50
open PySem PySem.Spec L2
/-- a net's data: its size, its strings (edges), the given, the kept, the looked-at things, the turns -/
structure Nt where
  sz : Int
  ed : List (Int × Int)
  gi : List Int
  ke : List Int
  lo : List Int
  tu : List (Int × Int)
abbrev NetC (K : PySem.W.Frag) : Addr := He.ga K "Net"
def netFs (n : Int) (a1 a2 a3 a4 a5 : Addr) : List (Str × V) := [("things", .int n), ("strings", .ref a1), ("given", .ref a2), ("kept", .ref a3), ("looked", .ref a4), ("turns", .ref a5)]
section
variable {n : Int} {a1 a2 a3 a4 a5 : Addr}
theorem lk_hd {f : Str} {v : V} {r : List (Str × V)} : ((f, v) :: r).lookup f = some v := by simp [List.lookup]
theorem lk_tl {f g : Str} {v : V} {r : List (Str × V)} (h : (f == g) = false) : ((g, v) :: r).lookup f = r.lookup f := by simp [List.lookup, h]
theorem fs_things : (netFs n a1 a2 a3 a4 a5).lookup ("things" : Str) = some (.int n) := lk_hd
theorem fs_strings : (netFs n a1 a2 a3 a4 a5).lookup ("strings" : Str) = some (.ref a1) := by
  unfold netFs; rw [lk_tl (by decide +kernel)]; exact lk_hd
theorem fs_given : (netFs n a1 a2 a3 a4 a5).lookup ("given" : Str) = some (.ref a2) := by
  unfold netFs; rw [lk_tl (by decide +kernel), lk_tl (by decide +kernel)]; exact lk_hd
theorem fs_kept : (netFs n a1 a2 a3 a4 a5).lookup ("kept" : Str) = some (.ref a3) := by
  unfold netFs; rw [lk_tl (by decide +kernel), lk_tl (by decide +kernel), lk_tl (by decide +kernel)]; exact lk_hd
theorem fs_looked : (netFs n a1 a2 a3 a4 a5).lookup ("looked" : Str) = some (.ref a4) := by
  unfold netFs; rw [lk_tl (by decide +kernel), lk_tl (by decide +kernel), lk_tl (by decide +kernel), lk_tl (by decide +kernel)]; exact lk_hd
theorem fs_turns : (netFs n a1 a2 a3 a4 a5).lookup ("turns" : Str) = some (.ref a5) := by
  unfold netFs; rw [lk_tl (by decide +kernel), lk_tl (by decide +kernel), lk_tl (by decide +kernel), lk_tl (by decide +kernel), lk_tl (by decide +kernel)]; exact lk_hd
end
/-- the net N stands at p, its parts at these places -/
structure NetP (K : PySem.W.Frag) (H : Hp) (p : Addr) (N : Nt) (dx a1 a2 a3 a4 a5 : Addr) (vs ts : List V) (ob : Obj) : Prop where
  o : H p = some (.ins (NetC K) dx (netFs N.sz a1 a2 a3 a4 a5))
  h1 : H a1 = some (.tup vs)
  r1 : Prs H vs N.ed
  h2 : H a2 = some (.tup (N.gi.map V.int))
  h3 : H a3 = some (.tup (N.ke.map V.int))
  h4 : H a4 = some (.tup (N.lo.map V.int))
  h5 : H a5 = some (.frz ob (.tup ts))
  d5 : ob.dict = none
  r5 : Prs H ts N.tu
def NetAt (K : PySem.W.Frag) (H : Hp) (p : Addr) (N : Nt) : Prop := ∃ dx a1 a2 a3 a4 a5 vs ts ob, NetP K H p N dx a1 a2 a3 a4 a5 vs ts ob
section
variable {K : PySem.W.Frag} {H H' : Hp} {p dx a1 a2 a3 a4 a5 : Addr} {N : Nt} {vs ts : List V} {ob : Obj} {F : Addr → Prop}
theorem NetP.monoF (e : Kp F H H') (n : ¬ F p) (x : NetP K H p N dx a1 a2 a3 a4 a5 vs ts ob) : NetP K H' p N dx a1 a2 a3 a4 a5 vs ts ob :=
  ⟨e.k _ _ n x.o, e.t _ _ x.h1, x.r1.mono e.tp, e.t _ _ x.h2, e.t _ _ x.h3, e.t _ _ x.h4, e.s _ _ sol_frz x.h5, x.d5, x.r5.mono e.tp⟩
theorem NetP.mono (e : Kp N0 H H') (x : NetP K H p N dx a1 a2 a3 a4 a5 vs ts ob) : NetP K H' p N dx a1 a2 a3 a4 a5 vs ts ob := x.monoF e id
theorem NetAt.monoF (e : Kp F H H') (n : ¬ F p) (x : NetAt K H p N) : NetAt K H' p N := let ⟨_, _, _, _, _, _, _, _, _, y⟩ := x; ⟨_, _, _, _, _, _, _, _, _, y.monoF e n⟩
theorem NetAt.mono (e : Kp N0 H H') (x : NetAt K H p N) : NetAt K H' p N := x.monoF e id
/-- what a field's reading asks -/
theorem NetP.q {f : Str} {v : V} {Q : VK} {mg : Str → Option Value} (x : NetP K H p N dx a1 a2 a3 a4 a5 vs ts ob) (c : Cls K (NetC K)) (na : NoAttr K (NetC K) f) (l : (netFs N.sz a1 a2 a3 a4 a5).lookup f = some v) (q : Q v H) :
    ∃ a C dx fs v, V.ref p = .ref a ∧ H a = some (.ins C dx fs) ∧ Cls K C ∧ NoAttr K C f ∧ fs.lookup f = some v ∧ Q v H := ⟨p, _, dx, _, v, rfl, x.o, c, na, l, q⟩
end
/-- whole numbers from 0 on, below n -/
def rg (n : Int) : List Int := (List.range n.toNat).map Int.ofNat
theorem mem_rg {n i : Int} : i ∈ rg n ↔ 0 ≤ i ∧ i < n := by
  unfold rg
  simp only [List.mem_map, List.mem_range]
  constructor
  · rintro ⟨j, hj, rfl⟩
    exact ⟨Int.natCast_nonneg j, by show (j : Int) < n; omega⟩
  · rintro ⟨h1, h2⟩
    exact ⟨i.toNat, by omega, by show (i.toNat : Int) = i; omega⟩
theorem rg_nodup {n : Int} : (rg n).Nodup := by
  unfold rg
  refine List.Pairwise.map _ (fun a b h e => h ?_) List.nodup_range
  exact Int.ofNat.inj e
theorem rg_sorted {n : Int} : (rg n).Pairwise (· ≤ ·) := by
  unfold rg
  refine List.Pairwise.map _ (fun a b h => ?_) List.pairwise_le_range
  show (a : Int) ≤ (b : Int)
  omega
/-- a net that may stand -/
structure Nt.Ok (N : Nt) : Prop where
  n1 : 1 ≤ N.sz
  n7 : N.sz ≤ 7
  ed : ∀ p ∈ N.ed, 0 ≤ p.1 ∧ p.1 < p.2 ∧ p.2 < N.sz
  edN : N.ed.Nodup
  gi : ∀ g ∈ N.gi, 0 ≤ g ∧ g < N.sz
  giN : N.gi.Nodup
  ke : ∀ g ∈ N.ke, 0 ≤ g ∧ g < N.sz
  keN : N.ke.Nodup
  lo : N.lo = (rg N.sz).filter fun t => !N.ke.contains t
  tu : (N.tu.map (·.1)).Perm N.lo
  tv : ∀ p ∈ N.tu, 0 ≤ p.2 ∧ p.2 ≤ 7
end K50
end
section
set_option Elab.async false
set_option linter.all false
set_option maxRecDepth 100000
set_option maxHeartbeats 4000000
/-! rules that the layer lacks: len(set(..)) of a list or tuple of ints, of a list of tuples of ints; dict(a tuple of pairs); sorted(a tuple of two ints) -/
namespace K50
open PySem PySem.Spec L2

theorem nodup_le {α : Type} [DecidableEq α] : ∀ {l m : List α}, l.Nodup → (∀ x ∈ l, x ∈ m) → l.length ≤ m.length
  | [], _, _, _ => Nat.zero_le _
  | x :: l, m, nd, h => by
    have hx : x ∈ m := h x (List.mem_cons_self ..)
    obtain ⟨nx, nl⟩ := List.nodup_cons.mp nd
    have q := nodup_le (l := l) (m := m.erase x) nl fun y hy => (List.mem_erase_of_ne (fun e => nx (by rw [← e]; exact hy))).mpr (h y (List.mem_cons_of_mem _ hy))
    rw [List.length_erase_of_mem hx] at q
    have : 0 < m.length := List.length_pos_of_mem hx
    rw [List.length_cons]
    omega
theorem nodup_eq {α : Type} [DecidableEq α] {l m : List α} (h1 : l.Nodup) (h2 : m.Nodup) (h : ∀ x, x ∈ l ↔ x ∈ m) : l.length = m.length :=
  Nat.le_antisymm (nodup_le h1 fun x hx => (h x).mp hx) (nodup_le h2 fun x hx => (h x).mpr hx)

section
variable {X : Cx}
/-- len(set(x)), x a list or a tuple of unlike ints -/
def tLenSetA (K : PySem.W.Frag) (ta : TE) : TE := fun σ H Q => ta σ H fun x H1 => ∃ (l : Addr) (ns : List Int), x = V.ref l ∧ SqA K H1 l (ns.map V.int) ∧ ns.length < 64 ∧ ns.Nodup ∧ Q (.int ns.length) H1
theorem pe_lenSetA {a : Expr} {ta : TE} {p p2 q pos : Pos} (hg : Gl X "len") (hm : X.mg "len" = none) (hg2 : Gl X "set") (hm2 : X.mg "set" = none) (ha : PE X a ta) (hc : X.calm = true := by rfl)
    (na : starEach [a] X.env = (false, eval a X.env) :: starEach [] X.env := by rfl) : PE X (.Call (.Name "len" p) [.Call (.Name "set" p2) [a] [] q] [] pos) (tLenSetA X.K ta) := by
  refine ⟨fun pins s σ H Q I h => ?_⟩
  refine PyProof.Rows.Call_ (ld_blt I hg hm (u := .builtin "len") (by decide +kernel) ?_)
  refine PyProof.Rows.callWith_builtin1 (PyProof.Rows.args_cons ?_ rfl) rfl rfl
  refine PyProof.Rows.Call_ (ld_blt I hg2 hm2 (u := .type "set") (by decide +kernel) ?_)
  refine PyProof.Rows.callWith_type1 (PyProof.Rows.args_cons (thn (ha.run pins s σ H _ I h) fun v s1 ⟨x, H1, I1, r1, q1⟩ => PyProof.Rows.args_nil ?_) na) na rfl
  obtain ⟨l, ns, rfl, hq, hlt, hnd, q1⟩ := q1
  cases r1
  rcases hq with hq | hq
  · obtain ⟨its, r, pl, hz⟩ := I1.list hq
    have hlen : its.toArray.size = ns.length := by rw [List.size_toArray, ← r.length, List.length_map]
    refine PySem.call_set_list (I1.ok.hd hc) pl.isList (by simpa using RZ.intsAre_vals r) (by rw [hlen]; unfold scanBound; omega) fun h' tk hS hk => ?_
    refine PyProof.Rows.args_nil ?_
    rw [hlen, L2.firstMet_nodup ns hnd ns.length (Nat.le_refl _), List.take_length] at hS
    obtain ⟨o, es, ep, t, ho, hex, hd, _, _, _, hf, hn⟩ := hS
    have I2 : Inv X pins σ H1 { s1 with heap := h', toks := tk } := I1.kept fun b o e => hk b o (Heap.lt_size e) e
    exact call_len_set ho hex hd hf (by rw [hn] <;> omega) ⟨.int ns.length, H1, I2.tok _, ⟨_, by rw [hn]⟩, q1⟩
  · obtain ⟨its, r, ht, hz⟩ := I1.tuple hq
    have hr := RZ.intsAre_vals r
    refine call_set_tupI ns (I1.ok.hd hc) ht (by simpa using hr) (by unfold scanBound; omega) fun h' tk c hS hc2 hk => ?_
    refine PyProof.Rows.args_nil ?_
    obtain ⟨o, es, ep, t, ho, hex, hd, _, hkn, hks, _, hf, hn, _, _⟩ := hS
    have I2 : Inv X pins σ H1 { s1 with heap := h', toks := tk } := I1.kept fun b o e => hk b o e
    have e1 : es.size = ns.length := by
      have q := nodup_eq hkn hnd fun k => by rw [← hks k]; simp
      rw [List.length_map, Array.length_toList] at q
      exact q
    exact call_len_set ho hex hd hf (by rw [e1] <;> omega) ⟨.int ns.length, H1, I2.tok _, ⟨_, by rw [e1]⟩, q1⟩

/-! ### a list of tuples of ints: how many unlike ones -/
theorem rows_keys {H : Hp} {vs : List V} {xss : List (List Int)} (h : Rw id H vs xss) : ∃ ks : List (Addr × List Int), vs = ks.map (fun p => V.ref p.1) ∧ xss = ks.map (·.2) ∧ ∀ p ∈ ks, H p.1 = some (.tup (p.2.map V.int)) := by
  induction h with
  | nil => exact ⟨[], rfl, rfl, fun p hp => by cases hp⟩
  | cons r _ ih =>
    obtain ⟨ks, e1, e2, e3⟩ := ih
    obtain ⟨t, rfl, ht⟩ := r
    exact ⟨(t, _) :: ks, by rw [e1]; rfl, by rw [e2]; rfl, fun p hp => by
      rcases List.mem_cons.mp hp with rfl | hp
      · exact ht
      · exact e3 p hp⟩
def tLenSetP (ta : TE) : TE := fun σ H Q => ta σ H fun x H1 => ∃ (l : Addr) (vs : List V) (xss : List (List Int)), x = V.ref l ∧ H1 l = some (.lst vs) ∧ Rw id H1 vs xss ∧ vs.length < 64 ∧ xss.Nodup ∧ Q (.int vs.length) H1
theorem pe_lenSetP {a : Expr} {ta : TE} {p p2 q pos : Pos} (hu : X.A.units + 64 < cLine) (hg : Gl X "len") (hm : X.mg "len" = none) (hg2 : Gl X "set") (hm2 : X.mg "set" = none) (ha : PE X a ta) (hc : X.calm = true := by rfl)
    (na : starEach [a] X.env = (false, eval a X.env) :: starEach [] X.env := by rfl) : PE X (.Call (.Name "len" p) [.Call (.Name "set" p2) [a] [] q] [] pos) (tLenSetP ta) := by
  refine ⟨fun pins s σ H Q I h => ?_⟩
  refine PyProof.Rows.Call_ (ld_blt I hg hm (u := .builtin "len") (by decide +kernel) ?_)
  refine PyProof.Rows.callWith_builtin1 (PyProof.Rows.args_cons ?_ rfl) rfl rfl
  refine PyProof.Rows.Call_ (ld_blt I hg2 hm2 (u := .type "set") (by decide +kernel) ?_)
  refine PyProof.Rows.callWith_type1 (PyProof.Rows.args_cons (thn (ha.run pins s σ H _ I h) fun v s1 ⟨x, H1, I1, r1, q1⟩ => PyProof.Rows.args_nil ?_) na) na rfl
  obtain ⟨l, vs, xss, rfl, hl, hr, hlt, hnd, q1⟩ := q1
  cases r1
  obtain ⟨ks, rfl, rfl, hk⟩ := rows_keys hr
  rw [List.length_map] at hlt q1
  obtain ⟨its, rv, pl, hz⟩ := I1.list (SqL.of hl)
  refine call_set_tups (P := X.prog) (w := X.w) ks (I1.ok.hd hc) pl.isList (by simpa using refs_of_vals rv) (fun p hp => I1.isT (SqT.of (hk p hp))) hlt (by omega) fun h' tk L es ep t R g k => ?_
  refine PyProof.Rows.args_nil ?_
  obtain ⟨o, ho, hex, hd⟩ := R.ob
  have e0 : es.size = L.length := by
    have q := congrArg List.length R.rows
    unfold rowsOf at q
    rw [Array.length_toList, List.length_map] at q
    exact q
  have e1 : L.length = ks.length := by
    have q := nodup_eq R.nd hnd fun x => ⟨fun hx => by
      obtain ⟨p, hp, rfl⟩ := List.mem_map.mp hx
      exact List.mem_map.mpr ⟨p, List.mem_of_mem_take (g.sub p hp), rfl⟩, fun hx => by
      obtain ⟨p, hp, rfl⟩ := List.mem_map.mp hx
      exact g.all p (by rw [List.take_length]; exact hp)⟩
    simpa using q
  have I2 : Inv X pins σ H1 { s1 with heap := h', toks := tk } := I1.kept fun b o e => k b o e
  have hf : t.fits es.size = true := SetTR.fits (s := { s1 with heap := h', toks := tk }) R
  exact call_len_set ho hex hd hf (by rw [e0, e1] <;> omega) ⟨.int ks.length, H1, I2.tok _, ⟨_, by rw [e0, e1]⟩, q1⟩

/-! ### sorted(a tuple of ints) -/
theorem sorted_tupI {prog : Program} {w : World} {A : Around} {E : Value → Shared → Prop} {s : Shared} {l : Addr} {vs : List Value} {ns : List Int} {Q : Value → Shared → Prop} (hl : s.heap.IsTuple l vs.toArray) (hI : PyProof.Rows.IntsAre vs ns) (hL : vs.length ≤ sizeLine)
    (h : ∀ (h1 h' : Heap) (a : Addr) (out : Array Value) (ns' : List Int) (n : Nat), (∀ b o, s.heap.get? b = some o → h1.get? b = some o) → PyProof.Rows.IntsAre out.toList ns' → ns'.Perm ns → ns'.Pairwise (· ≤ ·) → h1.objs.size ≤ a →
      (∀ b o, h1.get? b = some o → h'.get? b = some o) → h'.get? a = some { cls := .type "list", data := .seq out n } → Q (.ref a) { s with heap := h' }) :
    wpAny (model prog w) A (call (.builtin "sorted") [.ref l]) Q E s := by
  obtain ⟨o, ho, hc, n, hd⟩ := hl
  refine Calls.call_function_entry PyProof.Rows.kind_sorted PyProof.Rows.plain_sorted PyProof.Rows.entry_sorted (PyProof.Rows.args_sorted1 _) ?_
  unfold Builtin.«sorted»
  refine wpAny_bind (m := checkCount "sorted" 1 1 _) (wpAny_pure ?_)
  refine wpAny_bind (wpAny_collect_seq l (.inr rfl) ho hc hd (fun h1 k1 => ?_) (by simpa using hL))
  refine wpAny_bind (wpAny_newList ?_ (by simpa using hL))
  have hoL : (h1.push { cls := .type "list", data := .seq vs.toArray.toList.toArray }).get? h1.objs.size = some (PyProof.Rows.seqObj "list" vs.toArray 0) := by
    have e : vs.toArray.toList.toArray = vs.toArray := by simp
    rw [e]
    exact Heap.get?_push_size _ rfl
  refine wpAny_bind (wpAny_holding (wpAny_call_entry PyProof.Rows.slot_list_sort ⟨_, hoL, rfl⟩ PyProof.Rows.entry_list_sort (PyProof.Rows.list_sort_treeAny hoL hI hL fun out ns' a b c => ⟨_, rfl, ?_⟩) (PyProof.Rows.args_list_sort _)))
  obtain ⟨e, he⟩ := PyProof.Rows.sortedHeap_at (out := out) hoL
  refine wpAny_pure ⟨_, rfl, h h1 _ _ out ns' e k1 a b c (Nat.le_refl _) (fun b o q1 => ?_) he⟩
  rw [PyProof.Rows.sortedHeap_old (Nat.ne_of_lt (Heap.lt_size q1)) (by rw [PyProof.Rows.size_push']; exact Nat.lt_succ_of_lt (Heap.lt_size q1))]
  exact Heap.get?_push_of_some _ q1
/-- sorted(t), t a tuple of ints -/
def rSortedTI (K : PySem.W.Frag) : List V → Hp → VK → Prop := fun vs H Q => ∃ (a : Addr) (ns : List Int), vs = [V.ref a] ∧ SqT K H a (ns.map V.int) ∧ ns.length < 64 ∧
  ∀ (ns' : List Int) (p : Addr), ns'.Perm ns → ns'.Pairwise (· ≤ ·) → H p = none → Q (.ref p) (upd H p (.lst (ns'.map V.int)))
theorem cr_sortedTI : CallR X (.builtin "sorted") (rSortedTI X.K) := by
  intro pins s σ H vs us Q I r h
  obtain ⟨a, ns, rfl, hs, h64, q⟩ := h
  obtain ⟨its, rv, ht, hz⟩ := I.tuple hs
  rw [Vals.ref1 r]
  have hi := RZ.intsAre_vals rv
  refine sorted_tupI ht hi (by have e := rv.length; omega) fun h1 h' b out ns' n k1 x1 x2 x3 hb k2 he => ?_
  have I1 : Inv X pins σ H { s with heap := h1 } := I.kept (t' := s.toks) k1
  have hlen : (ns'.map V.int).length ≤ sizeLine := by rw [List.length_map, x2.length_eq]; exact small64 h64
  exact ⟨.ref b, upd H b (.lst (ns'.map V.int)), I1.laid (t' := s.toks) k2 hb ⟨hlen, out.toList, n, vals_ints x1, he⟩, rfl, q ns' b x2 x3 (I1.hok.fresh hb)⟩
end
end K50
end
section
set_option Elab.async false
set_option linter.all false
set_option maxRecDepth 100000
set_option maxHeartbeats 4000000
/-! a tuple known to its object (so that dict(..) takes it); the module's dict QUARTERS -/
namespace K50
open PySem PySem.Spec L2
section
variable {X : Cx}
/-- tuple(xs), the tuple known to its object -/
def rTupZ (K : PySem.W.Frag) : List V → Hp → VK → Prop := fun xs H Q => ∃ p ys, xs = [.ref p] ∧ SqL K H p ys ∧ ∀ l o, H l = none → o.dict = none → Q (.ref l) (upd H l (.frz o (.tup ys)))
theorem cr_tupZ : CallR X (.type "tuple") (rTupZ X.K) := by
  intro pins s σ H xs us Q I r h
  obtain ⟨p, ys, rfl, hq, q⟩ := h
  obtain ⟨u, rfl, rx⟩ := vals1 r
  cases rx
  obtain ⟨its, r', pl, hz⟩ := I.list hq
  have hlen := r'.length
  refine call_tuple_list pl.isList (fun h' kp => ?_) (by simp only [List.size_toArray] <;> omega)
  have I1 : Inv X pins σ H { s with heap := h' } := I.kept (t' := s.toks) kp
  have new : (h'.push { cls := .type "tuple", data := .seq its.toArray }).get? h'.objs.size = some { cls := .type "tuple", data := .seq its.toArray } := Heap.get?_push_size _ rfl
  have I2 : Inv X pins σ (upd H h'.objs.size (.frz { cls := .type "tuple", data := .seq its.toArray } (.tup ys))) { s with heap := h'.push { cls := .type "tuple", data := .seq its.toArray } } :=
    I1.laid (t' := s.toks) (fun b o e => Heap.get?_push_of_some _ e) (Nat.le_refl _) (show ObjOk X.prog X.w _ _ _ (.frz _ (.tup ys)) from ⟨new, hz, its, r', PyProof.Rows.IsTup.new _ _⟩)
  exact ⟨.ref h'.objs.size, _, I2, rfl, q _ _ (I1.hok.fresh (Nat.le_refl _)) rfl⟩

/-- a dict's pairs, ints both -/
def kvI (ps : List (Int × Int)) : List (Key × V) := ps.map fun p => (Sum.inl p.1, V.int p.2)
theorem prs_vals {pins : List (Addr × Obj)} {σ : St} {H : Hp} {s : Shared} (I : Inv X pins σ H s) {ts : List V} {ps : List (Int × Int)} (h : Prs H ts ps) :
    ∃ (as : List Addr) (qs : List (Value × Value)) (ks : List (Key × Value)), ts = as.map V.ref ∧ qs.length = ts.length ∧ ks.length = ts.length ∧ KV (kvI ps) ks ∧
      ∀ (j : Nat) (k v : Value), qs[j]? = some (k, v) → ∃ b, as[j]? = some b ∧ PairAt s.heap b k v ∧ ∃ key, ks[j]? = some (key, v) ∧ keyIs key k = true := by
  induction h with
  | nil => exact ⟨[], [], [], rfl, rfl, rfl, .nil, fun j k v e => by simp at e⟩
  | @cons v0 p0 l0 m0 r t ih =>
    obtain ⟨as, qs, ks, e1, e2, e3, kv, e4⟩ := ih
    obtain ⟨b, rfl, hb⟩ := r
    obtain ⟨its, rv, ht, _⟩ := I.tuple (SqT.of hb)
    obtain ⟨u, y, rfl, ru, ry⟩ := vals2 rv
    obtain ⟨t1, rfl⟩ := ru
    refine ⟨b :: as, (.int p0.1 t1, y) :: qs, (Sum.inl p0.1, y) :: ks, by rw [e1]; rfl, by simp [e2], by simp [e3], .cons ⟨rfl, ry⟩ kv, fun j k v e => ?_⟩
    cases j with
    | zero =>
      cases (Option.some.inj e : (_, _) = (k, v))
      exact ⟨b, rfl, .inl ht, _, rfl, keyIs_int _ _⟩
    | succ j =>
      obtain ⟨c, x1, x2, key, x3, x4⟩ := e4 j k v (by simpa using e)
      exact ⟨c, by simpa using x1, x2, key, by simpa using x3, x4⟩
theorem putK_new {kvs : List (Key × V)} {k : Key} {v : V} (h : k ∉ kvs.map (·.1)) : putK kvs k v = kvs ++ [(k, v)] := by
  unfold putK
  rw [if_neg]
  intro q
  obtain ⟨p, hp, e⟩ := List.any_eq_true.mp q
  exact h (List.mem_map.mpr ⟨p, hp, of_decide_eq_true e⟩)
theorem mergeK_nodup : ∀ {more kvs : List (Key × V)}, (kvs.map (·.1) ++ more.map (·.1)).Nodup → mergeK kvs more = kvs ++ more
  | [], kvs, _ => by simp [mergeK]
  | (k, v) :: more, kvs, h => by
    have hk : k ∉ kvs.map (·.1) := fun q => by
      have := (List.nodup_append.mp h).2.2 k q k (by simp)
      exact this rfl
    show mergeK (putK kvs k v) more = _
    rw [putK_new hk, mergeK_nodup (by simpa using h)]
    simp
theorem mergeK_kvI {ps : List (Int × Int)} (h : (ps.map (·.1)).Nodup) : mergeK [] (kvI ps) = kvI ps := by
  rw [mergeK_nodup (kvs := [])]
  · rfl
  · have e : (kvI ps).map (·.1) = (ps.map (·.1)).map Sum.inl := by unfold kvI; simp
    rw [List.map_nil, List.nil_append, e]
    exact List.Pairwise.map _ (fun a b n q => n (Sum.inl.inj q)) h
/-- dict(t), t a known tuple of pairs of ints -/
def rDictZ : List V → Hp → VK → Prop := fun xs H Q => ∃ a o ts ps, xs = [.ref a] ∧ H a = some (.frz o (.tup ts)) ∧ o.dict = none ∧ Prs H ts ps ∧ (ps.map (·.1)).Nodup ∧ ∀ p, H p = none → Q (.ref p) (upd H p (.dK (kvI ps)))
theorem cr_dictZ (hcalm : X.calm = true) : CallR X (.type "dict") rDictZ := by
  intro pins s σ H xs us Q I r h
  obtain ⟨a, o, ts, ps, rfl, ha, hd, hp, hnd, q⟩ := h
  obtain ⟨u, rfl, rx⟩ := vals1 r
  cases rx
  obtain ⟨ho, hz, its, rv, o', ho', hc, n, hdat⟩ := I.hok a _ ha
  rw [ho] at ho'
  cases ho'
  obtain ⟨as, qs, ks, rfl, e2, e3, kv, e4⟩ := prs_vals I hp
  have eits : its = as.map Value.ref := refs_at rv
  subst eits
  rw [List.length_map] at e2 e3 hz
  refine PySem.call_dict_pairs (knd := mixKind X.prog X.w) (kvs := ks) (PairArg.tuple a (as.map Value.ref).toArray (fun j => as.getD j 0) qs) (I.ok.hd hcalm) ⟨⟨o, n, ho, hc, hd, hdat⟩, by simp [e2], fun j k v e => ?_⟩ ⟨by rw [e3, e2], fun i key v e => ?_⟩ (by rw [e2]; exact hz) fun h' tk hd' k => ?_
  · obtain ⟨b, x1, x2, _⟩ := e4 j k v e
    refine ⟨by simp [x1], ?_⟩
    have eb : as.getD j 0 = b := by rw [List.getD_eq_getElem?_getD, x1]; rfl
    show PairAt s.heap (as.getD j 0) k v
    rw [eb]
    exact x2
  · obtain ⟨b, _, _, key', x3, x4⟩ := e4 i key v e
    exact ⟨key', x3, x4⟩
  · have hm : (s.heap.objs.size == sysModules) = false := beq_eq_false_iff_ne.mpr (Nat.ne_of_gt I.big)
    have hk2 : ∀ b o, s.heap.get? b = some o → h'.get? b = some o := fun b o e => k b o (by simp) e
    have em := mergeK_kvI hnd
    have hlen : (kvI ps).length ≤ sizeLine := by rw [kv.length, e3]; exact hz
    exact ⟨.ref s.heap.objs.size, upd H s.heap.objs.size (.dK (kvI ps)), I.laid (t' := tk) hk2 (Nat.le_refl _) (show ObjOk X.prog X.w _ _ _ (.dK (kvI ps)) from ⟨hlen, hm, merged [] ks, by rw [← em]; exact KV.merge kv .nil, hd'⟩), rfl, q _ (I.hok.fresh (Nat.le_refl _))⟩

/-! ### QUARTERS = {2: 6, 6: 2} -/
structure QuK (K : PySem.W.Frag) : Prop where
  ex : ∃ (es : Array DictEntry) (n : Nat) (sl : Array (Option Value)) (t1 u1 t2 u2 : Tok), K.lookup (He.ga K "QUARTERS") = some ⟨.type "dict", none, .dict es n, sl⟩ ∧ sl = #[] ∧
    es.toList = [⟨hashInt 2, .int 2 t1, .int 6 u1⟩, ⟨hashInt 6, .int 6 t2, .int 2 u2⟩]
  ns : (He.ga K "QUARTERS" == sysModules) = false
theorem qu_of {K : PySem.W.Frag} (h : quB K = true) : QuK K := by
  unfold quB at h
  cases e : K.lookup (He.ga K "QUARTERS") with
  | none => rw [e] at h; cases h
  | some o =>
    obtain ⟨oc, od, dt, sl⟩ := o
    rw [e] at h
    cases oc with
    | type c =>
      cases od with
      | none =>
        cases dt with
        | dict es n =>
          obtain ⟨h1, h2⟩ := He.ba h
          obtain ⟨h2, h3⟩ := He.ba h2
          obtain ⟨h3, h4⟩ := He.ba h3
          have hc : c = "dict" := of_decide_eq_true h1
          have hs : sl = #[] := by simpa using h2
          have hn : (He.ga K "QUARTERS" == sysModules) = false := by simpa using h3
          refine ⟨?_, hn⟩
          split at h4
          · rename_i x1 i1 t1 v1 u1 x2 i2 t2 v2 u2 e5
            obtain ⟨rfl, rfl, rfl, rfl, rfl, rfl⟩ := of_decide_eq_true h4
            exact ⟨es, n, sl, t1, u1, t2, u2, by rw [hc] at e; exact e, hs, e5⟩
          · cases h4
        | _ => cases h
      | some _ => cases dt <;> cases h
    | _ => cases od <;> cases dt <;> cases h
theorem QuK.dict {K : PySem.W.Frag} (q : QuK K) {P : Program} {w : World} {h : Heap} (X : K.In h) : ∃ t1 t2, h.DictOf (mixKind P w) (He.ga K "QUARTERS") [(Sum.inl 2, .int 6 t1), (Sum.inl 6, .int 2 t2)] := by
  obtain ⟨es, n, sl, t1, u1, t2, u2, e, rfl, el⟩ := q.ex
  refine ⟨u1, u2, _, es, n, X _ _ e, ⟨rfl, rfl, rfl⟩, rfl, fun x hx => ?_, ?_, by show ([Sum.inl 2, Sum.inl 6] : List Key).Nodup; decide⟩
  · have hx' : x ∈ es.toList := by simpa using hx
    rw [el] at hx'
    rcases List.mem_cons.mp hx' with rfl | hx'
    · exact ⟨Sum.inl 2, keyIs_int 2 t1, rfl⟩
    · rw [List.mem_singleton.mp hx']
      exact ⟨Sum.inl 6, keyIs_int 6 t2, rfl⟩
  · rw [el]
    exact .cons (keyIs_int 2 t1) rfl (.cons (keyIs_int 6 t2) rfl .nil)
def quV (v : V) : Bool := match v with
  | .int i => decide (i = 2) || decide (i = 6)
  | _ => false
/-- x in QUARTERS, x an int or None -/
def rInQ (K : PySem.W.Frag) : R2 := fun x y H Q => y = .ref (He.ga K "QUARTERS") ∧ (x = .non ∨ ∃ i : Int, x = .int i) ∧ Q (.bl (quV x)) H
theorem op_inQ (q : QuK X.K) : OpR X (compareOp .In) (rInQ X.K) := by
  intro pins s σ H x y v u Q I rx ry h
  obtain ⟨rfl, hx, h⟩ := h
  obtain rfl : u = Value.ref _ := ry
  obtain ⟨t1, t2, dd⟩ := q.dict (P := X.prog) (w := X.w) I.kIn
  rcases hx with rfl | ⟨i, rfl⟩
  · obtain rfl : v = Value.none := rx
    obtain ⟨f, hm, hf⟩ := none_map dd
    refine wpAny_in_of (show (noneKind X.prog X.w).is none .none = true from rfl) q.ns hm ?_
    rw [hf]
    exact ⟨.bl false, H, I.tok _, rfl, h⟩
  · obtain ⟨t, rfl⟩ := rx
    refine wpAny_in_of (knd := mixKind X.prog X.w) (k := Sum.inl i) (keyIs_int i t) q.ns dd.mapOf ?_
    have e : (valueAt [((Sum.inl 2 : Key), Value.int 6 t1), (Sum.inl 6, .int 2 t2)] (Sum.inl i)).isSome = quV (.int i) := by
      by_cases h2 : i = 2
      · subst h2; rfl
      · by_cases h6 : i = 6
        · subst h6; rfl
        · have n2 : ¬ (2 : Int) = i := fun z => h2 z.symm
          have n6 : ¬ (6 : Int) = i := fun z => h6 z.symm
          simp [valueAt, quV, h2, h6, n2, n6]
    rw [e]
    exact ⟨.bl (quV (.int i)), H, I.tok _, rfl, h⟩
/-- QUARTERS[i] -/
def tGetQ (K : PySem.W.Frag) (td ty : TE) : TE := fun σ H Q => td σ H fun x H1 => ty σ H1 fun y H2 => x = .ref (He.ga K "QUARTERS") ∧ ((y = .int 2 ∧ Q (.int 6) H2) ∨ (y = .int 6 ∧ Q (.int 2) H2))
theorem pe_getQ {o i : Expr} {td ty : TE} {pos : Pos} (q : QuK X.K) (ho : PE X o td) (hi : PE X i ty) (hs : NoSl i) : PE X (.Subscript o i pos) (tGetQ X.K td ty) := by
  refine ⟨fun pins s σ H Q I h => ?_⟩
  refine subD_of PySem.F.slot_dict_getitem.lookup hs (thn (ho.run pins s σ H _ I h) fun u s1 ⟨x, H1, I1, rx, q1⟩ => thn (hi.run pins s1 σ H1 _ I1 q1) fun iv s2 ⟨y, H2, I2, ry, ex, q2⟩ => ?_)
  subst ex
  obtain rfl : u = Value.ref _ := rx
  obtain ⟨t1, t2, dd⟩ := q.dict (P := X.prog) (w := X.w) I2.kIn
  refine ⟨dd.typeIs, ?_⟩
  rcases q2 with ⟨rfl, q2⟩ | ⟨rfl, q2⟩
  · obtain ⟨t, rfl⟩ := ry
    exact wpAny_getItem_of (knd := mixKind X.prog X.w) (k := Sum.inl 2) (keyIs_int 2 t) dd.mapOf (v := .int 6 t1) rfl ⟨.int 6, H2, I2.tok _, ⟨_, rfl⟩, q2⟩
  · obtain ⟨t, rfl⟩ := ry
    exact wpAny_getItem_of (knd := mixKind X.prog X.w) (k := Sum.inl 6) (keyIs_int 6 t) dd.mapOf (v := .int 2 t2) rfl ⟨.int 2, H2, I2.tok _, ⟨_, rfl⟩, q2⟩
end
end K50
end
section
set_option Elab.async false
set_option linter.all false
set_option maxRecDepth 100000
set_option maxHeartbeats 4000000
/-! == of lists of ints and of lists of tuples of ints; sorted lists -/
namespace K50
open PySem PySem.Spec L2
def dInts (ns : List Int) : List PyData := ns.map .int
def dRows (xss : List (List Int)) : List PyData := xss.map fun xs => .tuple (dInts xs)
theorem lay_ints : ∀ ns : List Int, PyData.canLayAll0 (dInts ns) = true
  | [] => rfl
  | n :: ns => by
    show (PyData.canLay0 (.int n) && PyData.canLayAll0 (dInts ns)) = true
    rw [lay_ints ns]; rfl
theorem dep_ints : ∀ ns : List Int, PyData.depthAll (dInts ns) = 0
  | [] => rfl
  | n :: ns => by
    show max (PyData.depth (.int n)) (PyData.depthAll (dInts ns)) = 0
    rw [dep_ints ns]; rfl
theorem lay_rows : ∀ xss : List (List Int), PyData.canLayAll0 (dRows xss) = true
  | [] => rfl
  | n :: ns => by
    show (PyData.canLay0 (.tuple (dInts n)) && PyData.canLayAll0 (dRows ns)) = true
    rw [lay_rows ns, PyData.canLay0, lay_ints n]; rfl
theorem dep_rows : ∀ xss : List (List Int), PyData.depthAll (dRows xss) ≤ 1
  | [] => by decide
  | n :: ns => by
    show max (PyData.depth (.tuple (dInts n))) (PyData.depthAll (dRows ns)) ≤ 1
    have := dep_rows ns
    rw [PyData.depth, dep_ints n]
    omega
theorem sh_list {ns : List Int} : SeqAt.shaped (.list (dInts ns)) = true := by
  unfold SeqAt.shaped
  rw [PyData.canLay0, lay_ints, PyData.depth, dep_ints]; rfl
theorem sh_tup {ns : List Int} : SeqAt.shaped (.tuple (dInts ns)) = true := by
  unfold SeqAt.shaped
  rw [PyData.canLay0, lay_ints, PyData.depth, dep_ints]; rfl
theorem sh_rows {xss : List (List Int)} : SeqAt.shaped (.list (dRows xss)) = true := by
  unfold SeqAt.shaped
  rw [PyData.canLay0, lay_rows, PyData.depth]
  have := dep_rows xss
  rw [decide_eq_true (by omega)]; rfl
theorem eqv_ints : ∀ ns ms : List Int, PyData.eqvAll (dInts ns) (dInts ms) = decide (ns = ms)
  | [], [] => rfl
  | [], _ :: _ => rfl
  | _ :: _, [] => rfl
  | n :: ns, m :: ms => by
    show (PyData.eqv (.int n) (.int m) && PyData.eqvAll (dInts ns) (dInts ms)) = _
    rw [eqv_ints ns ms, PyData.eqv, Bool.beq_eq_decide_eq, ← Bool.decide_and]
    exact decide_eq_decide.mpr ⟨fun ⟨a, b⟩ => by rw [a, b], fun e => by cases e; exact ⟨rfl, rfl⟩⟩
theorem eqv_list {ns ms : List Int} : PyData.eqv (.list (dInts ns)) (.list (dInts ms)) = decide (ns = ms) := by rw [PyData.eqv]; exact eqv_ints ns ms
theorem eqv_tup {ns ms : List Int} : PyData.eqv (.tuple (dInts ns)) (.tuple (dInts ms)) = decide (ns = ms) := by rw [PyData.eqv]; exact eqv_ints ns ms
theorem dp_ints {K : PySem.W.Frag} {H : Hp} : ∀ ns : List Int, DpAll K H (ns.map V.int) (dInts ns)
  | [] => .nil
  | n :: ns => .cons (.int n) (dp_ints ns)
theorem dp_list {K : PySem.W.Frag} {H : Hp} {a : Addr} {ns : List Int} (h : SqL K H a (ns.map V.int)) : Dp K H (.ref a) (.list (dInts ns)) := .lst h (dp_ints ns)
theorem dp_tup {K : PySem.W.Frag} {H : Hp} {a : Addr} {ns : List Int} (h : SqT K H a (ns.map V.int)) : Dp K H (.ref a) (.tuple (dInts ns)) := .tup h (dp_ints ns)
theorem dp_isT {K : PySem.W.Frag} {H : Hp} {v : V} {ns : List Int} (h : IsT H v ns) : Dp K H v (.tuple (dInts ns)) := by
  obtain ⟨t, rfl, h⟩ := h
  exact dp_tup (SqT.of h)
theorem dp_rows {α : Type} {enc : α → List Int} {K : PySem.W.Frag} {H : Hp} {vs : List V} {xs : List α} (h : Rw enc H vs xs) : DpAll K H vs (dRows (xs.map enc)) := by
  induction h with
  | nil => exact .nil
  | cons r _ ih => exact .cons (dp_isT r) ih
/-- two sorted lists of the same items are one -/
theorem sorted_eq : ∀ {l m : List Int}, l.Perm m → l.Pairwise (· ≤ ·) → m.Pairwise (· ≤ ·) → l = m
  | [], m, p, _, _ => (List.Perm.nil_eq p)
  | x :: l, [], p, _, _ => (List.Perm.eq_nil p)
  | x :: l, y :: m, p, h1, h2 => by
    obtain ⟨a1, a2⟩ := List.pairwise_cons.mp h1
    obtain ⟨b1, b2⟩ := List.pairwise_cons.mp h2
    have e : x = y := by
      have hx : x ∈ y :: m := p.mem_iff.mp (List.mem_cons_self ..)
      have hy : y ∈ x :: l := p.mem_iff.mpr (List.mem_cons_self ..)
      rcases List.mem_cons.mp hx with e | hx
      · exact e
      · rcases List.mem_cons.mp hy with e | hy
        · exact e.symm
        · have := b1 x hx
          have := a1 y hy
          omega
    subst e
    rw [sorted_eq (List.Perm.cons_inv p) a2 b2]
theorem pair_sorted {x y : Int} {ns : List Int} (p : ns.Perm [x, y]) (h : ns.Pairwise (· ≤ ·)) : ns = [min x y, max x y] := by
  refine sorted_eq (p.trans ?_) h ?_
  · by_cases hxy : x ≤ y
    · rw [show min x y = x by omega, show max x y = y by omega]
    · rw [show min x y = y by omega, show max x y = x by omega]
      exact List.Perm.swap _ _ _
  · simp; omega
/-- a pair, the lesser first -/
def norm (p : Int × Int) : Int × Int := (min p.1 p.2, max p.1 p.2)
theorem pr_inj {p q : Int × Int} (h : pr p = pr q) : p = q := by
  unfold pr at h
  simp at h
  exact Prod.ext h.1 h.2
theorem rw_id {H : Hp} {vs : List V} {ps : List (Int × Int)} (h : Prs H vs ps) : Rw id H vs (ps.map pr) := by
  induction h with
  | nil => exact .nil
  | cons r _ ih => exact .cons r ih
theorem pr_nodup {ps : List (Int × Int)} (h : ps.Nodup) : (ps.map pr).Nodup := List.Pairwise.map _ (fun a b n e => n (pr_inj e)) h
theorem prs_each {H : Hp} {vs : List V} {ps : List (Int × Int)} (h : Prs H vs ps) : ∀ x ∈ vs, ∃ t i j, x = V.ref t ∧ H t = some (.tup [.int i, .int j]) := by
  induction h with
  | nil => intro x hx; cases hx
  | cons r _ ih =>
    intro x hx
    rcases List.mem_cons.mp hx with rfl | hx
    · obtain ⟨t, e, ht⟩ := r
      exact ⟨t, _, _, e, ht⟩
    · exact ih x hx
theorem take_snoc {α : Type} {xs : List α} {i : Nat} {x : α} (h : xs[i]? = some x) : xs.take (i + 1) = xs.take i ++ [x] := by rw [List.take_add_one, h]; rfl
theorem take_all {α : Type} (xs : List α) : xs.take xs.length = xs := List.take_length
end K50
end
section
set_option Elab.async false
set_option linter.all false
set_option maxRecDepth 100000
set_option maxHeartbeats 4000000
/-! rules whose reading names K itself (for a comprehension's block) -/
namespace K50
open PySem PySem.Spec L2
variable {X : Cx} {K : PySem.W.Frag}
theorem pe_fldK {e : Expr} {f : Str} {pos : Pos} {ta : TE} (hK : X.K = K) (he : PE X e ta) (hb : attributeBase e f X.env (eval e X.env) = eval e X.env) : PE X (.Attribute e f pos) (tFld K ta f) := by
  subst hK; exact pe_fld he hb
theorem pi_listK {tg l : Expr} {tl : TE} (hK : X.K = K) (hl : PE X l tl) : PI X tg l (iList K tl) := by
  subst hK; exact pi_list hl
theorem pg_tupK {es : List Expr} {k : Nat} {pos : Pos} {t : TGs} (n : Nat) (hK : X.K = K) (hc : X.calm = true) (h : PGs X es t)
    (hn : (assignEach es X.env).length = n := by rfl) (hst : (assignEach es X.env).findIdx? (·.1) = none := by rfl) : PG X (.Tuple es k pos) (gTup K n t) := by
  subst hK; exact pg_tup hc h hn hst
def rTupS (K : PySem.W.Frag) : List V → Hp → VK → Prop := fun xs H Q => ∃ p ys, xs = [.ref p] ∧ ((SqL K H p ys ∧ ∀ l, H l = none → Q (.ref l) (upd H l (.tup ys))) ∨ (SqT K H p ys ∧ Q (.ref p) H))
theorem cr_len (hK : X.K = K) : CallR X (.builtin "len") (Evl.rLenS K) := by subst hK; exact call_len_seq
theorem cr_listS (hK : X.K = K) : CallR X (.type "list") (Evl.rListS K) := by subst hK; exact call_list_of
theorem cr_tupS (hK : X.K = K) : CallR X (.type "tuple") (rTupS K) := by subst hK; exact call_tuple_of
theorem cr_isiT (hK : X.K = K) : CallR X (.builtin "isinstance") (rIsiT K) := by subst hK; exact call_isiT
theorem cr_srtTI (hK : X.K = K) : CallR X (.builtin "sorted") (rSortedTI K) := by subst hK; exact cr_sortedTI
theorem cr_srt (hK : X.K = K) : CallR X (.builtin "sorted") (rSorted K) := by subst hK; exact cr_sorted
def rInt1 : List V → Hp → VK → Prop := fun xs H Q => (∃ i, xs = [.int i] ∧ Q (.int i) H) ∨ ∃ k, xs = [.bl k] ∧ Q (.int (if k then 1 else 0)) H
theorem cr_int : CallR X (.type "int") rInt1 := call_int1
def rMin2 : List V → Hp → VK → Prop := fun xs H Q => ∃ i j, xs = [.int i, .int j] ∧ Q (.int (if j < i then j else i)) H
def rMax2 : List V → Hp → VK → Prop := fun xs H Q => ∃ i j, xs = [.int i, .int j] ∧ Q (.int (if j > i then j else i)) H
theorem cr_min2 (hc : X.calm = true) : CallR X (.builtin "min") rMin2 := call_min2 hc
theorem cr_max2 (hc : X.calm = true) : CallR X (.builtin "max") rMax2 := call_max2 hc
theorem or_in (hK : X.K = K) : OpR X (compareOp .In) (rIn K false) := by subst hK; exact op_in_seq
theorem or_notIn (hK : X.K = K) : OpR X (compareOp .NotIn) (rIn K true) := by subst hK; exact op_notIn_seq
theorem or_eqD (hK : X.K = K) (hu : X.A.units + 64 < cLine) : OpR X (compareOp .Eq) (rEqD K) := by subst hK; exact op_eqD hu
theorem or_neD (hK : X.K = K) (hu : X.A.units + 64 < cLine) : OpR X (compareOp .NotEq) (rNeD K) := by subst hK; exact op_neD hu
theorem ixLK (hK : X.K = K) : IxR X (rIxL K) := by subst hK; exact ix_list
theorem ixTK (hK : X.K = K) : IxR X (rIxT K) := by subst hK; exact ix_tup
end K50
end
section
set_option Elab.async false
set_option linter.all false
set_option maxRecDepth 100000
set_option maxHeartbeats 4000000
namespace K50
open PySem PySem.Spec L2
open PyProof.Rows (envOfC)
section
variable {P : Program} {w : World} {K : PySem.W.Frag} {mg : Str → Option Value} {base : Heap}
/-- the value v behind all that was kept -/
abbrev Ret (H : Hp) (Q : VK) (v : V) : Prop := ∀ H', Kp N0 H H' → Q v H'
abbrev kitT {K : PySem.W.Frag} (a b : String) (r : Bool) (h : kitB a b = some r := by decide +kernel) := kit_ty (K := K) h
theorem tyI (i : Int) {H : Hp} : TyX K H (.int i) (.type "int") := .base (.int i)

def sp_is_integer (K : PySem.W.Frag) : Sp := fun vs H Q _ => ∃ i : Int, vs = [.int i] ∧ Ret H Q (.bl true)
theorem sc_is_integer : FnScope ["value"] ["value"] (defScope s_is_integer) := ⟨rfl, rfl, rfl, by decide +kernel, rfl, by decide +kernel, by decide +kernel⟩
theorem c_is_integer (T : TX K mg) : C8.Cal P w K mg base 1 "is_integer" (sp_is_integer K) [] := by
  refine mkCal (k := 0) T.g_is_integer T.d_is_integer (fun _ _ _ _ _ _ us hl => match us, hl with | [_], _ => rfl) sc_is_integer (fun vs H Q E h => ?_) (fun cdv A outer s H vs Q E hr h => ?_)
  · obtain ⟨i, rfl, _⟩ := h; rfl
  · obtain ⟨i, rfl, k⟩ := h
    refine ⟨_, (pss_one (ps_ret (pe_and (pe_callB call_isi (by rfl) T.f_isinstance (by decide +kernel) (pa_cons (pv 0) (pa_cons (pe_bltn (v := .ty "int") (u := .type "int") (by rfl) T.f_int (by decide +kernel) rfl) pa_nil))) (pe_one (pe_not (pe_callB call_isi (by rfl) T.f_isinstance (by decide +kernel) (pa_cons (pv 0) (pa_cons (pe_bltn (v := .ty "bool") (u := .type "bool") (by rfl) T.f_bool (by decide +kernel) rfl) pa_nil)))))))), ?_⟩
    refine ⟨_, rfl, .int i, .ty "int", .type "int", .type "int", true, rfl, .ty _, tyI i, kitT "int" "int" true, true, rfl, ?_⟩
    refine iteT ⟨_, rfl, .int i, .ty "bool", .type "int", .type "bool", false, rfl, .ty _, tyI i, kitT "int" "bool" false, false, rfl, ?_⟩
    exact k _ Kp.refl

def sp_is_within (K : PySem.W.Frag) : Sp := fun vs H Q _ => ∃ i lo : Int, (vs = [.int i, .int lo, .non] ∧ Ret H Q (.bl (decide (lo ≤ i)))) ∨ ∃ hi : Int, vs = [.int i, .int lo, .int hi] ∧ Ret H Q (.bl (decide (lo ≤ i) && decide (i ≤ hi)))
theorem sc_is_within : FnScope ["value", "least", "most"] ["value", "least", "most"] (defScope s_is_within) := ⟨rfl, rfl, rfl, by decide +kernel, rfl, by decide +kernel, by decide +kernel⟩
theorem c_is_within (T : TX K mg) : C8.Cal P w K mg base 2 "is_within" (sp_is_within K) [] := by
  refine mkCal (k := 1) T.g_is_within T.d_is_within (fun _ _ _ _ _ _ us hl => match us, hl with | [_, _, _], _ => rfl) sc_is_within (fun vs H Q E h => ?_) (fun cdv A outer s H vs Q E hr h => ?_)
  · obtain ⟨i, lo, ⟨rfl, _⟩ | ⟨hi, rfl, _⟩⟩ := h <;> rfl
  · obtain ⟨i, lo, h⟩ := h
    have key : ∃ m : V, ∃ r : Bool, vs = [.int i, .int lo, m] ∧ Ret H Q (.bl (decide (lo ≤ i) && r)) ∧ ((m = .non ∧ r = true) ∨ ∃ hi : Int, m = .int hi ∧ r = decide (i ≤ hi)) := by
      rcases h with ⟨rfl, k⟩ | ⟨hi, rfl, k⟩
      · exact ⟨.non, true, rfl, by rw [Bool.and_true]; exact k, .inl ⟨rfl, rfl⟩⟩
      · exact ⟨.int hi, _, rfl, k, .inr ⟨hi, rfl, rfl⟩⟩
    obtain ⟨m, r, rfl, k, hm⟩ := key
    refine ⟨_, (pss_cons (ps_if (pt_not (pt_val (C8.pe_c (c_is_integer T) hr (by decide) rfl (pa_cons (pv 0) pa_nil)))) (pss_one (ps_ret pe_bl)) pss_nil)
      (pss_one (ps_ret (pe_and (pe_or (pe_cmp (pc_isN (pv 1))) (pe_one (pe_cmpR op_le (pv 1) (pv 0) (nomark _)))) (pe_one (pe_or (pe_cmp (pc_isN (pv 2))) (pe_one (pe_cmpR op_le (pv 0) (pv 2) (nomark _))))))))), ?_⟩
    refine ⟨_, rfl, i, rfl, fun H1 e1 => ⟨true, rfl, iteF ?_⟩⟩
    refine ⟨_, rfl, false, rfl, iteF ⟨_, rfl, _, rfl, _, _, rfl, rfl, decide (lo ≤ i), rfl, ?_⟩⟩
    cases hd : decide (lo ≤ i) with
    | false => exact iteF (by rw [hd] at k; exact k _ e1)
    | true =>
      rw [hd] at k
      refine iteT ?_
      rcases hm with ⟨rfl, rfl⟩ | ⟨hi, rfl, rfl⟩
      · exact ⟨_, rfl, true, rfl, iteT (k _ e1)⟩
      · exact ⟨_, rfl, false, rfl, iteF ⟨_, rfl, _, rfl, _, _, rfl, rfl, k _ e1⟩⟩

def sp_is_turn (K : PySem.W.Frag) : Sp := fun vs H Q _ => ∃ i : Int, vs = [.int i] ∧ Ret H Q (.bl (decide (0 ≤ i) && decide (i ≤ 7)))
theorem sc_is_turn : FnScope ["value"] ["value"] (defScope s_is_turn) := ⟨rfl, rfl, rfl, by decide +kernel, rfl, by decide +kernel, by decide +kernel⟩
theorem c_is_turn (T : TX K mg) : C8.Cal P w K mg base 3 "is_turn" (sp_is_turn K) [] := by
  refine mkCal (k := 2) T.g_is_turn T.d_is_turn (fun _ _ _ _ _ _ us hl => match us, hl with | [_], _ => rfl) sc_is_turn (fun vs H Q E h => ?_) (fun cdv A outer s H vs Q E hr h => ?_)
  · obtain ⟨i, rfl, _⟩ := h; rfl
  · obtain ⟨i, rfl, k⟩ := h
    obtain ⟨tT, hTURNS⟩ := T.i_TURNS
    refine ⟨_, (pss_one (ps_ret (C8.pe_c (c_is_within T) hr (by decide) rfl (pa_cons (pv 0) (pa_cons pe_int (pa_cons (pe_op op_sub (pe_glob (v := .int 8) rfl hTURNS ⟨_, rfl⟩) pe_int) pa_nil)))))), ?_⟩
    exact ⟨_, rfl, _, _, rfl, rfl, i, 0, .inr ⟨7, rfl, k⟩⟩

def sp_need_number (K : PySem.W.Frag) : Sp := fun vs H Q _ => ∃ (i lo hi : Int) (x : V), vs = [.int i, x, .int lo, .int hi] ∧ lo ≤ i ∧ i ≤ hi ∧ Ret H Q .non
theorem sc_need_number : FnScope ["value", "part", "least", "most"] ["value", "part", "least", "most"] (defScope s_need_number) := ⟨rfl, rfl, rfl, by decide +kernel, rfl, by decide +kernel, by decide +kernel⟩
theorem c_need_number (T : TX K mg) : C8.Cal P w K mg base 3 "need_number" (sp_need_number K) [] := by
  refine mkCal (k := 2) T.g_need_number T.d_need_number (fun _ _ _ _ _ _ us hl => match us, hl with | [_, _, _, _], _ => rfl) sc_need_number (fun vs H Q E h => ?_) (fun cdv A outer s H vs Q E hr h => ?_)
  · obtain ⟨i, lo, hi, x, rfl, _⟩ := h; rfl
  · obtain ⟨i, lo, hi, x, rfl, h1, h2, k⟩ := h
    refine ⟨_, (pss_one (ps_if (pt_not (pt_val (C8.pe_c (c_is_within T) hr (by decide) rfl (pa_cons (pv 0) (pa_cons (pv 2) (pa_cons (pv 3) pa_nil)))))) (pss_one ps_never) pss_nil)), ?_⟩
    refine ⟨_, rfl, _, rfl, _, rfl, i, lo, .inr ⟨hi, rfl, fun H1 e1 => ⟨_, rfl, ?_⟩⟩⟩
    rw [decide_eq_true h1, decide_eq_true h2]
    exact iteF (k _ e1)
end
end K50
end
section
set_option Elab.async false
set_option linter.all false
set_option maxRecDepth 100000
set_option maxHeartbeats 4000000
namespace K50
open PySem PySem.Spec L2
open PyProof.Rows (envOfC)
theorem cls2 : Paired ClsV [V.ty "list", V.ty "tuple"] [Value.type "list", Value.type "tuple"] := .cons (.ty _) (.cons (.ty _) .nil)
theorem rep_snoc {α : Type} (n : Nat) (x : α) : List.replicate n x ++ [x] = List.replicate (n + 1) x := by rw [List.replicate_succ']
theorem rep_bl (n : Nat) : List.replicate n (V.bl true) = (List.replicate n true).map V.bl := by rw [List.map_replicate]
theorem rep_all (n : Nat) : (List.replicate n true).all id = true := by simp
section
variable {P : Program} {w : World} {K : PySem.W.Frag} {mg : Str → Option Value} {base : Heap}
def sp_is_lot (K : PySem.W.Frag) : Sp := fun vs H Q _ => ∃ (a : Addr) (ns : List Int), vs = [.ref a] ∧ LT H a (ns.map V.int) ∧ ns.length < 64 ∧ ns.Nodup ∧ (∀ n ∈ ns, 0 ≤ n) ∧ Ret H Q (.bl true)
theorem sc_is_lot : FnScope ["value", "each"] ["value"] (defScope s_is_lot) := ⟨rfl, rfl, rfl, by decide +kernel, rfl, by decide +kernel, by decide +kernel⟩
theorem c_is_lot (T : TX K mg) : C8.Cal P w K mg base 3 "is_lot" (sp_is_lot K) [] := by
  refine mkCal (k := 2) T.g_is_lot T.d_is_lot (fun _ _ _ _ _ _ us hl => match us, hl with | [_], _ => rfl) sc_is_lot (fun vs H Q E h => ?_) (fun cdv A outer s H vs Q E hr h => ?_)
  · obtain ⟨a, ns, rfl, _⟩ := h; rfl
  · obtain ⟨a, ns, rfl, hl, h64, hnd, h0, k⟩ := h
    refine ⟨_, (pss_cons (ps_if (PW.pt (pw_or (pt_not (pt_val (pe_callB call_isiT (by rfl) T.f_isinstance (by decide +kernel) (pa_cons (pv 0) (pa_cons (pe_tup (pa_cons (pe_bltn (v := .ty "list") (u := .type "list") (by rfl) T.f_list (by decide +kernel) rfl) (pa_cons (pe_bltn (v := .ty "tuple") (u := .type "tuple") (by rfl) T.f_tuple (by decide +kernel) rfl) pa_nil))) pa_nil))))) (pw_or1 (pt_not (pt_val (pe_callB (cr_all rfl) (by rfl) T.f_all (by decide +kernel) (pa_cons (pe_lc (own := [("each", 1)]) (by rfl) sc_is_lot.nd (pi_or (pi_list (pv 0)) (pi_tup (pv 0))) (blkOk_by (N := ["value", "each"]) (sc := defScope s_is_lot) (own := [("each", 1)]) (by decide +kernel)) (fun _ _ _ _ _ => (pg_name (i := 1) sc_is_lot.nd rfl (Or.inl rfl))) (fun _ _ _ _ _ => pts_nil) (fun _ _ _ _ _ => (C8.pe_c (c_is_within T) hr (by decide) rfl (pa_cons (pv 1) (pa_cons pe_int (pa_cons pe_non pa_nil)))))) pa_nil))))))) (pss_one (ps_ret pe_bl)) pss_nil)
      (pss_one (ps_ret (pe_cmpR op_eq (pe_lenSetA (by rfl) T.f_len (by rfl) T.f_set (pv 0)) (pe_callB call_len_seq (by rfl) T.f_len (by decide +kernel) (pa_cons (pv 0) pa_nil)) (nomark _))))), ?_⟩
    refine ⟨_, rfl, by show 2 ≤ sizeLine; decide, newO fun p H1 hp e1 h1 => ?_⟩
    have hl1 := hl.mono e1 id
    obtain ⟨t, ht, hk⟩ := hl1.kit (K := K)
    refine ⟨_, p, _, t, _, true, rfl, h1, cls2, ht, hk, true, rfl, iteF ?_⟩
    -- not all([is_within(each, 0, None) for each in value])
    refine iLT_of rfl hl1 fun J G wJ hG D hD => ?_
    have naD : ∀ {H' : Hp}, H' a = some (.lst (ns.map V.int)) ∨ H' a = some (.tup (ns.map V.int)) → H' D = none → a ≠ D := fun h h' => h.elim (fun h => ne_of_none h h') fun h => ne_of_none h h'
    refine lcW wJ N0 (fun i ys H => ys = List.replicate i (V.bl true)) hD id (by rw [List.length_map]; omega) (fun H' e => hG _ _ id e) (fun _ _ => rfl) (fun _ _ _ _ _ h => h) ?_ ?_
    · rintro i x ys H2 H3 Zy Zn hi ⟨rfl, hx⟩ e2 hy rfl _ hZ _
      obtain ⟨n, hn, rfl⟩ := map_int_get hx
      refine ⟨rfl, yesT ⟨_, rfl, n, 0, .inl ⟨rfl, fun H4 e4 => hZ _ _ e4 ?_⟩⟩⟩
      rw [decide_eq_true (h0 n (List.mem_of_getElem? hn)), rep_snoc]
    · rintro ys H2 e2 hy rfl
      rw [rep_bl] at hy
      refine ⟨D, _, rfl, SqL.of hy, ?_⟩
      rw [rep_all]
      refine ⟨true, rfl, iteF ?_⟩
      have hl2 := hl1.mono e2 id
      refine ⟨_, rfl, a, ns, rfl, hl2.sqa, h64, hnd, _, rfl, a, _, rfl, hl2.elim (fun h => .inl (SqL.of h)) (fun h => .inr (SqT.of h)), rfl, ?_⟩
      have e : decide (V.int (ns.length : Int) = V.int (((ns.map V.int).length : Nat) : Int)) = true := decide_eq_true (by rw [List.length_map])
      show Q (.bl (decide (V.int (ns.length : Int) = V.int (((ns.map V.int).length : Nat) : Int)))) H2
      rw [e]
      exact k _ (e1.trans e2)
end
end K50
end
section
set_option Elab.async false
set_option linter.all false
set_option maxRecDepth 100000
set_option maxHeartbeats 4000000
namespace K50
open PySem PySem.Spec L2
open PyProof.Rows (envOfC)
theorem naD {H : Hp} {a D : Addr} {xs : List V} (h : LT H a xs) (h' : H D = none) : ¬ a = D := h.elim (fun h => ne_of_none h h') fun h => ne_of_none h h'
section
variable {P : Program} {w : World} {K : PySem.W.Frag} {mg : Str → Option Value} {base : Heap}
def sp_is_things (K : PySem.W.Frag) : Sp := fun vs H Q _ => ∃ (a : Addr) (ns : List Int) (t : Int), vs = [.ref a, .int t] ∧ LT H a (ns.map V.int) ∧ ns.length < 64 ∧ ns.Nodup ∧ (∀ n ∈ ns, 0 ≤ n ∧ n < t) ∧ Ret H Q (.bl true)
theorem sc_is_things : FnScope ["value", "things", "thing"] ["value", "things"] (defScope s_is_things) := ⟨rfl, rfl, rfl, by decide +kernel, rfl, by decide +kernel, by decide +kernel⟩
theorem c_is_things (T : TX K mg) : C8.Cal P w K mg base 4 "is_things" (sp_is_things K) [] := by
  refine mkCal (k := 3) T.g_is_things T.d_is_things (fun _ _ _ _ _ _ us hl => match us, hl with | [_, _], _ => rfl) sc_is_things (fun vs H Q E h => ?_) (fun cdv A outer s H vs Q E hr h => ?_)
  · obtain ⟨a, ns, t, rfl, _⟩ := h; rfl
  · obtain ⟨a, ns, t, rfl, hl, h64, hnd, h0, k⟩ := h
    refine ⟨_, (pss_one (ps_ret (pe_and (C8.pe_c (c_is_lot T) hr (by decide) rfl (pa_cons (pv 0) pa_nil)) (pe_one (pe_callB (cr_all rfl) (by rfl) T.f_all (by decide +kernel) (pa_cons (pe_lc (own := [("thing", 2)]) (by rfl) sc_is_things.nd (pi_or (pi_list (pv 0)) (pi_tup (pv 0))) (blkOk_by (N := ["value", "things", "thing"]) (sc := defScope s_is_things) (own := [("thing", 2)]) (by decide +kernel)) (fun _ _ _ _ _ => (pg_name (i := 2) sc_is_things.nd rfl (Or.inl rfl))) (fun _ _ _ _ _ => pts_nil) (fun _ _ _ _ _ => (pe_cmpR op_lt (pv 2) (pv 1) (nomark _)))) pa_nil)))))), ?_⟩
    refine ⟨_, rfl, a, ns, rfl, hl, h64, hnd, fun n hn => (h0 n hn).1, fun H1 e1 => ⟨true, rfl, iteT ?_⟩⟩
    have hl1 := hl.mono e1 id
    refine iLT_of rfl hl1 fun J G wJ hG D hD => ?_
    refine lcW wJ N0 (fun i ys H => ys = List.replicate i (V.bl true)) hD id (by rw [List.length_map]; omega) (fun H' e => hG _ _ id e) (fun _ _ => rfl) (fun _ _ _ _ _ h => h) ?_ ?_
    · rintro i x ys H2 H3 Zy Zn hi ⟨rfl, hx⟩ e2 hy rfl _ hZ _
      obtain ⟨n, hn, rfl⟩ := map_int_get hx
      refine ⟨rfl, yesT ⟨_, rfl, _, rfl, n, t, rfl, rfl, hZ _ _ Kp.refl ?_⟩⟩
      show List.replicate i (V.bl true) ++ [V.bl (decide (n < t))] = _
      rw [decide_eq_true (h0 n (List.mem_of_getElem? hn)).2, rep_snoc]
    · rintro ys H2 e2 hy rfl
      rw [rep_bl] at hy
      refine ⟨D, _, rfl, SqL.of hy, ?_⟩
      rw [rep_all]
      exact k _ (e1.trans e2)

def sp_is_string (K : PySem.W.Frag) : Sp := fun vs H Q _ => ∃ (v : V) (p : Int × Int) (t : Int), vs = [v, .int t] ∧ IsT H v (pr p) ∧ 0 ≤ p.1 ∧ p.1 < t ∧ 0 ≤ p.2 ∧ p.2 < t ∧ p.1 ≠ p.2 ∧ Ret H Q (.bl true)
theorem sc_is_string : FnScope ["value", "things"] ["value", "things"] (defScope s_is_string) := ⟨rfl, rfl, rfl, by decide +kernel, rfl, by decide +kernel, by decide +kernel⟩
theorem c_is_string (T : TX K mg) : C8.Cal P w K mg base 5 "is_string" (sp_is_string K) [] := by
  refine mkCal (k := 4) T.g_is_string T.d_is_string (fun _ _ _ _ _ _ us hl => match us, hl with | [_, _], _ => rfl) sc_is_string (fun vs H Q E h => ?_) (fun cdv A outer s H vs Q E hr h => ?_)
  · obtain ⟨v, p, t, rfl, _⟩ := h; rfl
  · obtain ⟨v, p, t, rfl, ⟨a, rfl, ha⟩, h1, h2, h3, h4, hne, k⟩ := h
    refine ⟨_, (pss_one (ps_ret (pe_and (C8.pe_c (c_is_things T) hr (by decide) rfl (pa_cons (pv 0) (pa_cons (pv 1) pa_nil))) (pe_one (pe_cmpR op_eq (pe_callB call_len_seq (by rfl) T.f_len (by decide +kernel) (pa_cons (pv 0) pa_nil)) pe_int (nomark _)))))), ?_⟩
    refine ⟨_, rfl, _, rfl, a, pr p, t, rfl, .inr ha, by show 2 < 64; decide, ?_, fun n hn => ?_, fun H1 e1 => ⟨true, rfl, iteT ?_⟩⟩
    · simp [pr, hne]
    · simp only [pr, List.mem_cons, List.not_mem_nil, or_false] at hn
      rcases hn with rfl | rfl <;> exact ⟨by assumption, by assumption⟩
    · exact ⟨_, rfl, a, _, rfl, .inr (SqT.of (e1.t _ _ ha)), rfl, k _ e1⟩

def sp_strings_from (K : PySem.W.Frag) : Sp := fun vs H Q _ => ∃ (a : Addr) (xs : List V) (ps : List (Int × Int)) (t : Int), vs = [.ref a, .int t] ∧ H a = some (.lst xs) ∧ Prs H xs ps ∧ xs.length < 64 ∧ (ps.map norm).Nodup ∧
  (∀ p ∈ ps, 0 ≤ p.1 ∧ p.1 < t ∧ 0 ≤ p.2 ∧ p.2 < t ∧ p.1 ≠ p.2) ∧ ∀ (b : Addr) (ys : List V) (qs : List (Int × Int)) (H' : Hp), Kp N0 H H' → H' b = some (.tup ys) → Prs H' ys qs → qs.Perm (ps.map norm) → Q (.ref b) H'
theorem sc_strings_from : FnScope ["value", "things", "found", "each"] ["value", "things"] (defScope s_strings_from) := ⟨rfl, rfl, rfl, by decide +kernel, rfl, by decide +kernel, by decide +kernel⟩
theorem c_strings_from (T : TX K mg) : C8.Cal P w K mg base 6 "strings_from" (sp_strings_from K) [] := by
  refine mkCal (k := 5) T.g_strings_from T.d_strings_from (fun _ _ _ _ _ _ us hl => match us, hl with | [_, _], _ => rfl) sc_strings_from (fun vs H Q E h => ?_) (fun cdv A outer s H vs Q E hr h => ?_)
  · obtain ⟨a, xs, ps, t, rfl, _⟩ := h; rfl
  · obtain ⟨a, xs, ps, t, rfl, ha, hp, h64, hnd, h0, k⟩ := h
    refine ⟨_, (pss_cons (ps_if (PW.pt (pw_or (pt_not (pt_val (pe_callB call_isiT (by rfl) T.f_isinstance (by decide +kernel) (pa_cons (pv 0) (pa_cons (pe_tup (pa_cons (pe_bltn (v := .ty "list") (u := .type "list") (by rfl) T.f_list (by decide +kernel) rfl) (pa_cons (pe_bltn (v := .ty "tuple") (u := .type "tuple") (by rfl) T.f_tuple (by decide +kernel) rfl) pa_nil))) pa_nil))))) (pw_or1 (pt_not (pt_val (pe_callB (cr_all rfl) (by rfl) T.f_all (by decide +kernel) (pa_cons (pe_lc (own := [("each", 3)]) (by rfl) sc_strings_from.nd (pi_or (pi_list (pv 0)) (pi_tup (pv 0))) (blkOk_by (N := ["value", "things", "found", "each"]) (sc := defScope s_strings_from) (own := [("each", 3)]) (by decide +kernel)) (fun _ _ _ _ _ => (pg_name (i := 3) sc_strings_from.nd rfl (Or.inl rfl))) (fun _ _ _ _ _ => pts_nil) (fun _ _ _ _ _ => (C8.pe_c (c_is_string T) hr (by decide) rfl (pa_cons (pv 3) (pa_cons (pv 1) pa_nil))))) pa_nil))))))) (pss_one ps_never) pss_nil)
      (pss_cons (ps_set (i := 2) sc_strings_from.nd rfl (Or.inl rfl) (pe_callB cr_sortedP (by rfl) T.f_sorted (by decide +kernel) (pa_cons (pe_lc (own := [("each", 3)]) (by rfl) sc_strings_from.nd (pi_or (pi_list (pv 0)) (pi_tup (pv 0))) (blkOk_by (N := ["value", "things", "found", "each"]) (sc := defScope s_strings_from) (own := [("each", 3)]) (by decide +kernel)) (fun _ _ _ _ _ => (pg_name (i := 3) sc_strings_from.nd rfl (Or.inl rfl))) (fun _ _ _ _ _ => pts_nil) (fun _ _ _ _ _ => (pe_callTy (T := "tuple") (r := rTupS K) (cr_tupS (K := K) rfl) (by rfl) T.f_tuple (by decide +kernel) (pa_cons (pe_callB (id := "sorted") (r := rSortedTI K) (cr_srtTI (K := K) rfl) (by rfl) T.f_sorted (by decide +kernel) (pa_cons (pv 3) pa_nil)) pa_nil)))) pa_nil)))
      (pss_cons (ps_if (pt_cmpR op_ne (pe_lenSetP hr.units (by rfl) T.f_len (by rfl) T.f_set (pv 2)) (pe_callB call_len_seq (by rfl) T.f_len (by decide +kernel) (pa_cons (pv 2) pa_nil)) (nomark _)) (pss_one ps_never) pss_nil)
      (pss_one (ps_ret (pe_callTy call_tuple_of (by rfl) T.f_tuple (by decide +kernel) (pa_cons (pv 2) pa_nil))))))), ?_⟩
    refine ⟨_, rfl, by show 2 ≤ sizeLine; decide, newO fun p H1 hp1 e1 h1 => ?_⟩
    have hl1 : LT H1 a xs := .inl (e1.get0 ha)
    obtain ⟨ty, ht, hk⟩ := hl1.kit (K := K)
    refine ⟨_, p, _, ty, _, true, rfl, h1, cls2, ht, hk, true, rfl, iteF ?_⟩
    refine iLT_of rfl hl1 fun J G wJ hG D hD => ?_
    refine lcW wJ N0 (fun i ys H => ys = List.replicate i (V.bl true)) hD id (by omega) (fun H' e => hG _ _ id e) (fun _ _ => rfl) (fun _ _ _ _ _ h => h) ?_ ?_
    · rintro i x ys H2 H3 Zy Zn hi ⟨rfl, hx⟩ e2 hy rfl _ hZ _
      obtain ⟨q, hq, hv⟩ := (hp.mono (e1.trans e2).tp).get hx
      obtain ⟨z1, z2, z3, z4, z5⟩ := h0 q (List.mem_of_getElem? hq)
      refine ⟨rfl, yesT ⟨_, rfl, _, rfl, _, q, t, rfl, hv, z1, z2, z3, z4, z5, fun H4 e4 => hZ _ _ e4 (rep_snoc _ _)⟩⟩
    · rintro ys H2 e2 hy rfl
      rw [rep_bl] at hy
      refine ⟨D, _, rfl, SqL.of hy, ?_⟩
      rw [rep_all]
      refine ⟨true, rfl, iteF ?_⟩
      -- found = sorted([tuple(sorted(each)) for each in value])
      have e12 := e1.trans e2
      have hl2 : LT H2 a xs := .inl (e12.get0 ha)
      refine iLT_of rfl hl2 fun J G wJ hG D2 hD2 => ?_
      refine lcW wJ N0 (fun i ys H => Prs H ys ((ps.take i).map norm)) hD2 id (by omega) (fun H' e => hG _ _ id e) (fun _ _ => by simp; exact Rw.nil) (fun _ _ _ _ e h => h.mono e) ?_ ?_
      · rintro i x ys H3 H4 Zy Zn hi ⟨rfl, hx⟩ e3 hy3 hP _ hZ _
        obtain ⟨q, hq, b, rfl, hb⟩ := (hp.mono (e12.trans e3).tp).get hx
        refine ⟨rfl, yesT ⟨_, rfl, b, pr q, rfl, SqT.of hb, by show 2 < 64; decide, fun ns' r hperm hsort hr => ?_⟩⟩
        rw [pair_sorted hperm hsort]
        refine ⟨r, _, rfl, .inl ⟨SqL.of upd_same, newO fun z H5 hz e5 h5 => ?_⟩⟩
        have e45 := (Kp.new (F := N0) (o := .lst ([min q.1 q.2, max q.1 q.2].map V.int)) hr).trans e5
        refine hZ _ _ e45 ?_
        rw [take_snoc hq, List.map_append]
        exact (hP.mono e45.tp).snoc ⟨z, rfl, h5⟩
      · rintro ys2 H3 e3 hy3 hP
        rw [Rw.length hp, take_all] at hP
        have hlen : ys2.length = xs.length := by rw [Rw.length hP, List.length_map, Rw.length hp]
        refine ⟨D2, ys2, rfl, SqL.of hy3, prs_each hP, fun zs f hperm hf => ?_⟩
        obtain ⟨qs, hq1, hq2⟩ := Rw.perm hperm hP
        have hzl : zs.length = xs.length := by rw [hperm.length_eq, hlen]
        have e4 := Kp.new (F := N0) (o := .lst zs) hf
        have hq3 := hq2.mono e4.tp
        refine ⟨_, rfl, f, zs, qs.map pr, rfl, upd_same, rw_id hq3, by omega, pr_nodup (hq1.nodup_iff.mpr hnd), _, rfl, f, _, rfl, .inl (SqL.of upd_same), rfl, ?_⟩
        have e : (!decide (V.int (zs.length : Int) = V.int ((zs.length : Nat) : Int))) = false := by simp
        rw [e]
        refine ⟨false, rfl, iteF ?_⟩
        refine ⟨_, rfl, f, zs, rfl, .inl ⟨SqL.of upd_same, newO fun b H5 hb e5 h5 => ?_⟩⟩
        exact k b zs qs H5 (((e12.trans e3).trans e4).trans e5) h5 (hq3.mono e5.tp) hq1

def sp_things_from (K : PySem.W.Frag) : Sp := fun vs H Q _ => ∃ (a : Addr) (ns : List Int) (t : Int) (x : V), vs = [.ref a, .int t, x] ∧ H a = some (.lst (ns.map V.int)) ∧ ns.length < 64 ∧ ns.Nodup ∧ (∀ n ∈ ns, 0 ≤ n ∧ n < t) ∧
  ∀ b H', Kp N0 H H' → H' b = some (.tup (ns.map V.int)) → Q (.ref b) H'
theorem sc_things_from : FnScope ["value", "things", "part"] ["value", "things", "part"] (defScope s_things_from) := ⟨rfl, rfl, rfl, by decide +kernel, rfl, by decide +kernel, by decide +kernel⟩
theorem c_things_from (T : TX K mg) : C8.Cal P w K mg base 5 "things_from" (sp_things_from K) [] := by
  refine mkCal (k := 4) T.g_things_from T.d_things_from (fun _ _ _ _ _ _ us hl => match us, hl with | [_, _, _], _ => rfl) sc_things_from (fun vs H Q E h => ?_) (fun cdv A outer s H vs Q E hr h => ?_)
  · obtain ⟨a, ns, t, x, rfl, _⟩ := h; rfl
  · obtain ⟨a, ns, t, x, rfl, ha, h64, hnd, h0, k⟩ := h
    refine ⟨_, (pss_cons (ps_if (pt_not (pt_val (C8.pe_c (c_is_things T) hr (by decide) rfl (pa_cons (pv 0) (pa_cons (pv 1) pa_nil))))) (pss_one ps_never) pss_nil)
      (pss_one (ps_ret (pe_callTy call_tuple_of (by rfl) T.f_tuple (by decide +kernel) (pa_cons (pv 0) pa_nil))))), ?_⟩
    refine ⟨_, rfl, _, rfl, a, ns, t, rfl, .inl ha, h64, hnd, h0, fun H1 e1 => ⟨true, rfl, iteF ?_⟩⟩
    exact ⟨_, rfl, a, _, rfl, .inl ⟨SqL.of (e1.get0 ha), newO fun b H2 hb e2 h2 => k b H2 (e1.trans e2) h2⟩⟩
end
end K50
end
section
set_option Elab.async false
set_option linter.all false
set_option maxRecDepth 100000
set_option maxHeartbeats 4000000
namespace K50
open PySem PySem.Spec L2
open PyProof.Rows (envOfC)
theorem kit_pair {K : PySem.W.Frag} {H : Hp} {v : V} {p : Int × Int} (h : IsT H v (pr p)) : ∃ t, TyX K H v t ∧ PySem.W.kitAny K t [.type "list", .type "tuple"] = some true := by
  obtain ⟨a, rfl, h⟩ := h
  exact LT.kit (.inr h)
theorem map_take {α β : Type} (f : α → β) (xs : List α) (n : Nat) : (xs.take n).map f = (xs.map f).take n := by rw [List.map_take]
section
variable {P : Program} {w : World} {K : PySem.W.Frag} {mg : Str → Option Value} {base : Heap}
def sp_pairs_in (K : PySem.W.Frag) : Sp := fun vs H Q _ => ∃ (a : Addr) (xs : List V) (ps : List (Int × Int)), vs = [.ref a] ∧ H a = some (.lst xs) ∧ Prs H xs ps ∧ (ps.map (·.1)).Nodup ∧ xs.length < 64 ∧
  ∀ b H', Kp N0 H H' → H' b = some (.lst xs) → Q (.ref b) H'
theorem sc_pairs_in : FnScope ["value", "each"] ["value"] (defScope s_pairs_in) := ⟨rfl, rfl, rfl, by decide +kernel, rfl, by decide +kernel, by decide +kernel⟩
theorem c_pairs_in (T : TX K mg) : C8.Cal P w K mg base 2 "pairs_in" (sp_pairs_in K) [] := by
  refine mkCal (k := 1) T.g_pairs_in T.d_pairs_in (fun _ _ _ _ _ _ us hl => match us, hl with | [_], _ => rfl) sc_pairs_in (fun vs H Q E h => ?_) (fun cdv A outer s H vs Q E hr h => ?_)
  · obtain ⟨a, xs, ps, rfl, _⟩ := h; rfl
  · obtain ⟨a, xs, ps, rfl, ha, hp, hnd, h64, k⟩ := h
    refine ⟨_, (pss_cons (ps_if (pt_val (pe_callB call_isi (by rfl) T.f_isinstance (by decide +kernel) (pa_cons (pv 0) (pa_cons (pe_bltn (v := .ty "dict") (u := .type "dict") (by rfl) T.f_dict (by decide +kernel) rfl) pa_nil)))) (pss_one ps_never) pss_nil)
      (pss_cons (ps_if (pt_not (pt_val (pe_callB call_isiT (by rfl) T.f_isinstance (by decide +kernel) (pa_cons (pv 0) (pa_cons (pe_tup (pa_cons (pe_bltn (v := .ty "list") (u := .type "list") (by rfl) T.f_list (by decide +kernel) rfl) (pa_cons (pe_bltn (v := .ty "tuple") (u := .type "tuple") (by rfl) T.f_tuple (by decide +kernel) rfl) pa_nil))) pa_nil))))) (pss_one (ps_ret pe_non)) pss_nil)
      (pss_cons (ps_if (pt_not (pt_val (pe_callB (cr_all rfl) (by rfl) T.f_all (by decide +kernel) (pa_cons (pe_lc (own := [("each", 1)]) (by rfl) sc_pairs_in.nd (pi_list (pv 0)) (blkOk_by (N := ["value", "each"]) (sc := defScope s_pairs_in) (own := [("each", 1)]) (by decide +kernel)) (fun _ _ _ _ _ => (pg_name (i := 1) sc_pairs_in.nd rfl (Or.inl rfl))) (fun _ _ _ _ _ => pts_nil) (fun _ _ _ _ _ => (pe_and (pe_callB (id := "isinstance") (r := rIsiT K) (cr_isiT (K := K) rfl) (by rfl) T.f_isinstance (by decide +kernel) (pa_cons (pv 1) (pa_cons (pe_tup (pa_cons (pe_bltn (v := .ty "list") (u := .type "list") (by rfl) T.f_list (by decide +kernel) rfl) (pa_cons (pe_bltn (v := .ty "tuple") (u := .type "tuple") (by rfl) T.f_tuple (by decide +kernel) rfl) pa_nil))) pa_nil))) (pe_one (pe_cmpR op_eq (pe_callB (id := "len") (r := Evl.rLenS K) (cr_len (K := K) rfl) (by rfl) T.f_len (by decide +kernel) (pa_cons (pv 1) pa_nil)) pe_int (nomark _)))))) pa_nil)))) (pss_one (ps_ret pe_non)) pss_nil)
      (pss_cons (ps_if (PW.pt (pw_or (pt_not (pt_val (pe_callB (cr_all rfl) (by rfl) T.f_all (by decide +kernel) (pa_cons (pe_lc (own := [("each", 1)]) (by rfl) sc_pairs_in.nd (pi_list (pv 0)) (blkOk_by (N := ["value", "each"]) (sc := defScope s_pairs_in) (own := [("each", 1)]) (by decide +kernel)) (fun _ _ _ _ _ => (pg_name (i := 1) sc_pairs_in.nd rfl (Or.inl rfl))) (fun _ _ _ _ _ => pts_nil) (fun _ _ _ _ _ => (C8.pe_c (c_is_integer T) hr (by decide) rfl (pa_cons (pe_ix (r := rIxT K) (ixTK rfl) (pv 1) pe_int (fun _ _ => rfl)) pa_nil)))) pa_nil)))) (pw_or1 (pt_cmpR op_ne (pe_lenSetA (by rfl) T.f_len (by rfl) T.f_set (pe_lc (own := [("each", 1)]) (by rfl) sc_pairs_in.nd (pi_list (pv 0)) (blkOk_by (N := ["value", "each"]) (sc := defScope s_pairs_in) (own := [("each", 1)]) (by decide +kernel)) (fun _ _ _ _ _ => (pg_name (i := 1) sc_pairs_in.nd rfl (Or.inl rfl))) (fun _ _ _ _ _ => pts_nil) (fun _ _ _ _ _ => (pe_ix (r := rIxT K) (ixTK rfl) (pv 1) pe_int (fun _ _ => rfl))))) (pe_callB call_len_seq (by rfl) T.f_len (by decide +kernel) (pa_cons (pv 0) pa_nil)) (nomark _))))) (pss_one (ps_ret pe_non)) pss_nil)
      (pss_one (ps_ret (pe_lc (own := [("each", 1)]) (by rfl) sc_pairs_in.nd (pi_list (pv 0)) (blkOk_by (N := ["value", "each"]) (sc := defScope s_pairs_in) (own := [("each", 1)]) (by decide +kernel)) (fun _ _ _ _ _ => (pg_name (i := 1) sc_pairs_in.nd rfl (Or.inl rfl))) (fun _ _ _ _ _ => pts_nil) (fun _ _ _ _ _ => (pe_callTy (T := "tuple") (r := rTupS K) (cr_tupS (K := K) rfl) (by rfl) T.f_tuple (by decide +kernel) (pa_cons (pv 1) pa_nil)))))))))), ?_⟩
    refine ⟨_, rfl, _, _, _, _, false, rfl, .ty _, .base (.lst ha), kitT "list" "dict" false, false, rfl, iteF ?_⟩
    refine ⟨_, rfl, by show 2 ≤ sizeLine; decide, newO fun p H1 hp1 e1 h1 => ?_⟩
    have ha1 := e1.get0 ha
    obtain ⟨ty, ht, hk⟩ := LT.kit (K := K) (.inl ha1)
    refine ⟨_, p, _, ty, _, true, rfl, h1, cls2, ht, hk, true, rfl, iteF ?_⟩
    -- all are pairs
    refine ⟨_, rfl, a, rfl, ⟨xs, SqL.of ha1⟩, fun D hD => ?_⟩
    refine lcW (walk_list (K := K)) N0 (fun i ys H => ys = List.replicate i (V.bl true)) hD id (by omega) (fun H' e => e.sql (SqL.of ha1)) (fun _ _ => rfl) (fun _ _ _ _ _ h => h) ?_ ?_
    · rintro i x ys H2 H3 Zy Zn hi ⟨rfl, hx⟩ e2 hy rfl _ hZ _
      obtain ⟨q, hq, hv⟩ := (hp.mono (e1.trans e2).tp).get hx
      refine ⟨rfl, yesT ⟨_, rfl, by show 2 ≤ sizeLine; decide, newO fun p4 H4 hp4 e4 h4 => ?_⟩⟩
      obtain ⟨ty, ht, hk⟩ := kit_pair (K := K) (hv.mono e4.tp)
      refine ⟨_, p4, _, ty, _, true, rfl, h4, cls2, ht, hk, true, rfl, iteT ?_⟩
      obtain ⟨b, rfl, hb⟩ := hv
      exact ⟨_, rfl, b, _, rfl, .inr (SqT.of (e4.t _ _ hb)), rfl, hZ _ _ e4 (rep_snoc _ _)⟩
    rintro ys H2 e2 hy rfl
    rw [rep_bl] at hy
    refine ⟨D, _, rfl, SqL.of hy, ?_⟩
    rw [rep_all]
    refine ⟨true, rfl, iteF ?_⟩
    have e12 := e1.trans e2
    have ha2 := e12.get0 ha
    -- all first ones are ints
    refine ⟨_, rfl, a, rfl, ⟨xs, SqL.of ha2⟩, fun D2 hD2 => ?_⟩
    refine lcW (walk_list (K := K)) N0 (fun i ys H => ys = List.replicate i (V.bl true)) hD2 id (by omega) (fun H' e => e.sql (SqL.of ha2)) (fun _ _ => rfl) (fun _ _ _ _ _ h => h) ?_ ?_
    · rintro i x ys H3 H4 Zy Zn hi ⟨rfl, hx⟩ e3 hy rfl _ hZ _
      obtain ⟨q, hq, b, rfl, hb⟩ := (hp.mono (e12.trans e3).tp).get hx
      refine ⟨rfl, yesT ⟨_, rfl, b, _, _, .int q.1, rfl, rfl, SqT.of hb, rfl, q.1, rfl, fun H5 e5 => hZ _ _ e5 (rep_snoc _ _)⟩⟩
    rintro ys H3 e3 hy3 rfl
    rw [rep_bl] at hy3
    refine ⟨D2, _, rfl, SqL.of hy3, ?_⟩
    rw [rep_all]
    refine ⟨true, rfl, iteF ?_⟩
    have e13 := e12.trans e3
    have ha3 := e13.get0 ha
    -- len(set([each[0] ..])) != len(value)
    refine ⟨_, rfl, a, rfl, ⟨xs, SqL.of ha3⟩, fun D3 hD3 => ?_⟩
    refine lcW (walk_list (K := K)) N0 (fun i ys H => ys = ((ps.map (·.1)).take i).map V.int) hD3 id (by omega) (fun H' e => e.sql (SqL.of ha3)) (fun _ _ => rfl) (fun _ _ _ _ _ h => h) ?_ ?_
    · rintro i x ys H4 H5 Zy Zn hi ⟨rfl, hx⟩ e4 hy rfl _ hZ _
      obtain ⟨q, hq, b, rfl, hb⟩ := (hp.mono (e13.trans e4).tp).get hx
      refine ⟨rfl, yesT ⟨_, rfl, b, _, _, .int q.1, rfl, rfl, SqT.of hb, rfl, hZ _ _ Kp.refl ?_⟩⟩
      rw [take_snoc (x := q.1) (by rw [List.getElem?_map, hq]; rfl), List.map_append]; rfl
    rintro ys H4 e4 hy4 rfl
    have hpl := Rw.length hp
    have hl : (ps.map (·.1)).take xs.length = ps.map (·.1) := by rw [hpl, ← List.length_map (f := (·.1)) (as := ps)]; exact take_all _
    rw [hl] at hy4
    have e14 := e13.trans e4
    refine ⟨D3, _, rfl, .inl (SqL.of hy4), by rw [List.length_map]; omega, hnd, _, rfl, a, xs, rfl, .inl (SqL.of (e14.get0 ha)), rfl, ?_⟩
    have e : (!decide (V.int ((ps.map (·.1)).length : Int) = V.int ((xs.length : Nat) : Int))) = false := by rw [List.length_map, hpl]; simp
    rw [e]
    refine ⟨false, rfl, iteF ?_⟩
    have ha4 := e14.get0 ha
    refine ⟨_, rfl, a, rfl, ⟨xs, SqL.of ha4⟩, fun D4 hD4 => ?_⟩
    refine lcW (walk_list (K := K)) N0 (fun i ys H => ys = xs.take i) hD4 id (by omega) (fun H' e => e.sql (SqL.of ha4)) (fun _ _ => rfl) (fun _ _ _ _ _ h => h) ?_ ?_
    · rintro i x ys H5 H6 Zy Zn hi ⟨rfl, hx⟩ e5 hy rfl _ hZ _
      obtain ⟨q, hq, b, rfl, hb⟩ := (hp.mono (e14.trans e5).tp).get hx
      exact ⟨rfl, yesT ⟨_, rfl, b, _, rfl, .inr ⟨SqT.of hb, hZ _ _ Kp.refl (take_snoc hx).symm⟩⟩⟩
    rintro ys H5 e5 hy5 rfl
    rw [take_all] at hy5
    exact k D4 H5 (e14.trans e5) hy5

def sp_turns_from (K : PySem.W.Frag) : Sp := fun vs H Q _ => ∃ (a l : Addr) (xs : List V) (ps : List (Int × Int)) (lo : List Int), vs = [.ref a, .ref l] ∧ H a = some (.lst xs) ∧ Prs H xs ps ∧ xs.length < 64 ∧ H l = some (.tup (lo.map V.int)) ∧
  (ps.map (·.1)).Perm lo ∧ lo.Nodup ∧ lo.Pairwise (· ≤ ·) ∧ (∀ p ∈ ps, 0 ≤ p.1 ∧ 0 ≤ p.2 ∧ p.2 ≤ 7) ∧
  ∀ b o ys qs H', Kp N0 H H' → H' b = some (.frz o (.tup ys)) → o.dict = none → Prs H' ys qs → qs.Perm ps → Q (.ref b) H'
theorem sc_turns_from : FnScope ["value", "looked", "pairs", "thing", "_", "turn"] ["value", "looked"] (defScope s_turns_from) := ⟨rfl, rfl, rfl, by decide +kernel, rfl, by decide +kernel, by decide +kernel⟩
theorem c_turns_from (T : TX K mg) : C8.Cal P w K mg base 4 "turns_from" (sp_turns_from K) [] := by
  refine mkCal (k := 3) T.g_turns_from T.d_turns_from (fun _ _ _ _ _ _ us hl => match us, hl with | [_, _], _ => rfl) sc_turns_from (fun vs H Q E h => ?_) (fun cdv A outer s H vs Q E hr h => ?_)
  · obtain ⟨a, l, xs, ps, lo, rfl, _⟩ := h; rfl
  · obtain ⟨a, l, xs, ps, lo, rfl, ha, hp, h64, hl, hperm, hnd, hsort, h0, k⟩ := h
    refine ⟨_, (pss_cons (ps_set (i := 2) sc_turns_from.nd rfl (Or.inl rfl) (C8.pe_c (c_pairs_in T) hr (by decide) rfl (pa_cons (pv 0) pa_nil)))
      (pss_cons (ps_if (PW.pt (pw_or (pt_cmp (pc_isN (pv 2))) (pw_or1 (pt_not (pt_val (pe_callB (cr_all rfl) (by rfl) T.f_all (by decide +kernel) (pa_cons (pe_lc (own := [("thing", 3), ("turn", 5)]) (by rfl) sc_turns_from.nd (pi_list (pv 2)) (blkOk_by (N := ["value", "looked", "pairs", "thing", "_", "turn"]) (sc := defScope s_turns_from) (own := [("thing", 3), ("turn", 5)]) (by decide +kernel)) (fun _ _ _ _ _ => (pg_tupK (K := K) 2 rfl rfl (pgs_cons (pg_name (i := 3) sc_turns_from.nd rfl (Or.inl rfl)) (pgs_cons (pg_name (i := 5) sc_turns_from.nd rfl (Or.inl rfl)) pgs_nil)))) (fun _ _ _ _ _ => pts_nil) (fun _ _ _ _ _ => (pe_and (C8.pe_c (c_is_within T) hr (by decide) rfl (pa_cons (pv 3) (pa_cons pe_int (pa_cons pe_non pa_nil)))) (pe_one (C8.pe_c (c_is_turn T) hr (by decide) rfl (pa_cons (pv 5) pa_nil)))))) pa_nil))))))) (pss_one ps_never) pss_nil)
      (pss_cons (ps_if (pt_cmpR (op_neD hr.units) (pe_callB cr_sorted (by rfl) T.f_sorted (by decide +kernel) (pa_cons (pe_lc (own := [("thing", 3), ("_", 4)]) (by rfl) sc_turns_from.nd (pi_list (pv 2)) (blkOk_by (N := ["value", "looked", "pairs", "thing", "_", "turn"]) (sc := defScope s_turns_from) (own := [("thing", 3), ("_", 4)]) (by decide +kernel)) (fun _ _ _ _ _ => (pg_tupK (K := K) 2 rfl rfl (pgs_cons (pg_name (i := 3) sc_turns_from.nd rfl (Or.inl rfl)) (pgs_cons (pg_name (i := 4) sc_turns_from.nd rfl (Or.inl rfl)) pgs_nil)))) (fun _ _ _ _ _ => pts_nil) (fun _ _ _ _ _ => (pv 3))) pa_nil)) (pe_callTy call_list_of (by rfl) T.f_list (by decide +kernel) (pa_cons (pv 1) pa_nil)) (nomark _)) (pss_one ps_never) pss_nil)
      (pss_one (ps_ret (pe_callTy cr_tupZ (by rfl) T.f_tuple (by decide +kernel) (pa_cons (pe_callB cr_sortedP (by rfl) T.f_sorted (by decide +kernel) (pa_cons (pv 2) pa_nil)) pa_nil))))))), ?_⟩
    refine ⟨_, rfl, a, xs, ps, rfl, ha, hp, hperm.nodup_iff.mpr hnd, h64, fun b H1 e1 hb => ?_⟩
    refine ⟨_, rfl, false, rfl, iteF ?_⟩
    refine ⟨_, rfl, b, rfl, ⟨xs, SqL.of hb⟩, fun D hD => ?_⟩
    refine lcW (walk_list (K := K)) N0 (fun i ys H => ys = List.replicate i (V.bl true)) hD id (by omega) (fun H' e => e.sql (SqL.of hb)) (fun _ _ => rfl) (fun _ _ _ _ _ h => h) ?_ ?_
    · rintro i x ys H2 H3 Zy Zn hi ⟨rfl, hx⟩ e2 hy rfl _ hZ _
      obtain ⟨q, hq, c, rfl, hc⟩ := (hp.mono (e1.trans e2).tp).get hx
      obtain ⟨z1, z2, z3⟩ := h0 q (List.mem_of_getElem? hq)
      refine ⟨c, _, rfl, SqT.of hc, rfl, .int q.1, _, rfl, .int q.2, _, rfl, rfl, rfl, yesT ?_⟩
      refine ⟨_, rfl, q.1, 0, .inl ⟨rfl, fun H4 e4 => ⟨_, rfl, ?_⟩⟩⟩
      rw [decide_eq_true z1]
      refine iteT ⟨_, rfl, q.2, rfl, fun H5 e5 => ?_⟩
      rw [decide_eq_true z2, decide_eq_true z3]
      exact hZ _ _ (e4.trans e5) (rep_snoc _ _)
    rintro ys H2 e2 hy rfl
    rw [rep_bl] at hy
    refine ⟨D, _, rfl, SqL.of hy, ?_⟩
    rw [rep_all]
    refine ⟨true, rfl, iteF ?_⟩
    have hb2 := e2.get0 hb
    have e12 := e1.trans e2
    refine ⟨_, rfl, b, rfl, ⟨xs, SqL.of hb2⟩, fun D2 hD2 => ?_⟩
    refine lcW (walk_list (K := K)) N0 (fun i ys H => ys = ((ps.map (·.1)).take i).map V.int) hD2 id (by omega) (fun H' e => e.sql (SqL.of hb2)) (fun _ _ => rfl) (fun _ _ _ _ _ h => h) ?_ ?_
    · rintro i x ys H4 H5 Zy Zn hi ⟨rfl, hx⟩ e4 hy rfl _ hZ _
      obtain ⟨q, hq, c, rfl, hc⟩ := (hp.mono (e12.trans e4).tp).get hx
      refine ⟨c, _, rfl, SqT.of hc, rfl, .int q.1, _, rfl, .int q.2, _, rfl, rfl, rfl, yesT ⟨_, rfl, hZ _ _ Kp.refl ?_⟩⟩
      rw [take_snoc (x := q.1) (by rw [List.getElem?_map, hq]; rfl), List.map_append]; rfl
    rintro ys H3 e3 hy3 rfl
    have hpl := Rw.length hp
    have hl2 : (ps.map (·.1)).take xs.length = ps.map (·.1) := by rw [hpl, ← List.length_map (f := (·.1)) (as := ps)]; exact take_all _
    rw [hl2] at hy3
    refine ⟨D2, _, rfl, SqL.of hy3, by rw [List.length_map]; omega, fun ns' f hpm hst hf => ?_⟩
    rw [sorted_eq (hpm.trans hperm) hst hsort]
    have e4 := Kp.new (F := N0) (o := .lst (lo.map V.int)) hf
    have e14 := (e12.trans e3).trans e4
    refine ⟨_, rfl, l, _, rfl, .inr (SqT.of (e14.t _ _ hl)), fun g hg => ?_⟩
    have e5 := Kp.new (F := N0) (o := .lst (lo.map V.int)) hg
    refine ⟨_, _, dp_list (SqL.of (e5.get0 upd_same)), dp_list (SqL.of upd_same), sh_list, sh_list, ?_⟩
    rw [eqv_list, decide_eq_true rfl]
    refine ⟨false, rfl, iteF ?_⟩
    have e15 := e14.trans e5
    have hb5 := ((e2.trans e3).trans (e4.trans e5)).get0 hb
    refine ⟨_, rfl, b, xs, rfl, SqL.of hb5, prs_each (hp.mono e15.tp), fun zs r hzp hr => ?_⟩
    obtain ⟨qs, hq1, hq2⟩ := Rw.perm hzp (hp.mono e15.tp)
    have e6 := Kp.new (F := N0) (o := .lst zs) hr
    refine ⟨r, zs, rfl, SqL.of upd_same, fun t o ht hd => ?_⟩
    have e7 := Kp.new (F := N0) (o := .frz o (.tup zs)) ht
    exact k t o zs qs _ ((e15.trans e6).trans e7) upd_same hd (hq2.mono (e6.trans e7).tp) hq1
end
end K50
end
section
set_option Elab.async false
set_option linter.all false
set_option maxRecDepth 100000
set_option maxHeartbeats 4000000
namespace K50
open PySem PySem.Spec L2
open PyProof.Rows (envOfC)
theorem Kp.at1 {H : Hp} {p : Addr} {o u : HO} (hp : H p = some u) (hu : ¬ Sol u) : Kp (fun a => a = p) H (upd H p o) := Kp.mutF Kp.refl rfl hp hu
theorem putF_ne {f g : Str} {v x : V} {r : List (Str × V)} (h : ¬ g = f) : putF f v ((g, x) :: r) = (g, x) :: putF f v r := if_neg h
def f1 (n : Int) : List (Str × V) := [("things", .int n)]
theorem fs1 {n : Int} : putF "things" (.int n) [] = f1 n := by
  rfl
def f2 (n : Int) (a1 : Addr) : List (Str × V) := [("things", .int n), ("strings", .ref a1)]
theorem fs2 {n : Int} {a1 : Addr} : putF "strings" (.ref a1) (f1 n) = f2 n a1 := by
  unfold f1
  rw [putF_ne (by decide +kernel)]; rfl
def f3 (n : Int) (a1 a2 : Addr) : List (Str × V) := [("things", .int n), ("strings", .ref a1), ("given", .ref a2)]
theorem fs3 {n : Int} {a1 a2 : Addr} : putF "given" (.ref a2) (f2 n a1) = f3 n a1 a2 := by
  unfold f2
  rw [putF_ne (by decide +kernel), putF_ne (by decide +kernel)]; rfl
def f4 (n : Int) (a1 a2 a3 : Addr) : List (Str × V) := [("things", .int n), ("strings", .ref a1), ("given", .ref a2), ("kept", .ref a3)]
theorem fs4 {n : Int} {a1 a2 a3 : Addr} : putF "kept" (.ref a3) (f3 n a1 a2) = f4 n a1 a2 a3 := by
  unfold f3
  rw [putF_ne (by decide +kernel), putF_ne (by decide +kernel), putF_ne (by decide +kernel)]; rfl
def f5 (n : Int) (a1 a2 a3 a4 : Addr) : List (Str × V) := [("things", .int n), ("strings", .ref a1), ("given", .ref a2), ("kept", .ref a3), ("looked", .ref a4)]
theorem fs5 {n : Int} {a1 a2 a3 a4 : Addr} : putF "looked" (.ref a4) (f4 n a1 a2 a3) = f5 n a1 a2 a3 a4 := by
  unfold f4
  rw [putF_ne (by decide +kernel), putF_ne (by decide +kernel), putF_ne (by decide +kernel), putF_ne (by decide +kernel)]; rfl
theorem fs6 {n : Int} {a1 a2 a3 a4 a5 : Addr} : putF "turns" (.ref a5) (f5 n a1 a2 a3 a4) = netFs n a1 a2 a3 a4 a5 := by
  unfold f5
  rw [putF_ne (by decide +kernel), putF_ne (by decide +kernel), putF_ne (by decide +kernel), putF_ne (by decide +kernel), putF_ne (by decide +kernel)]; rfl
theorem lk4 {n : Int} {a1 a2 a3 : Addr} : (f4 n a1 a2 a3).lookup ("kept" : Str) = some (.ref a3) := by
  unfold f4; rw [lk_tl (by decide +kernel), lk_tl (by decide +kernel), lk_tl (by decide +kernel)]; exact lk_hd
theorem lk5 {n : Int} {a1 a2 a3 a4 : Addr} : (f5 n a1 a2 a3 a4).lookup ("looked" : Str) = some (.ref a4) := by
  unfold f5; rw [lk_tl (by decide +kernel), lk_tl (by decide +kernel), lk_tl (by decide +kernel), lk_tl (by decide +kernel)]; exact lk_hd
/-- in a list of ints -/
theorem inV_ints {x : Int} : ∀ {ns : List Int}, inV (.int x) (ns.map V.int) = ns.contains x
  | [] => rfl
  | n :: ns => by
    have ih := inV_ints (x := x) (ns := ns)
    unfold inV at ih ⊢
    rw [List.map_cons, List.any_cons, ih, List.contains_cons]
    have e : eqV (.int n) (.int x) = (x == n) := by
      show (n == x) = (x == n)
      exact Bool.beq_comm
    rw [e]
theorem flat_ints : ∀ ns : List Int, (ns.map V.int).all flatV = true
  | [] => rfl
  | n :: ns => by rw [List.map_cons, List.all_cons, flat_ints ns]; rfl
/-- a filter, item by item -/
theorem filter_take {α : Type} {f : α → Bool} {xs : List α} {i : Nat} {x : α} (h : xs[i]? = some x) : (xs.take (i + 1)).filter f = (xs.take i).filter f ++ (if f x then [x] else []) := by
  rw [take_snoc h, List.filter_append]
  congr 1
  simp [List.filter]
  cases f x <;> rfl
theorem rg_get {n : Int} {i : Nat} (h : (i : Int) < n) : (rg n)[i]? = some (i : Int) := by
  unfold rg
  rw [List.getElem?_map, List.getElem?_range (by omega)]; rfl
theorem rg_len {n : Int} : (rg n).length = n.toNat := by unfold rg; simp

section
variable {P : Program} {w : World} {K : PySem.W.Frag} {mg : Str → Option Value} {base : Heap}
/-- what Net(..) is made of -/
structure NetIn (H : Hp) (n : Int) (s g k t : Addr) (xs ts : List V) (ps : List (Int × Int)) (gi ke : List Int) (tp : List (Int × Int)) : Prop where
  n1 : 1 ≤ n
  n7 : n ≤ 7
  hs : H s = some (.lst xs)
  rs : Prs H xs ps
  es : ∀ p ∈ ps, 0 ≤ p.1 ∧ p.1 < n ∧ 0 ≤ p.2 ∧ p.2 < n ∧ p.1 ≠ p.2
  ns : (ps.map norm).Nodup
  ls : ps.length < 64
  hg : H g = some (.lst (gi.map V.int))
  eg : ∀ x ∈ gi, 0 ≤ x ∧ x < n
  ng : gi.Nodup
  hk : H k = some (.lst (ke.map V.int))
  ek : ∀ x ∈ ke, 0 ≤ x ∧ x < n
  nk : ke.Nodup
  ht : H t = some (.lst ts)
  rt : Prs H ts tp
  pt : (tp.map (·.1)).Perm ((rg n).filter fun t => !ke.contains t)
  et : ∀ p ∈ tp, 0 ≤ p.2 ∧ p.2 ≤ 7
theorem range_small {n : Int} {l : List Int} (hn : n ≤ 7) (hl : l.Nodup) (h : ∀ x ∈ l, 0 ≤ x ∧ x < n) : l.length < 64 := by
  have q := nodup_le hl fun x hx => mem_rg.mpr (h x hx)
  rw [rg_len] at q
  omega
/-- the net that is made -/
structure Made (N : Nt) (n : Int) (ps : List (Int × Int)) (gi ke : List Int) (tp : List (Int × Int)) : Prop where
  sz : N.sz = n
  ed : N.ed.Perm (ps.map norm)
  gi : N.gi = gi
  ke : N.ke = ke
  tu : N.tu.Perm tp
def sp_Net_init (K : PySem.W.Frag) : Sp := fun vs H Q _ => ∃ (x dx s g k t : Addr) (n : Int) (xs ts : List V) (ps : List (Int × Int)) (gi ke : List Int) (tp : List (Int × Int)), vs = [.ref x, .int n, .ref s, .ref g, .ref k, .ref t] ∧
  H x = some (.ins (NetC K) dx []) ∧ NetIn H n s g k t xs ts ps gi ke tp ∧ ∀ (N : Nt) (H' : Hp), Kp (fun a => a = x) H H' → NetAt K H' x N → N.Ok → Made N n ps gi ke tp → Q .non H'
theorem sc_Net_init : FnScope ["self", "things", "strings", "given", "kept", "turns", "thing"] ["self", "things", "strings", "given", "kept", "turns"] (defScope s_Net_init) := ⟨rfl, rfl, rfl, by decide +kernel, rfl, by decide +kernel, by decide +kernel⟩
theorem c_Net (T : TX K mg) : C8.Mak P w K mg base 7 "Net" (NetC K) (sp_Net_init K) [] := by
  obtain ⟨fd, F⟩ := T.d_Net_init
  refine ⟨⟨_, fd, ["self", "things", "strings", "given", "kept", "turns"], [], T.m_Net, F.ok (k := 7 - 1) sc_Net_init (fun vs H Q E h => ?_) (fun cdv A outer s0 H vs Q E hr h => ?_), T.g_Net, F.bindsN (fun _ _ _ _ _ _ us hl => match us, hl with | [_, _, _, _, _, _], _ => rfl), .nil⟩⟩
  · obtain ⟨x, dx, s, g, k, t, n, xs, ts, ps, gi, ke, tp, rfl, _⟩ := h; rfl
  · obtain ⟨x, dx, s, g, k, t, n, xs, ts, ps, gi, ke, tp, rfl, hx, I, kk⟩ := h
    obtain ⟨tM, hMOST_THINGS⟩ := T.i_MOST_THINGS
    suffices hq : ∃ u, PSs (cxOf CX0 P w K mg base ["self", "things", "strings", "given", "kept", "turns", "thing"] "Net.__init__" (defScope s_Net_init) (He.ma K (He.ga K "Net") "__init__") cdv A outer s0 H E).nox (defBody s_Net_init) u ∧ u { nx := fun _ H' => Q .non H', rt := Q } (start ["self", "things", "strings", "given", "kept", "turns", "thing"] [.ref x, .int n, .ref s, .ref g, .ref k, .ref t]) H by
      obtain ⟨u, h1, h2⟩ := hq
      exact ⟨u, h1.nox, h2⟩
    have hn7 := I.n7
    have hn1 := I.n1
    refine ⟨_, (pss_cons (ps_if (pt_not (pt_val (C8.pe_c (c_is_within T) hr (by decide) rfl (pa_cons (pv 1) (pa_cons pe_int (pa_cons (pe_glob (v := .int 120) rfl hMOST_THINGS ⟨_, rfl⟩) pa_nil)))))) (pss_one ps_never) pss_nil)
      (pss_cons (ps_fld (pv 0) (pv 1) rfl)
      (pss_cons (ps_fld (pv 0) (C8.pe_c (c_strings_from T) hr (by decide) rfl (pa_cons (pv 2) (pa_cons (pv 1) pa_nil))) rfl)
      (pss_cons (ps_fld (pv 0) (C8.pe_c (c_things_from T) hr (by decide) rfl (pa_cons (pv 3) (pa_cons (pv 1) (pa_cons pe_str pa_nil)))) rfl)
      (pss_cons (ps_fld (pv 0) (C8.pe_c (c_things_from T) hr (by decide) rfl (pa_cons (pv 4) (pa_cons (pv 1) (pa_cons pe_str pa_nil)))) rfl)
      (pss_cons (ps_fld (pv 0) (pe_callTy call_tuple_of (by rfl) T.f_tuple (by decide +kernel) (pa_cons (pe_lc (own := [("thing", 6)]) (by rfl) sc_Net_init.nd (pi_range1 (by rfl) T.f_range (pa_cons (pv 1) pa_nil)) (blkOk_by (N := ["self", "things", "strings", "given", "kept", "turns", "thing"]) (sc := defScope s_Net_init) (own := [("thing", 6)]) (by decide +kernel)) (fun _ _ _ _ _ => (pg_name (i := 6) sc_Net_init.nd rfl (Or.inl rfl))) (fun _ _ _ _ _ => pts_one (pt_cmpR (r := rIn K true) (or_notIn rfl) (pv 6) (pe_fldK (K := K) rfl (pv 0) rfl) (by rfl))) (fun _ _ _ _ _ => (pv 6))) pa_nil)) rfl)
      (pss_one (ps_fld (pv 0) (C8.pe_c (c_turns_from T) hr (by decide) rfl (pa_cons (pv 5) (pa_cons (pe_fld (pv 0) rfl) pa_nil))) rfl)))))))), ?_⟩
    refine ⟨_, rfl, n, 1, .inr ⟨120, rfl, fun H1 e1 => ⟨_, rfl, ?_⟩⟩⟩
    rw [decide_eq_true hn1, decide_eq_true (show n ≤ 120 by omega)]
    refine iteF ?_
    -- self.things = things
    have hx1 := e1.get0 hx
    refine ⟨_, rfl, _, rfl, x, _, dx, _, rfl, hx1, T.c_Net, T.n_Net_things, by decide, ?_⟩
    rw [fs1]
    have x2 : (upd H1 x (.ins (NetC K) dx (f1 n))) x = _ := upd_same
    have e2 : Kp (fun a => a = x) H (upd H1 x (.ins (NetC K) dx (f1 n))) := Kp.mutF e1.weak rfl hx1 sol_ins
    generalize upd H1 x (.ins (NetC K) dx (f1 n)) = H2 at x2 e2
    have lst_ne : ∀ {a : Addr} {l : List V}, H a = some (.lst l) → ¬ a = x := fun h => ne_of h hx (fun z => by cases z)
    -- self.strings = strings_from(strings, things)
    refine ⟨_, rfl, _, rfl, s, xs, ps, n, rfl, e2.get (lst_ne I.hs) I.hs, I.rs.mono e2.tp, by rw [Rw.length I.rs]; exact I.ls, I.ns, I.es, fun b1 ys1 qs H3 e3 hb1 rb1 pm1 => ?_⟩
    have x3 := e3.get0 x2
    refine ⟨_, rfl, x, _, dx, _, rfl, x3, T.c_Net, T.n_Net_strings, by show 1 < 1000; decide, ?_⟩
    rw [fs2]
    have x4 : (upd H3 x (.ins (NetC K) dx (f2 n b1))) x = _ := upd_same
    have e4 : Kp (fun a => a = x) H3 (upd H3 x (.ins (NetC K) dx (f2 n b1))) := Kp.at1 x3 sol_ins
    generalize upd H3 x (.ins (NetC K) dx (f2 n b1)) = H4 at x4 e4
    have E4 := (e2.trans e3.weak).trans e4
    -- self.given = things_from(given, things, "given")
    refine ⟨_, rfl, _, rfl, g, gi, n, _, rfl, E4.get (lst_ne I.hg) I.hg, range_small hn7 I.ng I.eg, I.ng, I.eg, fun b2 H5 e5 hb2 => ?_⟩
    have x5 := e5.get0 x4
    refine ⟨_, rfl, x, _, dx, _, rfl, x5, T.c_Net, T.n_Net_given, by show 2 < 1000; decide, ?_⟩
    rw [fs3]
    have x6 : (upd H5 x (.ins (NetC K) dx (f3 n b1 b2))) x = _ := upd_same
    have e6 : Kp (fun a => a = x) H5 (upd H5 x (.ins (NetC K) dx (f3 n b1 b2))) := Kp.at1 x5 sol_ins
    generalize upd H5 x (.ins (NetC K) dx (f3 n b1 b2)) = H6 at x6 e6
    have E6 := (E4.trans e5.weak).trans e6
    -- self.kept = things_from(kept, things, "kept")
    refine ⟨_, rfl, _, rfl, k, ke, n, _, rfl, E6.get (lst_ne I.hk) I.hk, range_small hn7 I.nk I.ek, I.nk, I.ek, fun b3 H7 e7 hb3 => ?_⟩
    have x7 := e7.get0 x6
    refine ⟨_, rfl, x, _, dx, _, rfl, x7, T.c_Net, T.n_Net_kept, by show 3 < 1000; decide, ?_⟩
    rw [fs4]
    have x8 : (upd H7 x (.ins (NetC K) dx (f4 n b1 b2 b3))) x = _ := upd_same
    have e8 : Kp (fun a => a = x) H7 (upd H7 x (.ins (NetC K) dx (f4 n b1 b2 b3))) := Kp.at1 x7 sol_ins
    generalize upd H7 x (.ins (NetC K) dx (f4 n b1 b2 b3)) = H8 at x8 e8
    have E8 := (E6.trans e7.weak).trans e8
    have hb3' := e8.t _ _ hb3
    -- self.looked = tuple([thing for thing in range(things) if thing not in self.kept])
    refine ⟨_, rfl, n, rfl, by omega, by omega, fun D hD => ?_⟩
    have hlo : ∀ i : Nat, (((rg n).take i).filter fun t => !ke.contains t).length ≤ i := fun i => Nat.le_trans (List.length_filter_le _ _) (by rw [List.length_take]; omega)
    refine lcW (walk_range (lo := 0) (n := n.toNat)) N0 (fun i ys H => ys = (((rg n).take i).filter fun t => !ke.contains t).map V.int) hD id (by omega) (fun _ _ => trivial) (fun _ _ => rfl) (fun _ _ _ _ _ h => h) ?_ ?_
    · rintro i y ys H9 H9' Zy Zn hi ⟨rfl, hy⟩ e9 hD9 rfl _ hZ hN
      have e0 : (0 : Int) + (i : Int) = (i : Int) := Int.zero_add _
      have hy : y = .int (0 + (i : Int)) := hy
      rw [e0] at hy
      subst hy
      refine ⟨rfl, _, rfl, _, rfl, x, _, dx, _, _, rfl, e9.get0 x8, T.c_Net, T.n_Net_kept, lk4, b3, _, rfl, .inr (SqT.of (e9.t _ _ hb3')), rfl, flat_ints _, ?_⟩
      rw [inV_ints]
      refine ⟨_, rfl, ?_⟩
      have hg := filter_take (f := fun t => !ke.contains t) (rg_get (n := n) (i := i) (by omega))
      cases hc : ke.contains (i : Int) with
      | true =>
        refine iteF (hN _ Kp.refl ?_)
        rw [hg, hc]; simp
      | false =>
        refine iteT ⟨_, rfl, hZ _ _ Kp.refl ?_⟩
        rw [hg, hc]; simp
    rintro ys H9 e9 hD9 rfl
    have hall : (rg n).take n.toNat = rg n := by rw [← rg_len]; exact take_all _
    rw [hall] at hD9
    refine ⟨D, _, rfl, .inl ⟨SqL.of hD9, fun b4 hb4 => ?_⟩⟩
    have x9 := e9.get0 x8
    have e10 := Kp.new (F := N0) (o := .tup (((rg n).filter fun t => !ke.contains t).map V.int)) hb4
    have hb4' : (upd H9 b4 (.tup (((rg n).filter fun t => !ke.contains t).map V.int))) b4 = _ := upd_same
    generalize upd H9 b4 (.tup (((rg n).filter fun t => !ke.contains t).map V.int)) = H10 at e10 hb4'
    have x10 := e10.get0 x9
    refine ⟨_, rfl, x, _, dx, _, rfl, x10, T.c_Net, T.n_Net_looked, by show 4 < 1000; decide, ?_⟩
    rw [fs5]
    have x11 : (upd H10 x (.ins (NetC K) dx (f5 n b1 b2 b3 b4))) x = _ := upd_same
    have e11 : Kp (fun a => a = x) H10 (upd H10 x (.ins (NetC K) dx (f5 n b1 b2 b3 b4))) := Kp.at1 x10 sol_ins
    generalize upd H10 x (.ins (NetC K) dx (f5 n b1 b2 b3 b4)) = H11 at x11 e11
    have E11 := ((E8.trans e9.weak).trans e10.weak).trans e11
    have hb4'' := e11.t _ _ hb4'
    -- self.turns = turns_from(turns, self.looked)
    have h64 : ts.length < 64 := by
      rw [Rw.length I.rt]
      have q1 := I.pt.length_eq
      have q2 := hlo n.toNat
      rw [hall] at q2
      rw [List.length_map] at q1
      omega
    refine ⟨_, rfl, _, rfl, x, _, dx, _, _, rfl, x11, T.c_Net, T.n_Net_looked, lk5, t, b4, ts, tp, _, rfl, E11.get (lst_ne I.ht) I.ht, I.rt.mono E11.tp, h64, hb4'', I.pt, rg_nodup.filter _, rg_sorted.filter _, fun p hp => ?_, fun b5 o ys5 qs5 H12 e12 hb5 ho rb5 pm5 => ?_⟩
    · have hm : p.1 ∈ (rg n).filter fun t => !ke.contains t := I.pt.mem_iff.mp (List.mem_map.mpr ⟨p, hp, rfl⟩)
      exact ⟨(mem_rg.mp (List.mem_filter.mp hm).1).1, I.et p hp⟩
    have x12 := e12.get0 x11
    refine ⟨_, rfl, x, _, dx, _, rfl, x12, T.c_Net, T.n_Net_turns, by show 5 < 1000; decide, ?_⟩
    rw [fs6]
    have x13 : (upd H12 x (.ins (NetC K) dx (netFs n b1 b2 b3 b4 b5))) x = _ := upd_same
    have e13 : Kp (fun a => a = x) H12 (upd H12 x (.ins (NetC K) dx (netFs n b1 b2 b3 b4 b5))) := Kp.at1 x12 sol_ins
    generalize upd H12 x (.ins (NetC K) dx (netFs n b1 b2 b3 b4 b5)) = H13 at x13 e13
    have E13 := (E11.trans e12.weak).trans e13
    have t11 := e12.tp.trans e13.tp
    have t8 : Tp H8 H13 := ((e9.tp.trans e10.tp).trans e11.tp).trans t11
    have t6 : Tp H6 H13 := (e7.tp.trans e8.tp).trans t8
    have t4 : Tp H4 H13 := (e5.tp.trans e6.tp).trans t6
    have t3 : Tp H3 H13 := e4.tp.trans t4
    have t5 : Tp H5 H13 := e6.tp.trans t6
    have t7 : Tp H7 H13 := e8.tp.trans t8
    have hlook : qs5.Perm tp := pm5
    refine kk ⟨n, qs, gi, ke, (rg n).filter fun t => !ke.contains t, qs5⟩ H13 E13 ⟨dx, b1, b2, b3, b4, b5, ys1, ys5, o, ⟨x13, t3 _ _ sol_tup hb1, rb1.mono t3, t5 _ _ sol_tup hb2, t7 _ _ sol_tup hb3, t11 _ _ sol_tup hb4'', e13.s _ _ sol_frz hb5, ho, rb5.mono e13.tp⟩⟩ ?_ ⟨rfl, pm1, rfl, rfl, pm5⟩
    refine ⟨hn1, hn7, fun p hp => ?_, pm1.nodup_iff.mpr I.ns, I.eg, I.ng, I.ek, I.nk, rfl, (pm5.map _).trans I.pt, fun p hp => I.et p (pm5.mem_iff.mp hp)⟩
    obtain ⟨q, hq, rfl⟩ := List.mem_map.mp (pm1.mem_iff.mp hp)
    obtain ⟨z1, z2, z3, z4, z5⟩ := I.es q hq
    show 0 ≤ min q.1 q.2 ∧ min q.1 q.2 < max q.1 q.2 ∧ max q.1 q.2 < n
    omega
end
end K50
end
section
set_option Elab.async false
set_option linter.all false
set_option maxRecDepth 100000
set_option maxHeartbeats 4000000
namespace K50
open PySem PySem.Spec L2
open PyProof.Rows (envOfC)
/-! ### the head's further facts -/
theorem TX.qu {K : PySem.W.Frag} {mg : Str → Option Value} (T : TX K mg) : QuK K := qu_of (He.ba T.ex).1
theorem TX.halves {K : PySem.W.Frag} {mg : Str → Option Value} (T : TX K mg) (H : Hp) : SqT K H (He.ga K "HALVES") [.int 0, .int 4] := He.tupB_ok (He.ba (He.ba T.ex).2).1 H
theorem TX.lesB {K : PySem.W.Frag} {mg : Str → Option Value} (T : TX K mg) : K50.lesB K = true := (He.ba (He.ba (He.ba T.ex).2).2).1
theorem TX.supB {K : PySem.W.Frag} {mg : Str → Option Value} (T : TX K mg) : K50.supB K = true := (He.ba (He.ba (He.ba (He.ba T.ex).2).2).2).1
theorem TX.insB {K : PySem.W.Frag} {mg : Str → Option Value} (T : TX K mg) : K50.insB K = true := (He.ba (He.ba (He.ba (He.ba T.ex).2).2).2).2
theorem TX.tyNet {K : PySem.W.Frag} {mg : Str → Option Value} (T : TX K mg) {H : Hp} {p dx : Addr} {fs : List (Str × V)} (h : H p = some (.ins (NetC K) dx fs)) : TyX K H (.ref p) (.ref (NetC K)) := by
  obtain ⟨h1, h2⟩ := He.ba T.insB
  obtain ⟨h2, h3⟩ := He.ba h2
  obtain ⟨h3, h4⟩ := He.ba h3
  obtain ⟨h4, h5⟩ := He.ba h4
  exact .base (.ins h T.c_Net (He.eqO_ok h1) (He.eqO_ok h2) (of_decide_eq_true h3) (of_decide_eq_true h4))
theorem TX.kitNet {K : PySem.W.Frag} {mg : Str → Option Value} (T : TX K mg) : PySem.W.kitAny K (.ref (NetC K)) [.type "list", .type "tuple"] = some false := by
  obtain ⟨h1, h2⟩ := He.ba T.insB
  obtain ⟨h2, h3⟩ := He.ba h2
  obtain ⟨h3, h4⟩ := He.ba h3
  obtain ⟨h4, h5⟩ := He.ba h4
  exact of_decide_eq_true h5
theorem kit_same {K : PySem.W.Frag} {a : Value} : PySem.W.kitOne K a a = some true := if_pos (by simp)
/-! ### neighbours -/
def nbr (ed : List (Int × Int)) (i : Int) : List Int := ed.flatMap fun p => if p.1 = i then [p.2] else if p.2 = i then [p.1] else []
theorem nbr_snoc (ed : List (Int × Int)) (p : Int × Int) (i : Int) : nbr (ed ++ [p]) i = nbr ed i ++ (if p.1 = i then [p.2] else if p.2 = i then [p.1] else []) := by
  unfold nbr; rw [List.flatMap_append]; simp
def adj (ed : List (Int × Int)) (i j : Int) : Prop := (i, j) ∈ ed ∨ (j, i) ∈ ed
theorem mem_nbr {ed : List (Int × Int)} {i j : Int} : j ∈ nbr ed i ↔ adj ed i j := by
  unfold nbr adj
  rw [List.mem_flatMap]
  constructor
  · rintro ⟨⟨a, b⟩, hp, h⟩
    by_cases h1 : a = i
    · simp [h1] at h; subst h1; subst h; exact .inl hp
    · by_cases h2 : b = i
      · simp [h1, h2] at h; subst h2; subst h; exact .inr hp
      · simp [h1, h2] at h
  · rintro (h | h)
    · exact ⟨_, h, by simp⟩
    · refine ⟨_, h, ?_⟩
      by_cases h1 : j = i
      · simp [h1]
      · simp [h1]
theorem nbr_nodup {ed : List (Int × Int)} {i : Int} (hn : ed.Nodup) (h : ∀ p ∈ ed, p.1 < p.2) : (nbr ed i).Nodup := by
  induction ed with
  | nil => exact List.nodup_nil
  | cons p ed ih =>
    obtain ⟨hp, hn'⟩ := List.nodup_cons.mp hn
    have ih := ih hn' fun q hq => h q (List.mem_cons_of_mem _ hq)
    have hlt := h p (List.mem_cons_self ..)
    have e : nbr (p :: ed) i = (if p.1 = i then [p.2] else if p.2 = i then [p.1] else []) ++ nbr ed i := by unfold nbr; simp
    rw [e]
    have key : ∀ j, (p = (i, j) ∨ p = (j, i)) → j ∉ nbr ed i := by
      intro j hj hm
      rcases mem_nbr.mp hm with q | q
      · rcases hj with e | e
        · exact hp (by rw [e]; exact q)
        · have := h (i, j) (List.mem_cons_of_mem _ q)
          rw [e] at hlt
          simp only at this hlt
          omega
      · rcases hj with e | e
        · have := h (j, i) (List.mem_cons_of_mem _ q)
          rw [e] at hlt
          simp only at this hlt
          omega
        · exact hp (by rw [e]; exact q)
    by_cases h1 : p.1 = i
    · rw [if_pos h1]
      exact List.nodup_cons.mpr ⟨key p.2 (.inl (Prod.ext h1 rfl)), ih⟩
    · rw [if_neg h1]
      by_cases h2 : p.2 = i
      · rw [if_pos h2]
        exact List.nodup_cons.mpr ⟨key p.1 (.inr (Prod.ext rfl h2)), ih⟩
      · rw [if_neg h2]; exact ih
/-- the neighbours of all things, as near_in tells them -/
def NearAt (H : Hp) (l : Addr) (N : Nt) : Prop := ∃ xs rows, H l = some (.lst xs) ∧ Rw id H xs rows ∧ rows.length = N.sz.toNat ∧ ∀ (i : Nat) r, rows[i]? = some r → r.Perm (nbr N.ed (i : Int))
theorem NearAt.mono {F : Addr → Prop} {H H' : Hp} {l : Addr} {N : Nt} (e : Kp F H H') (n : ¬ F l) (h : NearAt H l N) : NearAt H' l N := by
  obtain ⟨xs, rows, h1, h2, h3, h4⟩ := h
  exact ⟨xs, rows, e.k _ _ n h1, h2.mono e.tp, h3, h4⟩
theorem NearAt.row {H : Hp} {l : Addr} {N : Nt} (h : NearAt H l N) {i : Int} (h0 : 0 ≤ i) (h1 : i < N.sz) : ∃ (xs : List V) (t : Addr) (r : List Int), H l = some (.lst xs) ∧ atI xs i = some (.ref t) ∧ H t = some (.tup (r.map V.int)) ∧ r.Perm (nbr N.ed i) := by
  obtain ⟨xs, rows, a1, a2, a3, a4⟩ := h
  have hi : i.toNat < rows.length := by omega
  have hr : rows[i.toNat]? = some rows[i.toNat] := List.getElem?_eq_getElem hi
  obtain ⟨v, hv, t, rfl, ht⟩ := a2.get' hr
  have e : ((i.toNat : Nat) : Int) = i := by omega
  have hp := a4 i.toNat _ hr
  rw [e] at hp
  refine ⟨xs, t, _, a1, ?_, ht, hp⟩
  have q := atI_nat hv
  rw [e] at q
  exact q
end K50
end
section
set_option Elab.async false
set_option linter.all false
set_option maxRecDepth 100000
set_option maxHeartbeats 4000000
namespace K50
open PySem PySem.Spec L2
open PyProof.Rows (envOfC)
/-- mkCal for a def with one default that is never used -/
theorem mkCal1 {P : Program} {w : World} {K : PySem.W.Frag} {mg : Str → Option Value} {base : Heap} {x : Str} {st : Stmt} {N ps : List Str} {k : Nat} {sp : Sp} {f : Addr} {dv : V}
    (g : mg x = some (.ref f)) (F : ∃ fd, FunD K x x (defArgs st) (defBody st) (defScope st) [dv] [] f fd)
    (bind : ∀ (T : Addr) (kV doc pm : Value) (an : Option Addr) (cdv ct : Value) (us its : List Value), us.length = ps.length → its.length = 1 →
      ∃ k, bindArgs (PySem.W.fnOf x x (defArgs st) (defBody st) (defScope st) (.ref T) kV doc pm an cdv ct) ⟨us, []⟩ = seqItems? (.ref T) >>= k ∧ k (some its.toArray) = pure (ps.zip us))
    (S : FnScope N ps (defScope st)) (len : ∀ vs H Q E, sp vs H Q E → vs.length = ps.length)
    (body : ∀ (cdv : Value) (A : Around) (outer : List Env) (s : Shared) (H : Hp) (vs : List V) (Q : VK) (E : XK), Room k (A.deeper (envOfC x (defScope st) s.heap.objs.size f cdv)) → sp vs H Q E →
      ∃ t, PSs (cxOf CX0 P w K mg base N x (defScope st) f cdv A outer s H E).nox (defBody st) t ∧ t { nx := fun _ H' => Q .non H', rt := Q } (start N vs) H) :
    C8.Cal P w K mg base (k + 1) x sp [] := by
  obtain ⟨fd, F⟩ := F
  obtain ⟨ds, hd, hb⟩ := F.binds1 (ps := ps) ps.length 1 (by simp) (by simp) fun T kV doc pm an cdv ct us its hu hi => by
    obtain ⟨k, h1, h2⟩ := bind T kV doc pm an cdv ct us its hu hi
    refine ⟨k, h1, ?_⟩
    rw [h2]
    have e : its.drop 1 = [] := List.drop_of_length_le (by simp [hi])
    rw [e, List.append_nil]
  refine ⟨⟨f, fd, ps, ds, F.ok S len fun cdv A outer s H vs Q E hr h => ?_, g, F.kp, hb, hd⟩⟩
  obtain ⟨t, ht, hq⟩ := body cdv A outer s H vs Q E hr h
  exact ⟨t, ht.nox, hq⟩
section
variable {K : PySem.W.Frag} {a : Addr} {xs : List V} {g : TG} {tt : TT} {te : TE} {vs : List Nat} {σ : St} {H1 : Hp} {D : Addr} {Qd : Hp → Prop} {F : Addr → Prop} {J : It} {n : Nat} {G : Hp → Prop} {Y : Nat → Hp → V → Hp → Prop}
/-- as lcW, what P says may lean on objects that were made on the way -/
theorem lcD (w : Walk J n G Y) (F : Addr → Prop) (P : Nat → List V → Hp → Prop) (hD : H1 D = none) (nF : ¬ F D) (hn : n < 1000000) (hG : ∀ H, Kp F H1 H → G H)
    (h0 : ∀ H, Kp N0 H1 H → P 0 [] H) (mono : ∀ i ys H o, H D = some (.lst ys) → P i ys H → P i ys (upd H D o))
    (hs : ∀ i x ys H H' (Zy : V → Hp → Prop) (Zn : Hp → Prop), i < n → Y i H x H' → Kp F H1 H → H D = some (.lst ys) → P i ys H → ys.length ≤ i →
      (∀ y H4, Kp F H H4 → (∀ o, P (i + 1) (ys ++ [y]) (upd H4 D o)) → Zy y H4) → (∀ H4, Kp F H H4 → P (i + 1) ys H4 → Zn H4) →
      g x (wipe σ vs) H' fun σ2 H2 => wipe σ2 vs = wipe σ vs ∧ tt σ2 H2 fun b H3 => if b = true then te σ2 H3 Zy else Zn H3)
    (hd : ∀ ys H, Kp F H1 H → H D = some (.lst ys) → P n ys H → Qd H) :
    ∃ W : Nat → Nat → Hp → Prop, (∃ m, W 0 m (upd H1 D (.lst []))) ∧ ∀ i m H, W i m H →
      (J.stop i H ∧ Qd H) ∨ (J.go i H ∧ ∃ Nx : Hp → Prop, (∀ H', Nx H' → ∃ m', m' < m ∧ W (i + 1) m' H') ∧ ∀ x H', J.yld i H x H' → g x (wipe σ vs) H' fun σ2 H2 => wipe σ2 vs = wipe σ vs ∧ tt σ2 H2 fun b H3 =>
        if b = true then te σ2 H3 fun y H4 => ∃ acc, H4 D = some (.lst acc) ∧ acc.length < sizeLine ∧ Nx (upd H4 D (.lst (acc ++ [y]))) else Nx H3) := by
  refine lc_it w (fun i H => ∃ ys, Kp F H1 H ∧ H D = some (.lst ys) ∧ P i ys H ∧ ys.length ≤ i)
    ⟨[], Kp.new hD, upd_same, h0 _ (Kp.new hD), Nat.le_refl _⟩ (fun i H _ ⟨_, k, _⟩ => hG H k) ?_ ?_
  · rintro i x H H' hi ⟨ys, k, hy, p, hl⟩ y
    refine hs i x ys H H' _ _ hi y k hy p hl (fun v H4 k4 p4 => ?_) (fun H4 k4 p4 => ?_)
    · have h4 := k4.k D _ nF hy
      refine ⟨ys, h4, ?_, ys ++ [v], ?_, upd_same, p4 _, by simp; omega⟩
      · have e : sizeLine = 16777216 := rfl
        omega
      · have k5 := k.trans k4
        exact ⟨fun b o nb e => by rw [upd_ne (ne_of_none e hD)]; exact k5.k b o nb e, fun b zs n e => by rw [upd_ne (ne_of_none e hD)]; exact k5.s b zs n e⟩
    · exact ⟨ys, k.trans k4, k4.k D _ nF hy, p4, by omega⟩
  · rintro H ⟨ys, k, hy, p, hl⟩
    exact hd ys H k hy p
end
theorem vint_eq (a b : Int) : decide (V.int a = V.int b) = decide (a = b) := decide_eq_decide.mpr ⟨fun h => V.int.inj h, fun h => by rw [h]⟩
section
variable {a b : Int} {A B : Prop}
theorem iteEqT (h : a = b) (k : A) : if decide (V.int a = V.int b) = true then A else B := by rw [vint_eq, if_pos (decide_eq_true h)]; exact k
theorem iteEqF (h : ¬ a = b) (k : B) : if decide (V.int a = V.int b) = true then A else B := by rw [vint_eq, decide_eq_false h]; exact iteF k
theorem iteNeT (h : ¬ a = b) (k : A) : if (!decide (V.int a = V.int b)) = true then A else B := by rw [vint_eq, decide_eq_false h]; exact iteT k
theorem iteNeF (h : a = b) (k : B) : if (!decide (V.int a = V.int b)) = true then A else B := by rw [vint_eq, decide_eq_true h]; exact iteF k
end
section
variable {P : Program} {w : World} {K : PySem.W.Frag} {mg : Str → Option Value} {base : Heap}
def sp_need_net (K : PySem.W.Frag) : Sp := fun vs H Q _ => ∃ (p dx : Addr) (fs : List (Str × V)) (x : V), vs = [.ref p, x] ∧ H p = some (.ins (NetC K) dx fs) ∧ Ret H Q .non
theorem sc_need_net : FnScope ["value", "part"] ["value", "part"] (defScope s_need_net) := ⟨rfl, rfl, rfl, by decide +kernel, rfl, by decide +kernel, by decide +kernel⟩
theorem c_need_net (T : TX K mg) : C8.Cal P w K mg base 1 "need_net" (sp_need_net K) [] := by
  refine mkCal1 (k := 0) (dv := .str "net") T.g_need_net T.d_need_net (fun T kV doc pm an cdv ct us its hl hi => match us, its, hl, hi with | [_, _], [_], _, _ => ⟨_, rfl, rfl⟩) sc_need_net (fun vs H Q E h => ?_) (fun cdv A outer s H vs Q E hr h => ?_)
  · obtain ⟨p, dx, fs, x, rfl, _⟩ := h; rfl
  · obtain ⟨p, dx, fs, x, rfl, hp, k⟩ := h
    refine ⟨_, (pss_one (ps_if (pt_not (pt_val (pe_callB call_isi (by rfl) T.f_isinstance (by decide +kernel) (pa_cons (pv 0) (pa_cons (pe_glob (v := .ref (He.ga K "Net")) rfl T.g_Net rfl) pa_nil))))) (pss_one ps_never) pss_nil)), ?_⟩
    refine ⟨_, rfl, .ref p, .ref (NetC K), .ref (NetC K), .ref (NetC K), true, rfl, .own _, T.tyNet hp, kit_same, true, rfl, iteF (k _ Kp.refl)⟩
def sp_need_thing (K : PySem.W.Frag) : Sp := fun vs H Q _ => ∃ (p : Addr) (N : Nt) (i : Int) (x : V), vs = [.ref p, .int i, x] ∧ NetAt K H p N ∧ 0 ≤ i ∧ i < N.sz ∧ Ret H Q .non
theorem sc_need_thing : FnScope ["net", "value", "part"] ["net", "value", "part"] (defScope s_need_thing) := ⟨rfl, rfl, rfl, by decide +kernel, rfl, by decide +kernel, by decide +kernel⟩
theorem c_need_thing (T : TX K mg) : C8.Cal P w K mg base 4 "need_thing" (sp_need_thing K) [] := by
  refine mkCal (k := 3) T.g_need_thing T.d_need_thing (fun _ _ _ _ _ _ us hl => match us, hl with | [_, _, _], _ => rfl) sc_need_thing (fun vs H Q E h => ?_) (fun cdv A outer s H vs Q E hr h => ?_)
  · obtain ⟨p, N, i, x, rfl, _⟩ := h; rfl
  · obtain ⟨p, N, i, x, rfl, ⟨dx, a1, a2, a3, a4, a5, vs, ts, ob, hp⟩, h1, h2, k⟩ := h
    refine ⟨_, (pss_one (ps_expr (C8.pe_c (c_need_number T) hr (by decide) rfl (pa_cons (pv 1) (pa_cons (pv 2) (pa_cons pe_int (pa_cons (pe_op op_sub (pe_fld (pv 0) rfl) pe_int) pa_nil))))))), ?_⟩
    refine ⟨_, rfl, _, rfl, _, rfl, ?_⟩
    refine ⟨p, _, dx, _, _, rfl, hp.o, T.c_Net, T.n_Net_things, fs_things, ?_⟩
    exact ⟨_, _, rfl, rfl, i, 0, N.sz - 1, x, rfl, h1, by omega, fun H1 e1 => k _ e1⟩
/-- the number of things looked at by an odd turn -/
def odds (tu : List (Int × Int)) : Nat := (tu.filter fun p => decide (p.2 % 2 = 1)).length
def sp_odd_in (K : PySem.W.Frag) : Sp := fun vs H Q _ => ∃ (p : Addr) (N : Nt), vs = [.ref p] ∧ NetAt K H p N ∧ N.tu.length < 64 ∧ Ret H Q (.int (odds N.tu))
theorem sc_odd_in : FnScope ["net", "thing", "turn"] ["net"] (defScope s_odd_in) := ⟨rfl, rfl, rfl, by decide +kernel, rfl, by decide +kernel, by decide +kernel⟩
theorem c_odd_in (T : TX K mg) : C8.Cal P w K mg base 2 "odd_in" (sp_odd_in K) [] := by
  refine mkCal (k := 1) T.g_odd_in T.d_odd_in (fun _ _ _ _ _ _ us hl => match us, hl with | [_], _ => rfl) sc_odd_in (fun vs H Q E h => ?_) (fun cdv A outer s H vs Q E hr h => ?_)
  · obtain ⟨p, N, rfl, _⟩ := h; rfl
  · obtain ⟨p, N, rfl, ⟨dx, a1, a2, a3, a4, a5, vs, ts, ob, hp⟩, h64, k⟩ := h
    refine ⟨_, (pss_cons (ps_expr (C8.pe_c (c_need_net T) hr (by decide) rfl (pa_cons (pv 0) (pa_cons pe_str pa_nil))))
      (pss_one (ps_ret (pe_callB call_len_seq (by rfl) T.f_len (by decide +kernel) (pa_cons (pe_lc (own := [("thing", 1), ("turn", 2)]) (by rfl) sc_odd_in.nd (pi_tup (pe_fld (pv 0) rfl)) (blkOk_by (N := ["net", "thing", "turn"]) (sc := defScope s_odd_in) (own := [("thing", 1), ("turn", 2)]) (by decide +kernel)) (fun _ _ _ _ _ => (pg_tupK (K := K) 2 rfl rfl (pgs_cons (pg_name (i := 1) sc_odd_in.nd rfl (Or.inl rfl)) (pgs_cons (pg_name (i := 2) sc_odd_in.nd rfl (Or.inl rfl)) pgs_nil)))) (fun _ _ _ _ _ => pts_one (pt_cmpR op_eq (pe_op op_mod (pv 2) pe_int) pe_int (nomark _))) (fun _ _ _ _ _ => (pv 1))) pa_nil))))), ?_⟩
    refine ⟨_, rfl, p, dx, _, _, rfl, hp.o, fun H1 e1 => ?_⟩
    refine ⟨_, rfl, ?_⟩
    have hp1 := hp.mono e1
    refine ⟨p, _, dx, _, _, rfl, hp1.o, T.c_Net, T.n_Net_turns, fs_turns, ?_⟩
    have ht : SqT K H1 a5 ts := .inl (.inr ⟨_, hp1.h5⟩)
    have hl := hp.r5.length
    refine ⟨a5, rfl, ⟨_, ht⟩, fun D hD => ?_⟩
    refine lcW (walk_tup (K := K)) N0 (fun i ys H => ys = (((N.tu.take i).filter fun p => decide (p.2 % 2 = 1)).map fun p => V.int p.1)) hD id (by omega) (fun H' e => e.sqt ht) (fun _ _ => rfl) (fun _ _ _ _ _ h => h) ?_ ?_
    · rintro i x ys H4 H5 Zy Zn hi ⟨rfl, hx⟩ e4 hy rfl _ hZ hN
      obtain ⟨q, hq, c, rfl, hc⟩ := (hp1.r5.mono e4.tp).get hx
      refine ⟨c, _, rfl, SqT.of hc, rfl, .int q.1, _, rfl, .int q.2, _, rfl, rfl, rfl, ?_⟩
      refine ⟨_, rfl, _, _, rfl, rfl, by show (0 : Int) < 2; decide, rfl, _, rfl, ?_⟩
      have hg := filter_take (f := fun p : Int × Int => decide (p.2 % 2 = 1)) hq
      by_cases hc : q.2 % 2 = 1
      · refine iteEqT hc ⟨_, rfl, hZ _ _ Kp.refl ?_⟩
        rw [hg, if_pos (decide_eq_true hc)]; simp
      · refine iteEqF hc (hN _ Kp.refl ?_)
        rw [hg, if_neg (by simpa using hc)]; simp
    · rintro ys H2 e2 hy rfl
      rw [hl, take_all] at hy
      refine ⟨D, _, rfl, .inl (SqL.of hy), ?_⟩
      rw [List.length_map]
      exact k _ (e1.trans e2)

/-! ### near_in -/
/-- rows of ints in lists of their own -/
def RowsL (H : Hp) (ls : List Addr) (f : Nat → List Int) : Prop := ∀ (i : Nat) l, ls[i]? = some l → H l = some (.lst ((f i).map V.int))
theorem nodup_at {ls : List Addr} (h : ls.Nodup) {i j : Nat} {l : Addr} (hi : ls[i]? = some l) (hj : ls[j]? = some l) : i = j := by
  obtain ⟨h1, e1⟩ := List.getElem?_eq_some_iff.mp hi
  obtain ⟨h2, e2⟩ := List.getElem?_eq_some_iff.mp hj
  rcases Nat.lt_trichotomy i j with q | q | q
  · exact absurd (e1.trans e2.symm) (List.pairwise_iff_getElem.mp h i j h1 h2 q)
  · exact q
  · exact absurd (e2.trans e1.symm) (List.pairwise_iff_getElem.mp h j i h2 h1 q)
theorem RowsL.put {H : Hp} {ls : List Addr} {f : Nat → List Int} (h : RowsL H ls f) (nd : ls.Nodup) {i : Nat} {l : Addr} (hi : ls[i]? = some l) (y : Int) :
    RowsL (upd H l (.lst ((f i).map V.int ++ [.int y]))) ls fun j => if j = i then f j ++ [y] else f j := fun j m hj => by
  by_cases e : j = i
  · subst e
    rw [hi] at hj; cases hj
    show _ = some (HO.lst (List.map V.int (if j = j then f j ++ [y] else f j)))
    rw [upd_same, if_pos rfl, List.map_append]; rfl
  · rw [upd_ne (fun z => e (nodup_at nd (by rw [z] at hj; exact hj) hi))]
    show _ = some (HO.lst (List.map V.int (if j = i then f j ++ [y] else f j)))
    rw [if_neg e]
    exact h j m hj
theorem nbr_len {N : Nt} (h : N.Ok) {i : Int} (k : Nat) : (nbr (N.ed.take k) i).length < 64 := by
  have hn : (nbr (N.ed.take k) i).Nodup := nbr_nodup (h.edN.sublist (List.take_sublist _ _)) fun p hp => (h.ed p (List.mem_of_mem_take hp)).2.1
  refine range_small (n := N.sz) h.n7 hn fun j hj => ?_
  rcases mem_nbr.mp hj with q | q
  · have := h.ed _ (List.mem_of_mem_take q); simp only at this; omega
  · have := h.ed _ (List.mem_of_mem_take q); simp only at this; omega
def sp_near_in (K : PySem.W.Frag) : Sp := fun vs H Q _ => ∃ (p : Addr) (N : Nt), vs = [.ref p] ∧ NetAt K H p N ∧ N.Ok ∧ ∀ l H', Kp N0 H H' → NearAt H' l N → Q (.ref l) H'
theorem sc_near_in : FnScope ["net", "found", "one", "other", "_", "row"] ["net"] (defScope s_near_in) := ⟨rfl, rfl, rfl, by decide +kernel, rfl, by decide +kernel, by decide +kernel⟩
theorem c_near_in (T : TX K mg) : C8.Cal P w K mg base 1 "near_in" (sp_near_in K) [] := by
  refine mkCal (k := 0) T.g_near_in T.d_near_in (fun _ _ _ _ _ _ us hl => match us, hl with | [_], _ => rfl) sc_near_in (fun vs H Q E h => ?_) (fun cdv A outer s H vs Q E hr h => ?_)
  · obtain ⟨p, N, rfl, _⟩ := h; rfl
  · obtain ⟨p, N, rfl, ⟨dx, a1, a2, a3, a4, a5, vs, ts, ob, hp⟩, ok, k⟩ := h
    have hn7 := ok.n7
    have hn1 := ok.n1
    refine ⟨_, (pss_cons (ps_setLc (i := 1) rfl sc_near_in.nd rfl rfl (sw_true rfl rfl rfl (by decide +kernel)) (own := [("_", 4)]) (pi_range1 (by rfl) T.f_range (pa_cons (pe_fld (pv 0) rfl) pa_nil)) (blkOk_by (N := ["net", "found", "one", "other", "_", "row"]) (sc := defScope s_near_in) (own := [("_", 4)]) (by decide +kernel)) (fun _ _ _ _ _ => (pg_name (i := 4) sc_near_in.nd rfl (Or.inl rfl))) (fun _ _ _ _ _ => pts_nil) (fun _ _ _ _ _ => (pe_lst pa_nil)))
      (pss_cons (ps_for PassesOwn.never rfl (pi_tup (pe_fld (pv 0) rfl)) (pg_tup rfl (pgs_cons (pg_name (i := 2) sc_near_in.nd rfl (Or.inl rfl)) (pgs_cons (pg_name (i := 3) sc_near_in.nd rfl (Or.inl rfl)) pgs_nil))) (pss_cons (ps_expr (pe_bm PySem.F.plainAttrs_list PySem.F.slot_list_append PySem.F.type_list_append mt_append (pe_ix ix_list (pv 1) (pv 2) (fun _ _ => rfl)) (pa_cons (pv 3) pa_nil)))
      (pss_one (ps_expr (pe_bm PySem.F.plainAttrs_list PySem.F.slot_list_append PySem.F.type_list_append mt_append (pe_ix ix_list (pv 1) (pv 3) (fun _ _ => rfl)) (pa_cons (pv 2) pa_nil))))))
      (pss_one (ps_ret (pe_lc (own := [("row", 5)]) (by rfl) sc_near_in.nd (pi_list (pv 1)) (blkOk_by (N := ["net", "found", "one", "other", "_", "row"]) (sc := defScope s_near_in) (own := [("row", 5)]) (by decide +kernel)) (fun _ _ _ _ _ => (pg_name (i := 5) sc_near_in.nd rfl (Or.inl rfl))) (fun _ _ _ _ _ => pts_nil) (fun _ _ _ _ _ => (pe_callTy (T := "tuple") (r := rTupS K) (cr_tupS (K := K) rfl) (by rfl) T.f_tuple (by decide +kernel) (pa_cons (pe_callB (id := "sorted") (r := rSorted K) (cr_srt (K := K) rfl) (by rfl) T.f_sorted (by decide +kernel) (pa_cons (pv 5) pa_nil)) pa_nil)))))))), ?_⟩
    refine ⟨_, rfl, ?_⟩
    refine ⟨p, _, dx, _, _, rfl, hp.o, T.c_Net, T.n_Net_things, fs_things, ?_⟩
    refine ⟨_, rfl, by omega, by omega, fun D hD => ?_⟩
    refine lcD (walk_range (lo := 0) (n := N.sz.toNat)) N0 (fun i ys H' => ∃ ls : List Addr, ys = ls.map V.ref ∧ ls.length = i ∧ ls.Nodup ∧ D ∉ ls ∧ (∀ l ∈ ls, H l = none) ∧ RowsL H' ls fun _ => []) hD id (by omega) (fun _ _ => trivial) (fun _ _ => ⟨[], rfl, rfl, List.nodup_nil, by simp, by simp, fun i l h => by simp at h⟩) ?_ ?_ ?_
    · rintro i ys H1 o hy ⟨ls, rfl, h1, h2, h3, h4, h5⟩
      exact ⟨ls, rfl, h1, h2, h3, h4, fun j l hj => by rw [upd_ne (fun z => h3 (by rw [← z]; exact List.mem_of_getElem? hj))]; exact h5 j l hj⟩
    · rintro i x ys H1 H2 Zy Zn hi ⟨rfl, hx⟩ e1 hy ⟨ls, rfl, h1, h2, h3, h4, h5⟩ _ hZ _
      refine ⟨rfl, yesT ⟨by show 0 ≤ sizeLine; decide, fun q hq => ?_⟩⟩
      refine hZ _ _ (Kp.new hq) fun o => ?_
      have nq : ∀ l ∈ ls, ¬ l = q := fun l hl z => by
        obtain ⟨j, hj⟩ := List.getElem?_of_mem hl
        have := h5 j l hj
        rw [z, hq] at this; cases this
      have nD : ¬ D = q := fun z => by rw [← z, hy] at hq; cases hq
      refine ⟨ls ++ [q], by rw [List.map_append]; rfl, by simp [h1], ?_, ?_, ?_, ?_⟩
      · rw [List.nodup_append]
        exact ⟨h2, by simp, fun a ha b hb => by rw [List.mem_singleton.mp hb]; exact nq a ha⟩
      · rw [List.mem_append, not_or]
        exact ⟨h3, fun z => nD (List.mem_singleton.mp z)⟩
      · intro l hl
        rcases List.mem_append.mp hl with z | z
        · exact h4 l z
        · rw [List.mem_singleton.mp z]; exact e1.back hq
      · intro j l hj
        rw [List.getElem?_append] at hj
        by_cases hjl : j < ls.length
        · rw [if_pos hjl] at hj
          have hm := List.mem_of_getElem? hj
          rw [upd_ne (fun z => h3 (by rw [← z]; exact hm)), upd_ne (nq l hm)]
          exact h5 j l hj
        · rw [if_neg hjl] at hj
          have : l = q := by
            have := List.mem_of_getElem? hj
            exact List.mem_singleton.mp this
          rw [this, upd_ne (fun z => nD z.symm), upd_same]; rfl
    rintro ys H1 e1 hy ⟨ls, rfl, h1, h2, h3, h4, h5⟩
    -- the loop over the strings
    have hp1 := hp.mono e1
    refine ⟨_, rfl, ?_⟩
    refine ⟨p, _, dx, _, _, rfl, hp1.o, T.c_Net, T.n_Net_strings, fs_strings, ?_⟩
    refine ⟨_, rfl, ⟨_, SqT.of hp1.h1⟩, ?_⟩
    have hlen := hp.r1.length
    refine for_tup (xs := vs) (fun i σ H' => (∃ o1 o2, σ = [some (.ref p), some (.ref D), o1, o2, none, none]) ∧ Kp N0 H H' ∧ H' D = some (.lst (ls.map V.ref)) ∧ RowsL H' ls fun j => nbr (N.ed.take i) (j : Int)) ?_ ?_ ?_ ?_
    · exact ⟨⟨_, _, rfl⟩, e1, hy, fun j l hj => by simpa [nbr] using h5 j l hj⟩
    · rintro i σ H' _ ⟨_, e, _⟩
      exact SqT.of ((hp.mono e).h1)
    · rintro i x σ H' hx ⟨⟨o1, o2, rfl⟩, e, hD', hR⟩
      obtain ⟨q, hq, c, rfl, hc⟩ := (hp.r1.mono e.tp).get hx
      obtain ⟨z1, z2, z3⟩ := ok.ed q (List.mem_of_getElem? hq)
      have hl1 : q.1.toNat < ls.length := by omega
      have hl2 : q.2.toNat < ls.length := by omega
      have g1 : ls[q.1.toNat]? = some ls[q.1.toNat] := List.getElem?_eq_getElem hl1
      have g2 : ls[q.2.toNat]? = some ls[q.2.toNat] := List.getElem?_eq_getElem hl2
      have i1 : ((q.1.toNat : Nat) : Int) = q.1 := by omega
      have i2 : ((q.2.toNat : Nat) : Int) = q.2 := by omega
      have a1' : atI (ls.map V.ref) q.1 = some (.ref ls[q.1.toNat]) := by
        have z := atI_nat (show (ls.map V.ref)[q.1.toNat]? = some (.ref ls[q.1.toNat]) by rw [List.getElem?_map, g1]; rfl)
        rw [i1] at z; exact z
      have a2' : atI (ls.map V.ref) q.2 = some (.ref ls[q.2.toNat]) := by
        have z := atI_nat (show (ls.map V.ref)[q.2.toNat]? = some (.ref ls[q.2.toNat]) by rw [List.getElem?_map, g2]; rfl)
        rw [i2] at z; exact z
      have n1 := hR _ _ g1
      have nD1 : ¬ D = ls[q.1.toNat] := fun z => h3 (by rw [z]; exact List.getElem_mem hl1)
      have nD2 : ¬ D = ls[q.2.toNat] := fun z => h3 (by rw [z]; exact List.getElem_mem hl2)
      have hR2 := hR.put h2 g1 q.2
      have n2 := hR2 _ _ g2
      have hne : ¬ q.2.toNat = q.1.toNat := by omega
      have hR3 := hR2.put h2 g2 q.1
      have big : ∀ k j, (List.map V.int (nbr (N.ed.take k) j)).length < sizeLine := fun k j => by
        rw [List.length_map]
        have := nbr_len (i := j) ok k
        have e : sizeLine = 16777216 := rfl
        omega
      have f1 : H ls[q.1.toNat] = none := h4 _ (List.getElem_mem hl1)
      have f2 : H ls[q.2.toNat] = none := h4 _ (List.getElem_mem hl2)
      refine ⟨c, _, rfl, SqT.of hc, rfl, .int q.1, _, rfl, .int q.2, _, rfl, rfl, ?_⟩
      refine ⟨_, rfl, _, rfl, D, _, _, _, rfl, rfl, SqL.of hD', a1', .inl ⟨rfl, _, SqL.of n1⟩, _, rfl, _, _, _, rfl, rfl, n1, big _ _, ?_⟩
      simp only [if_neg hne] at n2 hR3
      have e2 : Kp N0 H (upd H' ls[q.1.toNat] (.lst ((nbr (N.ed.take i) (q.1.toNat : Int)).map V.int ++ [.int q.2]))) := e.mut f1
      refine ⟨_, rfl, _, rfl, D, _, _, _, rfl, rfl, SqL.of (by rw [upd_ne nD1]; exact hD'), a2', .inl ⟨rfl, _, SqL.of n2⟩, _, rfl, _, _, _, rfl, rfl, n2, big _ _, ?_⟩
      refine ⟨⟨_, _, rfl⟩, e2.mut f2, by rw [upd_ne nD2, upd_ne nD1]; exact hD', fun j l hj => ?_⟩
      have q3 := hR3 j l hj
      refine q3.trans (congrArg (fun z => some (HO.lst (List.map V.int z))) ?_)
      show _ = nbr (N.ed.take (i + 1)) (j : Int)
      rw [take_snoc hq, nbr_snoc]
      by_cases j2 : j = q.2.toNat
      · have w1 : q.2 = (j : Int) := by omega
        have w2 : ¬ q.1 = (j : Int) := by omega
        have w3 : ¬ j = q.1.toNat := by omega
        simp only [if_pos j2, if_neg w3, if_neg w2, if_pos w1]
      · have w1 : ¬ q.2 = (j : Int) := by omega
        by_cases j1 : j = q.1.toNat
        · have w2 : q.1 = (j : Int) := by omega
          simp only [if_neg j2, if_pos j1, if_pos w2]
        · have w2 : ¬ q.1 = (j : Int) := by omega
          simp only [if_neg j2, if_neg j1, if_neg w2, if_neg w1, List.append_nil]
    rintro σ H2 ⟨⟨o1, o2, rfl⟩, e2, hD2, hR⟩
    rw [hlen, take_all] at hR
    refine ⟨_, rfl, D, rfl, ⟨_, SqL.of hD2⟩, fun D3 hD3 => ?_⟩
    have hln : (ls.map V.ref).length = ls.length := List.length_map _
    refine lcW (walk_list (K := K)) N0 (fun i ys H' => ∃ rows : List (List Int), Rw id H' ys rows ∧ rows.length = i ∧ ∀ (j : Nat) r, rows[j]? = some r → r.Perm (nbr N.ed (j : Int))) hD3 id (by omega) (fun H' e => e.sql (SqL.of hD2)) (fun _ _ => ⟨[], Rw.nil, rfl, by simp⟩) (fun _ _ _ _ e ⟨rows, h1, h2, h3⟩ => ⟨rows, h1.mono e, h2, h3⟩) ?_ ?_
    · rintro i x ys H4 H5 Zy Zn hi ⟨rfl, hx⟩ e4 hy4 ⟨rows, r1, r2, r3⟩ _ hZ _
      rw [List.getElem?_map] at hx
      obtain ⟨l, hl, rfl⟩ := Option.map_eq_some_iff.mp hx
      refine ⟨rfl, yesT ⟨_, rfl, l, _, rfl, SqL.of (e4.get0 (hR i l hl)), ?_, fun ns' f hpm hst hf => ?_⟩⟩
      · have := nbr_len (i := (i : Int)) ok N.ed.length
        rw [take_all] at this; exact this
      refine ⟨f, _, rfl, .inl ⟨SqL.of upd_same, fun t ht => ?_⟩⟩
      have e5 := (Kp.new (F := N0) (o := .lst (ns'.map V.int)) hf).trans (Kp.new (F := N0) (o := .tup (ns'.map V.int)) ht)
      refine hZ _ _ e5 ⟨rows ++ [ns'], (r1.mono e5.tp).snoc ⟨t, rfl, upd_same⟩, by simp [r2], fun j r hj => ?_⟩
      rw [List.getElem?_append] at hj
      by_cases hjl : j < rows.length
      · rw [if_pos hjl] at hj; exact r3 j r hj
      · rw [if_neg hjl] at hj
        have hm := List.mem_singleton.mp (List.mem_of_getElem? hj)
        have : j - rows.length = 0 := by
          have := (List.getElem?_eq_some_iff.mp hj).1
          simpa using this
        have : j = i := by omega
        rw [hm, this]; exact hpm
    · rintro ys H4 e4 hy4 ⟨rows, r1, r2, r3⟩
      refine k D3 H4 (e2.trans e4) ⟨ys, rows, hy4, r1, ?_, r3⟩
      rw [r2, hln, h1]
end
end K50
end
section
set_option Elab.async false
set_option linter.all false
set_option maxRecDepth 100000
set_option maxHeartbeats 4000000
namespace K50
open PySem PySem.Spec L2
open PyProof.Rows (envOfC)
/-- the turn of a thing -/
def tuAt (tu : List (Int × Int)) (i : Int) : Option Int := (tu.find? fun p => decide (p.1 = i)).map (·.2)
theorem valV_kvI {ps : List (Int × Int)} {i : Int} : valV (kvI ps) (Sum.inl i : Key) = (tuAt ps i).map V.int := by
  unfold valV kvI tuAt
  induction ps with
  | nil => rfl
  | cons p ps ih =>
    rw [List.map_cons, List.find?_cons, List.find?_cons]
    by_cases h : p.1 = i
    · have e : decide ((Sum.inl p.1 : Key) = Sum.inl i) = true := decide_eq_true (by rw [h])
      rw [decide_eq_true h]; simp only [e]; rfl
    · have e : decide ((Sum.inl p.1 : Key) = Sum.inl i) = false := decide_eq_false fun z => h (Sum.inl.inj z)
      rw [decide_eq_false h]; simp only [e]; exact ih
theorem tuAt_mem {tu : List (Int × Int)} {i t : Int} (h : tuAt tu i = some t) : (i, t) ∈ tu := by
  unfold tuAt at h
  obtain ⟨p, hp, e⟩ := Option.map_eq_some_iff.mp h
  have h1 := List.find?_some hp
  have h2 := List.mem_of_find?_eq_some hp
  have h1 : p.1 = i := of_decide_eq_true h1
  rw [← h1, ← e]; exact h2
theorem tuAt_of {tu : List (Int × Int)} {i t : Int} (nd : (tu.map (·.1)).Nodup) (h : (i, t) ∈ tu) : tuAt tu i = some t := by
  unfold tuAt
  induction tu with
  | nil => cases h
  | cons p tu ih =>
    rw [List.map_cons, List.nodup_cons] at nd
    rw [List.find?_cons]
    rcases List.mem_cons.mp h with rfl | h
    · rw [decide_eq_true rfl]; rfl
    · have : ¬ p.1 = i := fun z => nd.1 (by rw [z]; exact List.mem_map.mpr ⟨_, h, rfl⟩)
      rw [decide_eq_false this]; exact ih nd.2 h
theorem Nt.Ok.tN {N : Nt} (h : N.Ok) : (N.tu.map (·.1)).Nodup := h.tu.nodup_iff.mpr (by rw [h.lo]; exact rg_nodup.filter _)
/-- a thing neither given nor kept, no neighbour kept -/
structure Nt.inner (N : Nt) (i : Int) : Prop where
  g : i ∉ N.gi
  k : i ∉ N.ke
  n : ∀ j, adj N.ed i j → j ∉ N.ke
structure Nt.Qok (N : Nt) (i : Int) : Prop where
  n : 1 < N.sz
  t : ∃ t, tuAt N.tu i = some t ∧ (t = 2 ∨ t = 6)
  c : N.inner i
structure Nt.Pok (N : Nt) (i j : Int) : Prop where
  n : N.sz ≠ 2
  e : adj N.ed i j
  t : ∃ t, tuAt N.tu i = some t ∧ (t = 0 ∨ t = 4)
  u : ∃ t, tuAt N.tu j = some t ∧ (t = 0 ∨ t = 4)
  c : N.inner i
  d : N.inner j
theorem in_halves {o : Option Int} : inV ((o.map V.int).getD .non) [.int 0, .int 4] = true ↔ ∃ t, o = some t ∧ (t = 0 ∨ t = 4) := by
  cases o with
  | none => simp [inV, eqV]
  | some t =>
    have e : inV (.int t) [.int 0, .int 4] = (decide (0 = t) || decide (4 = t)) := by
      simp only [inV, List.any_cons, List.any_nil, eqV, Bool.or_false]; rfl
    show inV (.int t) _ = true ↔ _
    rw [e]
    simp only [Bool.or_eq_true, decide_eq_true_eq]
    constructor
    · rintro (h | h)
      · exact ⟨t, rfl, .inl h.symm⟩
      · exact ⟨t, rfl, .inr h.symm⟩
    · rintro ⟨u, h, z⟩
      cases h
      rcases z with rfl | rfl
      · exact .inl rfl
      · exact .inr rfl
theorem in_qu {o : Option Int} : quV ((o.map V.int).getD .non) = true ↔ ∃ t, o = some t ∧ (t = 2 ∨ t = 6) := by
  cases o with
  | none => simp [quV]
  | some t => simp [quV]
theorem flat_opt {o : Option Int} : flatV ((o.map V.int).getD .non) = true := by cases o <;> rfl
section
variable {P : Program} {w : World} {K : PySem.W.Frag} {mg : Str → Option Value} {base : Heap}
def sp_is_inner (K : PySem.W.Frag) : Sp := fun vs H Q _ => ∃ (p l : Addr) (i : Int) (N : Nt), vs = [.ref p, .ref l, .int i] ∧ NetAt K H p N ∧ NearAt H l N ∧ N.Ok ∧ 0 ≤ i ∧ i < N.sz ∧ ∀ b, (b = true ↔ N.inner i) → Ret H Q (.bl b)
theorem sc_is_inner : FnScope ["net", "near", "thing", "each"] ["net", "near", "thing"] (defScope s_is_inner) := ⟨rfl, rfl, rfl, by decide +kernel, rfl, by decide +kernel, by decide +kernel⟩
theorem c_is_inner (T : TX K mg) : C8.Cal P w K mg base 1 "is_inner" (sp_is_inner K) [] := by
  refine mkCal (k := 0) T.g_is_inner T.d_is_inner (fun _ _ _ _ _ _ us hl => match us, hl with | [_, _, _], _ => rfl) sc_is_inner (fun vs H Q E h => ?_) (fun cdv A outer s H vs Q E hr h => ?_)
  · obtain ⟨p, l, i, N, rfl, _⟩ := h; rfl
  · obtain ⟨p, l, i, N, rfl, ⟨dx, a1, a2, a3, a4, a5, vs, ts, ob, hp⟩, hl, ok, h0, h1, k⟩ := h
    obtain ⟨xs, t, r, hx, hat, ht, hr'⟩ := hl.row h0 h1
    refine ⟨_, (pss_one (ps_ret (pe_and (pe_cmpR op_notIn_seq (pv 2) (pe_fld (pv 0) rfl) (by rfl)) (pe_and (pe_cmpR op_notIn_seq (pv 2) (pe_fld (pv 0) rfl) (by rfl)) (pe_one (pe_not (pe_callB (cr_any rfl) (by rfl) T.f_any (by decide +kernel) (pa_cons (pe_lc (own := [("each", 3)]) (by rfl) sc_is_inner.nd (pi_tup (pe_ix ix_list (pv 1) (pv 2) (fun _ _ => rfl))) (blkOk_by (N := ["net", "near", "thing", "each"]) (sc := defScope s_is_inner) (own := [("each", 3)]) (by decide +kernel)) (fun _ _ _ _ _ => (pg_name (i := 3) sc_is_inner.nd rfl (Or.inl rfl))) (fun _ _ _ _ _ => pts_nil) (fun _ _ _ _ _ => (pe_cmpR (r := rIn K false) (or_in rfl) (pv 3) (pe_fldK (K := K) rfl (pv 0) rfl) (by rfl)))) pa_nil)))))))), ?_⟩
    refine ⟨_, rfl, _, rfl, p, _, dx, _, _, rfl, hp.o, T.c_Net, T.n_Net_given, fs_given, a2, _, rfl, .inr (SqT.of hp.h2), rfl, flat_ints _, ?_⟩
    rw [inV_ints]
    refine ⟨_, rfl, ?_⟩
    cases hc : N.gi.contains i with
    | true =>
      refine iteF (k _ ⟨fun z => by simp at z, fun z => absurd (List.contains_iff_mem.mp hc) z.g⟩ _ Kp.refl)
    | false =>
      have hg : i ∉ N.gi := fun z => by rw [List.contains_iff_mem.mpr z] at hc; cases hc
      refine iteT ?_
      refine ⟨_, rfl, _, rfl, p, _, dx, _, _, rfl, hp.o, T.c_Net, T.n_Net_kept, fs_kept, a3, _, rfl, .inr (SqT.of hp.h3), rfl, flat_ints _, ?_⟩
      rw [inV_ints]
      refine ⟨_, rfl, ?_⟩
      cases hc2 : N.ke.contains i with
      | true => exact iteF (k _ ⟨fun z => by simp at z, fun z => absurd (List.contains_iff_mem.mp hc2) z.k⟩ _ Kp.refl)
      | false =>
        have hk : i ∉ N.ke := fun z => by rw [List.contains_iff_mem.mpr z] at hc2; cases hc2
        refine iteT ?_
        refine ⟨_, rfl, _, rfl, l, _, _, _, rfl, rfl, SqL.of hx, hat, t, rfl, ⟨_, SqT.of ht⟩, fun D hD => ?_⟩
        have hrl : r.length < 64 := by
          rw [hr'.length_eq]
          have := nbr_len (i := i) ok N.ed.length
          rw [take_all] at this; exact this
        refine lcW (walk_tup (K := K)) N0 (fun j ys H' => ys = ((r.take j).map fun y => N.ke.contains y).map V.bl) hD id (by rw [List.length_map]; omega) (fun H' e => e.sqt (SqT.of ht)) (fun _ _ => rfl) (fun _ _ _ _ _ h => h) ?_ ?_
        · rintro j y ys H2 H3 Zy Zn hi ⟨rfl, hy⟩ e2 hD2 rfl _ hZ _
          obtain ⟨n, hn, rfl⟩ := map_int_get hy
          have hp2 := hp.mono e2
          refine ⟨rfl, yesT ⟨_, rfl, _, rfl, p, _, dx, _, _, rfl, hp2.o, T.c_Net, T.n_Net_kept, fs_kept, a3, _, rfl, .inr (SqT.of hp2.h3), rfl, flat_ints _, hZ _ _ Kp.refl ?_⟩⟩
          rw [inV_ints, take_snoc hn]; simp
        · rintro ys H2 e2 hD2 rfl
          rw [List.length_map, take_all] at hD2
          refine ⟨D, _, rfl, SqL.of hD2, _, rfl, k _ ⟨fun z => ⟨hg, hk, fun j hj => ?_⟩, fun z => ?_⟩ _ e2⟩
          · intro hjk
            have hm : j ∈ r := hr'.mem_iff.mpr (mem_nbr.mpr hj)
            simp only [Bool.not_eq_true', List.any_map, List.any_eq_false] at z
            exact z j hm (List.contains_iff_mem.mpr hjk)
          · simp only [Bool.not_eq_true', List.any_map, List.any_eq_false]
            intro j hj hjk
            exact z.n j (mem_nbr.mp (hr'.mem_iff.mp hj)) (List.contains_iff_mem.mp hjk)
def sp_is_quarter (K : PySem.W.Frag) : Sp := fun vs H Q _ => ∃ (p l : Addr) (i : Int) (N : Nt), vs = [.ref p, .ref l, .int i] ∧ NetAt K H p N ∧ NearAt H l N ∧ N.Ok ∧ 0 ≤ i ∧ i < N.sz ∧ ∀ b, (b = true ↔ N.Qok i) → Ret H Q (.bl b)
theorem sc_is_quarter : FnScope ["net", "near", "thing"] ["net", "near", "thing"] (defScope s_is_quarter) := ⟨rfl, rfl, rfl, by decide +kernel, rfl, by decide +kernel, by decide +kernel⟩
theorem c_is_quarter (T : TX K mg) : C8.Cal P w K mg base 2 "is_quarter" (sp_is_quarter K) [] := by
  refine mkCal (k := 1) T.g_is_quarter T.d_is_quarter (fun _ _ _ _ _ _ us hl => match us, hl with | [_, _, _], _ => rfl) sc_is_quarter (fun vs H Q E h => ?_) (fun cdv A outer s H vs Q E hr h => ?_)
  · obtain ⟨p, l, i, N, rfl, _⟩ := h; rfl
  · obtain ⟨p, l, i, N, rfl, hpn, hl, ok, h0, h1, k⟩ := h
    have ⟨dx, a1, a2, a3, a4, a5, vs, ts, ob, hp⟩ := hpn
    refine ⟨_, (pss_one (ps_ret (pe_and (pe_cmpR op_gt (pe_fld (pv 0) rfl) pe_int (nomark _)) (pe_and (pe_cmpR (op_inQ T.qu) (pe_dget1 (hu_of hr) (pe_callTy (cr_dictZ rfl) (by rfl) T.f_dict (by decide +kernel) (pa_cons (pe_fld (pv 0) rfl) pa_nil)) (pv 2) ⟨rfl, rfl, rfl, rfl⟩) (pe_glob (v := .ref (He.ga K "QUARTERS")) rfl T.g_QUARTERS rfl) (by rfl)) (pe_one (C8.pe_c (c_is_inner T) hr (by decide) rfl (pa_cons (pv 0) (pa_cons (pv 1) (pa_cons (pv 2) pa_nil))))))))), ?_⟩
    refine ⟨_, rfl, p, _, dx, _, _, rfl, hp.o, T.c_Net, T.n_Net_things, fs_things, _, _, rfl, rfl, _, rfl, ?_⟩
    by_cases hn : N.sz > 1
    · rw [decide_eq_true hn]
      refine iteT ⟨_, rfl, p, _, dx, _, _, rfl, hp.o, T.c_Net, T.n_Net_turns, fs_turns, a5, ob, ts, N.tu, rfl, hp.h5, hp.d5, hp.r5, ok.tN, fun d hd => ?_⟩
      have e1 := Kp.new (F := N0) (o := .dK (kvI N.tu)) hd
      refine ⟨d, rfl, .inl ⟨_, .inl upd_same⟩, _, rfl, _, DGet.k (k := Sum.inl i) upd_same, rfl, ?_, ?_⟩
      · rw [valV_kvI]
        cases tuAt N.tu i with
        | none => exact .inl rfl
        | some t => exact .inr ⟨t, rfl⟩
      rw [valV_kvI]
      refine ⟨_, rfl, ?_⟩
      cases hq : quV ((Option.map V.int (tuAt N.tu i)).getD .non) with
      | true =>
        have hq' := in_qu.mp hq
        refine iteT ⟨_, rfl, _, rfl, _, rfl, p, l, i, N, rfl, hpn.mono e1, hl.mono e1 id, ok, h0, h1, fun b hb H2 e2 => ?_⟩
        exact k b (Iff.intro (fun z => ⟨hn, hq', hb.mp z⟩) fun z => hb.mpr z.c) _ (e1.trans e2)
      | false =>
        refine iteF (k false (Iff.intro (fun z => nomatch z) fun z => ?_) _ e1)
        have := in_qu.mpr z.t
        rw [hq] at this; exact this
    · rw [decide_eq_false hn]
      exact iteF (k false (Iff.intro (fun z => nomatch z) fun z => absurd z.n hn) _ Kp.refl)
def sp_is_pair (K : PySem.W.Frag) : Sp := fun vs H Q _ => ∃ (p l : Addr) (i j : Int) (N : Nt), vs = [.ref p, .ref l, .int i, .int j] ∧ NetAt K H p N ∧ NearAt H l N ∧ N.Ok ∧ 0 ≤ i ∧ i < N.sz ∧ 0 ≤ j ∧ j < N.sz ∧ ∀ b, (b = true ↔ N.Pok i j) → Ret H Q (.bl b)
theorem sc_is_pair : FnScope ["net", "near", "one", "other", "turns"] ["net", "near", "one", "other"] (defScope s_is_pair) := ⟨rfl, rfl, rfl, by decide +kernel, rfl, by decide +kernel, by decide +kernel⟩
theorem c_is_pair (T : TX K mg) : C8.Cal P w K mg base 2 "is_pair" (sp_is_pair K) [] := by
  refine mkCal (k := 1) T.g_is_pair T.d_is_pair (fun _ _ _ _ _ _ us hl => match us, hl with | [_, _, _, _], _ => rfl) sc_is_pair (fun vs H Q E h => ?_) (fun cdv A outer s H vs Q E hr h => ?_)
  · obtain ⟨p, l, i, j, N, rfl, _⟩ := h; rfl
  · obtain ⟨p, l, i, j, N, rfl, hpn, hl, ok, h0, h1, h2, h3, k⟩ := h
    have ⟨dx, a1, a2, a3, a4, a5, vs, ts, ob, hp⟩ := hpn
    refine ⟨_, (pss_cons (ps_set (i := 4) sc_is_pair.nd rfl (Or.inl rfl) (pe_callTy (cr_dictZ rfl) (by rfl) T.f_dict (by decide +kernel) (pa_cons (pe_fld (pv 0) rfl) pa_nil)))
      (pss_cons (ps_if (PW.pt (pw_or (pt_cmpR op_eq (pe_fld (pv 0) rfl) pe_int (nomark _)) (pw_or (pt_cmpR op_notIn_seq (pv 3) (pe_ix ix_list (pv 1) (pv 2) (fun _ _ => rfl)) (by rfl)) (pw_or (pt_cmpR op_notIn_seq (pe_dget1 (hu_of hr) (pv 4) (pv 2) ⟨rfl, rfl, rfl, rfl⟩) (pe_glob (v := .ref (He.ga K "HALVES")) rfl T.g_HALVES rfl) (by rfl)) (pw_or1 (pt_cmpR op_notIn_seq (pe_dget1 (hu_of hr) (pv 4) (pv 3) ⟨rfl, rfl, rfl, rfl⟩) (pe_glob (v := .ref (He.ga K "HALVES")) rfl T.g_HALVES rfl) (by rfl))))))) (pss_one (ps_ret pe_bl)) pss_nil)
      (pss_one (ps_ret (pe_and (C8.pe_c (c_is_inner T) hr (by decide) rfl (pa_cons (pv 0) (pa_cons (pv 1) (pa_cons (pv 2) pa_nil)))) (pe_one (C8.pe_c (c_is_inner T) hr (by decide) rfl (pa_cons (pv 0) (pa_cons (pv 1) (pa_cons (pv 3) pa_nil)))))))))), ?_⟩
    refine ⟨_, rfl, p, _, dx, _, _, rfl, hp.o, T.c_Net, T.n_Net_turns, fs_turns, a5, ob, ts, N.tu, rfl, hp.h5, hp.d5, hp.r5, ok.tN, fun d hd => ?_⟩
    have e1 := Kp.new (F := N0) (o := .dK (kvI N.tu)) hd
    have hd1 : (upd H d (.dK (kvI N.tu))) d = some (.dK (kvI N.tu)) := upd_same
    generalize upd H d (.dK (kvI N.tu)) = H1 at e1 hd1
    have hp1 := hp.mono e1
    obtain ⟨xs, t, r, hx, hat, ht, hr'⟩ := (hl.mono e1 id).row h0 h1
    have no : ∀ H', Kp N0 H1 H' → (N.Pok i j → False) → Q (.bl false) H' := fun H' e' z => k false (Iff.intro (fun z => nomatch z) fun y => (z y).elim) _ (e1.trans e')
    refine ⟨_, rfl, p, _, dx, _, _, rfl, hp1.o, T.c_Net, T.n_Net_things, fs_things, rfl, _, rfl, ?_⟩
    by_cases hn : N.sz = 2
    · exact iteEqT hn (iteT (no _ Kp.refl fun z => z.n hn))
    refine iteEqF hn ?_
    refine ⟨_, rfl, _, rfl, _, rfl, l, _, _, _, rfl, rfl, SqL.of hx, hat, t, _, rfl, .inr (SqT.of ht), rfl, flat_ints _, _, rfl, ?_⟩
    rw [inV_ints]
    cases hc : r.contains j with
    | false =>
      refine iteT (iteT (no _ Kp.refl fun z => ?_))
      have := List.contains_iff_mem.mpr (hr'.mem_iff.mpr (mem_nbr.mpr z.e))
      rw [hc] at this; cases this
    | true =>
    have ha : adj N.ed i j := mem_nbr.mp (hr'.mem_iff.mp (List.contains_iff_mem.mp hc))
    refine iteF ?_
    refine ⟨_, rfl, d, rfl, .inl ⟨_, .inl hd1⟩, _, rfl, _, DGet.k (k := Sum.inl i) hd1, _, _, rfl, .inr (T.halves H1), ?_, rfl, _, rfl, ?_⟩
    · rw [valV_kvI]; exact flat_opt
    rw [valV_kvI]
    cases hq : inV ((Option.map V.int (tuAt N.tu i)).getD .non) [.int 0, .int 4] with
    | false =>
      refine iteT (iteT (no _ Kp.refl fun z => ?_))
      have := in_halves.mpr z.t
      rw [hq] at this; cases this
    | true =>
    refine iteF ?_
    refine ⟨_, rfl, d, rfl, .inl ⟨_, .inl hd1⟩, _, rfl, _, DGet.k (k := Sum.inl j) hd1, _, _, rfl, .inr (T.halves H1), ?_, rfl, _, rfl, ?_⟩
    · rw [valV_kvI]; exact flat_opt
    rw [valV_kvI]
    cases hq2 : inV ((Option.map V.int (tuAt N.tu j)).getD .non) [.int 0, .int 4] with
    | false =>
      refine iteT (no _ Kp.refl fun z => ?_)
      have := in_halves.mpr z.u
      rw [hq2] at this; cases this
    | true =>
    refine iteF ?_
    refine ⟨_, rfl, _, rfl, _, rfl, p, l, i, N, rfl, hpn.mono e1, hl.mono e1 id, ok, h0, h1, fun b hb H2 e2 => ⟨b, rfl, ?_⟩⟩
    cases b with
    | false => exact iteF (no _ e2 fun z => nomatch hb.mpr z.c)
    | true =>
    refine iteT ?_
    have e12 := e1.trans e2
    refine ⟨_, rfl, _, rfl, _, rfl, p, l, j, N, rfl, hpn.mono e12, hl.mono e12 id, ok, h2, h3, fun b hb2 H3 e3 => ?_⟩
    exact k b (Iff.intro (fun z => ⟨hn, ha, in_halves.mp hq, in_halves.mp hq2, hb.mp rfl, hb2.mp z⟩) fun z => hb2.mpr z.d) _ (e12.trans e3)
end
end K50
end
section
set_option Elab.async false
set_option linter.all false
set_option maxRecDepth 100000
set_option maxHeartbeats 4000000
namespace K50
open PySem PySem.Spec L2
open PyProof.Rows (envOfC)
/-- any walk, told by heaps alone -/
theorem heapW {J : It} {n : Nat} {G : Hp → Prop} {Y : Nat → Hp → V → Hp → Prop} (w : Walk J n G Y) {B : V → Hp → (Hp → Prop) → Prop} {Z : Hp → Prop} {H0 : Hp} (Pv : Nat → Hp → Prop) (h0 : Pv 0 H0)
    (hG : ∀ i H, i ≤ n → Pv i H → G H) (hs : ∀ i x H H', i < n → Pv i H → Y i H x H' → B x H' (Pv (i + 1))) (hd : ∀ H, Pv n H → Z H) :
    ∃ W : Nat → Nat → Hp → Prop, (∃ m, W 0 m H0) ∧ ∀ i m H, W i m H → (J.stop i H ∧ Z H) ∨ (J.go i H ∧ ∃ Nx : Hp → Prop, (∀ H', Nx H' → ∃ m', m' < m ∧ W (i + 1) m' H') ∧ ∀ x H', J.yld i H x H' → B x H' Nx) := by
  refine ⟨fun i m H => i ≤ n ∧ m = n - i ∧ Pv i H, ⟨n, Nat.zero_le _, rfl, h0⟩, fun i m H ⟨h1, h2, h3⟩ => ?_⟩
  have g := hG i H h1 h3
  by_cases h : i < n
  · refine .inr ⟨w.goes i H h g, Pv (i + 1), fun H' h' => ⟨n - (i + 1), by omega, by omega, rfl, h'⟩, fun x H' y => hs i x H H' h h3 (w.yields i H x H' h g y)⟩
  · have e : i = n := by omega
    subst e
    exact .inl ⟨w.stops H g, hd H h3⟩
theorem flatMap_le {α β : Type} {f : α → List β} {c : Nat} : ∀ {l : List α}, (∀ x ∈ l, (f x).length ≤ c) → (l.flatMap f).length ≤ l.length * c
  | [], _ => by simp
  | x :: l, h => by
    rw [List.flatMap_cons, List.length_append, List.length_cons, Nat.succ_mul]
    have h1 := h x (List.mem_cons_self ..)
    have h2 := flatMap_le (l := l) fun y hy => h y (List.mem_cons_of_mem _ hy)
    omega
theorem flatMap_snoc {α β : Type} {f : α → List β} {l : List α} {i : Nat} {x : α} (h : l[i]? = some x) : (l.take (i + 1)).flatMap f = (l.take i).flatMap f ++ f x := by
  rw [take_snoc h, List.flatMap_append]; simp
def cross (mine its : List Int) : List (Int × Int) := mine.flatMap fun a => its.map fun b => norm (a, b)
def betweenL (rows : List (List Int)) : List (Int × Int) := (List.range rows.length).flatMap fun i => (rows.drop (i + 1)).flatMap fun its => cross (rows.getD i []) its
theorem cross_le {a b : List Int} (ha : a.length ≤ 7) (hb : b.length ≤ 7) : (cross a b).length ≤ 49 := by
  have h := flatMap_le (f := fun x => b.map fun y => norm (x, y)) (c := 7) (l := a) (fun x _ => by rw [List.length_map]; exact hb)
  have : a.length * 7 ≤ 49 := by omega
  exact Nat.le_trans h this
/-- lists of ints in a heap, each by itself -/
def RowsA (H : Hp) (ls : List Addr) (rows : List (List Int)) : Prop := ls.length = rows.length ∧ ∀ (i : Nat) l r, ls[i]? = some l → rows[i]? = some r → H l = some (.lst (r.map V.int))
theorem RowsA.mono {H H' : Hp} {ls : List Addr} {rows : List (List Int)} (e : Kp N0 H H') (h : RowsA H ls rows) : RowsA H' ls rows := ⟨h.1, fun i l r a b => e.get0 (h.2 i l r a b)⟩
theorem cut_from {xs : List V} (i : Nat) : cutV xs (some ((i : Int) + 1)) none = xs.drop (i + 1) := by
  unfold cutV HT.sIx
  have h : ¬ ((i : Int) + 1 < 0) := by omega
  have e : ((i : Int) + 1).toNat = i + 1 := by omega
  simp only [if_neg h, e]
  by_cases hi : i + 1 ≤ xs.length
  · rw [Nat.min_eq_left hi]
    exact List.take_of_length_le (by rw [List.length_drop]; omega)
  · have : min (i + 1) xs.length = xs.length := by omega
    rw [this, List.drop_of_length_le (Nat.le_refl _), List.drop_of_length_le (by omega), List.take_nil]
section
variable {P : Program} {w : World} {K : PySem.W.Frag} {mg : Str → Option Value} {base : Heap}
def sp_between (K : PySem.W.Frag) : Sp := fun vs H Q _ => ∃ (a : Addr) (ls : List Addr) (rows : List (List Int)), vs = [.ref a] ∧ H a = some (.lst (ls.map V.ref)) ∧ RowsA H ls rows ∧ rows.length ≤ 7 ∧ (∀ r ∈ rows, r.length ≤ 7) ∧
  ∀ b ys H', Kp N0 H H' → H' b = some (.lst ys) → Prs H' ys (betweenL rows) → Q (.ref b) H'
theorem sc_between : FnScope ["some", "found", "at", "mine", "its", "one", "other"] ["some"] (defScope s_between) := ⟨rfl, rfl, rfl, by decide +kernel, rfl, by decide +kernel, by decide +kernel⟩
theorem c_between (T : TX K mg) : C8.Cal P w K mg base 1 "between" (sp_between K) [] := by
  refine mkCal (k := 0) T.g_between T.d_between (fun _ _ _ _ _ _ us hl => match us, hl with | [_], _ => rfl) sc_between (fun vs H Q E h => ?_) (fun cdv A outer s H vs Q E hr h => ?_)
  · obtain ⟨a, ls, rows, rfl, _⟩ := h; rfl
  · obtain ⟨a, ls, rows, rfl, ha, hr0, h7, hr7, k⟩ := h
    refine ⟨_, (pss_cons (ps_set (i := 1) sc_between.nd rfl (Or.inl rfl) (pe_lst pa_nil))
      (pss_cons (ps_for PassesOwn.never rfl (pi_enum (by rfl) T.f_enumerate (pa_cons (pv 0) pa_nil)) (pg_tup rfl (pgs_cons (pg_name (i := 2) sc_between.nd rfl (Or.inl rfl)) (pgs_cons (pg_name (i := 3) sc_between.nd rfl (Or.inl rfl)) pgs_nil))) (pss_one (ps_for PassesOwn.never rfl (pi_list (pe_slice sl_list (pv 0) (po_some (pe_op op_add (pv 2) pe_int)) po_none)) (pg_name (i := 4) sc_between.nd rfl (Or.inr rfl)) (pss_one (ps_expr (pe_bm PySem.F.plainAttrs_list PySem.F.slot_list_extend PySem.F.type_list_extend mt_extend (pv 1) (pa_cons (pe_lc2 (own := [("one", 5), ("other", 6)]) (by rfl) sc_between.nd (pi_list (pv 3)) (blkOk_by (N := ["some", "found", "at", "mine", "its", "one", "other"]) (sc := defScope s_between) (own := [("one", 5), ("other", 6)]) (by decide +kernel)) (vs1 := [6]) (by decide) (fun _ _ _ _ _ => (pg_name (i := 5) sc_between.nd rfl (Or.inl rfl))) (fun _ _ _ _ _ => pts_nil) (fun _ _ _ _ _ => (pi_listK (K := K) rfl (pv 4))) (fun _ _ _ _ _ => (pg_name (i := 6) sc_between.nd rfl (Or.inl rfl))) (fun _ _ _ _ _ => pts_nil) (fun _ _ _ _ _ => (pe_tup (pa_cons (pe_callB (id := "min") (r := rMin2) (cr_min2 rfl) (by rfl) T.f_min (by decide +kernel) (pa_cons (pv 5) (pa_cons (pv 6) pa_nil))) (pa_cons (pe_callB (id := "max") (r := rMax2) (cr_max2 rfl) (by rfl) T.f_max (by decide +kernel) (pa_cons (pv 5) (pa_cons (pv 6) pa_nil))) pa_nil))))) pa_nil)))))))
      (pss_one (ps_ret (pv 1))))), ?_⟩
    refine ⟨by show 0 ≤ sizeLine; decide, fun p hp => ?_⟩
    have e1 := Kp.new (F := N0) (o := .lst []) hp
    have hp1 : (upd H p (.lst [])) p = some (.lst []) := upd_same
    generalize upd H p (.lst []) = H1 at e1 hp1
    refine ⟨_, rfl, a, _, rfl, SqL.of (e1.get0 ha), ?_⟩
    have hll : (ls.map V.ref).length = rows.length := by rw [List.length_map, hr0.1]
    have bnd1 : ∀ i : Nat, ((rows.drop (i + 1)).flatMap fun its => cross (rows.getD i []) its).length ≤ 343 := fun i => by
      have hm : (rows.getD i []).length ≤ 7 := by
        rw [List.getD_eq_getElem?_getD]
        cases e : rows[i]? with
        | none => simp
        | some r => exact hr7 r (List.mem_of_getElem? e)
      have h := flatMap_le (f := fun its => cross (rows.getD i []) its) (c := 49) (l := rows.drop (i + 1)) fun x hx => cross_le hm (hr7 x (List.mem_of_mem_drop hx))
      rw [List.length_drop] at h
      have : (rows.length - (i + 1)) * 49 ≤ 343 := by omega
      omega
    refine for_it (walk_enum (K := K) (a := a) (xs := ls.map V.ref)) (fun i σ H' => (∃ o2 o3 o4, σ = [some (.ref a), some (.ref p), o2, o3, o4, none, none]) ∧ Kp N0 H H' ∧
      ∃ ys, H' p = some (.lst ys) ∧ Prs H' ys ((List.range i).flatMap fun i => (rows.drop (i + 1)).flatMap fun its => cross (rows.getD i []) its)) ?_ ?_ ?_ ?_
    · exact ⟨⟨_, _, _, rfl⟩, e1, [], hp1, Rw.nil⟩
    · rintro i σ H' _ ⟨_, e, _⟩
      exact SqL.of (e.get0 ha)
    · rintro i x σ H2 H3 hi ⟨⟨o2, o3, o4, rfl⟩, e2, ys, hys, hP⟩ ⟨t, x1, x2, rfl, ht, rfl, hx1, hx2⟩
      cases hx1
      have hx2 : (ls.map V.ref)[i]? = some x2 := hx2
      rw [List.getElem?_map] at hx2
      obtain ⟨l, hl, rfl⟩ := Option.map_eq_some_iff.mp hx2
      have e3 := Kp.new (F := N0) (o := .tup [V.int (i : Int), .ref l]) ht
      have ht3 : (upd H2 t (.tup [V.int (i : Int), .ref l])) t = _ := upd_same
      generalize upd H2 t (.tup [V.int (i : Int), .ref l]) = H3 at e3 ht3
      refine ⟨t, _, rfl, SqT.of ht3, rfl, .int i, _, rfl, .ref l, _, rfl, rfl, ?_⟩
      have E3 := e2.trans e3
      refine ⟨_, rfl, _, rfl, _, _, rfl, rfl, _, rfl, a, _, rfl, SqL.of (E3.get0 ha), fun q hq => ?_⟩
      have pq : ¬ q = p := fun z => ne_of_none (e3.get0 hys) hq z.symm
      rw [cut_from]
      have e4 := Kp.new (F := N0) (o := .lst ((ls.map V.ref).drop (i + 1))) hq
      have hq4 : (upd H3 q (.lst ((ls.map V.ref).drop (i + 1)))) q = _ := upd_same
      generalize upd H3 q (.lst ((ls.map V.ref).drop (i + 1))) = H4 at e4 hq4
      have E4 := E3.trans e4
      have hir : i < rows.length := by rw [← hll]; exact hi
      have hmine : rows[i]? = some (rows.getD i []) := by rw [List.getD_eq_getElem?_getD, List.getElem?_eq_getElem hir]; rfl
      have hm7 : (rows.getD i []).length ≤ 7 := hr7 _ (List.mem_of_getElem? hmine)
      have hlm : H l = some (.lst ((rows.getD i []).map V.int)) := hr0.2 i l _ hl hmine
      generalize hme : rows.getD i [] = mine at *
      refine ⟨q, rfl, ⟨_, SqL.of hq4⟩, ?_⟩
      have hdl : ((ls.map V.ref).drop (i + 1)).length = (rows.drop (i + 1)).length := by rw [List.length_drop, List.length_drop, hll]
      refine for_it (walk_list (K := K) (a := q) (xs := (ls.map V.ref).drop (i + 1))) (fun j σ H' => (∃ o4, σ = [some (.ref a), some (.ref p), some (.int i), some (.ref l), o4, none, none]) ∧ Kp N0 H H' ∧ H' q = some (.lst ((ls.map V.ref).drop (i + 1))) ∧
        ∃ ys, H' p = some (.lst ys) ∧ Prs H' ys (((List.range i).flatMap fun i => (rows.drop (i + 1)).flatMap fun its => cross (rows.getD i []) its) ++ ((rows.drop (i + 1)).take j).flatMap fun its => cross mine its)) ?_ ?_ ?_ ?_
      · exact ⟨⟨_, rfl⟩, E4, hq4, ys, (e3.trans e4).get0 hys, by simpa using hP.mono (e3.trans e4).tp⟩
      · rintro j σ H' _ ⟨_, _, h, _⟩
        exact SqL.of h
      · rintro j x σ _ H5 hj ⟨⟨o4, rfl⟩, e5, hq5, zs, hzs, hPz⟩ ⟨rfl, hx⟩
        rw [List.getElem?_drop, List.getElem?_map] at hx
        obtain ⟨m, hm, rfl⟩ := Option.map_eq_some_iff.mp hx
        have hjr : i + 1 + j < rows.length := by rw [List.length_drop] at hj; omega
        have hits : rows[i + 1 + j]? = some rows[i + 1 + j] := List.getElem?_eq_getElem hjr
        generalize rows[i + 1 + j] = its at hits
        have hi7 : its.length ≤ 7 := hr7 _ (List.mem_of_getElem? hits)
        have hlm5 := e5.get0 hlm
        have him5 := e5.get0 (hr0.2 _ m its hm hits)
        refine ⟨_, rfl, .inl ⟨rfl, _, SqL.of hzs⟩, _, rfl, l, rfl, ⟨_, SqL.of hlm5⟩, fun D hD => ?_⟩
        have pD : ¬ p = D := ne_of_none hzs hD
        have qD : ¬ q = D := ne_of_none hq5 hD
        refine heapW (walk_list (K := K) (a := l) (xs := mine.map V.int)) (fun i2 H' => ∃ ys2, Kp N0 H5 H' ∧ H' D = some (.lst ys2) ∧ Prs H' ys2 ((mine.take i2).flatMap fun x => its.map fun y => norm (x, y))) ⟨[], Kp.new hD, upd_same, Rw.nil⟩ (fun _ _ _ ⟨_, e, _⟩ => e.sql (SqL.of hlm5)) ?_ ?_
        · rintro i2 x _ H6 hi2 ⟨ys2, e6, hy6, hP6⟩ ⟨rfl, hx⟩
          obtain ⟨n, hn, rfl⟩ := map_int_get hx
          refine ⟨rfl, yesT ⟨_, rfl, m, rfl, ⟨_, SqL.of (e6.get0 him5)⟩, ?_⟩⟩
          refine heapW (walk_list (K := K) (a := m) (xs := its.map V.int)) (fun j2 H' => ∃ ys2, Kp N0 H5 H' ∧ H' D = some (.lst ys2) ∧ Prs H' ys2 (((mine.take i2).flatMap fun x => its.map fun y => norm (x, y)) ++ (its.take j2).map fun y => norm (n, y))) ⟨ys2, e6, hy6, by simpa using hP6⟩ (fun _ _ _ ⟨_, e, _⟩ => e.sql (SqL.of him5)) ?_ ?_
          · rintro j2 x _ H7 hj2 ⟨ys3, e7, hy7, hP7⟩ ⟨rfl, hx⟩
            obtain ⟨o, ho, rfl⟩ := map_int_get hx
            have hb : ys3.length ≤ 56 := by
              rw [hP7.length, List.length_append, List.length_map]
              have h := flatMap_le (f := fun x => its.map fun y => norm (x, y)) (c := 7) (l := mine.take i2) (fun x _ => by rw [List.length_map]; exact hi7)
              have h2 : (mine.take i2).length ≤ 7 := by rw [List.length_take]; omega
              have h3 : (its.take j2).length ≤ 7 := by rw [List.length_take]; omega
              omega
            refine ⟨rfl, yesT ⟨_, rfl, _, rfl, n, o, rfl, _, rfl, _, rfl, n, o, rfl, by show 2 ≤ sizeLine; decide, fun t2 ht2 => ?_⟩⟩
            have D2 : ¬ D = t2 := ne_of_none hy7 ht2
            refine ⟨ys3, by rw [upd_ne D2]; exact hy7, by have e : sizeLine = 16777216 := rfl; omega, ys3 ++ _, (e7.trans (Kp.new ht2)).mut hD, upd_same, ?_⟩
            rw [take_snoc ho, List.map_append, ← List.append_assoc]
            refine (hP7.mono ((Tp.new ht2).trans (Tp.upd (by rw [upd_ne D2]; exact hy7) sol_lst))).snoc ⟨t2, rfl, ?_⟩
            rw [upd_ne (fun z => D2 z.symm), upd_same]
            have w1 : (if o < n then o else n) = min n o := by rw [Int.min_def]; split <;> split <;> omega
            have w2 : (if o > n then o else n) = max n o := by rw [Int.max_def]; split <;> split <;> omega
            rw [w1, w2]; rfl
          · rintro H7 ⟨ys3, e7, hy7, hP7⟩
            refine ⟨ys3, e7, hy7, ?_⟩
            rw [List.length_map, take_all] at hP7
            rw [flatMap_snoc hn]; exact hP7
        · rintro H6 ⟨ys2, e6, hy6, hP6⟩
          rw [List.length_map, take_all] at hP6
          have hzs6 := e6.get0 hzs
          have hl1 : zs.length ≤ 2744 := by
            rw [hPz.length, List.length_append]
            have h1 := flatMap_le (f := fun i => (rows.drop (i + 1)).flatMap fun its => cross (rows.getD i []) its) (c := 343) (l := List.range i) fun x _ => bnd1 x
            rw [List.length_range] at h1
            have h2 := flatMap_le (f := fun its => cross mine its) (c := 49) (l := (rows.drop (i + 1)).take j) fun x hx => cross_le hm7 (hr7 x (List.mem_of_mem_drop (List.mem_of_mem_take hx)))
            rw [List.length_take, List.length_drop] at h2
            omega
          have hl2 : ys2.length ≤ 49 := by rw [hP6.length]; exact cross_le hm7 hi7
          have tp6 := (e6.tp).trans (Tp.upd (o := .lst (zs ++ ys2)) hzs6 sol_lst)
          refine ⟨p, D, zs, ys2, rfl, rfl, hzs6, hy6, by have e : sizeLine = 16777216 := rfl; omega, ⟨_, rfl⟩, (e5.trans e6).mut hp, by rw [upd_ne pq]; exact e6.get0 hq5, zs ++ ys2, upd_same, ?_⟩
          · have ht : (rows.drop (i + 1))[j]? = some its := by rw [List.getElem?_drop]; exact hits
            rw [flatMap_snoc ht, ← List.append_assoc]
            exact (hPz.mono tp6).append (hP6.mono (Tp.upd hzs6 sol_lst))
      · rintro σ H5 ⟨⟨o4, rfl⟩, e5, hq5, zs, hzs, hPz⟩
        refine ⟨⟨_, _, _, rfl⟩, e5, zs, hzs, ?_⟩
        rw [hdl, take_all] at hPz
        rw [List.range_succ, List.flatMap_append]
        simp only [List.flatMap_cons, List.flatMap_nil, List.append_nil, hme]
        exact hPz
    · rintro σ H2 ⟨⟨o2, o3, o4, rfl⟩, e2, ys, hys, hP⟩
      rw [hll] at hP
      exact ⟨_, rfl, k p ys H2 e2 hys hP⟩
end
end K50
end
section
set_option Elab.async false
set_option linter.all false
set_option maxRecDepth 100000
set_option maxHeartbeats 4000000
/-! rules that the layer lacks: {tuple: v for ..}, x = {k: v for ..}, d.update(d') -/
namespace K50
open PySem PySem.Spec L2
theorem room_of {P : Program} {w : World} {A : Around} (hu : A.units + 1 < cLine) : (tupleKind (mixKind P w)).room A := by
  show A.units < cLine
  omega
/-- a tuple's key set in a dict that stands in the heap -/
theorem d_dictSetT {X : Cx} {pins : List (Addr × Obj)} {σ : St} {H : Hp} {s : Shared} {E : Value → Shared → Prop} {D b : Addr} {kvs : List (List Key × V)} {k : List Key} {v : V} {u r : Value} {Q : Unit → Shared → Prop}
    (hu : X.A.units + 1 < cLine) (I : L2.Inv X pins σ H s) (hD : H D = some (.dT kvs)) (hz : kvs.length < sizeLine) (hb : H b = some (.tup (k.map kV))) (ru : RelV (.ref b) u) (rv : RelV v r)
    (h : ∀ s', L2.Inv X pins σ (upd H D (.dT (putK kvs k v))) s' → Q () s') : wpAny (model X.prog X.w) X.A (dictSet D u r) Q E s := by
  obtain rfl : u = Value.ref b := ru
  obtain ⟨z, hd, xs, rel, dd⟩ := dt_of I.hok hD
  have hzx : xs.length ≤ sizeLine := by rw [← rel.length]; exact z
  have hl := length_putK kvs k v
  refine wpAny_dictSet_heap (room_of hu) (key_of I.hok hb) dd (fun h' dd' hs => h _ ?_) hzx
  obtain ⟨q, es, ep, hq, h2, h3, h4, _, h5⟩ := dd'
  refine d_write I (by rw [hD]; exact trivial) hs ⟨q, hq⟩ ⟨by omega, hd, storedH xs k b r, KT.keeps (KT.put rel k hb rv) fun c ys ec => ?_, q, es, ep, hq, h2, h3, h4, h5⟩
  rw [upd_ne (fun z => by rw [z, hD] at ec; cases ec)]
  exact ec

/-- {k: v for ..}, the keys tuples -/
def tDcT (wi : TI) (g : TG) (tt : TT) (tk tv : TE) (vs : List Nat) : TE := fun σ H Q => wi σ H fun J H1 => ∀ D, H1 D = none → ∃ W : Nat → Nat → Hp → Prop, (∃ m, W 0 m (upd H1 D (.dT []))) ∧ ∀ i m H, W i m H →
  (J.stop i H ∧ Q (.ref D) H) ∨ (J.go i H ∧ ∃ Nx : Hp → Prop, (∀ H', Nx H' → ∃ m', m' < m ∧ W (i + 1) m' H') ∧ ∀ x H', J.yld i H x H' → g x (wipe σ vs) H' fun σ2 H2 => wipe σ2 vs = wipe σ vs ∧ tt σ2 H2 fun b H3 =>
    if b = true then tk σ2 H3 fun y H4 => tv σ2 H4 fun z H5 => ∃ kvs k c, y = .ref c ∧ H5 c = some (.tup (k.map kV)) ∧ H5 D = some (.dT kvs) ∧ kvs.length < sizeLine ∧ Nx (upd H5 D (.dT (putK kvs k z))) else Nx H3)
section
variable {X : Cx} {pins : List (Addr × Obj)} {s : Shared} {σ : St} {H : Hp} {Q : VK} {kx vx tg iter : Expr} {ifs : List Expr} {scope : Scope} {own : List (Str × Nat)} {pos pos' : Pos} {wi : TI} {g : TG} {tt : TT} {tk tv : TE}
  {use : Option (Value → Sem Unit)} {Qf : Value → Shared → Prop}
theorem dcT_core (hu : X.A.units + 1 < cLine) (hc : X.calm = true) (hN : X.N.Nodup) (I : L2.Inv X pins σ H s) (hi : PI X tg iter wi) (ok : BlkOk X.N X.env.scope scope own)
    (hg : ∀ (s : Shared) (H : Hp) (C : Addr) (cl : List (Str × Addr)) (fp : List Addr), PG (X.blk s H scope (compEnvC scope cl C X.env) fp) tg g)
    (ht : ∀ (s : Shared) (H : Hp) (C : Addr) (cl : List (Str × Addr)) (fp : List Addr), PTs (X.blk s H scope (compEnvC scope cl C X.env) fp) ifs tt)
    (hk : ∀ (s : Shared) (H : Hp) (C : Addr) (cl : List (Str × Addr)) (fp : List Addr), PE (X.blk s H scope (compEnvC scope cl C X.env) fp) kx tk)
    (he : ∀ (s : Shared) (H : Hp) (C : Addr) (cl : List (Str × Addr)) (fp : List Addr), PE (X.blk s H scope (compEnvC scope cl C X.env) fp) vx tv)
    (hs : ∀ x : Value, foldedSetIterable iter X.env x = pure x) (h : tDcT wi g tt tk tv (own.map (·.2)) σ H Q)
    (hRR : ∀ (D C : Addr) (s' : Shared) (m : Str → Option Value) (H' : Hp), L2.Inv X pins σ H' s' → Q (.ref D) H' → s'.heap.Ns C m → FpOk X pins H' C → compPost (model X.prog X.w) X.A X.xe use Qf (.ref D) C (.ok .next) s') :
    wpAny (model X.prog X.w) X.A (comprehension (.DictComp kx vx [⟨tg, iter, ifs, 0⟩] scope pos) scope X.env pos' newDict false (eval iter X.env) use) Qf X.xe s := by
  have hfree : ∀ y ∈ scope.names, y.2 = NameKind.free → ∃ c, X.env.cells.lookup y.1 = some c := fun y hy e => (ok.free y hy e).elim (fun k => I.ok.has y.1 (.inl k)) fun k => I.ok.has y.1 (.inr k)
  refine wpAny_comprehension_free rfl hs (closure_ok hfree) ok.kind (fun y hy e => by rw [ok.uniq y hy, e]) ?_
  refine thn (hi.run pins s σ H _ I h) fun xv s1 hx => thn hx fun itv s2 h2 => ?_
  obtain ⟨it, fp, tn, J, H2, rfl, I2, T, st2, f2, q⟩ := h2
  refine wpAny_newObj_type (newEnv_comp ?_)
  have hDn : H2 s2.heap.objs.size = none := I2.hok.fresh (Nat.le_refl _)
  obtain ⟨W, ⟨m0, w0⟩, turn⟩ := q s2.heap.objs.size hDn
  have key : ∀ s3 : Shared, s3 = { s2 with heap := s2.heap.push { cls := .type "dict", data := .dict #[] } } →
      codeAny (model X.prog X.w) X.A (Code.compStart (.DictComp kx vx [⟨tg, iter, ifs, 0⟩] scope pos) 0 (.ref it) (.ref s2.heap.objs.size) (compEnvC scope (cellsFrom (s3.heap.objs.size + 1) scope.names (cloFrom X.env.cells scope.names [])) s3.heap.objs.size X.env))
        (compPost (model X.prog X.w) X.A X.xe use Qf (.ref s2.heap.objs.size) s3.heap.objs.size) { s3 with heap := pushCells (s3.heap.push { cls := .type "dict", data := .dict #[] }) scope.names } := by
    intro s3 e3
    have I3 : L2.Inv X pins σ (upd H2 s2.heap.objs.size (.dT [])) s3 := by
      rw [e3]
      exact I2.laid (t' := s2.toks) (fun b o e => Heap.get?_push_of_some _ e) (Nat.le_refl _) (dt_empty s2.heap I2.big)
    have h3 : s3.heap = s2.heap.push { cls := .type "dict", data := .dict #[] } := by rw [e3]
    have sz : ∀ b ∈ fp, b < s2.heap.objs.size := fun b hb => let ⟨_, e, _⟩ := T.obj 0 s2.heap st2 b hb; Heap.lt_size e
    have f3 : ∀ b ∈ fp, FpOk X pins (upd H2 s2.heap.objs.size (.dT [])) b ∧ b < s3.heap.objs.size := fun b hb => by
      have hlt := sz b hb
      refine ⟨⟨?_, (f2 b hb).2⟩, ?_⟩
      · rw [upd_ne (Nat.ne_of_lt hlt)]; exact (f2 b hb).1
      · rw [h3, Heap.size_push]; exact Nat.lt_succ_of_lt hlt
    have st3 : tn 0 s3.heap := T.keep 0 s2.heap s3.heap st2 fun b _ o e => by rw [h3]; exact Heap.get?_push_of_some _ e
    have I4 := block_start I3 ok hN f3
    have pg := hg s3 (upd H2 s2.heap.objs.size (.dT [])) s3.heap.objs.size (cellsFrom (s3.heap.objs.size + 1) scope.names (cloFrom X.env.cells scope.names [])) fp
    have pt := ht s3 (upd H2 s2.heap.objs.size (.dT [])) s3.heap.objs.size (cellsFrom (s3.heap.objs.size + 1) scope.names (cloFrom X.env.cells scope.names [])) fp
    have pk := hk s3 (upd H2 s2.heap.objs.size (.dT [])) s3.heap.objs.size (cellsFrom (s3.heap.objs.size + 1) scope.names (cloFrom X.env.cells scope.names [])) fp
    have pe := he s3 (upd H2 s2.heap.objs.size (.dT [])) s3.heap.objs.size (cellsFrom (s3.heap.objs.size + 1) scope.names (cloFrom X.env.cells scope.names [])) fp
    have cL : (compEnvC scope (cellsFrom (s3.heap.objs.size + 1) scope.names (cloFrom X.env.cells scope.names [])) s3.heap.objs.size X.env).locals = s3.heap.objs.size := rfl
    generalize compEnvC scope (cellsFrom (s3.heap.objs.size + 1) scope.names (cloFrom X.env.cells scope.names [])) s3.heap.objs.size X.env = ce at I4 pg pt pk pe cL ⊢
    have st4 : tn 0 (pushCells (s3.heap.push { cls := .type "dict", data := .dict #[] }) scope.names) := T.keep 0 s3.heap _ st3 fun b _ o e => pushCells_keeps _ _ _ _ (Heap.get?_push_of_some _ e)
    have stat : ∀ {σ' : St} {H' : Hp} {s' : Shared}, L2.Inv (X.blk s3 (upd H2 s2.heap.objs.size (.dT [])) scope ce fp) [] σ' H' s' → (∀ b ∈ fp, H' b = none) → ∀ b ∈ fp, FpOk (X.blk s3 (upd H2 s2.heap.objs.size (.dT [])) scope ce fp) [] H' b := fun {σ' H' s'} I' hn b hb =>
      ⟨hn b hb, (I'.ok.exf b hb).1, I'.ok.exfs b hb, .inl hb, fun x c e => (I'.ok.exf b hb).2 x c e, fun p hp => absurd hp (by simp [Cx.blk])⟩
    have loop : codeAny (model X.prog X.w) X.A (Code.compLoop (.DictComp kx vx [⟨tg, iter, ifs, 0⟩] scope pos) 0 (.ref it) (.ref s2.heap.objs.size) ce) (compPost (model X.prog X.w) X.A X.xe use Qf (.ref s2.heap.objs.size) s3.heap.objs.size)
        { s3 with heap := pushCells (s3.heap.push { cls := .type "dict", data := .dict #[] }) scope.names } := by
      refine compLoop_anyD (fun n s' => ∃ i H', L2.Inv (X.blk s3 (upd H2 s2.heap.objs.size (.dT [])) scope ce fp) [] (wipe σ (own.map (·.2))) H' s' ∧ tn i s'.heap ∧ (∀ b ∈ fp, H' b = none) ∧ W i n H') ?_ m0 ⟨0, _, I4, st4, fun b hb => (f3 b hb).1.1, w0⟩
      rintro n s5 ⟨i, H5, I5, st5, n5, w5⟩
      rcases turn i n H5 w5 with ⟨stop, qq⟩ | ⟨go, Nx, hNx, step⟩
      · refine thnF (T.done (X.blk s3 (upd H2 s2.heap.objs.size (.dT [])) scope ce fp) rfl rfl rfl hc i [] s5 _ H5 (fun _ _ => False) I5 (stat I5 n5) st5 stop) fun r s6 x => ?_
        obtain ⟨rfl, I6⟩ := x
        have I7 : L2.Inv X pins σ H5 s6 := Inv.call' I3 I6.os I6.base I6.hok I6.bare fun b hb => ⟨(f3 b hb).1.2.2.2.1, (f3 b hb).1.2.1, (f3 b hb).1.2.2.2.2.1, (f3 b hb).1.2.2.2.2.2⟩
        have nC : H5 s3.heap.objs.size = none := by
          have z := I6.free
          have z : H5 ce.locals = none := z
          rw [cL] at z; exact z
        obtain ⟨m, hn, _⟩ := I6.loc
        have hn : s6.heap.Ns ce.locals m := hn
        rw [cL] at hn
        exact hRR _ _ s6 m H5 I7 qq hn (I3.fpOk (Nat.le_refl _) nC)
      · refine thnF (T.item (X.blk s3 (upd H2 s2.heap.objs.size (.dT [])) scope ce fp) rfl rfl rfl hc i [] s5 _ H5 (fun _ _ => False) I5 (stat I5 n5) st5 go) fun r s6 x => ?_
        obtain ⟨u, rfl, h6⟩ := x
        refine thnF h6 fun _ s7 x => ?_
        obtain ⟨x, H7, I7, r7, y7, st7, n7⟩ := x
        have I7' := I7.pinned (stat I7 n7) (T.obj (i + 1) s7.heap st7)
        refine thnF (pg.run _ s7 _ H7 x u _ I7' r7 (step x H7 y7)) fun _ s8 x => ?_
        obtain ⟨σ8, H8, I8, hw8, q8⟩ := x
        refine thnF (pt.run _ s8 σ8 H8 _ I8 q8) fun b s9 x => ?_
        obtain ⟨H9, I9, q9⟩ := x
        have fin : ∀ {s' : Shared} {H' : Hp}, L2.Inv (X.blk s3 (upd H2 s2.heap.objs.size (.dT [])) scope ce fp) ([] ++ pinsAt fp s7.heap) σ8 H' s' → Nx H' →
            ∃ m, m < n ∧ ∃ i H', L2.Inv (X.blk s3 (upd H2 s2.heap.objs.size (.dT [])) scope ce fp) [] (wipe σ (own.map (·.2))) H' s' ∧ tn i s'.heap ∧ (∀ b ∈ fp, H' b = none) ∧ W i m H' := by
          intro s' H' I' nx
          obtain ⟨m', hm, w'⟩ := hNx H' nx
          have pin' : ∀ b ∈ fp, ∀ o, s7.heap.get? b = some o → s'.heap.get? b = some o ∧ H' b = none := fun b hb o e => by
            have z := I'.pin (b, o) (List.mem_append_right _ (List.mem_append_right _ (mem_pinsAt hb e)))
            exact ⟨z.1, z.2.1⟩
          refine ⟨m', hm, i + 1, H', ?_, T.keep (i + 1) s7.heap s'.heap st7 fun b hb o e => (pin' b hb o e).1, fun b hb => ?_, w'⟩
          · refine Inv.weak (Inv.unpinned I') ?_ fun j v e => ?_
            · have := congrArg List.length hw8
              rw [wipe_length] at this ⊢; rw [wipe_length] at this; exact this.symm
            · rw [← hw8] at e
              exact (wipe_some e).1
          · obtain ⟨o, e, _⟩ := T.obj (i + 1) s7.heap st7 b hb
            exact (pin' b hb o e).2
        cases b with
        | false =>
          rw [if_neg (by decide)] at q9 ⊢
          exact fin I9 q9
        | true =>
          rw [if_pos rfl] at q9 ⊢
          refine thnF (pk.run _ s9 σ8 H9 _ I9 q9) fun z s10 x => ?_
          obtain ⟨yk, H10, I10, r10, q10⟩ := x
          refine thnF (pe.run _ s10 σ8 H10 _ I10 q10) fun z2 s11 x => ?_
          obtain ⟨yv, H11, I11, r11, kvs, k, c, rfl, hc11, hD11, hz11, nx⟩ := x
          exact d_dictSetT (X := X.blk s3 (upd H2 s2.heap.objs.size (.dT [])) scope ce fp) hu I11 hD11 hz11 hc11 r10 r11 fun s12 I12 => fin I12 nx
    exact codeAny_compStart_dict loop (T.self X.A 0 _ _ _ st4 loop)
  exact key _ rfl
end
/-- x = {..}, x a local: the rule's end, whatever the comprehension -/
theorem setComp {X : Cx} {i : Nat} {y : Str} {py pos spos : Pos} {value : Expr} {scope : Scope} {first newAcc : Sem Value} {te : TE} (hN : X.N.Nodup) (hy : X.N[i]? = some y) (hyl : X.env.scope.names.lookup y = some .local)
    (hsw : swapsWith value (some (.Name y py)) spos.line X.env = pure true) (hev : ∀ u, evalThenUse value X.env u = (do let _ ← comprehension value scope X.env pos newAcc false first (some u); pure ()))
    (core : ∀ {pins : List (Addr × Obj)} {s : Shared} {σ : St} {H : Hp} {Q : VK} {use : Option (Value → Sem Unit)} {Qf : Value → Shared → Prop}, L2.Inv X pins σ H s → te σ H Q →
      (∀ (D C : Addr) (s' : Shared) (m : Str → Option Value) (H' : Hp), L2.Inv X pins σ H' s' → Q (.ref D) H' → s'.heap.Ns C m → FpOk X pins H' C → compPost (model X.prog X.w) X.A X.xe use Qf (.ref D) C (.ok .next) s') →
      wpAny (model X.prog X.w) X.A (comprehension value scope X.env pos newAcc false first use) Qf X.xe s) : PS X (.Assign [.Name y py] value spos) (tAsg te (gName i)) := by
  refine ⟨fun pins s σ H D I h => ?_⟩
  rw [exec_Assign_Name_used y py value spos hsw]
  refine wpAny_bind (wpAny_standAt (wpAny_bind ?_))
  rw [hev]
  refine wpAny_bind (thn (core I h fun L C s' m H' I' q hn f => ?_) fun x s' hq => wpAny_pure (wpAny_pure hq))
  refine wpAny_assign_Name (store_ok2 (v := .ref L) I' hN hy (.inl hyl) rfl (fun s2 I2 x => ?_) (.inr hyl))
  obtain ⟨a, sb, ha⟩ := x
  obtain ⟨f0, f1, f2, f3, f4, f5⟩ := f
  have haC : C ≠ a := ha.elim (fun z => by rw [z]; exact f1) fun z e => f4 y a z e.symm
  exact ⟨m, hn.sameBut sb haC, fun h3 sb3 => ⟨_, H', I2.turned (fun b o hb e => (sb3.2 b hb).trans e) f0 f1 f3 f4 f5, q⟩⟩
section
variable {X : Cx} {i : Nat} {y : Str} {py : Pos} {kx vx tg iter : Expr} {ifs : List Expr} {scope : Scope} {own : List (Str × Nat)} {pos spos : Pos} {wi : TI} {g : TG} {tt : TT} {tk tv : TE}
/-- x = {k: v for ..}, the keys ints or texts -/
theorem ps_setDc (hc : X.calm = true) (hN : X.N.Nodup) (hy : X.N[i]? = some y) (hyl : X.env.scope.names.lookup y = some .local)
    (hsw : swapsWith (.DictComp kx vx [⟨tg, iter, ifs, 0⟩] scope pos) (some (.Name y py)) spos.line X.env = pure true) (hi : PI X tg iter wi) (ok : BlkOk X.N X.env.scope scope own)
    (hg : ∀ (s : Shared) (H : Hp) (C : Addr) (cl : List (Str × Addr)) (fp : List Addr), PG (X.blk s H scope (compEnvC scope cl C X.env) fp) tg g)
    (ht : ∀ (s : Shared) (H : Hp) (C : Addr) (cl : List (Str × Addr)) (fp : List Addr), PTs (X.blk s H scope (compEnvC scope cl C X.env) fp) ifs tt)
    (hk : ∀ (s : Shared) (H : Hp) (C : Addr) (cl : List (Str × Addr)) (fp : List Addr), PE (X.blk s H scope (compEnvC scope cl C X.env) fp) kx tk)
    (he : ∀ (s : Shared) (H : Hp) (C : Addr) (cl : List (Str × Addr)) (fp : List Addr), PE (X.blk s H scope (compEnvC scope cl C X.env) fp) vx tv)
    (hs : ∀ x : Value, foldedSetIterable iter X.env x = pure x := by intro _; rfl) : PS X (.Assign [.Name y py] (.DictComp kx vx [⟨tg, iter, ifs, 0⟩] scope pos) spos) (tAsg (tDc wi g tt tk tv (own.map (·.2))) (gName i)) :=
  setComp hN hy hyl hsw (fun _ => rfl) fun I h k => dc_core hc hN I hi ok hg ht hk he hs h k
/-- x = {k: v for ..}, the keys tuples -/
theorem ps_setDcT (hu : X.A.units + 1 < cLine) (hc : X.calm = true) (hN : X.N.Nodup) (hy : X.N[i]? = some y) (hyl : X.env.scope.names.lookup y = some .local)
    (hsw : swapsWith (.DictComp kx vx [⟨tg, iter, ifs, 0⟩] scope pos) (some (.Name y py)) spos.line X.env = pure true) (hi : PI X tg iter wi) (ok : BlkOk X.N X.env.scope scope own)
    (hg : ∀ (s : Shared) (H : Hp) (C : Addr) (cl : List (Str × Addr)) (fp : List Addr), PG (X.blk s H scope (compEnvC scope cl C X.env) fp) tg g)
    (ht : ∀ (s : Shared) (H : Hp) (C : Addr) (cl : List (Str × Addr)) (fp : List Addr), PTs (X.blk s H scope (compEnvC scope cl C X.env) fp) ifs tt)
    (hk : ∀ (s : Shared) (H : Hp) (C : Addr) (cl : List (Str × Addr)) (fp : List Addr), PE (X.blk s H scope (compEnvC scope cl C X.env) fp) kx tk)
    (he : ∀ (s : Shared) (H : Hp) (C : Addr) (cl : List (Str × Addr)) (fp : List Addr), PE (X.blk s H scope (compEnvC scope cl C X.env) fp) vx tv)
    (hs : ∀ x : Value, foldedSetIterable iter X.env x = pure x := by intro _; rfl) : PS X (.Assign [.Name y py] (.DictComp kx vx [⟨tg, iter, ifs, 0⟩] scope pos) spos) (tAsg (tDcT wi g tt tk tv (own.map (·.2))) (gName i)) :=
  setComp hN hy hyl hsw (fun _ => rfl) fun I h k => dcT_core hu hc hN I hi ok hg ht hk he hs h k
theorem sw_trueD {kx vx : Expr} {gs : List Comprehension} {scope : Scope} {pos py : Pos} {y : Str} {l : Nat} {env : Env} (h1 : env.scope.kind = .function) (h2 : env.scope.names.lookup y = some .local) (h3 : (py.line == pos.line) = true)
    (h4 : (scope.names.any fun x => match x with | (n, k) => n == y && (k == .local || k == .cell)) = false) : swapsWith (.DictComp kx vx gs scope pos) (some (.Name y py)) l env = pure true := by
  have h := sw_true (elt := .Name y py) (gs := gs) (l := l) h1 h2 h3 h4
  exact h
end
/-! ### d.update(d') -/
theorem length_merge (more : List (Key × V)) : ∀ kvs : List (Key × V), (mergeK kvs more).length ≤ kvs.length + more.length := by
  induction more with
  | nil => intro kvs; exact Nat.le_refl _
  | cons p more ih =>
    intro kvs
    have h := ih (putK kvs p.1 p.2)
    have h2 := length_putK kvs p.1 p.2
    have e : mergeK kvs (p :: more) = mergeK (putK kvs p.1 p.2) more := rfl
    rw [e, List.length_cons]
    omega
def rDUpd : V → List V → Hp → VK → Prop := fun x vs H Q => ∃ (a b : Addr) (kvs more : List (Key × V)), x = .ref a ∧ vs = [.ref b] ∧ a ≠ b ∧ H a = some (.dK kvs) ∧ H b = some (.dK more) ∧ kvs.length + more.length ≤ sizeLine ∧ Q .non (upd H a (.dK (mergeK kvs more)))
theorem mt_dupdate {X : Cx} : MtR X "dict.update" rDUpd := by
  intro pins s σ H x xs v us Q I rx rxs h
  obtain ⟨a, b, kvs, more, rfl, rfl, ne, ha, hb, hz, q⟩ := h
  obtain rfl : v = Value.ref a := rx
  obtain ⟨u, rfl, rb⟩ := vals1 rxs
  obtain rfl : u = Value.ref b := rb
  obtain ⟨z1, hd1, vs1, rel1, dd1⟩ := dk_of I.hok ha
  obtain ⟨z2, hd2, vs2, rel2, dd2⟩ := dk_of I.hok hb
  refine call_meetsIn PySem.F.slot_dict_update dd1.typeIs PySem.F.entry_dict_update (PySem.F.args_dict_update_2 _ _) (meets_dict_update (mixKind X.prog X.w) a b ne hd2) ⟨vs1, vs2, dd1, dd2, by rw [← rel1.length, ← rel2.length]; exact hz, fun h' e1 e2 hs => ?_⟩
  have hl := length_merge more kvs
  refine ⟨.non, _, d_write (t' := s.toks) I (by rw [ha]; exact trivial) hs ?_ (dk_new (by omega) hd1 (KV.merge rel2 rel1) e1), rfl, q⟩
  obtain ⟨q, w, w1, hq, _⟩ := e1
  exact ⟨q, hq⟩
/-! ### del d[t], t a tuple -/
def sDDelT (td ty : TE) : TS := fun D σ H => td σ H fun x H1 => ty σ H1 fun y H2 => ∃ (a b : Addr) (kvs : List (List Key × V)) (k : List Key), x = .ref a ∧ y = .ref b ∧ H2 a = some (.dT kvs) ∧ H2 b = some (.tup (k.map kV)) ∧ (valV kvs k).isSome = true ∧ D.nx σ (upd H2 a (.dT (dropK kvs k)))
theorem ps_ddelT {X : Cx} {o i : Expr} {pos tpos : Pos} {td ty : TE} (hu : X.A.units + 1 < cLine) (ho : PE X o td) (hi : PE X i ty) : PS X (.Delete [.Subscript o i tpos] pos) (sDDelT td ty) := by
  refine ⟨fun pins s σ H D I h => ?_⟩
  refine wpAny_Delete (wpAny_deleteEach_cons (wpAny_delete_Subscript ?_))
  refine thn (ho.run pins s σ H _ I h) fun u s1 ⟨x, H1, I1, rx, q1⟩ => thn (hi.run pins s1 σ H1 _ I1 q1) fun iv s2 ⟨y, H2, I2, ry, q2⟩ => ?_
  obtain ⟨a, b, kvs, k, rfl, rfl, ha, hb, hk, q⟩ := q2
  obtain rfl : u = Value.ref a := rx
  obtain rfl : iv = Value.ref b := ry
  obtain ⟨z, hd, xs, rel, dd⟩ := dt_of I2.hok ha
  obtain ⟨v, hv⟩ := Option.isSome_iff_exists.mp hk
  have hzx : xs.length ≤ sizeLine := by rw [← rel.length]; exact z
  have hat := rel.val k
  rw [hv] at hat
  cases e : atKey xs k with
  | none => rw [e] at hat; exact absurd hat (by simp [RelO])
  | some p =>
  refine wpAny_delItem_heap (tupleKind_room_in1 hu) (key_of I2.hok hb) hd dd e (fun h' dd' hs => ?_) hzx
  obtain ⟨q', es, ep, hq, h2, h3, h4, _, h5⟩ := dd'
  refine wpAny_deleteEach_nil ⟨σ, _, d_write (ob := .dT (dropK kvs k)) I2 (by rw [ha]; exact trivial) hs ⟨q', hq⟩ ⟨Nat.le_trans (List.length_filter_le _ _) z, hd, withoutH xs k, KT.keeps (DX.KT_drop k rel) fun c ys ec => ?_, q', es, ep, hq, h2, h3, h4, h5⟩, q⟩
  rw [upd_ne (fun z => by rw [z, ha] at ec; cases ec)]
  exact ec
end K50
end
section
set_option Elab.async false
set_option linter.all false
set_option maxRecDepth 100000
set_option maxHeartbeats 4000000
/-! data of `without`: toggled strings, new numbers -/
namespace K50
open PySem PySem.Spec L2
def tog1 (l : List (Int × Int)) (p : Int × Int) : List (Int × Int) := if p ∈ l then l.filter (fun q => decide (q ≠ p)) else l ++ [p]
def tog (l ps : List (Int × Int)) : List (Int × Int) := ps.foldl tog1 l
theorem tog_snoc (l ps : List (Int × Int)) (p : Int × Int) : tog l (ps ++ [p]) = tog1 (tog l ps) p := by unfold tog; rw [List.foldl_append]; rfl
theorem tog1_nodup {l : List (Int × Int)} {p : Int × Int} (h : l.Nodup) : (tog1 l p).Nodup := by
  unfold tog1
  split
  · exact h.filter _
  · rename_i hp
    rw [List.nodup_append]
    exact ⟨h, by simp, fun a ha b hb e => hp (by rw [← List.mem_singleton.mp hb, ← e]; exact ha)⟩
theorem tog_nodup {l ps : List (Int × Int)} (h : l.Nodup) : (tog l ps).Nodup := by
  unfold tog
  induction ps generalizing l with
  | nil => exact h
  | cons p ps ih => exact ih (tog1_nodup h)
theorem tog1_mem {l : List (Int × Int)} {p q : Int × Int} (h : q ∈ tog1 l p) : q ∈ l ∨ q = p := by
  unfold tog1 at h
  split at h
  · exact .inl (List.mem_filter.mp h).1
  · rcases List.mem_append.mp h with h | h
    · exact .inl h
    · exact .inr (List.mem_singleton.mp h)
theorem tog_mem {l ps : List (Int × Int)} {q : Int × Int} (h : q ∈ tog l ps) : q ∈ l ∨ q ∈ ps := by
  unfold tog at h
  induction ps generalizing l with
  | nil => exact .inl h
  | cons p ps ih =>
    rcases ih (l := tog1 l p) h with h | h
    · rcases tog1_mem h with h | h
      · exact .inl h
      · exact .inr (by rw [h]; exact List.mem_cons_self ..)
    · exact .inr (List.mem_cons_of_mem _ h)
theorem tog1_len (l : List (Int × Int)) (p : Int × Int) : (tog1 l p).length ≤ l.length + 1 := by
  unfold tog1
  split
  · exact Nat.le_trans (List.length_filter_le _ _) (Nat.le_succ _)
  · simp
theorem tog_len (l ps : List (Int × Int)) : (tog l ps).length ≤ l.length + ps.length := by
  unfold tog
  induction ps generalizing l with
  | nil => simp
  | cons p ps ih =>
    have h := ih (tog1 l p)
    have h2 := tog1_len l p
    rw [List.foldl_cons, List.length_cons]
    omega
/-- a pair as a dict's key -/
def kT (p : Int × Int) : List Key := [Sum.inl p.1, Sum.inl p.2]
theorem kT_map (p : Int × Int) : (kT p).map kV = (pr p).map V.int := rfl
theorem kT_inj {p q : Int × Int} (h : kT p = kT q) : p = q := by
  unfold kT at h
  simp only [List.cons.injEq, Sum.inl.injEq, and_true] at h
  exact Prod.ext h.1 h.2
def dTo (l : List (Int × Int)) : List (List Key × V) := l.map fun p => (kT p, V.bl true)
theorem dTo_any {l : List (Int × Int)} {p : Int × Int} : ((dTo l).any fun kv => decide (kv.1 = kT p)) = decide (p ∈ l) := by
  unfold dTo
  induction l with
  | nil => simp
  | cons q l ih =>
    rw [List.map_cons, List.any_cons, ih]
    by_cases h : q = p
    · subst h; simp
    · have h1 : ¬ kT q = kT p := fun z => h (kT_inj z)
      have h2 : ¬ p = q := fun z => h z.symm
      simp [h1, h2]
theorem dTo_put {l : List (Int × Int)} {p : Int × Int} (h : p ∉ l) : putK (dTo l) (kT p) (V.bl true) = dTo (l ++ [p]) := by
  unfold putK
  rw [dTo_any, decide_eq_false h, if_neg (by simp)]
  unfold dTo; simp
theorem dTo_drop (l : List (Int × Int)) (p : Int × Int) : dropK (dTo l) (kT p) = dTo (l.filter fun q => decide (q ≠ p)) := by
  unfold dropK dTo
  induction l with
  | nil => rfl
  | cons q l ih =>
    rw [List.map_cons, List.filter_cons, List.filter_cons, ih]
    by_cases h : q = p
    · subst h; simp
    · have h1 : ¬ kT q = kT p := fun z => h (kT_inj z)
      simp [h, h1]
theorem dTo_val {l : List (Int × Int)} {p : Int × Int} : (valV (dTo l) (kT p)).isSome = decide (p ∈ l) := by
  unfold valV dTo
  induction l with
  | nil => simp
  | cons q l ih =>
    rw [List.map_cons, List.find?_cons]
    by_cases h : q = p
    · subst h; simp
    · have h1 : ¬ kT q = kT p := fun z => h (kT_inj z)
      have h2 : ¬ p = q := fun z => h z.symm
      simp only [decide_eq_false h1]
      rw [ih]; simp [h2]
/-- numbers of the things that are left -/
def atR : Nat → List Int → List (Int × Int)
  | _, [] => []
  | k, x :: l => (x, (k : Int)) :: atR (k + 1) l
theorem atR_snoc (l : List Int) (x : Int) : ∀ k, atR k (l ++ [x]) = atR k l ++ [(x, ((k + l.length : Nat) : Int))] := by
  induction l with
  | nil => intro k; rfl
  | cons y l ih =>
    intro k
    rw [List.cons_append]
    show (y, (k : Int)) :: atR (k + 1) (l ++ [x]) = (y, (k : Int)) :: (atR (k + 1) l ++ _)
    rw [ih, List.length_cons]
    have e : k + 1 + l.length = k + (l.length + 1) := by omega
    rw [e]
theorem atR_keys (l : List Int) : ∀ k, (atR k l).map (·.1) = l := by
  induction l with
  | nil => intro k; rfl
  | cons y l ih => intro k; show y :: (atR (k + 1) l).map (·.1) = _; rw [ih]
theorem atR_len (l : List Int) (k : Nat) : (atR k l).length = l.length := by
  have h := congrArg List.length (atR_keys l k)
  rwa [List.length_map] at h
/-- the new number of a thing -/
def nu (left : List Int) (i : Int) : Int := (left.idxOf i : Nat)
theorem tuAt_atR {l : List Int} {i : Int} : ∀ k, tuAt (atR k l) i = if i ∈ l then some (((k + l.idxOf i : Nat)) : Int) else none := by
  induction l with
  | nil => intro k; rfl
  | cons y l ih =>
    intro k
    unfold tuAt atR
    rw [List.find?_cons]
    by_cases h : y = i
    · subst h; simp
    · have h2 : ¬ i = y := fun z => h z.symm
      have ih' := ih (k + 1)
      unfold tuAt at ih'
      simp only [decide_eq_false h]
      rw [ih', List.idxOf_cons]
      have h3 : (y == i) = false := by simpa using h
      rw [h3]
      simp only [List.mem_cons, h2, false_or, cond_false]
      split <;> simp <;> omega
theorem at_get {l : List Int} {i : Int} (h : i ∈ l) : valV (kvI (atR 0 l)) (Sum.inl i : Key) = some (.int (nu l i)) := by
  rw [valV_kvI, tuAt_atR, if_pos h, Nat.zero_add]; rfl
theorem at_none {l : List Int} {i : Int} (h : i ∉ l) : valV (kvI (atR 0 l)) (Sum.inl i : Key) = none := by
  rw [valV_kvI, tuAt_atR, if_neg h]; rfl
theorem kvI_put {ps : List (Int × Int)} {k v : Int} (h : k ∉ ps.map (·.1)) : putK (kvI ps) (Sum.inl k) (.int v) = kvI (ps ++ [(k, v)]) := by
  rw [putK_new]
  · unfold kvI; simp
  · unfold kvI
    rw [List.map_map]
    intro z
    obtain ⟨p, hp, e⟩ := List.mem_map.mp z
    exact h (List.mem_map.mpr ⟨p, hp, Sum.inl.inj e⟩)
end K50
end
section
set_option Elab.async false
set_option linter.all false
set_option maxRecDepth 100000
set_option maxHeartbeats 4000000
/-! data of `without`: what the new net is made of -/
namespace K50
open PySem PySem.Spec L2
def leftOf (sz : Int) (gone : List Int) : List Int := (rg sz).filter fun t => !gone.contains t
def tiesOf (l : List (Int × Int)) (left : List Int) : List (Int × Int) := (l.filter fun p => decide (p.1 ∈ left) && decide (p.2 ∈ left)).map fun p => (nu left p.1, nu left p.2)
def turnsOf (tu : List (Int × Int)) (left : List Int) (mo : List (Int × Int)) : List (Int × Int) := (tu.filter fun p => decide (p.1 ∈ left)).map fun p => (nu left p.1, (p.2 + (tuAt mo p.1).getD 0) % 8)
theorem mem_left {sz : Int} {gone : List Int} {i : Int} : i ∈ leftOf sz gone ↔ (0 ≤ i ∧ i < sz) ∧ i ∉ gone := by
  unfold leftOf
  rw [List.mem_filter, mem_rg]
  simp
theorem left_nodup {sz : Int} {gone : List Int} : (leftOf sz gone).Nodup := rg_nodup.filter _
theorem rg_lt {n : Int} : (rg n).Pairwise (· < ·) := by
  unfold rg
  refine List.Pairwise.map _ (fun a b h => ?_) List.pairwise_lt_range
  show (a : Int) < (b : Int)
  omega
theorem left_lt {sz : Int} {gone : List Int} : (leftOf sz gone).Pairwise (· < ·) := rg_lt.filter _
theorem left_len {sz : Int} {gone : List Int} : (leftOf sz gone).length ≤ sz.toNat := by
  have h := List.length_filter_le (fun t => !gone.contains t) (rg sz)
  rw [rg_len] at h
  exact h
theorem idx_get {l : List Int} {i : Int} (h : i ∈ l) : l[l.idxOf i]? = some i := by
  rw [List.getElem?_eq_getElem (List.idxOf_lt_length_iff.mpr h), List.getElem_idxOf]
theorem nu_bd {l : List Int} {i : Int} (h : i ∈ l) : 0 ≤ nu l i ∧ nu l i < l.length := by
  have := List.idxOf_lt_length_iff.mpr h
  unfold nu
  omega
theorem nu_inj {l : List Int} {i j : Int} (hi : i ∈ l) (hj : j ∈ l) (h : nu l i = nu l j) : i = j := by
  have h' : l.idxOf i = l.idxOf j := by unfold nu at h; omega
  have h1 := idx_get hi
  rw [h', idx_get hj] at h1
  exact (Option.some.inj h1).symm
theorem nu_lt {l : List Int} (hl : l.Pairwise (· < ·)) {i j : Int} (hi : i ∈ l) (hj : j ∈ l) (h : i < j) : nu l i < nu l j := by
  rcases Int.lt_trichotomy (nu l i) (nu l j) with q | q | q
  · exact q
  · exact absurd (nu_inj hi hj q) (by omega)
  · have a := List.idxOf_lt_length_iff.mpr hi
    have b := List.idxOf_lt_length_iff.mpr hj
    have q' : l.idxOf j < l.idxOf i := by unfold nu at q; omega
    have := List.pairwise_iff_getElem.mp hl _ _ b a q'
    rw [List.getElem_idxOf, List.getElem_idxOf] at this
    omega
theorem idx_of_get {l : List Int} (nd : l.Nodup) {k : Nat} (h : k < l.length) : l.idxOf l[k] = k := by
  have h1 := idx_get (List.getElem_mem h)
  obtain ⟨h2, h3⟩ := List.getElem?_eq_some_iff.mp h1
  rcases Nat.lt_trichotomy (l.idxOf l[k]) k with q | q | q
  · exact absurd h3 (List.pairwise_iff_getElem.mp nd _ _ h2 h q)
  · exact q
  · exact absurd h3.symm (List.pairwise_iff_getElem.mp nd _ _ h h2 q)
/-- the new numbers are all numbers from 0 on -/
theorem nu_all {l : List Int} (nd : l.Nodup) : l.map (nu l) = rg l.length := by
  refine List.ext_getElem (by rw [List.length_map, rg_len]; omega) fun k h1 h2 => ?_
  rw [List.length_map] at h1
  rw [List.getElem_map]
  have e : (rg (l.length : Int))[k]? = some (k : Int) := rg_get (by omega)
  obtain ⟨h3, h4⟩ := List.getElem?_eq_some_iff.mp e
  rw [h4]
  unfold nu
  rw [idx_of_get nd h1]
/-- pairs of things below 7: few -/
theorem pairs_few {l : List (Int × Int)} {sz : Int} (h7 : sz ≤ 7) (nd : l.Nodup) (h : ∀ p ∈ l, 0 ≤ p.1 ∧ p.1 < p.2 ∧ p.2 < sz) : l.length ≤ 49 := by
  have q := nodup_le (m := (rg 7).flatMap fun a => (rg 7).map fun b => (a, b)) nd fun p hp => by
    obtain ⟨h1, h2, h3⟩ := h p hp
    exact List.mem_flatMap.mpr ⟨p.1, mem_rg.mpr ⟨h1, by omega⟩, List.mem_map.mpr ⟨p.2, mem_rg.mpr ⟨by omega, by omega⟩, rfl⟩⟩
  exact q
section
variable {l : List (Int × Int)} {left : List Int} {sz : Int}
theorem ties_es (hl : left.Pairwise (· < ·)) (h : ∀ p ∈ l, p.1 < p.2) : ∀ p ∈ tiesOf l left, 0 ≤ p.1 ∧ p.1 < p.2 ∧ p.2 < left.length := by
  intro p hp
  unfold tiesOf at hp
  obtain ⟨q, hq, rfl⟩ := List.mem_map.mp hp
  obtain ⟨h1, h2⟩ := List.mem_filter.mp hq
  rw [Bool.and_eq_true, decide_eq_true_eq, decide_eq_true_eq] at h2
  exact ⟨(nu_bd h2.1).1, nu_lt hl h2.1 h2.2 (h q h1), (nu_bd h2.2).2⟩
theorem norm_lt {p : Int × Int} (h : p.1 < p.2) : norm p = p := by
  unfold norm
  rw [Int.min_eq_left (by omega), Int.max_eq_right (by omega)]
theorem norm_all {l : List (Int × Int)} (h : ∀ p ∈ l, p.1 < p.2) : l.map norm = l := by
  have e : l.map norm = l.map id := List.map_congr_left fun p hp => norm_lt (h p hp)
  rw [e, List.map_id]
theorem nodup_map_on {α β : Type} {f : α → β} {l : List α} (nd : l.Nodup) (h : ∀ a ∈ l, ∀ b ∈ l, f a = f b → a = b) : (l.map f).Nodup := by
  induction l with
  | nil => exact List.nodup_nil
  | cons x l ih =>
    obtain ⟨h1, h2⟩ := List.nodup_cons.mp nd
    rw [List.map_cons, List.nodup_cons]
    refine ⟨fun z => ?_, ih h2 fun a ha b hb => h a (List.mem_cons_of_mem _ ha) b (List.mem_cons_of_mem _ hb)⟩
    obtain ⟨y, hy, e⟩ := List.mem_map.mp z
    have := h y (List.mem_cons_of_mem _ hy) x (List.mem_cons_self ..) e
    rw [this] at hy
    exact h1 hy
theorem ties_nodup (nd : l.Nodup) : (tiesOf l left).Nodup := by
  unfold tiesOf
  refine nodup_map_on (nd.filter _) fun a ha b hb e => ?_
  have h2 := (List.mem_filter.mp ha).2
  have h3 := (List.mem_filter.mp hb).2
  rw [Bool.and_eq_true, decide_eq_true_eq, decide_eq_true_eq] at h2 h3
  have e1 := congrArg Prod.fst e
  have e2 := congrArg Prod.snd e
  exact Prod.ext (nu_inj h2.1 h3.1 e1) (nu_inj h2.2 h3.2 e2)
end
theorem contains_map {left ke : List Int} (hk : ∀ k ∈ ke, k ∈ left) {i : Int} (hi : i ∈ left) : (ke.map (nu left)).contains (nu left i) = ke.contains i := by
  rw [Bool.eq_iff_iff, List.contains_iff_mem, List.contains_iff_mem, List.mem_map]
  constructor
  · rintro ⟨k, hk', e⟩
    rw [← nu_inj (hk k hk') hi e]; exact hk'
  · exact fun h => ⟨i, h, rfl⟩
/-- the turns of the new net stand at all things that are not kept -/
theorem turns_pt {N : Nt} (ok : N.Ok) {gone : List Int} (hk : ∀ g ∈ gone, g ∉ N.ke) (mo : List (Int × Int)) :
    ((turnsOf N.tu (leftOf N.sz gone) mo).map (·.1)).Perm ((rg (leftOf N.sz gone).length).filter fun t => !(N.ke.map (nu (leftOf N.sz gone))).contains t) := by
  have kl : ∀ k ∈ N.ke, k ∈ leftOf N.sz gone := fun k h => mem_left.mpr ⟨ok.ke k h, fun z => hk k z h⟩
  have e1 : (turnsOf N.tu (leftOf N.sz gone) mo).map (·.1) = (((N.tu.map (·.1)).filter fun i => decide (i ∈ leftOf N.sz gone)).map (nu (leftOf N.sz gone))) := by
    unfold turnsOf
    rw [List.map_map, List.filter_map, List.map_map]
    rfl
  rw [e1, ← nu_all left_nodup, List.filter_map (l := leftOf N.sz gone)]
  refine List.Perm.map _ ((ok.tu.filter _).trans ?_)
  rw [ok.lo]
  have e2 : ((leftOf N.sz gone).filter ((fun t => !(N.ke.map (nu (leftOf N.sz gone))).contains t) ∘ nu (leftOf N.sz gone))) = (leftOf N.sz gone).filter fun t => !N.ke.contains t := by
    refine List.filter_congr fun i hi => ?_
    show (!(N.ke.map (nu (leftOf N.sz gone))).contains (nu (leftOf N.sz gone) i)) = _
    rw [contains_map kl hi]
  rw [e2]
  have e3 : ((rg N.sz).filter fun t => !N.ke.contains t).filter (fun i => decide (i ∈ leftOf N.sz gone)) = (leftOf N.sz gone).filter fun t => !N.ke.contains t := by
    unfold leftOf
    rw [List.filter_filter, List.filter_filter]
    refine List.filter_congr fun i hi => ?_
    have : decide (i ∈ (rg N.sz).filter fun t => !gone.contains t) = !gone.contains i := by
      rw [Bool.eq_iff_iff, decide_eq_true_eq, List.mem_filter]
      exact ⟨fun h => h.2, fun h => ⟨hi, h⟩⟩
    rw [this, Bool.and_comm]
  rw [e3]
theorem nu_map_nodup {left l : List Int} (nd : l.Nodup) (h : ∀ x ∈ l, x ∈ left) : (l.map (nu left)).Nodup := nodup_map_on nd fun a ha b hb e => nu_inj (h a ha) (h b hb) e
theorem nodup_at_any {α : Type} {ls : List α} (h : ls.Nodup) {i j : Nat} {l : α} (hi : ls[i]? = some l) (hj : ls[j]? = some l) : i = j := by
  obtain ⟨h1, e1⟩ := List.getElem?_eq_some_iff.mp hi
  obtain ⟨h2, e2⟩ := List.getElem?_eq_some_iff.mp hj
  rcases Nat.lt_trichotomy i j with q | q | q
  · exact absurd (e1.trans e2.symm) (List.pairwise_iff_getElem.mp h i j h1 h2 q)
  · exact q
  · exact absurd (e2.trans e1.symm) (List.pairwise_iff_getElem.mp h j i h2 h1 q)
end K50
end
section
set_option Elab.async false
set_option linter.all false
set_option maxRecDepth 100000
set_option maxHeartbeats 4000000
namespace K50
open PySem PySem.Spec L2
open PyProof.Rows (envOfC)
theorem Kp.fresh {F : Addr → Prop} {H H1 H2 : Hp} {x : Addr} (e : Kp F H H1) (hx : H x = none) (e2 : Kp (fun a => a = x) H1 H2) : Kp F H H2 :=
  ⟨fun a o n h => e2.k a o (ne_of_none h hx) (e.k a o n h), fun a u s h => e2.s a u s (e.s a u s h)⟩
theorem Kp.upd2 {F : Addr → Prop} {H H1 : Hp} {D : Addr} {o : HO} (hD : H D = none) (e : Kp F H H1) : Kp F H (upd H1 D o) := e.mut hD
/-- the new object at hand may hold the list's tracked rows -/
theorem small_line {n : Nat} (h : n ≤ 16000000) : n < sizeLine := by have e : sizeLine = 16777216 := rfl; omega
theorem Rw.monoT {α : Type} {enc : α → List Int} {H H' : Hp} {vs : List V} {xs : List α} (e : ∀ a xs, H a = some (.tup xs) → H' a = some (.tup xs)) (h : Rw enc H vs xs) : Rw enc H' vs xs := Paired.mono (fun _ _ ⟨t, h1, h2⟩ => ⟨t, h1, e _ _ h2⟩) h
theorem more_get {mo : List (Int × Int)} {i : Int} : (valV (kvI mo) (Sum.inl i : Key)).getD (.int 0) = .int ((tuAt mo i).getD 0) := by
  rw [valV_kvI]; cases tuAt mo i <;> rfl
theorem at_dget {H : Hp} {d : Addr} {left : List Int} {i : Int} (h : H d = some (.dK (kvI (atR 0 left)))) (hi : i ∈ left) : DGet H d (.int i) (some (.int (nu left i))) := by
  have q := DGet.k (k := Sum.inl i) h
  rw [at_get hi] at q; exact q
theorem at_din {H : Hp} {d : Addr} {left : List Int} {i : Int} (h : H d = some (.dK (kvI (atR 0 left)))) : ∃ o : Option V, DGet H d (.int i) o ∧ o.isSome = decide (i ∈ left) := by
  refine ⟨_, DGet.k (k := Sum.inl i) h, ?_⟩
  by_cases hi : i ∈ left
  · rw [at_get hi, decide_eq_true hi]; rfl
  · rw [at_none hi, decide_eq_false hi]; rfl
theorem tiesOf_snoc {l : List (Int × Int)} {left : List Int} {i : Nat} {q : Int × Int} (h : l[i]? = some q) :
    tiesOf (l.take (i + 1)) left = tiesOf (l.take i) left ++ if q.1 ∈ left ∧ q.2 ∈ left then [(nu left q.1, nu left q.2)] else [] := by
  unfold tiesOf
  rw [filter_take h, List.map_append]
  by_cases h1 : q.1 ∈ left <;> by_cases h2 : q.2 ∈ left <;> simp [h1, h2]
theorem turnsOf_snoc {tu : List (Int × Int)} {left : List Int} {mo : List (Int × Int)} {i : Nat} {q : Int × Int} (h : tu[i]? = some q) :
    turnsOf (tu.take (i + 1)) left mo = turnsOf (tu.take i) left mo ++ if q.1 ∈ left then [(nu left q.1, (q.2 + (tuAt mo q.1).getD 0) % 8)] else [] := by
  unfold turnsOf
  rw [filter_take h, List.map_append]
  by_cases h1 : q.1 ∈ left <;> simp [h1]
section
variable {P : Program} {w : World} {K : PySem.W.Frag} {mg : Str → Option Value} {base : Heap}
def sp_without (K : PySem.W.Frag) : Sp := fun vs H Q _ => ∃ (p ga pa m : Addr) (N : Nt) (gone : List Int) (pxs : List V) (ps mo : List (Int × Int)), vs = [.ref p, .ref ga, .ref pa, .ref m] ∧ NetAt K H p N ∧ N.Ok ∧ H ga = some (.lst (gone.map V.int)) ∧
  H pa = some (.lst pxs) ∧ Prs H pxs ps ∧ ps.length ≤ 3000 ∧ (∀ q ∈ ps, 0 ≤ q.1 ∧ q.1 < q.2 ∧ q.2 < N.sz) ∧ H m = some (.dK (kvI mo)) ∧ (∀ g ∈ gone, g ∉ N.gi ∧ g ∉ N.ke) ∧ 1 ≤ (leftOf N.sz gone).length ∧
  ∀ x N' H', Kp N0 H H' → NetAt K H' x N' → N'.Ok → Made N' (leftOf N.sz gone).length (tiesOf (tog N.ed ps) (leftOf N.sz gone)) (N.gi.map (nu (leftOf N.sz gone))) (N.ke.map (nu (leftOf N.sz gone))) (turnsOf N.tu (leftOf N.sz gone) mo) → Q (.ref x) H'
theorem sc_without : FnScope ["net", "gone", "pairs", "more", "strings", "pair", "left", "at", "ties", "turns", "thing", "number", "one", "other", "turn"] ["net", "gone", "pairs", "more"] (defScope s_without) := ⟨rfl, rfl, rfl, by decide +kernel, rfl, by decide +kernel, by decide +kernel⟩
theorem c_without (T : TX K mg) : C8.Cal P w K mg base 9 "without" (sp_without K) [] := by
  refine mkCal (k := 8) T.g_without T.d_without (fun _ _ _ _ _ _ us hl => match us, hl with | [_, _, _, _], _ => rfl) sc_without (fun vs H Q E h => ?_) (fun cdv A outer s H vs Q E hr h => ?_)
  · obtain ⟨p, ga, pa, m, N, gone, pxs, ps, mo, rfl, _⟩ := h; rfl
  · obtain ⟨p, ga, pa, m, N, gone, pxs, ps, mo, rfl, ⟨dx, a1, a2, a3, a4, a5, vs, ts, ob, hp⟩, ok, hga, hpa, hps, hpl, hpb, hm, hgo, hle, k⟩ := h
    obtain ⟨tT, hTURNS⟩ := T.i_TURNS
    have hn7 := ok.n7
    have hn1 := ok.n1
    have few := pairs_few hn7 ok.edN ok.ed
    refine ⟨_, (pss_cons (ps_setDcT (hu_of hr) (i := 4) (own := [("pair", 5)]) rfl sc_without.nd rfl rfl (sw_trueD rfl rfl rfl (by decide +kernel)) (pi_tup (pe_fld (pv 0) rfl)) (blkOk_by (N := ["net", "gone", "pairs", "more", "strings", "pair", "left", "at", "ties", "turns", "thing", "number", "one", "other", "turn"]) (sc := defScope s_without) (own := [("pair", 5)]) (by decide +kernel)) (fun _ _ _ _ _ => (pg_name (i := 5) sc_without.nd rfl (Or.inl rfl))) (fun _ _ _ _ _ => pts_nil) (fun _ _ _ _ _ => (pv 5)) (fun _ _ _ _ _ => pe_bl))
      (pss_cons (ps_for PassesOwn.never rfl (pi_list (pv 2)) (pg_name (i := 5) sc_without.nd rfl (Or.inl rfl)) (pss_one (ps_if (pt_cmp (pc_din (hu_of hr) (pv 5) (pv 4))) (pss_one (ps_ddelT (hu_of hr) (pv 4) (pv 5))) (pss_one (ps_dput (hu_of hr) (pv 4) (pv 5) pe_bl rfl)))))
      (pss_cons (ps_setLc (i := 6) rfl sc_without.nd rfl rfl (sw_true rfl rfl rfl (by decide +kernel)) (own := [("thing", 10)]) (pi_range1 (by rfl) T.f_range (pa_cons (pe_fld (pv 0) rfl) pa_nil)) (blkOk_by (N := ["net", "gone", "pairs", "more", "strings", "pair", "left", "at", "ties", "turns", "thing", "number", "one", "other", "turn"]) (sc := defScope s_without) (own := [("thing", 10)]) (by decide +kernel)) (fun _ _ _ _ _ => (pg_name (i := 10) sc_without.nd rfl (Or.inl rfl))) (fun _ _ _ _ _ => pts_one (pt_cmpR (r := rIn K true) (or_notIn rfl) (pv 10) (pv 1) (by rfl))) (fun _ _ _ _ _ => (pv 10)))
      (pss_cons (ps_set (i := 7) sc_without.nd rfl (Or.inr rfl) (pe_dc (own := [("number", 11), ("thing", 10)]) (by rfl) sc_without.nd (pi_enum (by rfl) T.f_enumerate (pa_cons (pv 6) pa_nil)) (blkOk_by (N := ["net", "gone", "pairs", "more", "strings", "pair", "left", "at", "ties", "turns", "thing", "number", "one", "other", "turn"]) (sc := defScope s_without) (own := [("number", 11), ("thing", 10)]) (by decide +kernel)) (fun _ _ _ _ _ => (pg_tupK (K := K) 2 rfl rfl (pgs_cons (pg_name (i := 11) sc_without.nd rfl (Or.inl rfl)) (pgs_cons (pg_name (i := 10) sc_without.nd rfl (Or.inl rfl)) pgs_nil)))) (fun _ _ _ _ _ => pts_nil) (fun _ _ _ _ _ => (pv 10)) (fun _ _ _ _ _ => (pv 11))))
      (pss_cons (ps_lock (ps_setLc (i := 8) rfl sc_without.nd rfl rfl (sw_true rfl rfl rfl (by decide +kernel)) (own := [("one", 12), ("other", 13)]) (pi_keys (pv 4)) (blkOk_by (N := ["net", "gone", "pairs", "more", "strings", "pair", "left", "at", "ties", "turns", "thing", "number", "one", "other", "turn"]) (sc := defScope s_without) (own := [("one", 12), ("other", 13)]) (by decide +kernel)) (fun _ _ _ _ _ => (pg_tupK (K := K) 2 rfl rfl (pgs_cons (pg_name (i := 12) sc_without.nd rfl (Or.inl rfl)) (pgs_cons (pg_name (i := 13) sc_without.nd rfl (Or.inl rfl)) pgs_nil)))) (fun _ _ _ _ _ => pts_one (PW.pt (pw_and (pt_cmp (pc_din (hu_of hr) (pv 12) (pv 7))) (pw_and1 (pt_cmp (pc_din (hu_of hr) (pv 13) (pv 7))))))) (fun _ _ _ _ _ => (pe_tup (pa_cons (pe_dget (hu_of hr) (pv 7) (pv 12) (fun _ _ => rfl)) (pa_cons (pe_dget (hu_of hr) (pv 7) (pv 13) (fun _ _ => rfl)) pa_nil))))))
      (pss_cons (ps_setLc (i := 9) rfl sc_without.nd rfl rfl (sw_true rfl rfl rfl (by decide +kernel)) (own := [("thing", 10), ("turn", 14)]) (pi_tup (pe_fld (pv 0) rfl)) (blkOk_by (N := ["net", "gone", "pairs", "more", "strings", "pair", "left", "at", "ties", "turns", "thing", "number", "one", "other", "turn"]) (sc := defScope s_without) (own := [("thing", 10), ("turn", 14)]) (by decide +kernel)) (fun _ _ _ _ _ => (pg_tupK (K := K) 2 rfl rfl (pgs_cons (pg_name (i := 10) sc_without.nd rfl (Or.inl rfl)) (pgs_cons (pg_name (i := 14) sc_without.nd rfl (Or.inl rfl)) pgs_nil)))) (fun _ _ _ _ _ => pts_one (pt_cmp (pc_din (hu_of hr) (pv 10) (pv 7)))) (fun _ _ _ _ _ => (pe_tup (pa_cons (pe_dget (hu_of hr) (pv 7) (pv 10) (fun _ _ => rfl)) (pa_cons (pe_op op_mod (pe_op op_add (pv 14) (pe_dget2 (hu_of hr) (pv 3) (pv 10) pe_int ⟨rfl, rfl, rfl, rfl⟩)) (pe_glob (v := .int 8) rfl hTURNS ⟨_, rfl⟩)) pa_nil)))))
      (pss_one (ps_ret (C8.pe_mk (c_Net T) hr (by decide) rfl (pa_cons (pe_callB call_len_seq (by rfl) T.f_len (by decide +kernel) (pa_cons (pv 6) pa_nil)) (pa_cons (pv 8) (pa_cons (pe_lc (own := [("thing", 10)]) (by rfl) sc_without.nd (pi_tup (pe_fld (pv 0) rfl)) (blkOk_by (N := ["net", "gone", "pairs", "more", "strings", "pair", "left", "at", "ties", "turns", "thing", "number", "one", "other", "turn"]) (sc := defScope s_without) (own := [("thing", 10)]) (by decide +kernel)) (fun _ _ _ _ _ => (pg_name (i := 10) sc_without.nd rfl (Or.inl rfl))) (fun _ _ _ _ _ => pts_nil) (fun _ _ _ _ _ => (pe_dget (hu_of hr) (pv 7) (pv 10) (fun _ _ => rfl)))) (pa_cons (pe_lc (own := [("thing", 10)]) (by rfl) sc_without.nd (pi_tup (pe_fld (pv 0) rfl)) (blkOk_by (N := ["net", "gone", "pairs", "more", "strings", "pair", "left", "at", "ties", "turns", "thing", "number", "one", "other", "turn"]) (sc := defScope s_without) (own := [("thing", 10)]) (by decide +kernel)) (fun _ _ _ _ _ => (pg_name (i := 10) sc_without.nd rfl (Or.inl rfl))) (fun _ _ _ _ _ => pts_nil) (fun _ _ _ _ _ => (pe_dget (hu_of hr) (pv 7) (pv 10) (fun _ _ => rfl)))) (pa_cons (pv 9) pa_nil)))))))))))))), ?_⟩
    -- strings = {pair: True for pair in net.strings}
    refine ⟨_, rfl, p, _, dx, _, _, rfl, hp.o, T.c_Net, T.n_Net_strings, fs_strings, a1, rfl, ⟨_, SqT.of hp.h1⟩, fun d hd => ?_⟩
    refine heapW (walk_tup (K := K) (a := a1) (xs := vs)) (fun i H' => Kp N0 H H' ∧ H' d = some (.dT (dTo (N.ed.take i)))) ⟨Kp.new hd, upd_same⟩ (fun i H' _ h => h.1.sqt (SqT.of hp.h1)) ?_ ?_
    · rintro i x _ H1 hi ⟨e1, hd1⟩ ⟨rfl, hx⟩
      obtain ⟨q, hq, c, rfl, hc⟩ := (hp.r1.mono e1.tp).get hx
      refine ⟨rfl, yesT ⟨_, rfl, _, kT q, c, rfl, hc, hd1, ?_, e1.mut hd, ?_⟩⟩
      · refine small_line ?_
        have : (dTo (N.ed.take i)).length ≤ N.ed.length := by unfold dTo; rw [List.length_map, List.length_take]; omega
        omega
      · have nq : q ∉ N.ed.take i := fun z => by
          obtain ⟨j, hj⟩ := List.getElem?_of_mem z
          rw [List.getElem?_take] at hj
          split at hj
          · have := nodup_at_any ok.edN hj hq
            omega
          · cases hj
        rw [upd_same, dTo_put nq, take_snoc hq]
    rintro H1 ⟨e1, hd1⟩
    rw [hp.r1.length, take_all] at hd1
    -- the pairs come or go
    refine ⟨_, rfl, pa, rfl, ⟨_, SqL.of (e1.get0 hpa)⟩, ?_⟩
    refine for_it (walk_list (K := K) (a := pa) (xs := pxs)) (fun i σ H' => (∃ o5, σ = [some (.ref p), some (.ref ga), some (.ref pa), some (.ref m), some (.ref d), o5, none, none, none, none, none, none, none, none, none]) ∧ Kp N0 H H' ∧ H' d = some (.dT (dTo (tog N.ed (ps.take i))))) ⟨⟨_, rfl⟩, e1, hd1⟩ (fun i σ H' _ h => h.2.1.sql (SqL.of hpa)) ?_ ?_
    · rintro i x σ _ H2 hi ⟨⟨o5, rfl⟩, e2, hd2⟩ ⟨rfl, hx⟩
      obtain ⟨q, hq, c, rfl, hc⟩ := (hps.mono e2.tp).get hx
      have hb := hps.length
      refine ⟨_, rfl, _, rfl, d, _, rfl, .inr ⟨_, kT q, c, .inl hd2, rfl, hc, rfl⟩, _, rfl, ?_⟩
      rw [dTo_val]
      have big : (dTo (tog N.ed (ps.take i))).length < sizeLine := by
        refine small_line ?_
        have h1 := tog_len N.ed (ps.take i)
        rw [List.length_take] at h1
        unfold dTo; rw [List.length_map]; omega
      by_cases hm : q ∈ tog N.ed (ps.take i)
      · rw [decide_eq_true hm]
        refine iteT ⟨_, rfl, _, rfl, d, c, _, kT q, rfl, rfl, hd2, hc, by rw [dTo_val, decide_eq_true hm], ⟨_, rfl⟩, e2.mut hd, ?_⟩
        rw [upd_same, dTo_drop, take_snoc hq, tog_snoc]
        unfold tog1; rw [if_pos hm]
      · rw [decide_eq_false hm]
        refine iteF ⟨_, rfl, _, rfl, d, _, rfl, .inr ⟨_, kT q, c, hd2, rfl, hc, big, rfl⟩, ⟨_, rfl⟩, e2.mut hd, ?_⟩
        rw [upd_same, dTo_put hm, take_snoc hq, tog_snoc]
        unfold tog1; rw [if_neg hm]
    rintro σ H2 ⟨⟨o5, rfl⟩, e2, hd2⟩
    rw [hps.length, take_all] at hd2
    have hp2 := hp.mono e2
    -- left
    refine ⟨_, rfl, p, _, dx, _, _, rfl, hp2.o, T.c_Net, T.n_Net_things, fs_things, _, rfl, by omega, by omega, fun D hD => ?_⟩
    have hga2 := e2.get0 hga
    refine lcW (walk_range (lo := 0) (n := N.sz.toNat)) N0 (fun i ys H => ys = (((rg N.sz).take i).filter fun t => !gone.contains t).map V.int) hD id (by omega) (fun _ _ => trivial) (fun _ _ => rfl) (fun _ _ _ _ _ h => h) ?_ ?_
    · rintro i y ys H3 _ Zy Zn hi ⟨rfl, hy⟩ e3 hD3 rfl _ hZ hN
      have e0 : (0 : Int) + (i : Int) = (i : Int) := Int.zero_add _
      have hy : y = .int (0 + (i : Int)) := hy
      rw [e0] at hy
      subst hy
      refine ⟨rfl, _, rfl, _, rfl, ga, _, rfl, .inl (SqL.of (e3.get0 hga2)), rfl, flat_ints _, ?_⟩
      rw [inV_ints]
      refine ⟨_, rfl, ?_⟩
      have hg := filter_take (f := fun t => !gone.contains t) (rg_get (n := N.sz) (i := i) (by omega))
      cases hc : gone.contains (i : Int) with
      | true =>
        refine iteF (hN _ Kp.refl ?_)
        rw [hg, hc]; simp
      | false =>
        refine iteT ⟨_, rfl, hZ _ _ Kp.refl ?_⟩
        rw [hg, hc]; simp
    rintro ys H3 e3 hD3 rfl
    have hall : (rg N.sz).take N.sz.toNat = rg N.sz := by rw [← rg_len]; exact take_all _
    rw [hall] at hD3
    change H3 D = some (.lst ((leftOf N.sz gone).map V.int)) at hD3
    have hDl := hD3
    have hleft : ∀ i, i ∈ leftOf N.sz gone ↔ (0 ≤ i ∧ i < N.sz) ∧ i ∉ gone := fun i => mem_left
    have hlt := left_lt (sz := N.sz) (gone := gone)
    have hlnd := left_nodup (sz := N.sz) (gone := gone)
    have hl7 := left_len (sz := N.sz) (gone := gone)
    have hpt := turns_pt ok (gone := gone) (fun g hg => (hgo g hg).2) mo
    generalize leftOf N.sz gone = left at *
    have E3 := e2.trans e3
    -- at
    refine ⟨_, rfl, D, _, rfl, SqL.of hD3, fun dA hdA => ?_⟩
    refine heapW (walk_enum (K := K) (a := D) (xs := left.map V.int)) (fun i H' => Kp N0 H3 H' ∧ H' dA = some (.dK (kvI (atR 0 (left.take i))))) ⟨Kp.new hdA, upd_same⟩ (fun i H' _ h => h.1.sql (SqL.of hD3)) ?_ ?_
    · rintro i x H4 _ hi ⟨e4, hA⟩ ⟨t, x1, x2, rfl, ht, rfl, hx1, hx2⟩
      cases hx1
      obtain ⟨n, hn, rfl⟩ := map_int_get (show (left.map V.int)[i]? = some x2 from hx2)
      have e5 := Kp.new (F := N0) (o := .tup [V.int (i : Int), .int n]) ht
      refine ⟨t, _, rfl, SqT.of upd_same, rfl, .int i, _, rfl, .int n, _, rfl, rfl, rfl, yesT ⟨_, rfl, _, rfl, _, Sum.inl n, rfl, e5.get0 hA, ?_, (e4.trans e5).mut hdA, ?_⟩⟩
      · refine small_line ?_
        unfold kvI
        rw [List.length_map, atR_len, List.length_take]; omega
      · rw [upd_same, take_snoc hn, atR_snoc, kvI_put]
        · have e : 0 + (left.take i).length = i := by
            rw [List.length_map] at hi
            rw [List.length_take]; omega
          rw [e]
        · rw [atR_keys]
          intro z
          obtain ⟨j, hj⟩ := List.getElem?_of_mem z
          rw [List.getElem?_take] at hj
          split at hj
          · have := nodup_at_any hlnd hj hn
            omega
          · cases hj
    rintro H4 ⟨e4, hA⟩
    rw [List.length_map, take_all] at hA
    have E4 := E3.trans e4
    have hd4 := (e3.trans e4).get0 hd2
    have dAd : ¬ dA = d := fun z => ne_of_none (e3.get0 hd2) hdA z.symm
    have tb : ∀ q ∈ tog N.ed ps, 0 ≤ q.1 ∧ q.1 < q.2 ∧ q.2 < N.sz := fun q hq => (tog_mem hq).elim (ok.ed q) (hpb q)
    have tnd := tog_nodup (ps := ps) ok.edN
    generalize tog N.ed ps = tl at *
    have tfew := pairs_few hn7 tnd tb
    -- ties
    refine ⟨d, _, hd4, trivial, fun od => ?_⟩
    refine ⟨_, rfl, d, od, rfl, .inr ⟨_, upd_same, fun D2 hD2 => ?_⟩⟩
    have D2d : ¬ D2 = d := fun z => by rw [z, upd_same] at hD2; cases hD2
    have hdl : (dTo tl).length = tl.length := by unfold dTo; rw [List.length_map]
    have hA5 : (upd H4 d (.frz od (.dT (dTo tl)))) dA = some (.dK (kvI (atR 0 left))) := by rw [upd_ne dAd]; exact hA
    refine lcW (walk_keysT (d := d) (o := od) (kvs := dTo tl)) N0 (fun i ys H => Prs H ys (tiesOf (tl.take i) left)) hD2 id (by omega) (fun H' e => e.s _ _ sol_frz upd_same) (fun _ _ => Rw.nil) (fun _ _ _ _ e h => h.mono e) ?_ ?_
    · rintro i x ys H6 _ Zy Zn hi ⟨rfl, k, v, c, hk, rfl, hc⟩ e6 hy hP _ hZ hN
      unfold dTo at hk
      rw [List.getElem?_map] at hk
      obtain ⟨q, hq, e⟩ := Option.map_eq_some_iff.mp hk
      cases e
      have hA6 := e6.get0 hA5
      obtain ⟨o1, g1, s1⟩ := at_din (i := q.1) hA6
      obtain ⟨o2, g2, s2⟩ := at_din (i := q.2) hA6
      have hsn := tiesOf_snoc (left := left) hq
      refine ⟨c, _, rfl, SqT.of hc, rfl, .int q.1, _, rfl, .int q.2, _, rfl, rfl, rfl, ?_⟩
      refine ⟨_, rfl, _, rfl, dA, o1, rfl, g1, _, rfl, ?_⟩
      rw [s1]
      by_cases m1 : q.1 ∈ left
      · rw [decide_eq_true m1]
        refine iteT ⟨_, rfl, _, rfl, dA, o2, rfl, g2, _, rfl, ?_⟩
        rw [s2]
        by_cases m2 : q.2 ∈ left
        · rw [decide_eq_true m2]
          refine iteT ⟨_, rfl, _, rfl, dA, _, rfl, at_dget hA6 m1, _, rfl, _, rfl, dA, _, rfl, at_dget hA6 m2, by show 2 ≤ sizeLine; decide, fun t ht => hZ _ _ (Kp.new ht) ?_⟩
          rw [hsn, if_pos ⟨m1, m2⟩]
          exact (hP.mono (Kp.new (F := N0) ht).tp).snoc ⟨t, rfl, upd_same⟩
        · rw [decide_eq_false m2]
          refine iteF (hN _ Kp.refl ?_)
          rw [hsn, if_neg fun z => m2 z.2, List.append_nil]; exact hP
      · rw [decide_eq_false m1]
        refine iteF (iteF (hN _ Kp.refl ?_))
        rw [hsn, if_neg fun z => m1 z.1, List.append_nil]; exact hP
    rintro txs H6 e6 hy6 hP6
    rw [hdl, take_all] at hP6
    refine ⟨e6.s _ _ sol_frz upd_same, ?_⟩
    have e7 : Kp N0 H4 (upd H6 d (.dT (dTo tl))) := Kp.lock hd4 sol_dT e6
    have hy7 : (upd H6 d (.dT (dTo tl))) D2 = some (.lst txs) := by rw [upd_ne D2d]; exact hy6
    have hP7 : Prs (upd H6 d (.dT (dTo tl))) txs (tiesOf tl left) := hP6.monoT fun a xs h => by
      have z : a ≠ d := fun z => by
        rw [z, e6.s d _ sol_frz upd_same] at h; cases h
      rw [upd_ne z]; exact h
    have hA7 := e7.get0 hA
    generalize upd H6 d (.dT (dTo tl)) = H7 at e7 hy7 hP7 hA7
    have E7 := E4.trans e7
    have hp7 := hp.mono E7
    have hm7 := E7.get0 hm
    -- turns
    have htu : SqT K H7 a5 ts := .inl (.inr ⟨_, hp7.h5⟩)
    have htl := hp.r5.length
    have htul : N.tu.length < 64 := by
      have h1 := ok.tu.length_eq
      rw [List.length_map, ok.lo] at h1
      have h2 := List.length_filter_le (fun t => !N.ke.contains t) (rg N.sz)
      rw [rg_len] at h2
      omega
    refine ⟨_, rfl, p, _, dx, _, _, rfl, hp7.o, T.c_Net, T.n_Net_turns, fs_turns, a5, rfl, ⟨_, htu⟩, fun D3 hD3 => ?_⟩
    refine lcW (walk_tup (K := K) (a := a5) (xs := ts)) N0 (fun i ys H => Prs H ys (turnsOf (N.tu.take i) left mo)) hD3 id (by omega) (fun H' e => e.sqt htu) (fun _ _ => Rw.nil) (fun _ _ _ _ e h => h.mono e) ?_ ?_
    · rintro i x ys H8 _ Zy Zn hi ⟨rfl, hx⟩ e8 hy hP _ hZ hN
      obtain ⟨q, hq, c, rfl, hc⟩ := (hp7.r5.mono e8.tp).get hx
      have hA8 := e8.get0 hA7
      obtain ⟨o1, g1, s1⟩ := at_din (i := q.1) hA8
      have hsn := turnsOf_snoc (left := left) (mo := mo) hq
      refine ⟨c, _, rfl, SqT.of hc, rfl, .int q.1, _, rfl, .int q.2, _, rfl, rfl, rfl, ?_⟩
      refine ⟨_, rfl, _, rfl, dA, o1, rfl, g1, _, rfl, ?_⟩
      rw [s1]
      by_cases m1 : q.1 ∈ left
      · rw [decide_eq_true m1]
        refine iteT ⟨_, rfl, _, rfl, dA, _, rfl, at_dget hA8 m1, ?_⟩
        refine ⟨_, rfl, _, rfl, m, rfl, .inl ⟨_, .inl (e8.get0 hm7)⟩, _, rfl, _, DGet.k (k := Sum.inl q.1) (e8.get0 hm7), q.2, (tuAt mo q.1).getD 0, rfl, more_get, _, _, rfl, rfl, by show (0 : Int) < 8; decide, ?_⟩
        refine ⟨by show 2 ≤ sizeLine; decide, fun t ht => hZ _ _ (Kp.new ht) ?_⟩
        rw [hsn, if_pos m1]
        exact (hP.mono (Kp.new (F := N0) ht).tp).snoc ⟨t, rfl, upd_same⟩
      · rw [decide_eq_false m1]
        refine iteF (hN _ Kp.refl ?_)
        rw [hsn, if_neg m1, List.append_nil]; exact hP
    rintro uxs H8 e8 hy8 hP8
    rw [htl, take_all] at hP8
    -- Net(..)
    have hD8 := ((e4.trans e7).trans e8).get0 hDl
    refine ⟨_, rfl, D, _, rfl, .inl (SqL.of hD8), _, rfl, ?_⟩
    have hp8 := hp7.mono e8
    have hA8 := e8.get0 hA7
    have gl : ∀ x ∈ N.gi, x ∈ left := fun x hx => (hleft x).mpr ⟨ok.gi x hx, fun z => (hgo x z).1 hx⟩
    have kl : ∀ x ∈ N.ke, x ∈ left := fun x hx => (hleft x).mpr ⟨ok.ke x hx, fun z => (hgo x z).2 hx⟩
    have gsm := range_small hn7 ok.giN ok.gi
    have ksm := range_small hn7 ok.keN ok.ke
    refine ⟨_, rfl, p, _, dx, _, _, rfl, hp8.o, T.c_Net, T.n_Net_given, fs_given, a2, rfl, ⟨_, SqT.of hp8.h2⟩, fun D4 hD4 => ?_⟩
    refine lcW (walk_tup (K := K) (a := a2) (xs := N.gi.map V.int)) N0 (fun i ys H => ys = ((N.gi.take i).map (nu left)).map V.int) hD4 id (by rw [List.length_map]; omega) (fun H' e => e.sqt (SqT.of hp8.h2)) (fun _ _ => rfl) (fun _ _ _ _ _ h => h) ?_ ?_
    · rintro i x ys H9 _ Zy Zn hi ⟨rfl, hx⟩ e9 hy rfl _ hZ _
      obtain ⟨n, hn, rfl⟩ := map_int_get hx
      refine ⟨rfl, yesT ⟨_, rfl, _, rfl, dA, _, rfl, at_dget (e9.get0 hA8) (gl n (List.mem_of_getElem? hn)), hZ _ _ Kp.refl ?_⟩⟩
      rw [take_snoc hn]; simp
    rintro gxs H9 e9 hy9 rfl
    rw [List.length_map, take_all] at hy9
    have hp9 := hp8.mono e9
    have hA9 := e9.get0 hA8
    refine ⟨_, rfl, p, _, dx, _, _, rfl, hp9.o, T.c_Net, T.n_Net_kept, fs_kept, a3, rfl, ⟨_, SqT.of hp9.h3⟩, fun D5 hD5 => ?_⟩
    refine lcW (walk_tup (K := K) (a := a3) (xs := N.ke.map V.int)) N0 (fun i ys H => ys = ((N.ke.take i).map (nu left)).map V.int) hD5 id (by rw [List.length_map]; omega) (fun H' e => e.sqt (SqT.of hp9.h3)) (fun _ _ => rfl) (fun _ _ _ _ _ h => h) ?_ ?_
    · rintro i x ys H10 _ Zy Zn hi ⟨rfl, hx⟩ e10 hy rfl _ hZ _
      obtain ⟨n, hn, rfl⟩ := map_int_get hx
      refine ⟨rfl, yesT ⟨_, rfl, _, rfl, dA, _, rfl, at_dget (e10.get0 hA9) (kl n (List.mem_of_getElem? hn)), hZ _ _ Kp.refl ?_⟩⟩
      rw [take_snoc hn]; simp
    rintro kxs H10 e10 hy10 rfl
    rw [List.length_map, take_all] at hy10
    refine ⟨_, rfl, fun x dx' hx hdx ne => ?_⟩
    have e11 : Kp N0 H10 (upd (upd H10 dx' (.own x)) x (.ins (NetC K) dx' [])) := (Kp.new hdx).trans (Kp.new (by rw [upd_ne (fun z => ne z.symm)]; exact hx))
    have hxx : (upd (upd H10 dx' (.own x)) x (.ins (NetC K) dx' [])) x = _ := upd_same
    have E10 := (((E7.trans e8).trans e9).trans e10)
    refine (fun hs => hs _ e11 hxx : (∀ H11, Kp N0 H10 H11 → H11 x = some (.ins (NetC K) dx' []) → sp_Net_init K _ H11 _ _) → sp_Net_init K _ (upd (upd H10 dx' (.own x)) x (.ins (NetC K) dx' [])) _ _) fun H11 e11 hxx => ?_
    have f8 : Kp N0 H8 H11 := (e9.trans e10).trans e11
    have f10 : Kp N0 H9 H11 := e10.trans e11
    have hlp : ∀ q ∈ tiesOf tl left, 0 ≤ q.1 ∧ q.1 < q.2 ∧ q.2 < left.length := ties_es hlt fun q hq => (tb q hq).2.1
    have hle7 : (left.length : Int) ≤ 7 := by omega
    have en : ((left.map V.int).length : Int) = (left.length : Int) := by rw [List.length_map]
    refine ⟨x, dx', D2, D4, D5, D3, (left.length : Int), txs, uxs, tiesOf tl left, N.gi.map (nu left), N.ke.map (nu left), turnsOf N.tu left mo, by rw [← en]; rfl, hxx, ⟨?_, hle7, (e8.trans f8).get0 hy7, hP7.mono (e8.trans f8).tp, ?_, ?_, ?_, f10.get0 hy9, ?_, nu_map_nodup ok.giN gl, e11.get0 hy10, ?_, nu_map_nodup ok.keN kl, f8.get0 hy8, hP8.mono f8.tp, hpt, ?_⟩, ?_⟩
    · omega
    · intro q hq
      have := hlp q hq
      omega
    · rw [norm_all fun q hq => (hlp q hq).2.1]
      exact ties_nodup tnd
    · have := pairs_few hle7 (ties_nodup tnd) hlp
      omega
    · intro z hz
      obtain ⟨y, hy, rfl⟩ := List.mem_map.mp hz
      exact nu_bd (gl y hy)
    · intro z hz
      obtain ⟨y, hy, rfl⟩ := List.mem_map.mp hz
      exact nu_bd (kl y hy)
    · intro z hz
      unfold turnsOf at hz
      obtain ⟨y, hy, rfl⟩ := List.mem_map.mp hz
      show 0 ≤ (y.2 + (tuAt mo y.1).getD 0) % 8 ∧ (y.2 + (tuAt mo y.1).getD 0) % 8 ≤ 7
      omega
    · intro N' H12 e12 hN' ok' made
      exact ⟨rfl, k x N' H12 ((E10.trans e11).fresh (E10.back hx) e12) hN' ok' made⟩
end
end K50
end
section
set_option Elab.async false
set_option linter.all false
set_option maxRecDepth 100000
set_option maxHeartbeats 4000000
/-! the two steps, as data -/
namespace K50
open PySem PySem.Spec L2
theorem betweenL_mem {rows : List (List Int)} {q : Int × Int} (h : q ∈ betweenL rows) : ∃ i j : Nat, i < j ∧ ∃ r s, rows[i]? = some r ∧ rows[j]? = some s ∧ ∃ a ∈ r, ∃ b ∈ s, q = norm (a, b) := by
  unfold betweenL at h
  obtain ⟨i, hi, h⟩ := List.mem_flatMap.mp h
  obtain ⟨s, hs, h⟩ := List.mem_flatMap.mp h
  unfold cross at h
  obtain ⟨a, ha, h⟩ := List.mem_flatMap.mp h
  obtain ⟨b, hb, rfl⟩ := List.mem_map.mp h
  obtain ⟨j, hj⟩ := List.getElem?_of_mem hs
  rw [List.getElem?_drop] at hj
  have hir := List.mem_range.mp hi
  refine ⟨i, i + 1 + j, by omega, rows.getD i [], s, ?_, hj, a, ha, b, hb, rfl⟩
  rw [List.getD_eq_getElem?_getD, List.getElem?_eq_getElem hir]; rfl
theorem betweenL_len {rows : List (List Int)} (h7 : rows.length ≤ 7) (hr : ∀ r ∈ rows, r.length ≤ 7) : (betweenL rows).length ≤ 3000 := by
  unfold betweenL
  have h := flatMap_le (f := fun i => (rows.drop (i + 1)).flatMap fun its => cross (rows.getD i []) its) (c := 343) (l := List.range rows.length) fun i _ => by
    have hm : (rows.getD i []).length ≤ 7 := by
      rw [List.getD_eq_getElem?_getD]
      cases e : rows[i]? with
      | none => simp
      | some r => exact hr r (List.mem_of_getElem? e)
    have h := flatMap_le (f := fun its => cross (rows.getD i []) its) (c := 49) (l := rows.drop (i + 1)) fun x hx => cross_le hm (hr x (List.mem_of_mem_drop hx))
    rw [List.length_drop] at h
    have : (rows.length - (i + 1)) * 49 ≤ 343 := by omega
    omega
  rw [List.length_range] at h
  have : rows.length * 343 ≤ 2401 := by omega
  omega
theorem norm_bd {a b sz : Int} (ha : 0 ≤ a ∧ a < sz) (hb : 0 ≤ b ∧ b < sz) (h : a ≠ b) : 0 ≤ (norm (a, b)).1 ∧ (norm (a, b)).1 < (norm (a, b)).2 ∧ (norm (a, b)).2 < sz := by
  show 0 ≤ min a b ∧ min a b < max a b ∧ max a b < sz
  omega
section
variable {N : Nt}
theorem nbr_nd (ok : N.Ok) (i : Int) : (nbr N.ed i).Nodup := nbr_nodup ok.edN fun p hp => (ok.ed p hp).2.1
theorem nbr_bd (ok : N.Ok) {i j : Int} (h : j ∈ nbr N.ed i) : (0 ≤ j ∧ j < N.sz) ∧ j ≠ i := by
  rcases mem_nbr.mp h with q | q
  · have := ok.ed _ q; simp only at this; omega
  · have := ok.ed _ q; simp only at this; omega
theorem len7 {l : List Int} {n : Int} (hn : n ≤ 7) (hl : l.Nodup) (h : ∀ x ∈ l, 0 ≤ x ∧ x < n) : l.length ≤ 7 := by
  have q := nodup_le hl fun x hx => mem_rg.mpr (h x hx)
  rw [rg_len] at q
  omega
/-- a quarter: the thing i goes -/
structure QStep (N : Nt) (i : Int) (N' : Nt) : Prop where
  r : ∃ (r : List Int) (t : Int), r.Perm (nbr N.ed i) ∧ tuAt N.tu i = some t ∧ (t = 2 ∨ t = 6) ∧
    Made N' (leftOf N.sz [i]).length (tiesOf (tog N.ed (betweenL (r.map fun x => [x]))) (leftOf N.sz [i])) (N.gi.map (nu (leftOf N.sz [i]))) (N.ke.map (nu (leftOf N.sz [i]))) (turnsOf N.tu (leftOf N.sz [i]) (r.map fun x => (x, 8 - t)))
def bothOf (r s : List Int) : List Int := r.filter fun x => s.contains x
def mineOf (r s : List Int) (j : Int) : List Int := r.filter fun x => decide (x ≠ j) && !(bothOf r s).contains x
def itsOf (r s : List Int) (i : Int) : List Int := s.filter fun x => decide (x ≠ i) && !(bothOf r s).contains x
/-- a pair: the things i and j go -/
structure PStep (N : Nt) (i j : Int) (N' : Nt) : Prop where
  r : ∃ (r s : List Int) (t u : Int), r.Perm (nbr N.ed i) ∧ s.Perm (nbr N.ed j) ∧ tuAt N.tu i = some t ∧ (t = 0 ∨ t = 4) ∧ tuAt N.tu j = some u ∧ (u = 0 ∨ u = 4) ∧
    Made N' (leftOf N.sz [i, j]).length (tiesOf (tog N.ed (betweenL [mineOf r s j, itsOf r s i, bothOf r s])) (leftOf N.sz [i, j])) (N.gi.map (nu (leftOf N.sz [i, j]))) (N.ke.map (nu (leftOf N.sz [i, j])))
      (turnsOf N.tu (leftOf N.sz [i, j]) (((bothOf r s).map fun x => (x, t + u + 4)) ++ ((mineOf r s j).map fun x => (x, u)) ++ ((itsOf r s i).map fun x => (x, t))))
end
theorem left_len1 {n i : Int} (h0 : 0 ≤ i) (h1 : i < n) (h : 1 < n) : 1 ≤ (leftOf n [i]).length := by
  refine List.length_pos_of_mem (a := if i = 0 then 1 else 0) (mem_left.mpr ?_)
  split <;> simp <;> omega
theorem left_len2 {n i j : Int} (h0 : 0 ≤ i) (h1 : i < n) (h2 : 0 ≤ j) (h3 : j < n) (hij : i ≠ j) (h : n ≠ 2) : 1 ≤ (leftOf n [i, j]).length := by
  have : ∃ k : Int, (0 ≤ k ∧ k < n) ∧ k ∉ [i, j] := by
    by_cases a : i ≠ 0 ∧ j ≠ 0
    · exact ⟨0, by omega, by simp; omega⟩
    · by_cases b : i ≠ 1 ∧ j ≠ 1
      · exact ⟨1, by omega, by simp; omega⟩
      · exact ⟨2, by omega, by simp; omega⟩
  obtain ⟨k, hk⟩ := this
  exact List.length_pos_of_mem (mem_left.mpr hk)
end K50
end
section
set_option Elab.async false
set_option linter.all false
set_option maxRecDepth 100000
set_option maxHeartbeats 4000000
namespace K50
open PySem PySem.Spec L2
open PyProof.Rows (envOfC)
theorem RowsA.other {H : Hp} {ls : List Addr} {rows : List (List Int)} {D : Addr} {o : HO} (h : RowsA H ls rows) (nD : D ∉ ls) : RowsA (upd H D o) ls rows :=
  ⟨h.1, fun i l r a b => by rw [upd_ne (fun z => nD (by rw [← z]; exact List.mem_of_getElem? a))]; exact h.2 i l r a b⟩
theorem RowsA.snoc {H : Hp} {ls : List Addr} {rows : List (List Int)} {q : Addr} {r : List Int} (h : RowsA H ls rows) (hq : H q = some (.lst (r.map V.int))) : RowsA H (ls ++ [q]) (rows ++ [r]) := by
  refine ⟨by simp [h.1], fun i l s a b => ?_⟩
  rw [List.getElem?_append] at a b
  by_cases hi : i < ls.length
  · rw [if_pos hi] at a
    rw [if_pos (by rw [← h.1]; exact hi)] at b
    exact h.2 i l s a b
  · rw [if_neg hi] at a
    rw [if_neg (by rw [← h.1]; exact hi)] at b
    rw [List.mem_singleton.mp (List.mem_of_getElem? a), List.mem_singleton.mp (List.mem_of_getElem? b)]
    exact hq
/-- QUARTERS[t] is 8 - t -/
def tGetQ8 (K : PySem.W.Frag) (td ty : TE) : TE := fun σ H Q => td σ H fun x H1 => ty σ H1 fun y H2 => x = .ref (He.ga K "QUARTERS") ∧ ∃ t : Int, y = .int t ∧ (t = 2 ∨ t = 6) ∧ Q (.int (8 - t)) H2
theorem pe_getQ8 {X : Cx} {o i : Expr} {td ty : TE} {pos : Pos} (q : QuK X.K) (ho : PE X o td) (hi : PE X i ty) (hs : NoSl i) : PE X (.Subscript o i pos) (tGetQ8 X.K td ty) := by
  refine ⟨fun pins s σ H Q I h => ?_⟩
  refine subD_of PySem.F.slot_dict_getitem.lookup hs (thn (ho.run pins s σ H _ I h) fun u s1 ⟨x, H1, I1, rx, q1⟩ => thn (hi.run pins s1 σ H1 _ I1 q1) fun iv s2 ⟨y, H2, I2, ry, ex, t, ey, ht, q2⟩ => ?_)
  subst ex
  subst ey
  obtain rfl : u = Value.ref _ := rx
  obtain ⟨t1, t2, dd⟩ := q.dict (P := X.prog) (w := X.w) I2.kIn
  refine ⟨dd.typeIs, ?_⟩
  obtain ⟨tk, rfl⟩ := ry
  rcases ht with rfl | rfl
  · exact wpAny_getItem_of (knd := mixKind X.prog X.w) (k := Sum.inl 2) (keyIs_int 2 tk) dd.mapOf (v := .int 6 t1) rfl ⟨.int 6, H2, I2.tok _, ⟨_, rfl⟩, q2⟩
  · exact wpAny_getItem_of (knd := mixKind X.prog X.w) (k := Sum.inl 6) (keyIs_int 6 tk) dd.mapOf (v := .int 2 t2) rfl ⟨.int 2, H2, I2.tok _, ⟨_, rfl⟩, q2⟩
section
variable {P : Program} {w : World} {K : PySem.W.Frag} {mg : Str → Option Value} {base : Heap}
/-- {each: v for each in xs}, xs a tuple of unlike ints -/
theorem dict_walk {J : It} {H : Hp} {D : Addr} {ns : List Int} {f : Int → Int} {G : Hp → Prop} {B : V → Hp → (Hp → Prop) → Prop} {Z : Hp → Prop} (w : Walk J (ns.map V.int).length G (YAt (ns.map V.int))) (hD : H D = none) (nd : ns.Nodup) (h7 : ns.length ≤ 7)
    (hG : ∀ H', Kp N0 H H' → G H') (hs : ∀ (n : Int) H' (Nx : Hp → Prop) kvs, n ∈ ns → Kp N0 H H' → H' D = some (.dK kvs) → kvs.length < sizeLine → (Nx (upd H' D (.dK (putK kvs (Sum.inl n) (.int (f n)))))) → B (.int n) H' Nx)
    (hd : ∀ H', Kp N0 H H' → H' D = some (.dK (kvI (ns.map fun n => (n, f n)))) → Z H') :
    ∃ W : Nat → Nat → Hp → Prop, (∃ m, W 0 m (upd H D (.dK []))) ∧ ∀ i m H, W i m H → (J.stop i H ∧ Z H) ∨ (J.go i H ∧ ∃ Nx : Hp → Prop, (∀ H', Nx H' → ∃ m', m' < m ∧ W (i + 1) m' H') ∧ ∀ x H', J.yld i H x H' → B x H' Nx) := by
  refine heapW w (fun i H' => Kp N0 H H' ∧ H' D = some (.dK (kvI ((ns.take i).map fun n => (n, f n))))) ⟨Kp.new hD, upd_same⟩ (fun i H' _ h => hG H' h.1) ?_ ?_
  · rintro i x _ H1 hi ⟨e1, h1⟩ ⟨rfl, hx⟩
    obtain ⟨n, hn, rfl⟩ := map_int_get hx
    refine hs n H1 _ _ (List.mem_of_getElem? hn) e1 h1 (small_line ?_) ⟨e1.mut hD, ?_⟩
    · unfold kvI; rw [List.length_map, List.length_map, List.length_take]; omega
    · rw [upd_same, take_snoc hn, List.map_append, kvI_put]
      · rfl
      · rw [List.map_map]
        intro z
        obtain ⟨m, hm, e⟩ := List.mem_map.mp z
        have e : m = n := e
        subst e
        have z := hm
        obtain ⟨j, hj⟩ := List.getElem?_of_mem z
        rw [List.getElem?_take] at hj
        split at hj
        · have := nodup_at_any nd hj hn
          omega
        · cases hj
  · rintro H1 ⟨e1, h1⟩
    rw [List.length_map, take_all] at h1
    exact hd H1 e1 h1
def sp_quarter_in (K : PySem.W.Frag) : Sp := fun vs H Q _ => ∃ (p l : Addr) (i : Int) (N : Nt), vs = [.ref p, .ref l, .int i] ∧ NetAt K H p N ∧ NearAt H l N ∧ N.Ok ∧ 0 ≤ i ∧ i < N.sz ∧ N.Qok i ∧
  ∀ x N' H', Kp N0 H H' → NetAt K H' x N' → N'.Ok → QStep N i N' → Q (.ref x) H'
theorem sc_quarter_in : FnScope ["net", "near", "thing", "some", "more", "each"] ["net", "near", "thing"] (defScope s_quarter_in) := ⟨rfl, rfl, rfl, by decide +kernel, rfl, by decide +kernel, by decide +kernel⟩
theorem c_quarter_in (T : TX K mg) : C8.Cal P w K mg base 10 "quarter_in" (sp_quarter_in K) [] := by
  refine mkCal (k := 9) T.g_quarter_in T.d_quarter_in (fun _ _ _ _ _ _ us hl => match us, hl with | [_, _, _], _ => rfl) sc_quarter_in (fun vs H Q E h => ?_) (fun cdv A outer s H vs Q E hr h => ?_)
  · obtain ⟨p, l, i, N, rfl, _⟩ := h; rfl
  · obtain ⟨p, l, i, N, rfl, hpn, hl, ok, h0, h1, hq, k⟩ := h
    have ⟨dx, a1, a2, a3, a4, a5, vs, ts, ob, hp⟩ := hpn
    obtain ⟨xs, t, r, hx, hat, ht, hr'⟩ := hl.row h0 h1
    obtain ⟨tv, htv, ht26⟩ := hq.t
    have rnd : r.Nodup := hr'.nodup_iff.mpr (nbr_nd ok i)
    have rbd : ∀ x ∈ r, (0 ≤ x ∧ x < N.sz) ∧ x ≠ i := fun x hx => nbr_bd ok (hr'.mem_iff.mp hx)
    have r7 : r.length ≤ 7 := len7 ok.n7 rnd fun x hx => (rbd x hx).1
    refine ⟨_, (pss_cons (ps_set (i := 3) sc_quarter_in.nd rfl (Or.inl rfl) (pe_ix ix_list (pv 1) (pv 2) (fun _ _ => rfl)))
      (pss_cons (ps_set (i := 4) sc_quarter_in.nd rfl (Or.inr rfl) (pe_getQ8 T.qu (pe_glob (v := .ref (He.ga K "QUARTERS")) rfl T.g_QUARTERS rfl) (pe_dget (hu_of hr) (pe_callTy (cr_dictZ rfl) (by rfl) T.f_dict (by decide +kernel) (pa_cons (pe_fld (pv 0) rfl) pa_nil)) (pv 2) (fun _ _ => rfl)) (fun _ _ => rfl)))
      (pss_one (ps_ret (C8.pe_c (c_without T) hr (by decide) rfl (pa_cons (pv 0) (pa_cons (pe_lst (pa_cons (pv 2) pa_nil)) (pa_cons (C8.pe_c (c_between T) hr (by decide) rfl (pa_cons (pe_lc (own := [("each", 5)]) (by rfl) sc_quarter_in.nd (pi_tup (pv 3)) (blkOk_by (N := ["net", "near", "thing", "some", "more", "each"]) (sc := defScope s_quarter_in) (own := [("each", 5)]) (by decide +kernel)) (fun _ _ _ _ _ => (pg_name (i := 5) sc_quarter_in.nd rfl (Or.inl rfl))) (fun _ _ _ _ _ => pts_nil) (fun _ _ _ _ _ => (pe_lst (pa_cons (pv 5) pa_nil)))) pa_nil)) (pa_cons (pe_dc (own := [("each", 5)]) (by rfl) sc_quarter_in.nd (pi_tup (pv 3)) (blkOk_by (N := ["net", "near", "thing", "some", "more", "each"]) (sc := defScope s_quarter_in) (own := [("each", 5)]) (by decide +kernel)) (fun _ _ _ _ _ => (pg_name (i := 5) sc_quarter_in.nd rfl (Or.inl rfl))) (fun _ _ _ _ _ => pts_nil) (fun _ _ _ _ _ => (pv 5)) (fun _ _ _ _ _ => (pv 4))) pa_nil))))))))), ?_⟩
    refine ⟨_, rfl, _, rfl, l, _, _, _, rfl, rfl, SqL.of hx, hat, ?_⟩
    refine ⟨_, rfl, p, _, dx, _, _, rfl, hp.o, T.c_Net, T.n_Net_turns, fs_turns, a5, ob, ts, N.tu, rfl, hp.h5, hp.d5, hp.r5, ok.tN, fun d hd => ?_⟩
    have e1 := Kp.new (F := N0) (o := .dK (kvI N.tu)) hd
    have hd1 : (upd H d (.dK (kvI N.tu))) d = some (.dK (kvI N.tu)) := upd_same
    generalize upd H d (.dK (kvI N.tu)) = H1 at e1 hd1
    have hg1 := DGet.k (k := Sum.inl i) hd1
    rw [valV_kvI, htv] at hg1
    refine ⟨_, rfl, d, _, rfl, hg1, rfl, tv, rfl, ht26, ?_⟩
    -- without(..)
    refine ⟨_, rfl, _, rfl, by show 1 ≤ sizeLine; decide, fun g hg => ?_⟩
    have e2 := Kp.new (F := N0) (o := .lst [V.int i]) hg
    have hg2 : (upd H1 g (.lst [V.int i])) g = some (.lst [V.int i]) := upd_same
    generalize upd H1 g (.lst [V.int i]) = H2 at e2 hg2
    have E2 := e1.trans e2
    have ht2 := E2.t _ _ ht
    refine ⟨_, rfl, t, rfl, ⟨_, SqT.of ht2⟩, fun D hD => ?_⟩
    refine lcD (walk_tup (K := K) (a := t) (xs := r.map V.int)) N0 (fun j ys H' => ∃ ls : List Addr, ys = ls.map V.ref ∧ D ∉ ls ∧ RowsA H' ls ((r.take j).map fun x => [x])) hD id (by rw [List.length_map]; omega) (fun H' e => e.sqt (SqT.of ht2)) (fun _ _ => ⟨[], rfl, by simp, rfl, by simp⟩) ?_ ?_ ?_
    · rintro j ys H3 o hy ⟨ls, rfl, h3, h4⟩
      exact ⟨ls, rfl, h3, h4.other h3⟩
    · rintro j x ys H3 _ Zy Zn hj ⟨rfl, hx⟩ e3 hy ⟨ls, rfl, h3, h4⟩ _ hZ _
      obtain ⟨n, hn, rfl⟩ := map_int_get hx
      refine ⟨rfl, yesT ⟨_, rfl, by show 1 ≤ sizeLine; decide, fun q hq => ?_⟩⟩
      have nD : ¬ D = q := ne_of_none hy hq
      have nD' : D ∉ ls ++ [q] := by
        rw [List.mem_append, not_or]
        exact ⟨h3, fun z => nD (List.mem_singleton.mp z)⟩
      refine hZ _ _ (Kp.new hq) fun o => ⟨ls ++ [q], by rw [List.map_append]; rfl, nD', ?_⟩
      rw [take_snoc hn, List.map_append]
      exact ((h4.mono (Kp.new hq)).snoc (q := q) (r := [n]) upd_same).other nD'
    rintro ys H3 e3 hD3 ⟨ls, rfl, h3, h4⟩
    rw [List.length_map, take_all] at h4
    have rl : (r.map fun x => [x]).length ≤ 7 := by rw [List.length_map]; exact r7
    have rr : ∀ s ∈ r.map fun x => [x], s.length ≤ 7 := fun s hs => by
      obtain ⟨x, _, rfl⟩ := List.mem_map.mp hs
      show 1 ≤ 7; omega
    refine ⟨D, ls, _, rfl, hD3, h4, rl, rr, fun b bs H4 e4 hb hP => ?_⟩
    have E4 := (E2.trans e3).trans e4
    have ht4 := E4.t _ _ ht
    refine ⟨_, rfl, t, rfl, ⟨_, SqT.of ht4⟩, fun dm hdm => ?_⟩
    refine dict_walk (ns := r) (f := fun _ => 8 - tv) (walk_tup (K := K) (a := t) (xs := r.map V.int)) hdm rnd r7 (fun H' e => e.sqt (SqT.of ht4)) (fun n H' Nx kvs hn e' hk hz hN => ⟨rfl, yesT ⟨_, rfl, _, rfl, _, Sum.inl n, rfl, hk, hz, hN⟩⟩) ?_
    intro H5 e5 hm5
    have E5 := E4.trans e5
    have pb : ∀ q ∈ betweenL (r.map fun x => [x]), 0 ≤ q.1 ∧ q.1 < q.2 ∧ q.2 < N.sz := fun q hq => by
      obtain ⟨i1, j1, hij, r1, s1, hr1, hs1, a, ha, b, hb, rfl⟩ := betweenL_mem hq
      rw [List.getElem?_map] at hr1 hs1
      obtain ⟨a', ha', rfl⟩ := Option.map_eq_some_iff.mp hr1
      obtain ⟨b', hb', rfl⟩ := Option.map_eq_some_iff.mp hs1
      rw [List.mem_singleton.mp ha, List.mem_singleton.mp hb]
      refine norm_bd (rbd a' (List.mem_of_getElem? ha')).1 (rbd b' (List.mem_of_getElem? hb')).1 fun z => ?_
      rw [z] at ha'
      have := nodup_at_any rnd ha' hb'
      omega
    refine ⟨p, g, b, dm, N, [i], bs, _, _, rfl, hpn.mono E5, ok, (((e3.trans e4).trans e5).get0 hg2), e5.get0 hb, hP.mono e5.tp, betweenL_len rl rr, pb, hm5, fun x hx => ?_, left_len1 h0 h1 hq.n, fun x N' H6 e6 hN' ok' made => ?_⟩
    · rw [List.mem_singleton.mp hx]; exact ⟨hq.c.g, hq.c.k⟩
    · exact k x N' H6 (E5.trans e6) hN' ok' ⟨r, tv, hr', htv, ht26, made⟩
end
end K50
end
section
set_option Elab.async false
set_option linter.all false
set_option maxRecDepth 100000
set_option maxHeartbeats 4000000
namespace K50
open PySem PySem.Spec L2
open PyProof.Rows (envOfC)
section
variable {r s : List Int} {i j : Int}
theorem mem_both {x : Int} : x ∈ bothOf r s ↔ x ∈ r ∧ x ∈ s := by unfold bothOf; rw [List.mem_filter, List.contains_iff_mem]
theorem mem_mine {x : Int} : x ∈ mineOf r s j ↔ x ∈ r ∧ x ≠ j ∧ x ∉ s := by
  unfold mineOf
  rw [List.mem_filter, Bool.and_eq_true, decide_eq_true_eq, Bool.not_eq_true', ← Bool.not_eq_true, List.contains_iff_mem, mem_both]
  exact ⟨fun ⟨a, b, c⟩ => ⟨a, b, fun d => c ⟨a, d⟩⟩, fun ⟨a, b, c⟩ => ⟨a, b, fun d => c d.2⟩⟩
theorem mem_its {x : Int} : x ∈ itsOf r s i ↔ x ∈ s ∧ x ≠ i ∧ x ∉ r := by
  unfold itsOf
  rw [List.mem_filter, Bool.and_eq_true, decide_eq_true_eq, Bool.not_eq_true', ← Bool.not_eq_true, List.contains_iff_mem, mem_both]
  exact ⟨fun ⟨a, b, c⟩ => ⟨a, b, fun d => c ⟨d, a⟩⟩, fun ⟨a, b, c⟩ => ⟨a, b, fun d => c d.1⟩⟩
theorem pair_nodup (hr : r.Nodup) (hs : s.Nodup) : (bothOf r s ++ mineOf r s j ++ itsOf r s i).Nodup := by
  rw [List.nodup_append, List.nodup_append]
  refine ⟨⟨hr.filter _, hr.filter _, fun a ha b hb e => ?_⟩, hs.filter _, fun a ha b hb e => ?_⟩
  · subst e
    exact (mem_mine.mp hb).2.2 (mem_both.mp ha).2
  · subst e
    rcases List.mem_append.mp ha with ha | ha
    · exact (mem_its.mp hb).2.2 (mem_both.mp ha).1
    · exact (mem_its.mp hb).2.2 (mem_mine.mp ha).1
theorem pair_apart {k l : Nat} (h : k < l) {a b : List Int} (ha : [mineOf r s j, itsOf r s i, bothOf r s][k]? = some a) (hb : [mineOf r s j, itsOf r s i, bothOf r s][l]? = some b) {x y : Int} (hx : x ∈ a) (hy : y ∈ b) : x ≠ y := by
  intro e
  subst e
  match k, l, h, ha, hb with
  | 0, 1, _, ha, hb =>
    cases ha; cases hb
    exact (mem_its.mp hy).2.2 (mem_mine.mp hx).1
  | 0, 2, _, ha, hb =>
    cases ha; cases hb
    exact (mem_mine.mp hx).2.2 (mem_both.mp hy).2
  | 1, 2, _, ha, hb =>
    cases ha; cases hb
    exact (mem_its.mp hx).2.2 (mem_both.mp hy).1
  | _, n + 3, _, _, hb => cases hb
  | n + 1, 1, h, _, _ => omega
  | n + 2, 2, h, _, _ => omega
theorem kvI_merge {A B : List (Int × Int)} (h : ((A ++ B).map (·.1)).Nodup) : mergeK (kvI A) (kvI B) = kvI (A ++ B) := by
  rw [mergeK_nodup]
  · unfold kvI; rw [List.map_append]
  · unfold kvI
    rw [← List.map_append, ← List.map_append, List.map_map]
    have e : (A ++ B).map ((·.1) ∘ fun p : Int × Int => ((Sum.inl p.1 : Key), V.int p.2)) = ((A ++ B).map (·.1)).map (Sum.inl : Int → Key) := by rw [List.map_map]; rfl
    rw [e]
    exact List.Pairwise.map _ (fun a b n q => n (Sum.inl.inj q)) h
end
section
variable {P : Program} {w : World} {K : PySem.W.Frag} {mg : Str → Option Value} {base : Heap}
def sp_pair_in (K : PySem.W.Frag) : Sp := fun vs H Q _ => ∃ (p l : Addr) (i j : Int) (N : Nt), vs = [.ref p, .ref l, .int i, .int j] ∧ NetAt K H p N ∧ NearAt H l N ∧ N.Ok ∧ 0 ≤ i ∧ i < N.sz ∧ 0 ≤ j ∧ j < N.sz ∧ i ≠ j ∧ N.Pok i j ∧
  ∀ x N' H', Kp N0 H H' → NetAt K H' x N' → N'.Ok → PStep N i j N' → Q (.ref x) H'
theorem sc_pair_in : FnScope ["net", "near", "one", "other", "turns", "both", "mine", "its", "more", "each"] ["net", "near", "one", "other"] (defScope s_pair_in) := ⟨rfl, rfl, rfl, by decide +kernel, rfl, by decide +kernel, by decide +kernel⟩
theorem c_pair_in (T : TX K mg) : C8.Cal P w K mg base 10 "pair_in" (sp_pair_in K) [] := by
  refine mkCal (k := 9) T.g_pair_in T.d_pair_in (fun _ _ _ _ _ _ us hl => match us, hl with | [_, _, _, _], _ => rfl) sc_pair_in (fun vs H Q E h => ?_) (fun cdv A outer s H vs Q E hr h => ?_)
  · obtain ⟨p, l, i, j, N, rfl, _⟩ := h; rfl
  · obtain ⟨p, l, i, j, N, rfl, hpn, hl, ok, h0, h1, h2, h3, hij, hq, k⟩ := h
    have ⟨dx, a1, a2, a3, a4, a5, vs, ts, ob, hp⟩ := hpn
    obtain ⟨xs, t, r, hx, hat, ht, hr'⟩ := hl.row h0 h1
    obtain ⟨xs', t2, s', hx', hat2, ht2, hs'⟩ := hl.row h2 h3
    rw [hx] at hx'
    obtain rfl : xs = xs' := by cases hx'; rfl
    obtain ⟨tv, htv, ht04⟩ := hq.t
    obtain ⟨uv, huv, hu04⟩ := hq.u
    have rnd : r.Nodup := hr'.nodup_iff.mpr (nbr_nd ok i)
    have snd : s'.Nodup := hs'.nodup_iff.mpr (nbr_nd ok j)
    have rbd : ∀ x ∈ r, (0 ≤ x ∧ x < N.sz) ∧ x ≠ i := fun x hx => nbr_bd ok (hr'.mem_iff.mp hx)
    have sbd : ∀ x ∈ s', (0 ≤ x ∧ x < N.sz) ∧ x ≠ j := fun x hx => nbr_bd ok (hs'.mem_iff.mp hx)
    have r7 : r.length ≤ 7 := len7 ok.n7 rnd fun x hx => (rbd x hx).1
    have s7 : s'.length ≤ 7 := len7 ok.n7 snd fun x hx => (sbd x hx).1
    refine ⟨_, (pss_cons (ps_set (i := 4) sc_pair_in.nd rfl (Or.inr rfl) (pe_callTy (cr_dictZ rfl) (by rfl) T.f_dict (by decide +kernel) (pa_cons (pe_fld (pv 0) rfl) pa_nil)))
      (pss_cons (ps_set (i := 5) sc_pair_in.nd rfl (Or.inr rfl) (pe_lc (own := [("each", 9)]) (by rfl) sc_pair_in.nd (pi_tup (pe_ix ix_list (pv 1) (pv 2) (fun _ _ => rfl))) (blkOk_by (N := ["net", "near", "one", "other", "turns", "both", "mine", "its", "more", "each"]) (sc := defScope s_pair_in) (own := [("each", 9)]) (by decide +kernel)) (fun _ _ _ _ _ => (pg_name (i := 9) sc_pair_in.nd rfl (Or.inl rfl))) (fun _ _ _ _ _ => pts_one (pt_cmpR (r := rIn K false) (or_in rfl) (pv 9) (pe_ix (r := rIxL K) (ixLK rfl) (pv 1) (pv 3) (fun _ _ => rfl)) (by rfl))) (fun _ _ _ _ _ => (pv 9))))
      (pss_cons (ps_setLc (i := 6) rfl sc_pair_in.nd rfl rfl (sw_true rfl rfl rfl (by decide +kernel)) (own := [("each", 9)]) (pi_tup (pe_ix ix_list (pv 1) (pv 2) (fun _ _ => rfl))) (blkOk_by (N := ["net", "near", "one", "other", "turns", "both", "mine", "its", "more", "each"]) (sc := defScope s_pair_in) (own := [("each", 9)]) (by decide +kernel)) (fun _ _ _ _ _ => (pg_name (i := 9) sc_pair_in.nd rfl (Or.inl rfl))) (fun _ _ _ _ _ => pts_one (PW.pt (pw_and (pt_cmpR op_ne (pv 9) (pv 3) (nomark _)) (pw_and1 (pt_cmpR (r := rIn K true) (or_notIn rfl) (pv 9) (pv 5) (by rfl)))))) (fun _ _ _ _ _ => (pv 9)))
      (pss_cons (ps_setLc (i := 7) rfl sc_pair_in.nd rfl rfl (sw_true rfl rfl rfl (by decide +kernel)) (own := [("each", 9)]) (pi_tup (pe_ix ix_list (pv 1) (pv 3) (fun _ _ => rfl))) (blkOk_by (N := ["net", "near", "one", "other", "turns", "both", "mine", "its", "more", "each"]) (sc := defScope s_pair_in) (own := [("each", 9)]) (by decide +kernel)) (fun _ _ _ _ _ => (pg_name (i := 9) sc_pair_in.nd rfl (Or.inl rfl))) (fun _ _ _ _ _ => pts_one (PW.pt (pw_and (pt_cmpR op_ne (pv 9) (pv 2) (nomark _)) (pw_and1 (pt_cmpR (r := rIn K true) (or_notIn rfl) (pv 9) (pv 5) (by rfl)))))) (fun _ _ _ _ _ => (pv 9)))
      (pss_cons (ps_setDc (i := 8) (own := [("each", 9)]) rfl sc_pair_in.nd rfl rfl (sw_trueD rfl rfl rfl (by decide +kernel)) (pi_list (pv 5)) (blkOk_by (N := ["net", "near", "one", "other", "turns", "both", "mine", "its", "more", "each"]) (sc := defScope s_pair_in) (own := [("each", 9)]) (by decide +kernel)) (fun _ _ _ _ _ => (pg_name (i := 9) sc_pair_in.nd rfl (Or.inl rfl))) (fun _ _ _ _ _ => pts_nil) (fun _ _ _ _ _ => (pv 9)) (fun _ _ _ _ _ => (pe_op op_add (pe_op op_add (pe_dget (hu_of hr) (pv 4) (pv 2) (fun _ _ => rfl)) (pe_dget (hu_of hr) (pv 4) (pv 3) (fun _ _ => rfl))) pe_int)))
      (pss_cons (ps_expr (pe_bm PySem.F.plainAttrs_dict PySem.F.slot_dict_update PySem.F.type_dict_update mt_dupdate (pv 8) (pa_cons (pe_dc (own := [("each", 9)]) (by rfl) sc_pair_in.nd (pi_list (pv 6)) (blkOk_by (N := ["net", "near", "one", "other", "turns", "both", "mine", "its", "more", "each"]) (sc := defScope s_pair_in) (own := [("each", 9)]) (by decide +kernel)) (fun _ _ _ _ _ => (pg_name (i := 9) sc_pair_in.nd rfl (Or.inl rfl))) (fun _ _ _ _ _ => pts_nil) (fun _ _ _ _ _ => (pv 9)) (fun _ _ _ _ _ => (pe_dget (hu_of hr) (pv 4) (pv 3) (fun _ _ => rfl)))) pa_nil)))
      (pss_cons (ps_expr (pe_bm PySem.F.plainAttrs_dict PySem.F.slot_dict_update PySem.F.type_dict_update mt_dupdate (pv 8) (pa_cons (pe_dc (own := [("each", 9)]) (by rfl) sc_pair_in.nd (pi_list (pv 7)) (blkOk_by (N := ["net", "near", "one", "other", "turns", "both", "mine", "its", "more", "each"]) (sc := defScope s_pair_in) (own := [("each", 9)]) (by decide +kernel)) (fun _ _ _ _ _ => (pg_name (i := 9) sc_pair_in.nd rfl (Or.inl rfl))) (fun _ _ _ _ _ => pts_nil) (fun _ _ _ _ _ => (pv 9)) (fun _ _ _ _ _ => (pe_dget (hu_of hr) (pv 4) (pv 2) (fun _ _ => rfl)))) pa_nil)))
      (pss_one (ps_ret (C8.pe_c (c_without T) hr (by decide) rfl (pa_cons (pv 0) (pa_cons (pe_lst (pa_cons (pv 2) (pa_cons (pv 3) pa_nil))) (pa_cons (C8.pe_c (c_between T) hr (by decide) rfl (pa_cons (pe_lst (pa_cons (pv 6) (pa_cons (pv 7) (pa_cons (pv 5) pa_nil)))) pa_nil)) (pa_cons (pv 8) pa_nil)))))))))))))), ?_⟩
    refine ⟨_, rfl, p, _, dx, _, _, rfl, hp.o, T.c_Net, T.n_Net_turns, fs_turns, a5, ob, ts, N.tu, rfl, hp.h5, hp.d5, hp.r5, ok.tN, fun d hd => ?_⟩
    have e1 := Kp.new (F := N0) (o := .dK (kvI N.tu)) hd
    have hd1 : (upd H d (.dK (kvI N.tu))) d = some (.dK (kvI N.tu)) := upd_same
    generalize upd H d (.dK (kvI N.tu)) = H1 at e1 hd1
    have gi : ∀ {H'}, Kp N0 H1 H' → DGet H' d (.int i) (some (.int tv)) := fun e => by
      have hg1 := DGet.k (k := Sum.inl i) (e.get0 hd1)
      rw [valV_kvI, htv] at hg1; exact hg1
    have gj : ∀ {H'}, Kp N0 H1 H' → DGet H' d (.int j) (some (.int uv)) := fun e => by
      have hg1 := DGet.k (k := Sum.inl j) (e.get0 hd1)
      rw [valV_kvI, huv] at hg1; exact hg1
    have hx1 := e1.get0 hx
    have ht1 := e1.t _ _ ht
    have ht21 := e1.t _ _ ht2
    -- both
    refine ⟨_, rfl, _, rfl, l, _, _, _, rfl, rfl, SqL.of hx1, hat, t, rfl, ⟨_, SqT.of ht1⟩, fun D hD => ?_⟩
    refine lcW (walk_tup (K := K) (a := t) (xs := r.map V.int)) N0 (fun j ys H => ys = ((r.take j).filter fun x => s'.contains x).map V.int) hD id (by rw [List.length_map]; omega) (fun H' e => e.sqt (SqT.of ht1)) (fun _ _ => rfl) (fun _ _ _ _ _ h => h) ?_ ?_
    · rintro n x ys H2 _ Zy Zn hi ⟨rfl, hxx⟩ e2 hy rfl _ hZ hN
      obtain ⟨m, hm, rfl⟩ := map_int_get hxx
      refine ⟨rfl, _, rfl, _, rfl, _, rfl, l, _, _, _, rfl, rfl, SqL.of (e2.get0 hx1), hat2, t2, _, rfl, .inr (SqT.of (e2.t _ _ ht21)), rfl, flat_ints _, ?_⟩
      rw [inV_ints]
      refine ⟨_, rfl, ?_⟩
      have hg := filter_take (f := fun x => s'.contains x) hm
      cases hc : s'.contains m with
      | true =>
        refine iteT ⟨_, rfl, hZ _ _ Kp.refl ?_⟩
        rw [hg, hc]; simp
      | false =>
        refine iteF (hN _ Kp.refl ?_)
        rw [hg, hc]; simp
    rintro ys H2 e2 hD2 rfl
    rw [List.length_map, take_all] at hD2
    have hb2 : H2 D = some (.lst ((bothOf r s').map V.int)) := hD2
    have E2 := e1.trans e2
    -- mine
    refine ⟨_, rfl, _, rfl, l, _, _, _, rfl, rfl, SqL.of (e2.get0 hx1), hat, t, rfl, ⟨_, SqT.of (e2.t _ _ ht1)⟩, fun DM hDM => ?_⟩
    refine lcW (walk_tup (K := K) (a := t) (xs := r.map V.int)) N0 (fun k ys H => ys = ((r.take k).filter fun x => decide (x ≠ j) && !(bothOf r s').contains x).map V.int) hDM id (by rw [List.length_map]; omega) (fun H' e => e.sqt (SqT.of (e2.t _ _ ht1))) (fun _ _ => rfl) (fun _ _ _ _ _ h => h) ?_ ?_
    · rintro n x ys H3 _ Zy Zn hi ⟨rfl, hxx⟩ e3 hy rfl _ hZ hN
      obtain ⟨m, hm, rfl⟩ := map_int_get hxx
      have hg := filter_take (f := fun x => decide (x ≠ j) && !(bothOf r s').contains x) hm
      refine ⟨rfl, _, rfl, _, rfl, rfl, _, rfl, ?_⟩
      by_cases hmj : m = j
      · refine iteNeF hmj (iteF (hN _ Kp.refl ?_))
        rw [hg, if_neg (by simp [hmj])]; simp
      refine iteNeT hmj ⟨_, rfl, _, rfl, D, _, rfl, .inl (SqL.of (e3.get0 hb2)), rfl, flat_ints _, ?_⟩
      rw [inV_ints]
      refine ⟨_, rfl, ?_⟩
      cases hc : (bothOf r s').contains m with
      | true =>
        refine iteF (hN _ Kp.refl ?_)
        rw [hg, hc]; simp
      | false =>
        refine iteT ⟨_, rfl, hZ _ _ Kp.refl ?_⟩
        rw [hg, hc]; simp [hmj]
    rintro ys H3 e3 hD3 rfl
    rw [List.length_map, take_all] at hD3
    have hm3 : H3 DM = some (.lst ((mineOf r s' j).map V.int)) := hD3
    have e13 := e2.trans e3
    -- its
    refine ⟨_, rfl, _, rfl, l, _, _, _, rfl, rfl, SqL.of (e13.get0 hx1), hat2, t2, rfl, ⟨_, SqT.of (e13.t _ _ ht21)⟩, fun DI hDI => ?_⟩
    refine lcW (walk_tup (K := K) (a := t2) (xs := s'.map V.int)) N0 (fun k ys H => ys = ((s'.take k).filter fun x => decide (x ≠ i) && !(bothOf r s').contains x).map V.int) hDI id (by rw [List.length_map]; omega) (fun H' e => e.sqt (SqT.of (e13.t _ _ ht21))) (fun _ _ => rfl) (fun _ _ _ _ _ h => h) ?_ ?_
    · rintro n x ys H4 _ Zy Zn hi ⟨rfl, hxx⟩ e4 hy rfl _ hZ hN
      obtain ⟨m, hm, rfl⟩ := map_int_get hxx
      have hg := filter_take (f := fun x => decide (x ≠ i) && !(bothOf r s').contains x) hm
      refine ⟨rfl, _, rfl, _, rfl, rfl, _, rfl, ?_⟩
      by_cases hmj : m = i
      · refine iteNeF hmj (iteF (hN _ Kp.refl ?_))
        rw [hg, if_neg (by simp [hmj])]; simp
      refine iteNeT hmj ⟨_, rfl, _, rfl, D, _, rfl, .inl (SqL.of ((e3.trans e4).get0 hb2)), rfl, flat_ints _, ?_⟩
      rw [inV_ints]
      refine ⟨_, rfl, ?_⟩
      cases hc : (bothOf r s').contains m with
      | true =>
        refine iteF (hN _ Kp.refl ?_)
        rw [hg, hc]; simp
      | false =>
        refine iteT ⟨_, rfl, hZ _ _ Kp.refl ?_⟩
        rw [hg, hc]; simp [hmj]
    rintro ys H4 e4 hD4 rfl
    rw [List.length_map, take_all] at hD4
    have hi4 : H4 DI = some (.lst ((itsOf r s' i).map V.int)) := hD4
    have nd := pair_nodup (i := i) (j := j) rnd snd
    have mb : ∀ x, x ∈ bothOf r s' → (0 ≤ x ∧ x < N.sz) := fun x h => (rbd x (mem_both.mp h).1).1
    have mm : ∀ x, x ∈ mineOf r s' j → (0 ≤ x ∧ x < N.sz) := fun x h => (rbd x (mem_mine.mp h).1).1
    have mit : ∀ x, x ∈ itsOf r s' i → (0 ≤ x ∧ x < N.sz) := fun x h => (sbd x (mem_its.mp h).1).1
    have ap := fun {k l : Nat} => pair_apart (r := r) (s := s') (i := i) (j := j) (k := k) (l := l)
    have kk := fun N' (m : Made N' _ _ _ _ _) => (PStep.mk ⟨r, s', tv, uv, hr', hs', htv, ht04, huv, hu04, m⟩ : PStep N i j N')
    have b7 : (bothOf r s').length ≤ 7 := Nat.le_trans (List.length_filter_le _ _) r7
    have m7 : (mineOf r s' j).length ≤ 7 := Nat.le_trans (List.length_filter_le _ _) r7
    have i7 : (itsOf r s' i).length ≤ 7 := Nat.le_trans (List.length_filter_le _ _) s7
    generalize bothOf r s' = bo at *
    generalize mineOf r s' j = mi at *
    generalize itsOf r s' i = it at *
    have hb4 := (e3.trans e4).get0 hb2
    have hm4 := e4.get0 hm3
    have e14 := e13.trans e4
    have E4 := e1.trans e14
    -- more
    have ndb : bo.Nodup := (List.nodup_append.mp (List.nodup_append.mp nd).1).1
    have ndm : mi.Nodup := (List.nodup_append.mp (List.nodup_append.mp nd).1).2.1
    have ndi : it.Nodup := (List.nodup_append.mp nd).2.1
    refine ⟨_, rfl, D, rfl, ⟨_, SqL.of hb4⟩, fun dm hdm => ?_⟩
    refine dict_walk (ns := bo) (f := fun _ => tv + uv + 4) (walk_list (K := K) (a := D) (xs := bo.map V.int)) hdm ndb b7 (fun H' e => e.sql (SqL.of hb4)) (fun n H' Nx kvs hn e' hk hz hN => ?_) ?_
    · exact ⟨rfl, yesT ⟨_, rfl, _, rfl, _, rfl, d, _, rfl, gi (e14.trans e'), _, rfl, _, rfl, d, _, rfl, gj (e14.trans e'), _, _, rfl, rfl, _, _, rfl, rfl, _, Sum.inl n, rfl, hk, hz, hN⟩⟩
    intro H5 e5 hm5
    have e15 := e14.trans e5
    -- more.update(mine)
    refine ⟨_, rfl, .inr (.inr (.inl ⟨rfl, .inl ⟨_, hm5⟩⟩)), _, rfl, DM, rfl, ⟨_, SqL.of (e5.get0 hm4)⟩, fun dn hdn => ?_⟩
    refine dict_walk (ns := mi) (f := fun _ => uv) (walk_list (K := K) (a := DM) (xs := mi.map V.int)) hdn ndm m7 (fun H' e => e.sql (SqL.of (e5.get0 hm4))) (fun n H' Nx kvs hn e' hk hz hN => ?_) ?_
    · exact ⟨rfl, yesT ⟨_, rfl, _, rfl, _, rfl, d, _, rfl, gj (e15.trans e'), _, Sum.inl n, rfl, hk, hz, hN⟩⟩
    intro H6 e6 hm6
    have e16 := e15.trans e6
    have ne1 : dm ≠ dn := ne_of_none hm5 hdn
    have hm56 := e6.get0 hm5
    have big : ∀ {A B : List (Int × Int)}, A.length ≤ 1000 → B.length ≤ 1000 → (kvI A).length + (kvI B).length ≤ sizeLine := fun a b => by
      unfold kvI; rw [List.length_map, List.length_map]
      have e : sizeLine = 16777216 := rfl
      omega
    refine ⟨dm, dn, _, _, rfl, rfl, ne1, hm56, hm6, big (by rw [List.length_map]; omega) (by rw [List.length_map]; omega), ?_⟩
    rw [kvI_merge (by
      rw [List.map_append, List.map_map, List.map_map]
      have := (List.nodup_append.mp nd).1
      simpa [Function.comp_def] using this)]
    have dm4 : H4 dm = none := hdm
    have e7 : Kp N0 H4 (upd H6 dm (.dK (kvI ((bo.map fun n => (n, tv + uv + 4)) ++ mi.map fun n => (n, uv))))) := (e5.trans e6).mut dm4
    have hm7 : (upd H6 dm (.dK (kvI ((bo.map fun n => (n, tv + uv + 4)) ++ mi.map fun n => (n, uv))))) dm = _ := upd_same
    generalize upd H6 dm (.dK (kvI ((bo.map fun n => (n, tv + uv + 4)) ++ mi.map fun n => (n, uv)))) = H7 at e7 hm7
    have e17 := e14.trans e7
    have hi7 := e7.get0 hi4
    -- more.update(its)
    refine ⟨_, rfl, .inr (.inr (.inl ⟨rfl, .inl ⟨_, hm7⟩⟩)), _, rfl, DI, rfl, ⟨_, SqL.of hi7⟩, fun dn2 hdn2 => ?_⟩
    refine dict_walk (ns := it) (f := fun _ => tv) (walk_list (K := K) (a := DI) (xs := it.map V.int)) hdn2 ndi i7 (fun H' e => e.sql (SqL.of hi7)) (fun n H' Nx kvs hn e' hk hz hN => ?_) ?_
    · exact ⟨rfl, yesT ⟨_, rfl, _, rfl, _, rfl, d, _, rfl, gi (e17.trans e'), _, Sum.inl n, rfl, hk, hz, hN⟩⟩
    intro H8 e8 hm8
    have ne2 : dm ≠ dn2 := ne_of_none hm7 hdn2
    have hm78 := e8.get0 hm7
    refine ⟨dm, dn2, _, _, rfl, rfl, ne2, hm78, hm8, big (by rw [List.length_append, List.length_map, List.length_map]; omega) (by rw [List.length_map]; omega), ?_⟩
    rw [kvI_merge (by
      rw [List.map_append, List.map_append, List.map_map, List.map_map, List.map_map]
      simpa [Function.comp_def] using nd)]
    have e9 : Kp N0 H4 (upd H8 dm (.dK (kvI (((bo.map fun n => (n, tv + uv + 4)) ++ mi.map fun n => (n, uv)) ++ it.map fun n => (n, tv))))) := (e7.trans e8).mut dm4
    have hm9 : (upd H8 dm (.dK (kvI (((bo.map fun n => (n, tv + uv + 4)) ++ mi.map fun n => (n, uv)) ++ it.map fun n => (n, tv))))) dm = _ := upd_same
    generalize upd H8 dm (.dK (kvI (((bo.map fun n => (n, tv + uv + 4)) ++ mi.map fun n => (n, uv)) ++ it.map fun n => (n, tv)))) = H9 at e9 hm9
    have E9 := E4.trans e9
    -- without(..)
    refine ⟨_, rfl, _, rfl, _, rfl, by show 2 ≤ sizeLine; decide, fun g hg => ?_⟩
    have e10 := Kp.new (F := N0) (o := .lst [V.int i, .int j]) hg
    have hg10 : (upd H9 g (.lst [V.int i, .int j])) g = some (.lst [V.int i, .int j]) := upd_same
    generalize upd H9 g (.lst [V.int i, .int j]) = H10 at e10 hg10
    have f10 := e9.trans e10
    refine ⟨_, rfl, _, rfl, _, rfl, by show 3 ≤ sizeLine; decide, fun q hqn => ?_⟩
    have e11 := Kp.new (F := N0) (o := .lst [V.ref DM, .ref DI, .ref D]) hqn
    have hq11 : (upd H10 q (.lst [V.ref DM, .ref DI, .ref D])) q = some (.lst [V.ref DM, .ref DI, .ref D]) := upd_same
    generalize upd H10 q (.lst [V.ref DM, .ref DI, .ref D]) = H11 at e11 hq11
    have f11 := f10.trans e11
    have rw11 : RowsA H11 [DM, DI, D] [mi, it, bo] := ⟨rfl, fun n l r a b => by
      match n, a, b with
      | 0, a, b => cases a; cases b; exact f11.get0 hm4
      | 1, a, b => cases a; cases b; exact f11.get0 hi4
      | 2, a, b => cases a; cases b; exact f11.get0 hb4
      | n + 3, a, b => cases a⟩
    have rr : ∀ s ∈ [mi, it, bo], s.length ≤ 7 := fun s hs => by
      simp only [List.mem_cons, List.not_mem_nil, or_false] at hs
      rcases hs with rfl | rfl | rfl <;> assumption
    refine ⟨q, [DM, DI, D], [mi, it, bo], rfl, hq11, rw11, by show 3 ≤ 7; omega, rr, fun b bs H12 e12 hb hP => ?_⟩
    have f12 := (e10.trans e11).trans e12
    have E12 := E9.trans f12
    have pb : ∀ q ∈ betweenL [mi, it, bo], 0 ≤ q.1 ∧ q.1 < q.2 ∧ q.2 < N.sz := fun q hq => by
      obtain ⟨i1, j1, hij1, r1, s1, hr1, hs1, a, ha, b, hb, rfl⟩ := betweenL_mem hq
      have bd : ∀ (n : Nat) r, [mi, it, bo][n]? = some r → ∀ x ∈ r, 0 ≤ x ∧ x < N.sz := fun n r h => by
        have hm := List.mem_of_getElem? h
        simp only [List.mem_cons, List.not_mem_nil, or_false] at hm
        rcases hm with rfl | rfl | rfl <;> assumption
      exact norm_bd (bd _ _ hr1 a ha) (bd _ _ hs1 b hb) (ap hij1 hr1 hs1 ha hb)
    refine ⟨_, rfl, p, g, b, dm, N, [i, j], bs, _, _, rfl, hpn.mono E12, ok, (e11.trans e12).get0 hg10, hb, hP, betweenL_len (by show 3 ≤ 7; omega) rr, pb, f12.get0 hm9, fun x hx => ?_, left_len2 h0 h1 h2 h3 hij hq.n, fun x N' H13 e13' hN' ok' made => ?_⟩
    · simp only [List.mem_cons, List.not_mem_nil, or_false] at hx
      rcases hx with rfl | rfl
      · exact ⟨hq.c.g, hq.c.k⟩
      · exact ⟨hq.d.g, hq.d.k⟩
    · exact k x N' H13 (E12.trans e13') hN' ok' (kk N' made)
end
end K50
end
section
set_option Elab.async false
set_option linter.all false
set_option maxRecDepth 100000
set_option maxHeartbeats 4000000
namespace K50
open PySem PySem.Spec L2
open PyProof.Rows (envOfC)
/-- a quarter that can be done, and the net behind it; the same for a pair -/
def StpQ (N : Nt) (i : Int) (N' : Nt) : Prop := 0 ≤ i ∧ i < N.sz ∧ N.Qok i ∧ QStep N i N'
def StpP (N : Nt) (i j : Int) (N' : Nt) : Prop := 0 ≤ i ∧ i < N.sz ∧ 0 ≤ j ∧ j < N.sz ∧ i ≠ j ∧ N.Pok i j ∧ PStep N i j N'
def Stp (N N' : Nt) : Prop := (∃ i, StpQ N i N') ∨ ∃ i j, StpP N i j N'
/-- a tuple that tells a step that can be done -/
def StepAt (H : Hp) (t : Addr) (N : Nt) : Prop := (∃ i, H t = some (.tup [.str "quarter", .int i]) ∧ 0 ≤ i ∧ i < N.sz ∧ N.Qok i) ∨ ∃ i j, H t = some (.tup [.str "pair", .int i, .int j]) ∧ 0 ≤ i ∧ i < N.sz ∧ 0 ≤ j ∧ j < N.sz ∧ N.Pok i j
theorem StepAt.mono {H H' : Hp} {t : Addr} {N : Nt} (e : Tp H H') (h : StepAt H t N) : StepAt H' t N := by
  rcases h with ⟨i, h, r⟩ | ⟨i, j, h, r⟩
  · exact .inl ⟨i, e _ _ sol_tup h, r⟩
  · exact .inr ⟨i, j, e _ _ sol_tup h, r⟩
theorem Nt.Pok.ne {N : Nt} (ok : N.Ok) {i j : Int} (h : N.Pok i j) : i ≠ j := by
  rcases h.e with q | q
  · have := ok.ed _ q; simp only at this; omega
  · have := ok.ed _ q; simp only at this; omega
section
variable {P : Program} {w : World} {K : PySem.W.Frag} {mg : Str → Option Value} {base : Heap}
def sp_first_step (K : PySem.W.Frag) : Sp := fun vs H Q _ => ∃ (p : Addr) (N : Nt), vs = [.ref p] ∧ NetAt K H p N ∧ N.Ok ∧ ∀ v H', Kp N0 H H' → (v = .non ∨ ∃ t, v = .ref t ∧ StepAt H' t N) → Q v H'
theorem sc_first_step : FnScope ["net", "near", "thing", "one", "other"] ["net"] (defScope s_first_step) := ⟨rfl, rfl, rfl, by decide +kernel, rfl, by decide +kernel, by decide +kernel⟩
theorem c_first_step (T : TX K mg) : C8.Cal P w K mg base 3 "first_step" (sp_first_step K) [] := by
  refine mkCal (k := 2) T.g_first_step T.d_first_step (fun _ _ _ _ _ _ us hl => match us, hl with | [_], _ => rfl) sc_first_step (fun vs H Q E h => ?_) (fun cdv A outer s H vs Q E hr h => ?_)
  · obtain ⟨p, N, rfl, _⟩ := h; rfl
  · obtain ⟨p, N, rfl, hpn, ok, kv⟩ := h
    have kn : Ret H Q .non := fun H' e => kv .non H' e (.inl rfl)
    have k : ∀ t H', Kp N0 H H' → StepAt H' t N → Q (.ref t) H' := fun t H' e h => kv _ H' e (.inr ⟨t, rfl, h⟩)
    have ⟨dx, a1, a2, a3, a4, a5, vs, ts, ob, hp⟩ := hpn
    have hn7 := ok.n7
    refine ⟨_, (pss_cons (ps_set (i := 1) sc_first_step.nd rfl (Or.inl rfl) (C8.pe_c (c_near_in T) hr (by decide) rfl (pa_cons (pv 0) pa_nil)))
      (pss_cons (ps_for PassesOwn.never rfl (pi_tup (pe_fld (pv 0) rfl)) (pg_name (i := 2) sc_first_step.nd rfl (Or.inl rfl)) (pss_one (ps_if (pt_val (C8.pe_c (c_is_quarter T) hr (by decide) rfl (pa_cons (pv 0) (pa_cons (pv 1) (pa_cons (pv 2) pa_nil))))) (pss_one (ps_ret (pe_tup (pa_cons pe_str (pa_cons (pv 2) pa_nil))))) pss_nil)))
      (pss_cons (ps_for PassesOwn.never rfl (pi_tup (pe_fld (pv 0) rfl)) (pg_tup rfl (pgs_cons (pg_name (i := 3) sc_first_step.nd rfl (Or.inl rfl)) (pgs_cons (pg_name (i := 4) sc_first_step.nd rfl (Or.inl rfl)) pgs_nil))) (pss_one (ps_if (pt_val (C8.pe_c (c_is_pair T) hr (by decide) rfl (pa_cons (pv 0) (pa_cons (pv 1) (pa_cons (pv 3) (pa_cons (pv 4) pa_nil)))))) (pss_one (ps_ret (pe_tup (pa_cons pe_str (pa_cons (pv 3) (pa_cons (pv 4) pa_nil)))))) pss_nil)))
      (pss_one (ps_ret pe_non))))), ?_⟩
    refine ⟨_, rfl, p, N, rfl, hpn, ok, fun l H1 e1 hl => ?_⟩
    have hp1 := hp.mono e1
    have hlo : ∀ x ∈ N.lo, 0 ≤ x ∧ x < N.sz := fun x hx => by
      rw [ok.lo] at hx; exact mem_rg.mp (List.mem_filter.mp hx).1
    refine ⟨_, rfl, p, _, dx, _, _, rfl, hp1.o, T.c_Net, T.n_Net_looked, fs_looked, a4, rfl, ⟨_, SqT.of hp1.h4⟩, ?_⟩
    refine for_it (walk_tup (K := K) (a := a4) (xs := N.lo.map V.int)) (fun i σ H' => (∃ o2, σ = [some (.ref p), some (.ref l), o2, none, none]) ∧ Kp N0 H1 H') ⟨⟨_, rfl⟩, Kp.refl⟩ (fun i σ H' _ h => h.2.sqt (SqT.of hp1.h4)) ?_ ?_
    · rintro i x σ _ H2 hi ⟨⟨o2, rfl⟩, e2⟩ ⟨rfl, hx⟩
      obtain ⟨n, hn, rfl⟩ := map_int_get hx
      have hb := hlo n (List.mem_of_getElem? hn)
      have E2 := e1.trans e2
      refine ⟨_, rfl, _, rfl, _, rfl, p, l, n, N, rfl, hpn.mono E2, hl.mono e2 id, ok, hb.1, hb.2, fun b hb' H3 e3 => ⟨b, rfl, ?_⟩⟩
      cases b with
      | false => exact iteF ⟨⟨_, rfl⟩, e2.trans e3⟩
      | true =>
        refine iteT ⟨_, rfl, by show 2 ≤ sizeLine; decide, fun t ht => ?_⟩
        exact k t _ ((E2.trans e3).trans (Kp.new ht)) (.inl ⟨n, upd_same, hb.1, hb.2, hb'.mp rfl⟩)
    rintro σ H2 ⟨⟨o2, rfl⟩, e2⟩
    have E2 := e1.trans e2
    have hp2 := hp.mono E2
    refine ⟨_, rfl, p, _, dx, _, _, rfl, hp2.o, T.c_Net, T.n_Net_strings, fs_strings, a1, rfl, ⟨_, SqT.of hp2.h1⟩, ?_⟩
    refine for_it (walk_tup (K := K) (a := a1) (xs := vs)) (fun i σ H' => (∃ o3 o4, σ = [some (.ref p), some (.ref l), o2, o3, o4]) ∧ Kp N0 H2 H') ⟨⟨_, _, rfl⟩, Kp.refl⟩ (fun i σ H' _ h => h.2.sqt (SqT.of hp2.h1)) ?_ ?_
    · rintro i x σ _ H3 hi ⟨⟨o3, o4, rfl⟩, e3⟩ ⟨rfl, hx⟩
      obtain ⟨q, hq, c, rfl, hc⟩ := (hp2.r1.mono e3.tp).get hx
      have hb := ok.ed q (List.mem_of_getElem? hq)
      have E3 := E2.trans e3
      refine ⟨c, _, rfl, SqT.of hc, rfl, .int q.1, _, rfl, .int q.2, _, rfl, rfl, ?_⟩
      refine ⟨_, rfl, _, rfl, _, rfl, _, rfl, p, l, q.1, q.2, N, rfl, hpn.mono E3, (hl.mono e2 id).mono e3 id, ok, by omega, by omega, by omega, by omega, fun b hb' H4 e4 => ⟨b, rfl, ?_⟩⟩
      cases b with
      | false => exact iteF ⟨⟨_, _, rfl⟩, e3.trans e4⟩
      | true =>
        refine iteT ⟨_, rfl, _, rfl, by show 3 ≤ sizeLine; decide, fun t ht => ?_⟩
        exact k t _ ((E3.trans e4).trans (Kp.new ht)) (.inr ⟨q.1, q.2, upd_same, by omega, by omega, by omega, by omega, hb'.mp rfl⟩)
    rintro σ H3 ⟨⟨o3, o4, rfl⟩, e3⟩
    exact kn _ (E2.trans e3)
def sp_behind_step (K : PySem.W.Frag) : Sp := fun vs H Q _ => ∃ (p t : Addr) (N : Nt), vs = [.ref p, .ref t] ∧ NetAt K H p N ∧ N.Ok ∧ StepAt H t N ∧ ∀ x N' H', Kp N0 H H' → NetAt K H' x N' → N'.Ok → Stp N N' → Q (.ref x) H'
theorem sc_behind_step : FnScope ["net", "step", "near"] ["net", "step"] (defScope s_behind_step) := ⟨rfl, rfl, rfl, by decide +kernel, rfl, by decide +kernel, by decide +kernel⟩
theorem c_behind_step (T : TX K mg) : C8.Cal P w K mg base 11 "behind_step" (sp_behind_step K) [] := by
  refine mkCal (k := 10) T.g_behind_step T.d_behind_step (fun _ _ _ _ _ _ us hl => match us, hl with | [_, _], _ => rfl) sc_behind_step (fun vs H Q E h => ?_) (fun cdv A outer s H vs Q E hr h => ?_)
  · obtain ⟨p, t, N, rfl, _⟩ := h; rfl
  · obtain ⟨p, t, N, rfl, hpn, ok, hst, k⟩ := h
    refine ⟨_, (pss_cons (ps_set (i := 2) sc_behind_step.nd rfl (Or.inl rfl) (C8.pe_c (c_near_in T) hr (by decide) rfl (pa_cons (pv 0) pa_nil)))
      (pss_one (ps_ret (pe_ifExp (pt_cmpR op_eq (pe_ix ix_tup (pv 1) pe_int (fun _ _ => rfl)) pe_str (nomark _)) (C8.pe_c (c_quarter_in T) hr (by decide) rfl (pa_cons (pv 0) (pa_cons (pv 2) (pa_cons (pe_ix ix_tup (pv 1) pe_int (fun _ _ => rfl)) pa_nil)))) (C8.pe_c (c_pair_in T) hr (by decide) rfl (pa_cons (pv 0) (pa_cons (pv 2) (pa_cons (pe_ix ix_tup (pv 1) pe_int (fun _ _ => rfl)) (pa_cons (pe_ix ix_tup (pv 1) pe_int (fun _ _ => rfl)) pa_nil))))))))), ?_⟩
    refine ⟨_, rfl, p, N, rfl, hpn, ok, fun l H1 e1 hl => ?_⟩
    rcases hst.mono e1.tp with ⟨i, ht, h0, h1, hq⟩ | ⟨i, j, ht, h0, h1, h2, h3, hq⟩
    · refine ⟨_, rfl, t, _, _, _, rfl, rfl, SqT.of ht, rfl, rfl, _, rfl, ?_⟩
      refine iteT ⟨_, rfl, _, rfl, _, rfl, t, _, _, _, rfl, rfl, SqT.of ht, rfl, p, l, i, N, rfl, hpn.mono e1, hl, ok, h0, h1, hq, fun x N' H' e hN ok' st => ?_⟩
      exact k x N' H' (e1.trans e) hN ok' (.inl ⟨i, h0, h1, hq, st⟩)
    · refine ⟨_, rfl, t, _, _, _, rfl, rfl, SqT.of ht, rfl, rfl, _, rfl, ?_⟩
      refine iteF ⟨_, rfl, _, rfl, _, rfl, t, _, _, _, rfl, rfl, SqT.of ht, rfl, _, rfl, t, _, _, _, rfl, rfl, SqT.of ht, rfl, p, l, i, j, N, rfl, hpn.mono e1, hl, ok, h0, h1, h2, h3, hq.ne ok, hq, fun x N' H' e hN ok' st => ?_⟩
      exact k x N' H' (e1.trans e) hN ok' (.inr ⟨i, j, h0, h1, h2, h3, hq.ne ok, hq, st⟩)
def sp_may_quarter (K : PySem.W.Frag) : Sp := fun vs H Q _ => ∃ (p : Addr) (i : Int) (N : Nt), vs = [.ref p, .int i] ∧ NetAt K H p N ∧ N.Ok ∧ 0 ≤ i ∧ i < N.sz ∧ ∀ b, (b = true ↔ N.Qok i) → Ret H Q (.bl b)
theorem sc_may_quarter : FnScope ["net", "thing"] ["net", "thing"] (defScope s_may_quarter) := ⟨rfl, rfl, rfl, by decide +kernel, rfl, by decide +kernel, by decide +kernel⟩
theorem c_may_quarter (T : TX K mg) : C8.Cal P w K mg base 5 "may_quarter" (sp_may_quarter K) [] := by
  refine mkCal (k := 4) T.g_may_quarter T.d_may_quarter (fun _ _ _ _ _ _ us hl => match us, hl with | [_, _], _ => rfl) sc_may_quarter (fun vs H Q E h => ?_) (fun cdv A outer s H vs Q E hr h => ?_)
  · obtain ⟨p, i, N, rfl, _⟩ := h; rfl
  · obtain ⟨p, i, N, rfl, hpn, ok, h0, h1, k⟩ := h
    have ⟨dx, a1, a2, a3, a4, a5, vs, ts, ob, hp⟩ := hpn
    refine ⟨_, (pss_cons (ps_expr (C8.pe_c (c_need_net T) hr (by decide) rfl (pa_cons (pv 0) (pa_cons pe_str pa_nil))))
      (pss_cons (ps_expr (C8.pe_c (c_need_thing T) hr (by decide) rfl (pa_cons (pv 0) (pa_cons (pv 1) (pa_cons pe_str pa_nil)))))
      (pss_one (ps_ret (C8.pe_c (c_is_quarter T) hr (by decide) rfl (pa_cons (pv 0) (pa_cons (C8.pe_c (c_near_in T) hr (by decide) rfl (pa_cons (pv 0) pa_nil)) (pa_cons (pv 1) pa_nil)))))))), ?_⟩
    refine ⟨_, rfl, p, dx, _, _, rfl, hp.o, fun H1 e1 => ⟨_, rfl, _, rfl, p, N, i, _, rfl, hpn.mono e1, h0, h1, fun H2 e2 => ?_⟩⟩
    have e12 := e1.trans e2
    refine ⟨_, rfl, _, rfl, p, N, rfl, hpn.mono e12, ok, fun l H3 e3 hl => ?_⟩
    exact ⟨_, rfl, p, l, i, N, rfl, hpn.mono (e12.trans e3), hl, ok, h0, h1, fun b hb H4 e4 => k b hb _ ((e12.trans e3).trans e4)⟩
def sp_may_pair (K : PySem.W.Frag) : Sp := fun vs H Q _ => ∃ (p : Addr) (i j : Int) (N : Nt), vs = [.ref p, .int i, .int j] ∧ NetAt K H p N ∧ N.Ok ∧ 0 ≤ i ∧ i < N.sz ∧ 0 ≤ j ∧ j < N.sz ∧ ∀ b, (b = true ↔ N.Pok i j) → Ret H Q (.bl b)
theorem sc_may_pair : FnScope ["net", "one", "other"] ["net", "one", "other"] (defScope s_may_pair) := ⟨rfl, rfl, rfl, by decide +kernel, rfl, by decide +kernel, by decide +kernel⟩
theorem c_may_pair (T : TX K mg) : C8.Cal P w K mg base 5 "may_pair" (sp_may_pair K) [] := by
  refine mkCal (k := 4) T.g_may_pair T.d_may_pair (fun _ _ _ _ _ _ us hl => match us, hl with | [_, _, _], _ => rfl) sc_may_pair (fun vs H Q E h => ?_) (fun cdv A outer s H vs Q E hr h => ?_)
  · obtain ⟨p, i, j, N, rfl, _⟩ := h; rfl
  · obtain ⟨p, i, j, N, rfl, hpn, ok, h0, h1, h2, h3, k⟩ := h
    have ⟨dx, a1, a2, a3, a4, a5, vs, ts, ob, hp⟩ := hpn
    refine ⟨_, (pss_cons (ps_expr (C8.pe_c (c_need_net T) hr (by decide) rfl (pa_cons (pv 0) (pa_cons pe_str pa_nil))))
      (pss_cons (ps_expr (C8.pe_c (c_need_thing T) hr (by decide) rfl (pa_cons (pv 0) (pa_cons (pv 1) (pa_cons pe_str pa_nil)))))
      (pss_cons (ps_expr (C8.pe_c (c_need_thing T) hr (by decide) rfl (pa_cons (pv 0) (pa_cons (pv 2) (pa_cons pe_str pa_nil)))))
      (pss_one (ps_ret (C8.pe_c (c_is_pair T) hr (by decide) rfl (pa_cons (pv 0) (pa_cons (C8.pe_c (c_near_in T) hr (by decide) rfl (pa_cons (pv 0) pa_nil)) (pa_cons (pv 1) (pa_cons (pv 2) pa_nil)))))))))), ?_⟩
    refine ⟨_, rfl, p, dx, _, _, rfl, hp.o, fun H1 e1 => ⟨_, rfl, _, rfl, p, N, i, _, rfl, hpn.mono e1, h0, h1, fun H2 e2 => ?_⟩⟩
    have e12 := e1.trans e2
    refine ⟨_, rfl, _, rfl, p, N, j, _, rfl, hpn.mono e12, h2, h3, fun H3 e3 => ?_⟩
    have e13 := e12.trans e3
    refine ⟨_, rfl, _, rfl, p, N, rfl, hpn.mono e13, ok, fun l H4 e4 hl => ?_⟩
    exact ⟨_, rfl, _, rfl, p, l, i, j, N, rfl, hpn.mono (e13.trans e4), hl, ok, h0, h1, h2, h3, fun b hb H5 e5 => k b hb _ ((e13.trans e4).trans e5)⟩
def sp_quarter (K : PySem.W.Frag) : Sp := fun vs H Q _ => ∃ (p : Addr) (i : Int) (N : Nt), vs = [.ref p, .int i] ∧ NetAt K H p N ∧ N.Ok ∧ 0 ≤ i ∧ i < N.sz ∧ N.Qok i ∧ ∀ x N' H', Kp N0 H H' → NetAt K H' x N' → N'.Ok → Stp N N' → Q (.ref x) H'
theorem sc_quarter : FnScope ["net", "thing"] ["net", "thing"] (defScope s_quarter) := ⟨rfl, rfl, rfl, by decide +kernel, rfl, by decide +kernel, by decide +kernel⟩
theorem c_quarter (T : TX K mg) : C8.Cal P w K mg base 11 "quarter" (sp_quarter K) [] := by
  refine mkCal (k := 10) T.g_quarter T.d_quarter (fun _ _ _ _ _ _ us hl => match us, hl with | [_, _], _ => rfl) sc_quarter (fun vs H Q E h => ?_) (fun cdv A outer s H vs Q E hr h => ?_)
  · obtain ⟨p, i, N, rfl, _⟩ := h; rfl
  · obtain ⟨p, i, N, rfl, hpn, ok, h0, h1, hq, k⟩ := h
    refine ⟨_, (pss_cons (ps_if (pt_not (pt_val (C8.pe_c (c_may_quarter T) hr (by decide) rfl (pa_cons (pv 0) (pa_cons (pv 1) pa_nil))))) (pss_one ps_never) pss_nil)
      (pss_one (ps_ret (C8.pe_c (c_quarter_in T) hr (by decide) rfl (pa_cons (pv 0) (pa_cons (C8.pe_c (c_near_in T) hr (by decide) rfl (pa_cons (pv 0) pa_nil)) (pa_cons (pv 1) pa_nil))))))), ?_⟩
    refine ⟨_, rfl, _, rfl, p, i, N, rfl, hpn, ok, h0, h1, fun b hb H1 e1 => ⟨b, rfl, ?_⟩⟩
    obtain rfl : b = true := hb.mpr hq
    refine iteF ⟨_, rfl, _, rfl, p, N, rfl, hpn.mono e1, ok, fun l H2 e2 hl => ?_⟩
    refine ⟨_, rfl, p, l, i, N, rfl, hpn.mono (e1.trans e2), hl, ok, h0, h1, hq, fun x N' H' e hN ok' st => ?_⟩
    exact k x N' H' ((e1.trans e2).trans e) hN ok' (.inl ⟨i, h0, h1, hq, st⟩)
def sp_pair (K : PySem.W.Frag) : Sp := fun vs H Q _ => ∃ (p : Addr) (i j : Int) (N : Nt), vs = [.ref p, .int i, .int j] ∧ NetAt K H p N ∧ N.Ok ∧ 0 ≤ i ∧ i < N.sz ∧ 0 ≤ j ∧ j < N.sz ∧ N.Pok i j ∧ ∀ x N' H', Kp N0 H H' → NetAt K H' x N' → N'.Ok → Stp N N' → Q (.ref x) H'
theorem sc_pair : FnScope ["net", "one", "other"] ["net", "one", "other"] (defScope s_pair) := ⟨rfl, rfl, rfl, by decide +kernel, rfl, by decide +kernel, by decide +kernel⟩
theorem c_pair (T : TX K mg) : C8.Cal P w K mg base 11 "pair" (sp_pair K) [] := by
  refine mkCal (k := 10) T.g_pair T.d_pair (fun _ _ _ _ _ _ us hl => match us, hl with | [_, _, _], _ => rfl) sc_pair (fun vs H Q E h => ?_) (fun cdv A outer s H vs Q E hr h => ?_)
  · obtain ⟨p, i, j, N, rfl, _⟩ := h; rfl
  · obtain ⟨p, i, j, N, rfl, hpn, ok, h0, h1, h2, h3, hq, k⟩ := h
    refine ⟨_, (pss_cons (ps_if (pt_not (pt_val (C8.pe_c (c_may_pair T) hr (by decide) rfl (pa_cons (pv 0) (pa_cons (pv 1) (pa_cons (pv 2) pa_nil)))))) (pss_one ps_never) pss_nil)
      (pss_one (ps_ret (C8.pe_c (c_pair_in T) hr (by decide) rfl (pa_cons (pv 0) (pa_cons (C8.pe_c (c_near_in T) hr (by decide) rfl (pa_cons (pv 0) pa_nil)) (pa_cons (pv 1) (pa_cons (pv 2) pa_nil)))))))), ?_⟩
    refine ⟨_, rfl, _, rfl, _, rfl, p, i, j, N, rfl, hpn, ok, h0, h1, h2, h3, fun b hb H1 e1 => ⟨b, rfl, ?_⟩⟩
    obtain rfl : b = true := hb.mpr hq
    refine iteF ⟨_, rfl, _, rfl, p, N, rfl, hpn.mono e1, ok, fun l H2 e2 hl => ?_⟩
    refine ⟨_, rfl, _, rfl, p, l, i, j, N, rfl, hpn.mono (e1.trans e2), hl, ok, h0, h1, h2, h3, hq.ne ok, hq, fun x N' H' e hN ok' st => ?_⟩
    exact k x N' H' ((e1.trans e2).trans e) hN ok' (.inr ⟨i, j, h0, h1, h2, h3, hq.ne ok, hq, st⟩)
end
end K50
end
section
set_option Elab.async false
set_option linter.all false
set_option maxRecDepth 100000
set_option maxHeartbeats 4000000
namespace K50
open PySem PySem.Spec L2
open PyProof.Rows (envOfC)
/-- what stays as it is -/
inductive Atm (K : PySem.W.Frag) (H : Hp) : V → Prop
  | int (i : Int) : Atm K H (.int i)
  | str (s : Str) : Atm K H (.str s)
  | net {p dx : Addr} {fs : List (Str × V)} (h : H p = some (.ins (NetC K) dx fs)) : Atm K H (.ref p)
inductive FxIn (K : PySem.W.Frag) (H : Hp) : Nat → V → Prop
  | atm {n : Nat} {v : V} (h : Atm K H v) : FxIn K H n v
  | seq {n : Nat} {a : Addr} {xs : List V} (h : LT H a xs) (l : xs.length < 1000) (k : ∀ x ∈ xs, FxIn K H n x) : FxIn K H (n + 1) (.ref a)
theorem Atm.mono {K : PySem.W.Frag} {H H' : Hp} {v : V} (e : Kp N0 H H') (h : Atm K H v) : Atm K H' v := by
  cases h with
  | int i => exact .int i
  | str s => exact .str s
  | net h => exact .net (e.get0 h)
theorem FxIn.mono {K : PySem.W.Frag} {H H' : Hp} {v : V} (e : Kp N0 H H') : ∀ {n : Nat}, FxIn K H n v → FxIn K H' n v := by
  intro n
  induction n generalizing v with
  | zero => intro h; cases h with | atm h => exact .atm (h.mono e)
  | succ n ih =>
    intro h
    cases h with
    | atm h => exact .atm (h.mono e)
    | seq h l k => exact .seq (h.mono e id) l fun x hx => ih (k x hx)
theorem Atm.kit {K : PySem.W.Frag} {mg : Str → Option Value} (T : TX K mg) {H : Hp} {v : V} (h : Atm K H v) : ∃ t, TyX K H v t ∧ PySem.W.kitAny K t [.type "list", .type "tuple"] = some false := by
  cases h with
  | int i => exact ⟨_, .base (.int i), kitAny_cons (kit_ty (by decide +kernel : kitB "int" "list" = some false)) (fun _ => kitAny_cons (kit_ty (by decide +kernel : kitB "int" "tuple" = some false)) (fun _ => rfl) fun z => nomatch z) fun z => nomatch z⟩
  | str s => exact ⟨_, .base (.str s), kitAny_cons (kit_ty (by decide +kernel : kitB "str" "list" = some false)) (fun _ => kitAny_cons (kit_ty (by decide +kernel : kitB "str" "tuple" = some false)) (fun _ => rfl) fun z => nomatch z) fun z => nomatch z⟩
  | net h => exact ⟨_, T.tyNet h, T.kitNet⟩
theorem Atm.noSeq {K : PySem.W.Frag} {H : Hp} {a : Addr} {xs : List V} (h : Atm K H (.ref a)) (l : LT H a xs) : False := by
  cases h with
  | net h => rcases l with l | l <;> · rw [h] at l; cases l
/-- what fixed gives -/
def FxOut (K : PySem.W.Frag) (H : Hp) (v v' : V) (H' : Hp) : Prop := (Atm K H v → v' = v) ∧ ∀ a xs, v = .ref a → LT H a xs → ∃ t ys, v' = .ref t ∧ H' t = some (.tup ys) ∧ ys.length = xs.length ∧ ∀ (i : Nat) x, xs[i]? = some x → Atm K H x → ys[i]? = some x
section
variable {P : Program} {w : World} {K : PySem.W.Frag} {mg : Str → Option Value} {base : Heap}
def sp_fixed (K : PySem.W.Frag) (n : Nat) : Sp := fun vs H Q _ => ∃ v, vs = [v] ∧ FxIn K H n v ∧ ∀ v' H', Kp N0 H H' → FxOut K H v v' H' → Q v' H'
/-- a promise that asks what cannot be -/
def sp_none : Sp := fun _ _ _ _ => False
theorem sc_fixed : FnScope ["value", "each"] ["value"] (defScope s_fixed) := ⟨rfl, rfl, rfl, by decide +kernel, rfl, by decide +kernel, by decide +kernel⟩
theorem c_fixed0 (T : TX K mg) : C8.Cal P w K mg base 1 "fixed" sp_none [] :=
  mkCal (k := 0) T.g_fixed T.d_fixed (fun _ _ _ _ _ _ us hl => match us, hl with | [_], _ => rfl) sc_fixed (fun vs H Q E h => h.elim) fun cdv A outer s H vs Q E hr h => h.elim
theorem fixed_step (T : TX K mg) {k n : Nat} {sp : Sp} (C : C8.Cal P w K mg base k "fixed" sp []) (hC : ∀ m, n = m + 1 → sp = sp_fixed K m) : C8.Cal P w K mg base (k + 1) "fixed" (sp_fixed K n) [] := by
  refine mkCal (k := k) T.g_fixed T.d_fixed (fun _ _ _ _ _ _ us hl => match us, hl with | [_], _ => rfl) sc_fixed (fun vs H Q E h => ?_) (fun cdv A outer s H vs Q E hr h => ?_)
  · obtain ⟨v, rfl, _⟩ := h; rfl
  · obtain ⟨v, rfl, hv, kk⟩ := h
    refine ⟨_, (pss_one (ps_ret (pe_ifExp (pt_val (pe_callB call_isiT (by rfl) T.f_isinstance (by decide +kernel) (pa_cons (pv 0) (pa_cons (pe_tup (pa_cons (pe_bltn (v := .ty "list") (u := .type "list") (by rfl) T.f_list (by decide +kernel) rfl) (pa_cons (pe_bltn (v := .ty "tuple") (u := .type "tuple") (by rfl) T.f_tuple (by decide +kernel) rfl) pa_nil))) pa_nil)))) (pe_callTy call_tuple_of (by rfl) T.f_tuple (by decide +kernel) (pa_cons (pe_lc (own := [("each", 1)]) (by rfl) sc_fixed.nd (pi_or (pi_list (pv 0)) (pi_tup (pv 0))) (blkOk_by (N := ["value", "each"]) (sc := defScope s_fixed) (own := [("each", 1)]) (by decide +kernel)) (fun _ _ _ _ _ => (pg_name (i := 1) sc_fixed.nd rfl (Or.inl rfl))) (fun _ _ _ _ _ => pts_nil) (fun _ _ _ _ _ => (C8.pe_c C hr (Nat.le_refl _) rfl (pa_cons (pv 1) pa_nil)))) pa_nil)) (pv 0)))), ?_⟩
    refine ⟨_, rfl, by show 2 ≤ sizeLine; decide, fun p hp => ?_⟩
    have e1 := Kp.new (F := N0) (o := .tup [V.ty "list", V.ty "tuple"]) hp
    have h1 : (upd H p (.tup [V.ty "list", V.ty "tuple"])) p = _ := upd_same
    generalize upd H p (.tup [V.ty "list", V.ty "tuple"]) = H1 at e1 h1
    cases hv with
    | atm ha =>
      obtain ⟨t, ht, hk⟩ := (ha.mono e1).kit T
      refine ⟨_, p, _, t, _, false, rfl, h1, cls2, ht, hk, false, rfl, iteF ⟨_, rfl, ?_⟩⟩
      exact kk v H1 e1 ⟨fun _ => rfl, fun a xs e l => by subst e; exact (ha.noSeq l).elim⟩
    | @seq m a xs hl hlen hx =>
      obtain rfl := hC m rfl
      have hl1 := hl.mono e1 id
      obtain ⟨t, ht, hk⟩ := hl1.kit (K := K)
      refine ⟨_, p, _, t, _, true, rfl, h1, cls2, ht, hk, true, rfl, iteT ?_⟩
      refine iLT_of rfl hl1 fun J G wJ hG D hD => ?_
      refine lcW wJ N0 (fun i ys _ => ys.length = i ∧ ∀ (j : Nat) x, j < i → xs[j]? = some x → Atm K H x → ys[j]? = some x) hD id (by omega) (fun H' e => hG _ _ id e) (fun _ _ => ⟨rfl, fun j x h => by omega⟩) (fun _ _ _ _ _ h => h) ?_ ?_
      · rintro i x ys H2 _ Zy Zn hi ⟨rfl, hxx⟩ e2 hy ⟨r1, r2⟩ _ hZ _
        refine ⟨rfl, yesT ⟨_, rfl, x, rfl, (hx x (List.mem_of_getElem? hxx)).mono (e1.trans e2), fun v' H' e' out => hZ _ _ e' ⟨by simp [r1], fun j y hj hy' ha => ?_⟩⟩⟩
        rw [List.getElem?_append]
        by_cases hji : j < ys.length
        · rw [if_pos hji]; exact r2 j y (by omega) hy' ha
        · rw [if_neg hji]
          have : j = i := by omega
          subst this
          rw [hxx] at hy'
          cases hy'
          rw [r1, Nat.sub_self, out.1 (ha.mono (e1.trans e2))]; rfl
      · rintro ys H2 e2 hy ⟨r1, r2⟩
        refine ⟨D, _, rfl, .inl ⟨SqL.of hy, fun q hq => ?_⟩⟩
        refine kk (.ref q) _ ((e1.trans e2).trans (Kp.new hq)) ⟨fun ha => (ha.noSeq hl).elim, fun a' xs' e l => ?_⟩
        cases e
        obtain rfl : xs' = xs := by
          rcases hl with h | h <;> rcases l with l | l <;> · rw [h] at l; cases l <;> rfl
        exact ⟨q, ys, rfl, upd_same, r1, fun i x hi ha => r2 i x (List.getElem?_eq_some_iff.mp hi).1 hi ha⟩
theorem c_fixedN (T : TX K mg) : ∀ n, C8.Cal P w K mg base (n + 2) "fixed" (sp_fixed K n) []
  | 0 => fixed_step T (c_fixed0 T) fun m h => by omega
  | n + 1 => fixed_step T (c_fixedN T n) fun m h => by cases h; rfl
theorem c_fixed (T : TX K mg) : C8.Cal P w K mg base 5 "fixed" (sp_fixed K 3) [] := c_fixedN T 3
end
end K50
end
section
set_option Elab.async false
set_option linter.all false
set_option maxRecDepth 100000
set_option maxHeartbeats 4000000
namespace K50
open PySem PySem.Spec L2
open PyProof.Rows (envOfC)
abbrev LesC (K : PySem.W.Frag) : Addr := He.ga K "Lesser"
def lg1 (v : V) : List (Str × V) := [("word", v)]
def lg2 (v x : V) : List (Str × V) := [("word", v), ("parts", x)]
def lg3 (v x y : V) : List (Str × V) := [("word", v), ("parts", x), ("steps", y)]
def lg4 (v x y z : V) : List (Str × V) := [("word", v), ("parts", x), ("steps", y), ("net", z)]
theorem lf1 {v : V} : putF "word" v [] = lg1 v := rfl
theorem lf2 {v x : V} : putF "parts" v (lg1 x) = lg2 x v := by
  unfold lg1 lg2; rw [putF_ne (by decide +kernel)]; rfl
theorem lf3 {v x y : V} : putF "steps" v (lg2 x y) = lg3 x y v := by
  unfold lg2 lg3; rw [putF_ne (by decide +kernel), putF_ne (by decide +kernel)]; rfl
theorem lf4 {v x y z : V} : putF "net" v (lg3 x y z) = lg4 x y z v := by
  unfold lg3 lg4; rw [putF_ne (by decide +kernel), putF_ne (by decide +kernel), putF_ne (by decide +kernel)]; rfl
theorem lk_parts {x y : V} : (lg2 x y).lookup ("parts" : Str) = some y := by unfold lg2; rw [lk_tl (by decide +kernel)]; exact lk_hd
theorem lk_net {x y z v : V} : (lg4 x y z v).lookup ("net" : Str) = some v := by
  unfold lg4; rw [lk_tl (by decide +kernel), lk_tl (by decide +kernel), lk_tl (by decide +kernel)]; exact lk_hd
section
variable {P : Program} {w : World} {K : PySem.W.Frag} {mg : Str → Option Value} {base : Heap}
def sp_PaperB (K : PySem.W.Frag) : Sp := fun vs H Q _ => ∃ (x dx p : Addr) (s : Str) (sa na : V), vs = [.ref x, .str s, .ref p] ∧ H x = some (.ins (LesC K) dx []) ∧ H p = some (.tup [sa, na]) ∧ (∀ H', Kp (fun a => a = x) H H' → FxIn K H' 3 (.ref p) ∧ Atm K H' na) ∧
  ∀ t y H', Kp (fun a => a = x) H H' → H' x = some (.ins (LesC K) dx (lg2 (.str s) (.ref t))) → H' t = some (.tup [y, na]) → Q .non H'
/-- Paper.__init__ takes (self, word, *parts) -/
def sp_Paper (K : PySem.W.Frag) : Sp := fun vs H Q E => ∃ ws rest, vs = ws ++ rest ∧ ws.length = 2 ∧ rest.length ≤ sizeLine ∧ ∀ p, H p = none → sp_PaperB K (ws ++ [.ref p]) (upd H p (.tup rest)) Q E
theorem sc_Paper_init : FnScope ["self", "word", "parts"] ["self", "word", "parts"] (defScope s_Paper_init) := ⟨rfl, rfl, rfl, by decide +kernel, rfl, by decide +kernel, by decide +kernel⟩
theorem r_Paper (T : TX K mg) : FnR P w K mg base C8.CX0 6 (He.ma K (He.ga K "Paper") "__init__") (sp_Paper K) := by
  obtain ⟨fd, F⟩ := T.d_Paper_init
  obtain ⟨oc, od, dV, kV, doc, pm, an, cdv, ct, osl, rfl, lk, hcd, hdv, _⟩ := F.ex
  have hdv : dV = .none := by simpa [DflV] using hdv
  subst hdv
  refine StX.fn_star (ps := ["self", "word"]) (pv := "parts") (N := ["self", "word", "parts"]) lk hcd sc_Paper_init StX.cxUp_none (StX.bind_star2 (B := fun us => bindArgs (PySem.W.fnOf "__init__" "Paper.__init__" (defArgs s_Paper_init) (defBody s_Paper_init) (defScope s_Paper_init) .none kV doc pm an cdv ct) ⟨us, []⟩) (p1 := "self") (p2 := "word") (pv := "parts") (fun _ _ => rfl) fun _ _ _ _ => rfl) fun A outer s0 H vs Q E hr h => ?_
  obtain ⟨x, dx, p, sw, sa, na, rfl, hx, hp, hin, k⟩ := h
  suffices hq : ∃ u, PSs (cxOf CX0 P w K mg base ["self", "word", "parts"] "Paper.__init__" (defScope s_Paper_init) (He.ma K (He.ga K "Paper") "__init__") cdv A outer s0 H E).nox (defBody s_Paper_init) u ∧ u { nx := fun _ H' => Q .non H', rt := Q } (start ["self", "word", "parts"] [.ref x, .str sw, .ref p]) H by
    obtain ⟨u, h1, h2⟩ := hq
    exact ⟨u, h1.nox, h2⟩
  refine ⟨_, (pss_cons (ps_fld (pv 0) (pv 1) rfl)
      (pss_one (ps_fld (pv 0) (C8.pe_c (c_fixed T) hr (by decide) rfl (pa_cons (pv 2) pa_nil)) rfl))), ?_⟩
  refine ⟨_, rfl, _, rfl, x, _, dx, _, rfl, hx, T.c_Lesser, T.n_Lesser_word, by decide, ?_⟩
  rw [lf1]
  have x2 : (upd H x (.ins (LesC K) dx (lg1 (.str sw)))) x = _ := upd_same
  have e2 : Kp (fun a => a = x) H (upd H x (.ins (LesC K) dx (lg1 (.str sw)))) := Kp.at1 hx sol_ins
  generalize upd H x (.ins (LesC K) dx (lg1 (.str sw))) = H2 at x2 e2
  obtain ⟨hin2, hna2⟩ := hin H2 e2
  refine ⟨_, rfl, .ref p, rfl, hin2, fun v' H3 e3 out => ?_⟩
  obtain ⟨t, ys, rfl, ht, hl, hy⟩ := out.2 p _ rfl (.inr (e2.t _ _ hp))
  have x3 := e3.get0 x2
  refine ⟨_, rfl, x, _, dx, _, rfl, x3, T.c_Lesser, T.n_Lesser_parts, by show 1 < 1000; decide, ?_⟩
  rw [lf2]
  have x4 : (upd H3 x (.ins (LesC K) dx (lg2 (.str sw) (.ref t)))) x = _ := upd_same
  have e4 : Kp (fun a => a = x) H3 (upd H3 x (.ins (LesC K) dx (lg2 (.str sw) (.ref t)))) := Kp.at1 x3 sol_ins
  have h1 := hy 1 na rfl hna2
  match ys, hl, h1 with
  | [y, z], _, h1 =>
    cases h1
    exact k t y _ ((e2.trans e3.weak).trans e4) x4 (e4.t _ _ ht)
end
end K50
end
section
set_option Elab.async false
set_option linter.all false
set_option maxRecDepth 100000
set_option maxHeartbeats 4000000
/-! Lesser(steps, net): its __init__ asks super() -/
namespace K50
open PySem PySem.Spec L2
open PyProof.Rows (envOfC)
/-- o.f as a target -/
def gFld (K : PySem.W.Frag) (ta : TE) (f : Str) : TG := fun v σ H Q => ta σ H fun x H1 => ∃ a C dx fs, x = .ref a ∧ H1 a = some (.ins C dx fs) ∧ Cls K C ∧ NoAttr K C f ∧ fs.length < 1000 ∧ Q σ (upd H1 a (.ins C dx (putF f v fs)))
theorem pg_fld {X : Cx} {o : Expr} {f : Str} {pos : Pos} {ta : TE} (ho : PE X o ta) : PG X (.Attribute o f pos) (gFld X.K ta f) := by
  refine ⟨fun pins s σ H v u Q I rv h => ?_⟩
  rw [assign_Attribute]
  refine wpAny_bind (wpAny_holding (thn (ho.run pins s σ H _ I h) fun ov s1 ⟨x, H1, I1, rx, a, C, dx, fs, ex, ha, hc, hn, hl, q⟩ => ?_))
  subst ex
  obtain rfl : ov = Value.ref a := rx
  refine wpAny_bind (wpAny_standAt (wpAny_bind (wpAny_holding (setattr_ok I1 ha hc hn hl rv fun s2 I2 => ?_))))
  exact wpAny_release ⟨σ, _, I2, q⟩
/-- the function of Lesser.__init__ -/
theorem TX.lesFn {K : PySem.W.Frag} {mg : Str → Option Value} (T : TX K mg) : ∃ (oc kwd doc pm ct cl ccl : Value) (od cld cdd an : Option Addr) (osl csl ccs : Array (Option Value)) (cc cda : Addr) (vs : Array Value) (file : Str) (tf : Tok),
    K.lookup (lesI K) = some ⟨oc, od, .func (PySem.W.fnX "__init__" "Lesser.__init__" (defArgs s_Lesser_init) (defBody s_Lesser_init) (defScope s_Lesser_init) [("__class__", cc)] .none kwd doc pm an (.ref cda) ct), osl⟩ ∧
    PySem.W.codeIn K (.ref cda) "Lesser.__init__" = true ∧ K.lookup cc = some ⟨cl, cld, .cell (some (.ref (LesC K))), csl⟩ ∧ K.lookup cda = some ⟨ccl, cdd, .fields vs, ccs⟩ ∧ vs[2]? = some (.str file tf) ∧ (PW.main.file == file) = true := by
  have hl := T.les
  have hb := T.lesB
  unfold lesF at hl
  unfold K50.lesB at hb
  cases e : K.lookup (lesI K) with
  | none => rw [e] at hl; cases hl
  | some o =>
    obtain ⟨oc, od, dt, osl⟩ := o
    rw [e] at hl hb
    cases dt with
    | func fd =>
      obtain ⟨name, qual, params, body, scope, globals, closure, dfl, kwd, doc, pm, an, code, ct, blt⟩ := fd
      simp only [lesV, Option.some.injEq, Prod.mk.injEq] at hl
      obtain ⟨rfl, rfl, rfl, rfl, rfl, rfl, hcl, rfl⟩ := hl
      obtain ⟨h1, h2⟩ := He.ba hb
      obtain ⟨h2, h3⟩ := He.ba h2
      obtain ⟨h3, h4⟩ := He.ba h3
      cases code with
      | ref cda =>
        cases dfl with
        | none =>
          match closure, hcl, h3 with
          | [(y, cc)], hcl, h3 =>
            obtain rfl : y = "__class__" := by simpa using hcl
            simp only at h3 h4
            cases e1 : K.lookup cc with
            | none => rw [e1] at h3; cases h3
            | some o1 =>
              obtain ⟨cl, cld, dt1, csl⟩ := o1
              rw [e1] at h3
              cases dt1 with
              | cell v =>
                cases v with
                | none => cases h3
                | some v =>
                  cases v with
                  | ref D =>
                    obtain rfl : D = LesC K := of_decide_eq_true h3
                    cases e2 : K.lookup cda with
                    | none => rw [e2] at h4; cases h4
                    | some o2 =>
                      obtain ⟨ccl, cdd, dt2, ccs⟩ := o2
                      rw [e2] at h4
                      cases dt2 with
                      | fields vs =>
                        simp only at h4
                        cases e3 : (vs[2]? : Option Value) with
                        | none => rw [e3] at h4; cases h4
                        | some u =>
                          rw [e3] at h4
                          cases u with
                          | str file tf => exact ⟨oc, kwd, doc, pm, ct, cl, ccl, od, cld, cdd, an, osl, csl, ccs, cc, cda, vs, file, tf, rfl, h1, e1, e2, e3, h4⟩
                          | _ => cases h4
                      | _ => cases h4
                  | _ => cases h3
              | _ => cases h3
        | _ => cases h2
      | _ => cases h4
    | _ => cases hl
theorem lk_one {y z : Str} {c d : Addr} (h : List.lookup y [(z, c)] = some d) : y = z ∧ c = d := by
  by_cases e : (y == z) = true
  · have e' : y = z := by simpa using e
    simp [List.lookup, e] at h
    exact ⟨e', h⟩
  · simp [List.lookup, e] at h
theorem lk_hd' {f : Str} {v : Addr} {r : List (Str × Addr)} : ((f, v) :: r).lookup f = some v := by simp [List.lookup]
section
variable {w : World} {K : PySem.W.Frag} {mg : Str → Option Value} {base : Heap}
def sp_Lesser (K : PySem.W.Frag) : Sp := fun vs H Q _ => ∃ (x dx sa na : Addr), vs = [.ref x, .ref sa, .ref na] ∧ H x = some (.ins (LesC K) dx []) ∧ (∀ H', Kp (fun a => a = x) H H' → FxIn K H' 2 (.ref sa) ∧ Atm K H' (.ref na)) ∧
  ∀ v t y H', Kp (fun a => a = x) H H' → H' x = some (.ins (LesC K) dx (lg4 v t y (.ref na))) → Q .non H'
theorem f_Lesser (T : TX K mg) : ∃ fd, FnOk PW w K mg base C8.CX0 7 (lesI K) fd ["self", "steps", "net"] (sp_Lesser K) ∧ Binds K fd ["self", "steps", "net"] [] := by
  obtain ⟨oc, kwd, doc, pm, ct, cl, ccl, od, cld, cdd, an, osl, csl, ccs, cc, cda, vs2, file, tf, lk, hcd, hcc, hcda, hfile, hmain⟩ := T.lesFn
  have hscope : NdefX.NScope ["self", "steps", "net", "__class__"] ["self", "steps", "net"] ["__class__"] (defScope s_Lesser_init) := NdefX.nscope_by (by decide +kernel)
  refine ⟨PySem.W.fnX "__init__" "Lesser.__init__" (defArgs s_Lesser_init) (defBody s_Lesser_init) (defScope s_Lesser_init) [("__class__", cc)] .none kwd doc pm an (.ref cda) ct, ⟨fun vs H Q E h => ?_, fun A outer s H args us vs Q E hr e0 hbd rv hsp => ?_⟩, fun s us X hl => ?_⟩
  · obtain ⟨x, dx, sa, na, rfl, _⟩ := h; rfl
  · have hvl : vs.length = 3 := by obtain ⟨x, dx, sa, na, rfl, _⟩ := hsp; rfl
    have KX : K.In s.heap := fun a o h => (e0.bs a o (e0.mod.kin a o h)).1
    have lim : s.heap.NoLimit := e0.mod.nolimit.keeps fun b o e => (e0.bs b o e).1
    refine ks_codeAny_call_defAt (Room.depth hr) (KX _ _ lk) rfl lim (PySem.W.codeRec_of KX hcd) rfl hbd hscope.nocell (fun y hy => hscope.par y.1 (List.of_mem_zip hy).1) (fun h1 hns hkeep => ?_) hscope.co hscope.gen hscope.kind
    -- the frame of the call
    let F : NdefX.NF := ⟨"__init__", "Lesser.__init__", defArgs s_Lesser_init, defBody s_Lesser_init, defScope s_Lesser_init, [("__class__", cc)], cda⟩
    have C : NdefX.CellsAt F.cl ["__class__"] [some (.ref (LesC K))] s.heap H := by
      have hcb := e0.mod.kin _ _ hcc
      refine ⟨rfl, fun y c e => ?_, fun y z c e1 e2 => ?_, fun i y e => ?_⟩
      · obtain ⟨rfl, rfl⟩ := lk_one e
        exact ⟨(e0.bs _ _ hcb).2, _, _, (e0.bs _ _ hcb).1, rfl⟩
      · rw [(lk_one e1).1, (lk_one e2).1]
      · match i, e with
        | 0, e =>
          cases e
          refine ⟨cc, lk_hd', fun v hv => ?_⟩
          cases hv
          exact ⟨_, rfl, _, (e0.bs _ _ hcb).1, rfl⟩
        | n + 1, e => cases e
    have start : ∀ (h : Heap) (t : Nat), (h.Ns s.heap.objs.size fun y => List.lookup y ((["self", "steps", "net"] : List Str).zip us).reverse) → (∀ b o, s.heap.get? b = some o → h.get? b = some o) →
        L2.Inv (NdefX.ncx C8.CX0 PW w K mg base ["self", "steps", "net", "__class__"] F (lesI K) A outer s H E) [] (NdefX.startF ["self", "steps", "net", "__class__"] vs [some (.ref (LesC K))]) H { heap := h, gens := s.gens, drawn := s.drawn, toks := t, os := s.os } :=
      fun h t a b => NdefX.inv_startN hscope hr.hd e0 hvl rv C a b
    refine ks_wpAt_execs_cons (ks_wpAt_Expr_any (ks_wpAt_MethodCall (ks_wpAt_super_base (f := lesI K) (cc := cda) rfl rfl rfl rfl (hkeep _ _ (KX _ _ lk)) rfl rfl rfl (hkeep _ _ (KX _ _ hcda)) rfl hfile hmain (by decide +kernel) ?_)))
    obtain ⟨mb, hmb, hbt⟩ := e0.mod.blt
    have bk : ∀ b o, base.get? b = some o → h1.get? b = some o := fun b o e => hkeep _ _ (e0.bs b o e).1
    have KX1 : K.In h1 := fun a o h => hkeep _ _ (KX a o h)
    obtain ⟨x, dx, sa, na, rfl, hx, hin, k⟩ := hsp
    have rv0 := rv
    cases rv0 with
    | @cons _ u1 _ us1 r1 rv1 =>
    cases rv1 with
    | @cons _ u2 _ us2 r2 rv2 =>
    cases rv2 with
    | @cons _ u3 _ us3 r3 rv3 =>
    cases rv3
    obtain rfl : u1 = Value.ref x := r1
    obtain ⟨k1, k2⟩ := He.ba T.supB
    obtain ⟨k2, k3⟩ := He.ba k2
    obtain ⟨k3, k4⟩ := He.ba k3
    obtain ⟨k4, k5⟩ := He.ba k4
    obtain ⟨cdD, hcdD⟩ := Option.isSome_iff_exists.mp k1
    have hD : ∃ oD, K.lookup (LesC K) = some oD ∧ oD.data = .cls cdD := by
      unfold PySem.W.clsIn at hcdD
      cases e : K.lookup (LesC K) with
      | none => rw [e] at hcdD; cases hcdD
      | some o =>
        obtain ⟨c1, d1, dt, s1⟩ := o
        rw [e] at hcdD
        cases dt with
        | cls cd => exact ⟨_, rfl, by cases hcdD; rfl⟩
        | _ => cases hcdD
    obtain ⟨oD, hoD, hoD2⟩ := hD
    have hxo := e0.hok x _ hx
    obtain ⟨xown, _, _, xat, xrest⟩ := hxo
    have xat1 := hkeep _ _ xat
    refine PySem.W.ks_loadName_global rfl rfl (PySem.Calls.loadGlobal_builtin (e0.mod.glob.keeps bk) T.f_super (hmb.keeps bk) (by rw [hbt _ (by decide +kernel)]; rfl) ⟨rfl, ?_⟩)
    refine wpAny_loadName_free rfl rfl rfl ⟨_, KX1 _ _ hcc, rfl⟩ ?_
    refine wpAny_loadName_local rfl rfl hns rfl ?_
    refine ks_wpAny_isType_cls (KX1 _ _ hoD) hoD2 ⟨rfl, ?_⟩
    refine ks_wpAny_call_super (KX1 _ _ hoD) hoD2 xat1 rfl (fun c e => by cases e) (PySem.W.looks_mroIn KX1 (of_decide_eq_true k2)) fun h2 e2 kp2 => ?_
    obtain ⟨mA, hmA, _⟩ := xrest
    obtain ⟨odx, _, _, hodx, _⟩ := hmA
    have fr1 : PyProof.Rows.Fr s.heap s.heap.objs.size h1 _ := ⟨hns, hkeep, Nat.le_refl _⟩
    have nw1 : PyProof.Rows.News s.heap s.heap.objs.size h1 [] := fun p hp => by cases hp
    obtain ⟨fr2, nw2, _⟩ := PySem.W.ks_newsPush (s := { heap := h1, gens := s.gens, drawn := s.drawn, toks := s.toks, os := s.os }) fr1 nw1 rfl e2 kp2
    have inst2 : PySem.W.InstAt h2 x (PySem.W.instObj (LesC K) dx) (LesC K) (some odx) := ⟨kp2 _ _ xat1, rfl, rfl, kp2 _ _ (hkeep _ _ hodx)⟩
    refine PySem.W.ks_method fr2 KX nw2 (List.mem_cons_self ..) inst2 (He.eqO_ok k3) (He.eqO_ok k4) (of_decide_eq_true k5) rfl fun q h3 fr3 nw3 hlt => ?_
    have hq : h1.objs.size < q := hlt _ (List.mem_cons_self ..)
    have I1 := start h1 s.toks hns hkeep
    have hL : s.heap.objs.size < h1.objs.size := by
      obtain ⟨o, _, _, ho, _⟩ := hns
      exact Heap.lt_size ho
    have Hq : H q = none := e0.hok.fresh (by omega)
    have fp := I1.fpOk (b := q) (Nat.le_of_lt hq) Hq
    have hq3 := (nw3 _ (List.mem_cons_self ..)).1
    have KX3 : K.In h3 := fun a o h => fr3.keep _ _ (KX a o h)
    have I3 : ∀ t, L2.Inv (NdefX.ncx C8.CX0 PW w K mg base ["self", "steps", "net", "__class__"] F (lesI K) A outer s H E) ([] ++ [(q, PySem.W.methodObj (.ref (He.ma K (He.ga K "Paper") "__init__")) (.ref x))]) (NdefX.startF ["self", "steps", "net", "__class__"] [.ref x, .ref sa, .ref na] [some (.ref (LesC K))]) H { heap := h3, gens := s.gens, drawn := s.drawn, toks := t, os := s.os } := fun t =>
      let I := start h3 t fr3.ns fr3.keep
      ⟨I.ok, I.os, I.bare, I.base, I.loc, I.cell, I.free, I.freeC, fun p hp => by
        obtain rfl : p = (q, PySem.W.methodObj (.ref (He.ma K (He.ga K "Paper") "__init__")) (.ref x)) := by
          rcases List.mem_append.mp hp with h | h
          · cases h
          · exact List.mem_singleton.mp h
        exact ⟨hq3, fp.1, fp.2.1, fp.2.2.1, fun v e => by cases e⟩, I.hok, I.len⟩
    refine PySem.W.callWith_M KX nw3 (List.mem_cons_self ..) (by
      obtain ⟨fdp, Fp⟩ := T.d_Paper_init
      obtain ⟨_, _, _, _, _, _, _, _, _, _, _, hlk, _⟩ := Fp.ex
      unfold PySem.W.fnIn
      rw [hlk]) ?_
    refine thn (PA.run (X := NdefX.ncx C8.CX0 PW w K mg base ["self", "steps", "net", "__class__"] F (lesI K) A outer s H E) (t := tCons (tC (.str "lesser")) (tCons (tVar 1) (tCons (tVar 2) tNil))) ?ha _ _ _ _ H (fun ws H' => ws = [.str "lesser", .ref sa, .ref na] ∧ H' = H) (I3 _) ⟨_, rfl, _, rfl, rfl, rfl⟩) fun vs' s4 ⟨ws, H4, I4, r4, q4⟩ => ?_
    case ha => exact pa_cons pe_str (pa_cons (pv 1) (pa_cons (pv 2) pa_nil))
    obtain ⟨rfl, rfl⟩ := q4
    have hq4 := (I4.pin _ (List.mem_append_right _ (List.mem_append_right _ (List.mem_singleton.mpr rfl)))).1
    refine ⟨⟨hq4, I4.kIn⟩, ?_⟩
    have hsp4 : sp_Paper K (.ref x :: [.str "lesser", .ref sa, .ref na]) H4 (fun v H' => v = .non ∧ ∃ t y, Kp (fun a => a = x) H4 H' ∧ H' x = some (.ins (LesC K) dx (lg2 (.str "lesser") (.ref t))) ∧ H' t = some (.tup [y, .ref na])) C8.E0 := by
      refine ⟨[.ref x, .str "lesser"], [.ref sa, .ref na], rfl, rfl, by show 2 ≤ sizeLine; decide, fun p hp => ?_⟩
      have ep : Kp (fun a => a = x) H4 (upd H4 p (.tup [.ref sa, .ref na])) := Kp.new hp
      refine ⟨x, dx, p, "lesser", .ref sa, .ref na, rfl, by rw [upd_ne (ne_of_none hx hp)]; exact hx, upd_same, fun H' e => ?_, fun t y H' e hx' ht => ⟨rfl, t, y, ep.trans e, hx', ht⟩⟩
      obtain ⟨z1, z2⟩ := hin H' (ep.trans e)
      refine ⟨.seq (.inr (e.t _ _ upd_same)) (by show 2 < 1000; decide) fun v hv => ?_, z2⟩
      rcases List.mem_cons.mp hv with rfl | hv
      · exact z1
      · rw [List.mem_singleton.mp hv]; exact .atm z2
    refine wpAny_call (codeAny_mono (PySem.W.method_call hq4 (run_fnR (X := NdefX.ncx C8.CX0 PW w K mg base ["self", "steps", "net", "__class__"] F (lesI K) A outer s H4 E) (k := 6) (E := C8.E0) (r_Paper T) (Room.deeper hr _) pass0 I4 (Paired.cons (show RelV (.ref x) (Value.ref x) from rfl) r4) hsp4)) fun r s5 h5 => ?_)
    cases r with
    | error e => exact h5
    | ok fl =>
    cases fl with
    | next => exact h5
    | brk => exact h5
    | cont => exact h5
    | ret v =>
    obtain ⟨v5, H5, I5, r5, rfl, t, y, e5, hx5, ht5⟩ := h5
    refine wpAt_of_wpAny ?_
    have body2 : ∃ tt, PSs (NdefX.ncx C8.CX0 PW w K mg base ["self", "steps", "net", "__class__"] F (lesI K) A outer s H4 E) ((defBody s_Lesser_init).drop 1) tt ∧ tt { nx := fun _ H' => Q .non H', rt := Q } (NdefX.startF ["self", "steps", "net", "__class__"] [.ref x, .ref sa, .ref na] [some (.ref (LesC K))]) H5 := by
      refine ⟨_, pss_one (ps_asg (pe_fld (pv 0) rfl) (pg_tup rfl (pgs_cons (pg_fld (pv 0)) (pgs_cons (pg_fld (pv 0)) pgs_nil)))), ?_⟩
      refine ⟨_, rfl, x, _, dx, _, _, rfl, hx5, T.c_Lesser, T.n_Lesser_parts, lk_parts, t, _, rfl, SqT.of ht5, rfl, ?_⟩
      refine ⟨y, _, rfl, _, rfl, x, _, dx, _, rfl, hx5, T.c_Lesser, T.n_Lesser_steps, by show 2 < 1000; decide, ?_⟩
      rw [lf3]
      have x6 : (upd H5 x (.ins (LesC K) dx (lg3 (.str "lesser") (.ref t) y))) x = _ := upd_same
      have e6 : Kp (fun a => a = x) H5 (upd H5 x (.ins (LesC K) dx (lg3 (.str "lesser") (.ref t) y))) := Kp.at1 hx5 sol_ins
      refine ⟨.ref na, _, rfl, _, rfl, x, _, dx, _, rfl, x6, T.c_Lesser, T.n_Lesser_net, by show 3 < 1000; decide, ?_⟩
      rw [lf4]
      exact ⟨rfl, k _ _ _ _ ((e5.trans e6).trans (Kp.at1 x6 sol_ins)) upd_same⟩
    obtain ⟨tt, ht, hq⟩ := body2
    refine wpAny_mono (ht.run _ s5 _ H5 _ I5 hq) (fun fl s6 hs => ?_) fun e s6 hs => hs
    have fin : ∀ {pins : List (Addr × Obj)} {σ' : St} {H' : Hp} {v : V} {u : Value}, L2.Inv (NdefX.ncx C8.CX0 PW w K mg base ["self", "steps", "net", "__class__"] F (lesI K) A outer s H4 E) pins σ' H' s6 → RelV v u → Q v H' → CE outer PW w H4 s Q u s6 := fun {pins σ' H' v u} J rv q => ⟨v, H', J.os, J.bare, J.base, J.hok, rv, q⟩
    cases fl with
    | next => obtain ⟨σ', H', J, q⟩ := hs; exact fin (v := .non) (u := .none) J rfl q
    | brk => obtain ⟨_, _, _, q⟩ := hs; exact q.elim
    | cont => obtain ⟨_, _, _, q⟩ := hs; exact q.elim
    | ret u => obtain ⟨v, σ', H', J, rv, q⟩ := hs; exact fin J rv q
  · intro M A E Q h
    rw [List.append_nil] at hl h
    match us, hl with
    | [a, b, c], _ => exact wpAny_pure h
theorem c_Lesser (T : TX K mg) : C8.Mak PW w K mg base 7 "Lesser" (LesC K) (sp_Lesser K) [] := by
  obtain ⟨fd, F, B⟩ := f_Lesser (w := w) (base := base) T
  exact ⟨⟨_, fd, ["self", "steps", "net"], [], T.m_Lesser, F, T.g_Lesser, B, .nil⟩⟩
end
end K50
end
section
set_option Elab.async false
set_option linter.all false
set_option maxRecDepth 100000
set_option maxHeartbeats 4000000
namespace K50
open PySem PySem.Spec L2
open PyProof.Rows (envOfC)
/-- nets reached by steps -/
inductive Reach : Nt → Nt → Prop
  | refl {N : Nt} : Reach N N
  | step {N M N' : Nt} (r : Reach N M) (ok : M.Ok) (s : Stp M N') : Reach N N'
theorem left_less {n i : Int} {gone : List Int} (hi : i ∈ gone) (h0 : 0 ≤ i) (h1 : i < n) : ((leftOf n gone).length : Int) + 1 ≤ n := by
  have q := nodup_le (l := i :: leftOf n gone) (m := rg n) (List.nodup_cons.mpr ⟨fun z => (mem_left.mp z).2 hi, left_nodup⟩) fun x hx => by
    rcases List.mem_cons.mp hx with rfl | hx
    · exact mem_rg.mpr ⟨h0, h1⟩
    · exact mem_rg.mpr (mem_left.mp hx).1
  rw [rg_len, List.length_cons] at q
  omega
theorem Stp.less {N N' : Nt} (h : Stp N N') : N'.sz + 1 ≤ N.sz := by
  rcases h with ⟨i, h0, h1, _, ⟨r, t, _, _, _, m⟩⟩ | ⟨i, j, h0, h1, _, _, _, _, ⟨r, s, t, u, _, _, _, _, _, _, m⟩⟩
  · rw [m.sz]; exact left_less (by simp) h0 h1
  · rw [m.sz]; exact left_less (i := i) (by simp) h0 h1
def muL (σ : L2.St) (H : Hp) : Nat := match (σ[1]? : Option (Option V)) with
  | some (some (V.ref l)) => (match H l with
    | some (HO.lst xs) => 8 - xs.length
    | _ => 0)
  | _ => 0
theorem muL_eq {σ : L2.St} {H : Hp} {l : Addr} {xs : List V} (h1 : σ[1]? = some (some (.ref l))) (h2 : H l = some (.lst xs)) : muL σ H = 8 - xs.length := by
  unfold muL; rw [h1]; simp only [h2]
theorem StepAt.fx {K : PySem.W.Frag} {H : Hp} {t : Addr} {N : Nt} (h : StepAt H t N) : FxIn K H 1 (.ref t) := by
  rcases h with ⟨i, h, _⟩ | ⟨i, j, h, _⟩
  · refine .seq (.inr h) (by show 2 < 1000; decide) fun x hx => ?_
    simp only [List.mem_cons, List.not_mem_nil, or_false] at hx
    rcases hx with rfl | rfl
    · exact .atm (.str _)
    · exact .atm (.int _)
  · refine .seq (.inr h) (by show 3 < 1000; decide) fun x hx => ?_
    simp only [List.mem_cons, List.not_mem_nil, or_false] at hx
    rcases hx with rfl | rfl | rfl
    · exact .atm (.str _)
    · exact .atm (.int _)
    · exact .atm (.int _)
section
variable {w : World} {K : PySem.W.Frag} {mg : Str → Option Value} {base : Heap}
abbrev P : Program := PW
def sp_lesser (K : PySem.W.Frag) : Sp := fun vs H Q _ => ∃ (p : Addr) (N : Nt), vs = [.ref p] ∧ NetAt K H p N ∧ N.Ok ∧
  ∀ x dx v t y pn N' H', Kp N0 H H' → H' x = some (.ins (LesC K) dx (lg4 v t y (.ref pn))) → NetAt K H' pn N' → N'.Ok → Reach N N' → Q (.ref x) H'
theorem sc_lesser : FnScope ["net", "steps", "now", "step"] ["net"] (defScope s_lesser) := ⟨rfl, rfl, rfl, by decide +kernel, rfl, by decide +kernel, by decide +kernel⟩
theorem c_lesser (T : TX K mg) : C8.Cal P w K mg base 12 "lesser" (sp_lesser K) [] := by
  refine mkCal (k := 11) T.g_lesser T.d_lesser (fun _ _ _ _ _ _ us hl => match us, hl with | [_], _ => rfl) sc_lesser (fun vs H Q E h => ?_) (fun cdv A outer s H vs Q E hr h => ?_)
  · obtain ⟨p, N, rfl, _⟩ := h; rfl
  · obtain ⟨p, N, rfl, hpn, ok, k⟩ := h
    have ⟨dx, a1, a2, a3, a4, a5, vs, ts, ob, hp⟩ := hpn
    refine ⟨_, (pss_cons (ps_expr (C8.pe_c (c_need_net T) hr (by decide) rfl (pa_cons (pv 0) (pa_cons pe_str pa_nil))))
      (pss_cons (ps_par (i := 1) (j := 2) rfl sc_lesser.nd rfl rfl (by decide) rfl rfl (pa_cons (pe_lst pa_nil) (pa_cons (pv 0) pa_nil)) (by rfl))
      (pss_cons (ps_set (i := 3) sc_lesser.nd rfl (Or.inl rfl) (C8.pe_c (c_first_step T) hr (by decide) rfl (pa_cons (pv 2) pa_nil)))
      (pss_cons (ps_while PassesOwn.never (pt_cmp (pc_notN (pv 3))) (pss_cons (ps_expr (pe_bm PySem.F.plainAttrs_list PySem.F.slot_list_append PySem.F.type_list_append mt_append (pv 1) (pa_cons (pv 3) pa_nil)))
      (pss_cons (ps_set (i := 2) sc_lesser.nd rfl (Or.inl rfl) (C8.pe_c (c_behind_step T) hr (by decide) rfl (pa_cons (pv 2) (pa_cons (pv 3) pa_nil))))
      (pss_one (ps_set (i := 3) sc_lesser.nd rfl (Or.inl rfl) (C8.pe_c (c_first_step T) hr (by decide) rfl (pa_cons (pv 2) pa_nil)))))))
      (pss_one (ps_ret (C8.pe_mk (c_Lesser T) hr (by decide) rfl (pa_cons (pv 1) (pa_cons (pv 2) pa_nil))))))))), ?_⟩
    refine ⟨_, rfl, p, dx, _, _, rfl, hp.o, fun H1 e1 => ?_⟩
    refine ⟨by show 0 ≤ sizeLine; decide, fun l hl => ⟨_, rfl, _, _, rfl, ?_⟩⟩
    have e2 := Kp.new (F := N0) (o := .lst []) hl
    have hl2 : (upd H1 l (.lst [])) l = some (.lst []) := upd_same
    generalize upd H1 l (.lst []) = H2 at e2 hl2
    have E2 := e1.trans e2
    have lH : H l = none := e1.back hl
    -- the first step
    refine ⟨_, rfl, p, N, rfl, hpn.mono E2, ok, fun v H3 e3 hv => ?_⟩
    refine while_by (fun σ H' => ∃ pn M v xs, σ = [some (.ref p), some (.ref l), some (.ref pn), some v] ∧ Kp N0 H H' ∧ NetAt K H' pn M ∧ M.Ok ∧ Reach N M ∧ H' l = some (.lst xs) ∧ (xs.length : Int) + M.sz ≤ 7 ∧ (∀ x ∈ xs, ∃ t M', x = V.ref t ∧ StepAt H' t M') ∧ (v = .non ∨ ∃ t, v = .ref t ∧ StepAt H' t M)) muL ?_ ?_ ?_
    · exact ⟨p, N, v, [], rfl, E2.trans e3, hpn.mono (E2.trans e3), ok, .refl, e3.get0 hl2, by show ((0 : Nat) : Int) + N.sz ≤ 7; have := ok.n7; omega, fun x hx => by simp at hx, hv⟩
    · rintro σ H4 ⟨pn, M, v, xs, rfl, e4, hM, okM, rM, hl4, hlen, hxs, hv⟩
      refine ⟨_, rfl, _, rfl, ?_⟩
      rcases hv with rfl | ⟨t, rfl, hst⟩
      · refine iteF ⟨_, rfl, _, rfl, fun x dx hx hdx ne => ?_⟩
        have e5 : Kp N0 H4 (upd (upd H4 dx (.own x)) x (.ins (LesC K) dx [])) := (Kp.new hdx).trans (Kp.new (by rw [upd_ne (fun z => ne z.symm)]; exact hx))
        have hxx : (upd (upd H4 dx (.own x)) x (.ins (LesC K) dx [])) x = _ := upd_same
        refine ⟨x, dx, l, pn, rfl, hxx, fun H' e => ?_, fun v t y H' e hx' => ?_⟩
        · have E := e5.fresh hx e
          refine ⟨.seq (.inl (E.get0 hl4)) (by have := okM.n1; omega) fun x hx => (let ⟨t, M', e, h⟩ := hxs x hx; by rw [e]; exact (h.mono E.tp).fx), ?_⟩
          obtain ⟨_, _, _, _, _, _, _, _, _, hMp⟩ := hM.mono E
          exact .net hMp.o
        · have E := e5.fresh hx e
          exact ⟨rfl, k x dx v t y pn M H' (e4.trans E) hx' (hM.mono E) okM rM⟩
      · refine iteT ?_
        have lb : xs.length < sizeLine := by have e : sizeLine = 16777216 := rfl; have := okM.n1; omega
        refine ⟨_, rfl, .inl ⟨rfl, _, SqL.of hl4⟩, _, rfl, l, xs, _, rfl, rfl, hl4, lb, ?_⟩
        have hl5 : (upd H4 l (.lst (xs ++ [.ref t]))) l = some (.lst (xs ++ [.ref t])) := upd_same
        have e5 : Kp (fun a => a = l) H4 (upd H4 l (.lst (xs ++ [.ref t]))) := Kp.at1 hl4 sol_lst
        have E5 : Kp N0 H (upd H4 l (.lst (xs ++ [.ref t]))) := e4.mut lH
        generalize upd H4 l (.lst (xs ++ [.ref t])) = H5 at hl5 e5 E5
        have hM5 : NetAt K H5 pn M := hM.monoF e5 fun z => by
          obtain ⟨_, _, _, _, _, _, _, _, _, hMp⟩ := hM
          rw [z] at hMp; have := hMp.o; rw [hl4] at this; cases this
        have hst5 := hst.mono e5.tp
        refine ⟨_, rfl, _, rfl, pn, t, M, rfl, hM5, okM, hst5, fun x N' H6 e6 hN' ok' st => ?_⟩
        have hl6 := e6.get0 hl5
        refine ⟨_, rfl, x, N', rfl, hN', ok', fun v H7 e7 hv7 => ?_⟩
        have hl7 := e7.get0 hl6
        have e57 := e6.trans e7
        refine ⟨⟨x, N', v, _, rfl, E5.trans e57, hN'.mono e7, ok', .step rM okM st, hl7, ?_, fun y hy => ?_, hv7⟩, ?_⟩
        · have := st.less
          rw [List.length_append]
          show ((xs.length + 1 : Nat) : Int) + N'.sz ≤ 7
          omega
        · rcases List.mem_append.mp hy with hy | hy
          · obtain ⟨t', M', e, h⟩ := hxs y hy
            exact ⟨t', M', e, h.mono (e5.tp.trans e57.tp)⟩
          · exact ⟨t, M, List.mem_singleton.mp hy, hst5.mono e57.tp⟩
        · rw [muL_eq (l := l) rfl hl4, muL_eq (l := l) rfl hl7, List.length_append]
          have := okM.n1
          show 8 - (xs.length + 1) < 8 - xs.length
          omega
    · exact fun σ H Q Q' hh ⟨v, hv, c, e, q⟩ => ⟨v, hv, c, e, hh _ _ q⟩
end
end K50
end
section
set_option Elab.async false
set_option linter.all false
set_option maxRecDepth 100000
set_option maxHeartbeats 4000000
namespace K50
open PySem PySem.Spec L2
open PyProof.Rows (envOfC)
/-- a ferry at f: its cells, a turn of at most b, a rest -/
def Fer (H : Hp) (f c : Addr) (b : Int) : Prop := ∃ (t r : Int) (xs : List Int), H f = some (.lst [.ref c, .int t, .int r]) ∧ H c = some (.lst (xs.map V.int)) ∧ c ≠ f ∧ xs.length ≤ 60 ∧ 0 ≤ t ∧ t ≤ b ∧ 0 ≤ r
theorem Fer.more {H : Hp} {f c : Addr} {b b' : Int} (h : Fer H f c b) (hb : b ≤ b') : Fer H f c b' := by
  obtain ⟨t, r, xs, h1, h2, h3, h4, h5, h6, h7⟩ := h
  exact ⟨t, r, xs, h1, h2, h3, h4, h5, by omega, h7⟩
theorem Fer.mono {H H' : Hp} {f c : Addr} {b : Int} (e : Kp N0 H H') (h : Fer H f c b) : Fer H' f c b := by
  obtain ⟨t, r, xs, h1, h2, h⟩ := h
  exact ⟨t, r, xs, e.get0 h1, e.get0 h2, h⟩
theorem Fer.other {H : Hp} {f c p : Addr} {b : Int} {o : HO} (h : Fer H f c b) (hf : f ≠ p) (hc : c ≠ p) : Fer (upd H p o) f c b := by
  obtain ⟨t, r, xs, h1, h2, h⟩ := h
  exact ⟨t, r, xs, by rw [upd_ne hf]; exact h1, by rw [upd_ne hc]; exact h2, h⟩
/-- an address that is new is none of the ferry's -/
theorem Fer.new {H : Hp} {f c p : Addr} {b : Int} (h : Fer H f c b) (hp : H p = none) : f ≠ p ∧ c ≠ p := by
  obtain ⟨t, r, xs, h1, h2, h⟩ := h
  exact ⟨ne_of_none h1 hp, ne_of_none h2 hp⟩
theorem fer_put {H : Hp} {f c : Addr} {t r t' r' b : Int} {xs : List Int} (h1 : H f = some (.lst [.ref c, .int t, .int r])) (h2 : H c = some (.lst (xs.map V.int))) (h3 : c ≠ f) (h4 : xs.length ≤ 60) (h5 : 0 ≤ t') (h6 : t' ≤ b) (h7 : 0 ≤ r') :
    Fer (upd H f (.lst [.ref c, .int t', .int r'])) f c b ∧ Kp (fun a => a = f) H (upd H f (.lst [.ref c, .int t', .int r'])) :=
  ⟨⟨t', r', xs, upd_same, by rw [upd_ne h3]; exact h2, h3, h4, h5, h6, h7⟩, Kp.at1 h1 sol_lst⟩
theorem mod_bd (a : Int) : -(2 ^ 64) < a % 2147483043 ∧ a % 2147483043 < 2 ^ 64 := by omega
theorem sq_bd {t : Int} (h0 : 0 ≤ t) (h1 : t ≤ 1000000) : 0 ≤ t * t ∧ t * t ≤ 1000000000000 := by
  refine ⟨Int.mul_nonneg h0 h0, ?_⟩
  have := Int.mul_le_mul h1 h1 h0 (by omega)
  omega
theorem cross_b1 (a : Int) {t : Int} (h0 : 0 ≤ t) (h1 : t ≤ 1000000) : (a % 2147483053 + 64013 * t + 5807).natAbs < 2 ^ 64 := by omega
theorem cross_b3 {t : Int} (h0 : 0 ≤ t) (h1 : t ≤ 1000000) : -(2 ^ 64) < 92009 * t ∧ 92009 * t < 2 ^ 64 := by omega
theorem cross_b2 (a : Int) {t : Int} (h0 : 0 ≤ t) (h1 : t ≤ 1000000) : ((a % 2147483043) * (2 * t + 4243) + 92009 * t * t + 64013).natAbs < 2 ^ 64 := by
  have ⟨s1, s2⟩ := sq_bd h0 h1
  have e : 92009 * t * t = 92009 * (t * t) := by rw [Int.mul_assoc]
  rw [e]
  have m0 : 0 ≤ a % 2147483043 := by omega
  have m1 : a % 2147483043 ≤ 2147483043 := by omega
  have p0 := Int.mul_nonneg m0 (show 0 ≤ 2 * t + 4243 by omega)
  have p1 := Int.mul_le_mul m1 (show 2 * t + 4243 ≤ 2004243 by omega) (by omega) (by omega)
  omega
theorem cross_rest {c p : Int} {b : Bool} (h : c ≥ p) : 0 ≤ 2 * (c - p) + (if b = true then 1 else 0) := by split <;> omega
theorem iteDT {p A B : Prop} {i : Decidable p} (h : p) (k : A) : if decide p = true then A else B := by rw [if_pos (decide_eq_true h)]; exact k
theorem iteDF {p A B : Prop} {i : Decidable p} (h : ¬ p) (k : B) : if decide p = true then A else B := by rw [decide_eq_false h]; exact iteF k
section
variable {w : World} {K : PySem.W.Frag} {mg : Str → Option Value} {base : Heap}
def sp_law_cross (K : PySem.W.Frag) : Sp := fun vs H Q _ => ∃ (f c : Addr) (m b : Int), vs = [.ref f, .int m] ∧ Fer H f c b ∧ b < 1000000 ∧ 1 ≤ m ∧ m < 1000000 ∧ ∀ (r : Int) H', 0 ≤ r → r < m → Kp (fun a => a = f) H H' → Fer H' f c (b + 1) → Q (.int r) H'
theorem sc_law_cross : FnScope ["_law_ferry_here", "_law_many", "_law_rest", "_law_turn_here", "_law_cell", "_law_mixed_here"] ["_law_ferry_here", "_law_many"] (defScope s_law_cross) := ⟨rfl, rfl, rfl, by decide +kernel, rfl, by decide +kernel, by decide +kernel⟩
theorem c_law_cross (T : TX K mg) : C8.Cal P w K mg base 1 "_law_cross" (sp_law_cross K) [] := by
  refine mkCal (k := 0) T.g_law_cross T.d_law_cross (fun _ _ _ _ _ _ us hl => match us, hl with | [_, _], _ => rfl) sc_law_cross (fun vs H Q E h => ?_) (fun cdv A outer s H vs Q E hr h => ?_)
  · obtain ⟨f, c, m, b, rfl, _⟩ := h; rfl
  · obtain ⟨f, c, m, b, rfl, ⟨t, r, xs, hf, hc, hcf, hxl, ht0, htb, hr0⟩, hb, hm1, hm2, k⟩ := h
    refine ⟨_, (pss_cons (ps_if (pt_cmpR op_gt (pe_ix ix_list (pv 0) pe_int (fun _ _ => rfl)) pe_int (nomark _)) (pss_cons (ps_set (i := 2) sc_law_cross.nd rfl (Or.inl rfl) (pe_ix ix_list (pv 0) pe_int (fun _ _ => rfl)))
      (pss_cons (ps_asg (pe_op op_fdivN (pe_callTy call_int1 (by rfl) T.f_int (by decide +kernel) (pa_cons (pv 2) pa_nil)) (pv 1)) (pg_sub (pv 0) pe_int set_list))
      (pss_one (ps_ret (pe_op op_mod (pe_callTy call_int1 (by rfl) T.f_int (by decide +kernel) (pa_cons (pv 2) pa_nil)) (pv 1)))))) pss_nil)
      (pss_cons (ps_set (i := 3) sc_law_cross.nd rfl (Or.inl rfl) (pe_ix ix_list (pv 0) pe_int (fun _ _ => rfl)))
      (pss_cons (ps_asg (pe_op op_add (pv 3) pe_int) (pg_sub (pv 0) pe_int set_list))
      (pss_cons (ps_set (i := 4) sc_law_cross.nd rfl (Or.inl rfl) (pe_op op_add (pe_op op_mul pe_int (pv 3)) pe_int))
      (pss_cons (ps_if (pt_cmpR (op_neD hr.units) (pe_ix ix_list (pv 0) pe_int (fun _ _ => rfl)) (pe_lst pa_nil) (nomark _)) (pss_one (ps_set (i := 4) sc_law_cross.nd rfl (Or.inl rfl) (pe_ix ix_list (pe_ix ix_list (pv 0) pe_int (fun _ _ => rfl)) (pe_op op_mod (pe_callTy call_int1 (by rfl) T.f_int (by decide +kernel) (pa_cons (pv 3) pa_nil)) (pe_callB call_len_seq (by rfl) T.f_len (by decide +kernel) (pa_cons (pe_ix ix_list (pv 0) pe_int (fun _ _ => rfl)) pa_nil))) (fun _ _ => rfl)))) pss_nil)
      (pss_cons (ps_if (PW.pt (pw_and (pt_cmpR op_lt (pv 3) (pe_callB call_len_seq (by rfl) T.f_len (by decide +kernel) (pa_cons (pe_ix ix_list (pv 0) pe_int (fun _ _ => rfl)) pa_nil)) (nomark _)) (pw_and1 (pt_cmpR op_ge (pe_callB call_abs (by rfl) T.f_abs (by decide +kernel) (pa_cons (pv 4) pa_nil)) (pe_op op_pow pe_int pe_int) (nomark _))))) (pss_cons (ps_set (i := 2) sc_law_cross.nd rfl (Or.inl rfl) (pe_op op_add (pe_op op_mul pe_int (pe_op op_sub (pe_callB call_abs (by rfl) T.f_abs (by decide +kernel) (pa_cons (pv 4) pa_nil)) (pe_op op_pow pe_int pe_int))) (pe_callTy call_int1 (by rfl) T.f_int (by decide +kernel) (pa_cons (pe_cmpR op_lt (pv 4) pe_int (nomark _)) pa_nil))))
      (pss_cons (ps_asg (pe_op op_fdivN (pe_callTy call_int1 (by rfl) T.f_int (by decide +kernel) (pa_cons (pv 2) pa_nil)) (pv 1)) (pg_sub (pv 0) pe_int set_list))
      (pss_one (ps_ret (pe_op op_mod (pe_callTy call_int1 (by rfl) T.f_int (by decide +kernel) (pa_cons (pv 2) pa_nil)) (pv 1)))))) pss_nil)
      (pss_cons (ps_set (i := 5) sc_law_cross.nd rfl (Or.inl rfl) (pe_op op_mod (pe_callTy call_int1 (by rfl) T.f_int (by decide +kernel) (pa_cons (pe_op op_pow (pe_op op_add (pe_op op_add (pe_op op_mod (pe_callTy call_int1 (by rfl) T.f_int (by decide +kernel) (pa_cons (pv 4) pa_nil)) pe_int) (pe_op op_mul pe_int (pv 3))) pe_int) pe_int) pa_nil)) pe_int))
      (pss_cons (ps_set (i := 5) sc_law_cross.nd rfl (Or.inl rfl) (pe_op op_mod (pe_callTy call_int1 (by rfl) T.f_int (by decide +kernel) (pa_cons (pe_op op_pow (pe_op op_add (pe_op op_add (pe_op op_mul (pv 5) (pe_op op_add (pe_op op_mul pe_int (pv 3)) pe_int)) (pe_op op_mul (pe_op op_mul pe_int (pv 3)) (pv 3))) pe_int) pe_int) pa_nil)) pe_int))
      (pss_one (ps_ret (pe_op op_mod (pe_callTy call_int1 (by rfl) T.f_int (by decide +kernel) (pa_cons (pe_op op_fdivN (pv 5) pe_int) pa_nil)) (pv 1)))))))))))), ?_⟩
    refine ⟨_, rfl, f, _, _, _, rfl, rfl, SqL.of hf, rfl, _, _, rfl, rfl, _, rfl, ?_⟩
    by_cases hr1 : r > 0
    · rw [decide_eq_true hr1]
      refine iteT ⟨_, rfl, f, _, _, _, rfl, rfl, SqL.of hf, rfl, ?_⟩
      refine ⟨_, rfl, .inl ⟨_, rfl, _, rfl, _, _, rfl, rfl, ⟨by omega, by omega⟩, _, rfl, f, _, _, _, rfl, rfl, hf, rfl, ?_⟩⟩
      have hd : 0 ≤ r.fdiv m := by rw [Int.fdiv_eq_ediv_of_nonneg _ (by omega)]; exact Int.ediv_nonneg hr0 (by omega)
      obtain ⟨g1, g2⟩ := fer_put (b := b + 1) hf hc hcf hxl ht0 (by omega) hd
      refine ⟨_, rfl, .inl ⟨_, rfl, _, rfl, _, _, rfl, rfl, by omega, ?_⟩⟩
      exact k _ _ (Int.emod_nonneg _ (by omega)) (Int.emod_lt_of_pos _ (by omega)) g2 g1
    rw [decide_eq_false hr1]
    refine iteF ⟨_, rfl, f, _, _, _, rfl, rfl, SqL.of hf, rfl, ?_⟩
    refine ⟨_, rfl, _, _, rfl, rfl, _, rfl, f, _, _, _, rfl, rfl, hf, rfl, ?_⟩
    have hf1 : (upd H f (.lst [.ref c, .int (t + 1), .int r])) f = some (.lst [.ref c, .int (t + 1), .int r]) := upd_same
    have hc1 : (upd H f (.lst [.ref c, .int (t + 1), .int r])) c = some (.lst (xs.map V.int)) := by rw [upd_ne hcf]; exact hc
    have e1 : Kp (fun a => a = f) H (upd H f (.lst [.ref c, .int (t + 1), .int r])) := Kp.at1 hf sol_lst
    generalize hH1 : upd H f (.lst [.ref c, .int (t + 1), .int r]) = H1 at hf1 hc1 e1
    have hH1' : upd H f (.lst ([V.ref c, .int t, .int r].set (Int.toNat 1) (.int (t + 1)))) = H1 := hH1
    refine ⟨_, rfl, _, _, rfl, rfl, .inl ⟨by decide, by decide⟩, _, _, rfl, rfl, ?_⟩
    rw [hH1']
    refine ⟨_, rfl, f, _, _, _, rfl, rfl, SqL.of hf1, rfl, by show 0 ≤ sizeLine; decide, fun g hg => ?_⟩
    have e2 := Kp.new (F := N0) (o := .lst []) hg
    have hg2 : (upd H1 g (.lst [])) g = some (.lst (([] : List Int).map V.int)) := upd_same
    generalize upd H1 g (.lst []) = H3 at e2 hg2 ⊢
    have hf3 := e2.get0 hf1
    have hc3 := e2.get0 hc1
    have e3 := e1.trans e2.weak
    refine ⟨_, _, dp_list (SqL.of hc3), dp_list (SqL.of hg2), sh_list, sh_list, ?_⟩
    rw [eqv_list]
    refine ⟨_, rfl, ?_⟩
    by_cases hxs : xs = []
    · rw [decide_eq_true hxs]
      refine iteF ?_
      refine ⟨_, rfl, _, rfl, f, _, _, _, rfl, rfl, SqL.of hf3, rfl, c, _, rfl, .inl (SqL.of hc3), _, _, rfl, rfl, _, rfl, ?_⟩
      have hfin := fun (r' : Int) (h1 : 0 ≤ r') (h2 : r' < m) => k r' H3 h1 h2 e3 ⟨t + 1, r, xs, hf3, hc3, hcf, hxl, by omega, by omega, hr0⟩
      by_cases hlt : t < ((xs.map V.int).length : Int)
      · rw [decide_eq_true hlt]
        refine iteT ⟨_, rfl, _, rfl, _, _, rfl, rfl, ⟨by decide, by decide, by decide⟩, _, _, rfl, rfl, _, rfl, ?_⟩
        by_cases hge : (if (92009 * t + 5807) < 0 then -(92009 * t + 5807) else (92009 * t + 5807)) ≥ (10 : Int) ^ (18 : Int).toNat
        · refine iteDT hge ⟨_, rfl, _, rfl, _, _, rfl, rfl, ⟨by decide, by decide, by decide⟩, _, _, rfl, rfl, _, _, rfl, rfl, .inl ⟨by decide, by decide⟩, _, rfl, _, _, rfl, rfl, .inr ⟨_, rfl, _, _, rfl, rfl, ?_⟩⟩
          have hrest := cross_rest (b := decide ((92009 * t + 5807) < 0)) hge
          refine ⟨_, rfl, .inl ⟨_, rfl, _, rfl, _, _, rfl, rfl, ⟨by omega, by omega⟩, _, rfl, f, _, _, _, rfl, rfl, hf3, rfl, ?_⟩⟩
          have hd : 0 ≤ (2 * ((if (92009 * t + 5807) < 0 then -(92009 * t + 5807) else (92009 * t + 5807)) - (10 : Int) ^ (18 : Int).toNat) + (if decide ((92009 * t + 5807) < 0) = true then 1 else 0)).fdiv m := by rw [Int.fdiv_eq_ediv_of_nonneg _ (by omega)]; exact Int.ediv_nonneg hrest (by omega)
          obtain ⟨g1, g2⟩ := fer_put (b := b + 1) hf3 hc3 hcf hxl (show 0 ≤ t + 1 by omega) (by omega) hd
          refine ⟨_, rfl, .inl ⟨_, rfl, _, rfl, _, _, rfl, rfl, by omega, ?_⟩⟩
          exact k _ _ (Int.emod_nonneg _ (by omega)) (Int.emod_lt_of_pos _ (by omega)) (e3.trans g2) g1
        refine iteDF hge ?_
        refine ⟨_, rfl, .inl ⟨_, rfl, _, _, rfl, rfl, by show (0 : Int) < 2147483053; decide, _, rfl, _, _, rfl, rfl, .inl ⟨by decide, by decide⟩, _, _, rfl, rfl, _, _, rfl, rfl, _, _, rfl, rfl, ⟨by decide, by decide, cross_b1 _ ht0 (by omega)⟩, .inl ⟨_, rfl, _, _, rfl, rfl, by show (0 : Int) < 2147483043; decide, ?_⟩⟩⟩
        refine ⟨_, rfl, _, rfl, _, _, rfl, rfl, .inl ⟨by decide, by decide⟩, _, _, rfl, rfl, _, _, rfl, rfl, .inl (mod_bd _), _, rfl, _, _, rfl, rfl, .inl ⟨by decide, by decide⟩, _, rfl, _, _, rfl, rfl, .inl (cross_b3 ht0 (by omega)), _, _, rfl, rfl, _, _, rfl, rfl, _, _, rfl, rfl, ⟨by decide, by decide, cross_b2 _ ht0 (by omega)⟩, .inl ⟨_, rfl, _, _, rfl, rfl, by show (0 : Int) < 2147483037; decide, ?_⟩⟩
        refine ⟨_, rfl, _, _, rfl, rfl, ⟨by decide, by decide⟩, .inl ⟨_, rfl, _, rfl, _, _, rfl, rfl, by omega, ?_⟩⟩
        exact hfin _ (Int.emod_nonneg _ (by omega)) (Int.emod_lt_of_pos _ (by omega))
      rw [decide_eq_false hlt]
      refine iteF (iteF ?_)
      refine ⟨_, rfl, .inl ⟨_, rfl, _, _, rfl, rfl, by show (0 : Int) < 2147483053; decide, _, rfl, _, _, rfl, rfl, .inl ⟨by decide, by decide⟩, _, _, rfl, rfl, _, _, rfl, rfl, _, _, rfl, rfl, ⟨by decide, by decide, cross_b1 _ ht0 (by omega)⟩, .inl ⟨_, rfl, _, _, rfl, rfl, by show (0 : Int) < 2147483043; decide, ?_⟩⟩⟩
      refine ⟨_, rfl, _, rfl, _, _, rfl, rfl, .inl ⟨by decide, by decide⟩, _, _, rfl, rfl, _, _, rfl, rfl, .inl (mod_bd _), _, rfl, _, _, rfl, rfl, .inl ⟨by decide, by decide⟩, _, rfl, _, _, rfl, rfl, .inl (cross_b3 ht0 (by omega)), _, _, rfl, rfl, _, _, rfl, rfl, _, _, rfl, rfl, ⟨by decide, by decide, cross_b2 _ ht0 (by omega)⟩, .inl ⟨_, rfl, _, _, rfl, rfl, by show (0 : Int) < 2147483037; decide, ?_⟩⟩
      refine ⟨_, rfl, _, _, rfl, rfl, ⟨by decide, by decide⟩, .inl ⟨_, rfl, _, rfl, _, _, rfl, rfl, by omega, ?_⟩⟩
      exact hfin _ (Int.emod_nonneg _ (by omega)) (Int.emod_lt_of_pos _ (by omega))
    have hx0 : 0 < (xs.length : Int) := by
      have := List.length_pos_iff.mpr hxs
      omega
    have hml : ((xs.map V.int).length : Int) = xs.length := by rw [List.length_map]
    rw [decide_eq_false hxs]
    have hi : (t % (xs.length : Int)).toNat < xs.length := by
      have h1 := Int.emod_nonneg t (show (xs.length : Int) ≠ 0 by omega)
      have h2 := Int.emod_lt_of_pos t hx0
      omega
    have hat : atI (xs.map V.int) (t % ((xs.map V.int).length : Int)) = some (.int xs[(t % (xs.length : Int)).toNat]) := by
      have z := atI_nat (show (xs.map V.int)[(t % (xs.length : Int)).toNat]? = some (.int xs[(t % (xs.length : Int)).toNat]) by rw [List.getElem?_map, List.getElem?_eq_getElem hi]; rfl)
      have h1 := Int.emod_nonneg t (show (xs.length : Int) ≠ 0 by omega)
      rw [hml]
      rw [show (((t % (xs.length : Int)).toNat : Nat) : Int) = t % (xs.length : Int) by omega] at z
      exact z
    generalize xs[(t % (xs.length : Int)).toNat] = cell at hat
    refine iteT ⟨_, rfl, f, _, _, _, rfl, rfl, SqL.of hf3, rfl, _, rfl, .inl ⟨_, rfl, _, rfl, f, _, _, _, rfl, rfl, SqL.of hf3, rfl, c, _, rfl, .inl (SqL.of hc3), _, _, rfl, rfl, by rw [hml]; exact hx0, c, _, _, _, rfl, rfl, SqL.of hc3, hat, ?_⟩⟩
    refine ⟨_, rfl, _, rfl, f, _, _, _, rfl, rfl, SqL.of hf3, rfl, c, _, rfl, .inl (SqL.of hc3), _, _, rfl, rfl, _, rfl, ?_⟩
    have hfin := fun (r' : Int) (h1 : 0 ≤ r') (h2 : r' < m) => k r' H3 h1 h2 e3 ⟨t + 1, r, xs, hf3, hc3, hcf, hxl, by omega, by omega, hr0⟩
    by_cases hlt : t < ((xs.map V.int).length : Int)
    · rw [decide_eq_true hlt]
      refine iteT ⟨_, rfl, _, rfl, _, _, rfl, rfl, ⟨by decide, by decide, by decide⟩, _, _, rfl, rfl, _, rfl, ?_⟩
      by_cases hge : (if cell < 0 then -cell else cell) ≥ (10 : Int) ^ (18 : Int).toNat
      · refine iteDT hge ⟨_, rfl, _, rfl, _, _, rfl, rfl, ⟨by decide, by decide, by decide⟩, _, _, rfl, rfl, _, _, rfl, rfl, .inl ⟨by decide, by decide⟩, _, rfl, _, _, rfl, rfl, .inr ⟨_, rfl, _, _, rfl, rfl, ?_⟩⟩
        have hrest := cross_rest (b := decide (cell < 0)) hge
        refine ⟨_, rfl, .inl ⟨_, rfl, _, rfl, _, _, rfl, rfl, ⟨by omega, by omega⟩, _, rfl, f, _, _, _, rfl, rfl, hf3, rfl, ?_⟩⟩
        have hd : 0 ≤ (2 * ((if cell < 0 then -cell else cell) - (10 : Int) ^ (18 : Int).toNat) + (if decide (cell < 0) = true then 1 else 0)).fdiv m := by rw [Int.fdiv_eq_ediv_of_nonneg _ (by omega)]; exact Int.ediv_nonneg hrest (by omega)
        obtain ⟨g1, g2⟩ := fer_put (b := b + 1) hf3 hc3 hcf hxl (show 0 ≤ t + 1 by omega) (by omega) hd
        refine ⟨_, rfl, .inl ⟨_, rfl, _, rfl, _, _, rfl, rfl, by omega, ?_⟩⟩
        exact k _ _ (Int.emod_nonneg _ (by omega)) (Int.emod_lt_of_pos _ (by omega)) (e3.trans g2) g1
      refine iteDF hge ?_
      refine ⟨_, rfl, .inl ⟨_, rfl, _, _, rfl, rfl, by show (0 : Int) < 2147483053; decide, _, rfl, _, _, rfl, rfl, .inl ⟨by decide, by decide⟩, _, _, rfl, rfl, _, _, rfl, rfl, _, _, rfl, rfl, ⟨by decide, by decide, cross_b1 _ ht0 (by omega)⟩, .inl ⟨_, rfl, _, _, rfl, rfl, by show (0 : Int) < 2147483043; decide, ?_⟩⟩⟩
      refine ⟨_, rfl, _, rfl, _, _, rfl, rfl, .inl ⟨by decide, by decide⟩, _, _, rfl, rfl, _, _, rfl, rfl, .inl (mod_bd _), _, rfl, _, _, rfl, rfl, .inl ⟨by decide, by decide⟩, _, rfl, _, _, rfl, rfl, .inl (cross_b3 ht0 (by omega)), _, _, rfl, rfl, _, _, rfl, rfl, _, _, rfl, rfl, ⟨by decide, by decide, cross_b2 _ ht0 (by omega)⟩, .inl ⟨_, rfl, _, _, rfl, rfl, by show (0 : Int) < 2147483037; decide, ?_⟩⟩
      refine ⟨_, rfl, _, _, rfl, rfl, ⟨by decide, by decide⟩, .inl ⟨_, rfl, _, rfl, _, _, rfl, rfl, by omega, ?_⟩⟩
      exact hfin _ (Int.emod_nonneg _ (by omega)) (Int.emod_lt_of_pos _ (by omega))
    rw [decide_eq_false hlt]
    refine iteF (iteF ?_)
    refine ⟨_, rfl, .inl ⟨_, rfl, _, _, rfl, rfl, by show (0 : Int) < 2147483053; decide, _, rfl, _, _, rfl, rfl, .inl ⟨by decide, by decide⟩, _, _, rfl, rfl, _, _, rfl, rfl, _, _, rfl, rfl, ⟨by decide, by decide, cross_b1 _ ht0 (by omega)⟩, .inl ⟨_, rfl, _, _, rfl, rfl, by show (0 : Int) < 2147483043; decide, ?_⟩⟩⟩
    refine ⟨_, rfl, _, rfl, _, _, rfl, rfl, .inl ⟨by decide, by decide⟩, _, _, rfl, rfl, _, _, rfl, rfl, .inl (mod_bd _), _, rfl, _, _, rfl, rfl, .inl ⟨by decide, by decide⟩, _, rfl, _, _, rfl, rfl, .inl (cross_b3 ht0 (by omega)), _, _, rfl, rfl, _, _, rfl, rfl, _, _, rfl, rfl, ⟨by decide, by decide, cross_b2 _ ht0 (by omega)⟩, .inl ⟨_, rfl, _, _, rfl, rfl, by show (0 : Int) < 2147483037; decide, ?_⟩⟩
    refine ⟨_, rfl, _, _, rfl, rfl, ⟨by decide, by decide⟩, .inl ⟨_, rfl, _, rfl, _, _, rfl, rfl, by omega, ?_⟩⟩
    exact hfin _ (Int.emod_nonneg _ (by omega)) (Int.emod_lt_of_pos _ (by omega))
end
end K50
end
section
set_option Elab.async false
set_option linter.all false
set_option maxRecDepth 100000
set_option maxHeartbeats 4000000
namespace K50
open PySem PySem.Spec L2
open PyProof.Rows (envOfC)
theorem seqIx {i : Int} {n : Nat} (h0 : 0 ≤ i) (h1 : i < n) : seqIndex? i n = some i.toNat := by
  unfold seqIndex?
  simp only [if_neg (show ¬ i < 0 by omega), decide_eq_true h0, decide_eq_true h1, Bool.and_self, if_true]
theorem at_ix {α : Type} {xs : List α} {i : Int} {x : α} (h0 : 0 ≤ i) (h : xs[i.toNat]? = some x) : atI xs i = some x := by
  unfold atI ixN
  have := (List.getElem?_eq_some_iff.mp h).1
  rw [if_pos h0, if_pos (by omega)]; exact h
/-- how long the list in slot j is -/
def muS (j : Nat) (σ : L2.St) (H : Hp) : Nat := match (σ[j]? : Option (Option V)) with
  | some (some (V.ref l)) => (match H l with
    | some (HO.lst xs) => xs.length
    | _ => 0)
  | _ => 0
theorem muS_eq {j : Nat} {σ : L2.St} {H : Hp} {l : Addr} {xs : List V} (h1 : σ[j]? = some (some (.ref l))) (h2 : H l = some (.lst xs)) : muS j σ H = xs.length := by
  unfold muS; rw [h1]; simp only [h2]
theorem map_erase {α β : Type} (f : α → β) : ∀ (l : List α) (i : Nat), (l.map f).eraseIdx i = (l.eraseIdx i).map f
  | [], _ => rfl
  | _ :: _, 0 => rfl
  | x :: l, i + 1 => by
    show f x :: (l.map f).eraseIdx i = f x :: (l.eraseIdx i).map f
    rw [map_erase f l i]
theorem erase_perm {α : Type} : ∀ (l : List α) (i : Nat) (h : i < l.length), ([l[i]] ++ l.eraseIdx i).Perm l
  | [], i, h => by simp at h
  | x :: l, 0, _ => .refl _
  | x :: l, i + 1, h => by
    have h' : i < l.length := by simpa using h
    have ih := erase_perm l i h'
    show (l[i] :: x :: l.eraseIdx i).Perm (x :: l)
    exact (List.Perm.swap _ _ _).trans (List.Perm.cons x ih)
theorem KF.one {f : Addr} {H H1 : Hp} (e : Kp N0 H H1) : Kp (fun a => a = f) H H1 := e.weak
theorem Fer.ne {H : Hp} {f c a : Addr} {b : Int} {xs : List V} (h : Fer H f c b) (ha : H a = some (.lst xs)) (hx : ∀ c t r, xs ≠ [.ref c, .int t, .int r]) : a ≠ f := by
  obtain ⟨t, r, _, hf, _⟩ := h
  intro z
  rw [z, hf] at ha
  cases ha
  exact hx _ _ _ rfl
theorem ints_ne {ns : List Int} : ∀ c t r, ns.map V.int ≠ [.ref c, .int t, .int r] := fun c t r h => by
  cases ns with
  | nil => cases h
  | cons n ns => cases h
section
variable {w : World} {K : PySem.W.Frag} {mg : Str → Option Value} {base : Heap}
def sp_law_pick (K : PySem.W.Frag) : Sp := fun vs H Q _ => ∃ (f c a : Addr) (xs : List V) (b : Int), vs = [.ref f, .ref a] ∧ Fer H f c b ∧ b < 1000000 ∧ H a = some (.lst xs) ∧ a ≠ f ∧ 1 ≤ xs.length ∧ xs.length < 1000000 ∧
  ∀ (i : Nat) x H', xs[i]? = some x → Kp (fun a => a = f) H H' → Fer H' f c (b + 1) → Q x H'
theorem sc_law_pick : FnScope ["_law_ferry_here", "_law_some"] ["_law_ferry_here", "_law_some"] (defScope s_law_pick) := ⟨rfl, rfl, rfl, by decide +kernel, rfl, by decide +kernel, by decide +kernel⟩
theorem c_law_pick (T : TX K mg) : C8.Cal P w K mg base 2 "_law_pick" (sp_law_pick K) [] := by
  refine mkCal (k := 1) T.g_law_pick T.d_law_pick (fun _ _ _ _ _ _ us hl => match us, hl with | [_, _], _ => rfl) sc_law_pick (fun vs H Q E h => ?_) (fun cdv A outer s H vs Q E hr h => ?_)
  · obtain ⟨f, c, a, xs, b, rfl, _⟩ := h; rfl
  · obtain ⟨f, c, a, xs, b, rfl, hf, hb, ha, haf, h1, h2, k⟩ := h
    refine ⟨_, (pss_one (ps_ret (pe_ix ix_list (pv 1) (C8.pe_c (c_law_cross T) hr (by decide) rfl (pa_cons (pv 0) (pa_cons (pe_callB call_len_seq (by rfl) T.f_len (by decide +kernel) (pa_cons (pv 1) pa_nil)) pa_nil))) (fun _ _ => rfl)))), ?_⟩
    refine ⟨_, rfl, _, rfl, _, rfl, a, _, rfl, .inl (SqL.of ha), f, c, xs.length, b, rfl, hf, hb, by omega, by omega, fun r H' r0 r1 e hf' => ?_⟩
    have hi : r.toNat < xs.length := by omega
    exact ⟨a, xs, r, xs[r.toNat], rfl, rfl, SqL.of (e.get haf ha), at_ix r0 (List.getElem?_eq_getElem hi), k r.toNat _ H' (List.getElem?_eq_getElem hi) e hf'⟩
def sp_law_mixed (K : PySem.W.Frag) : Sp := fun vs H Q _ => ∃ (f c a : Addr) (ns : List Int) (b : Int), vs = [.ref f, .ref a] ∧ Fer H f c b ∧ b + ns.length < 1000000 ∧ H a = some (.lst (ns.map V.int)) ∧ ns.length < 1000 ∧
  ∀ l (ms : List Int) H', Kp (fun a => a = f) H H' → Fer H' f c (b + ns.length) → H' l = some (.lst (ms.map V.int)) → ms.Perm ns → Q (.ref l) H'
theorem sc_law_mixed : FnScope ["_law_ferry_here", "_law_some", "_law_left", "_law_found"] ["_law_ferry_here", "_law_some"] (defScope s_law_mixed) := ⟨rfl, rfl, rfl, by decide +kernel, rfl, by decide +kernel, by decide +kernel⟩
theorem c_law_mixed (T : TX K mg) : C8.Cal P w K mg base 2 "_law_mixed" (sp_law_mixed K) [] := by
  refine mkCal (k := 1) T.g_law_mixed T.d_law_mixed (fun _ _ _ _ _ _ us hl => match us, hl with | [_, _], _ => rfl) sc_law_mixed (fun vs H Q E h => ?_) (fun cdv A outer s H vs Q E hr h => ?_)
  · obtain ⟨f, c, a, ns, b, rfl, _⟩ := h; rfl
  · obtain ⟨f, c, a, ns, b, rfl, hf, hb, ha, hl, k⟩ := h
    refine ⟨_, (pss_cons (ps_par (i := 2) (j := 3) rfl sc_law_mixed.nd rfl rfl (by decide) rfl rfl (pa_cons (pe_callTy call_list_of (by rfl) T.f_list (by decide +kernel) (pa_cons (pv 1) pa_nil)) (pa_cons (pe_lst pa_nil) pa_nil)) (by rfl))
      (pss_cons (ps_while PassesOwn.never (pt_cmpR (op_neD hr.units) (pv 2) (pe_lst pa_nil) (nomark _)) (pss_one (ps_expr (pe_bm PySem.F.plainAttrs_list PySem.F.slot_list_append PySem.F.type_list_append mt_append (pv 3) (pa_cons (pe_bm PySem.F.plainAttrs_list PySem.F.slot_list_pop PySem.F.type_list_pop mt_popAt (pv 2) (pa_cons (C8.pe_c (c_law_cross T) hr (by decide) rfl (pa_cons (pv 0) (pa_cons (pe_callB call_len_seq (by rfl) T.f_len (by decide +kernel) (pa_cons (pv 2) pa_nil)) pa_nil))) pa_nil)) pa_nil)))))
      (pss_one (ps_ret (pv 3))))), ?_⟩
    refine ⟨_, rfl, a, _, rfl, .inl (SqL.of ha), fun p hp => ⟨by show 0 ≤ sizeLine; decide, fun q hq => ⟨_, _, rfl, ?_⟩⟩⟩
    have e1 := Kp.new (F := N0) (o := .lst (ns.map V.int)) hp
    have hp1 : (upd H p (.lst (ns.map V.int))) p = _ := upd_same
    generalize upd H p (.lst (ns.map V.int)) = H1 at e1 hp1 hq ⊢
    have e2 := Kp.new (F := N0) (o := .lst []) hq
    have hq2 : (upd H1 q (.lst [])) q = some (.lst (([] : List Int).map V.int)) := upd_same
    have hp2 := e2.get0 hp1
    generalize upd H1 q (.lst []) = H2 at e2 hq2 hp2 ⊢
    have E2 := e1.trans e2
    have qH : H q = none := e1.back hq
    have hp' : H p = none := hp
    have pq : ¬ p = q := ne_of_none hp1 hq
    refine while_by (fun σ H' => σ = [some (.ref f), some (.ref a), some (.ref p), some (.ref q)] ∧ Kp (fun a => a = f) H H' ∧ ∃ ls ms : List Int, H' p = some (.lst (ls.map V.int)) ∧ H' q = some (.lst (ms.map V.int)) ∧ (ms ++ ls).Perm ns ∧ Fer H' f c (b + ms.length)) (muS 2) ?_ ?_ ?_
    · refine ⟨rfl, E2.weak, ns, [], hp2, hq2, .refl _, ?_⟩
      exact (hf.mono E2).more (by simp)
    · rintro σ H3 ⟨rfl, e3, ls, ms, hp3, hq3, hpm, hf3⟩
      refine ⟨_, rfl, by show 0 ≤ sizeLine; decide, fun g hg => ?_⟩
      have e4 := Kp.new (F := N0) (o := .lst []) hg
      have hg4 : (upd H3 g (.lst [])) g = some (.lst (([] : List Int).map V.int)) := upd_same
      generalize upd H3 g (.lst []) = H4 at e4 hg4 ⊢
      have hp4 := e4.get0 hp3
      have hq4 := e4.get0 hq3
      have hf4 := hf3.mono e4
      refine ⟨_, _, dp_list (SqL.of hp4), dp_list (SqL.of hg4), sh_list, sh_list, ?_⟩
      rw [eqv_list]
      refine ⟨_, rfl, ?_⟩
      have hlen := hpm.length_eq
      rw [List.length_append] at hlen
      by_cases hx : ls = []
      · rw [decide_eq_true hx]
        subst hx
        refine iteF ⟨_, rfl, k q ms H4 (e3.trans e4.weak) (by rw [show ms.length = ns.length from by simpa using hlen] at hf4; exact hf4) hq4 (by simpa using hpm)⟩
      · rw [decide_eq_false hx]
        have lpos := List.length_pos_iff.mpr hx
        have pf := hf4.ne hp4 ints_ne
        have qf := hf4.ne hq4 ints_ne
        refine iteT ⟨_, rfl, .inl ⟨rfl, _, SqL.of hq4⟩, _, rfl, .inl ⟨rfl, _, SqL.of hp4⟩, _, rfl, _, rfl, p, _, rfl, .inl (SqL.of hp4), f, c, ((ls.map V.int).length : Int), b + ms.length, rfl, hf4, by omega, by rw [List.length_map]; omega, by rw [List.length_map]; omega, fun r H5 r0 r1 e5 hf5 => ?_⟩
        rw [List.length_map] at r1
        have hi : r.toNat < ls.length := by omega
        have hp5 := e5.get pf hp4
        have hq5 := e5.get qf hq4
        have hget : (ls.map V.int)[r.toNat]? = some (.int ls[r.toNat]) := by rw [List.getElem?_map, List.getElem?_eq_getElem hi]; rfl
        refine ⟨p, _, r, r.toNat, _, rfl, rfl, hp5, by omega, by omega, seqIx r0 (by rw [List.length_map]; exact r1), hget, ?_⟩
        have E5 : Kp (fun a => a = f) H H5 := (e3.trans e4.weak).trans e5
        have fq : f ≠ q := fun z => qf z.symm
        have fp : f ≠ p := fun z => pf z.symm
        have e6 : Kp (fun a => a = f) H (upd H5 p (.lst ((ls.map V.int).eraseIdx r.toNat))) := E5.mut hp
        have hq6 : (upd H5 p (.lst ((ls.map V.int).eraseIdx r.toNat))) q = some (.lst (ms.map V.int)) := by rw [upd_ne (fun z => pq z.symm)]; exact hq5
        refine ⟨q, _, _, rfl, rfl, hq6, by rw [List.length_map]; refine small_line (by omega), ⟨rfl, e6.mut qH, ls.eraseIdx r.toNat, ms ++ [ls[r.toNat]], ?_, ?_, ?_, ?_⟩, ?_⟩
        · rw [upd_ne pq, upd_same, map_erase]
        · rw [upd_same, List.map_append]; rfl
        · refine List.Perm.trans ?_ hpm
          rw [List.append_assoc]
          refine List.Perm.append_left _ ?_
          exact erase_perm ls r.toNat hi
        · rw [List.length_append]
          have cp : c ≠ p := (hf.new hp').2
          have cq : c ≠ q := (hf.new qH).2
          refine ((hf5.more ?_).other fp cp).other fq cq
          show b + ms.length + 1 ≤ b + ((ms.length + 1 : Nat) : Int)
          omega
        · rw [muS_eq (j := 2) (l := p) rfl hp3, muS_eq (j := 2) (l := p) (xs := (ls.map V.int).eraseIdx r.toNat) rfl (by rw [upd_ne pq, upd_same]), List.length_eraseIdx, List.length_map, if_pos hi]
          omega
    · exact fun σ H Q Q' hh ⟨v, hv, hz, h⟩ => ⟨v, hv, hz, fun l hl => let ⟨d, e, h1, h2, h3, h4, c, h5, h6⟩ := h l hl; ⟨d, e, h1, h2, h3, h4, c, h5, hh _ _ h6⟩⟩
end
end K50
end
section
set_option Elab.async false
set_option linter.all false
set_option maxRecDepth 100000
set_option maxHeartbeats 4000000
namespace K50
open PySem PySem.Spec L2
open PyProof.Rows (envOfC)
theorem room65 {k : Nat} {A : Around} (hr : Room k A) : A.units + 65 < cLine := by have := hr.un; omega
theorem any_rows {α : Type} {enc : α → List Int} (inj : ∀ a b, enc a = enc b → a = b) [DecidableEq α] {ps : List α} {p : α} : ((dRows (ps.map enc)).any fun z => PyData.eqv z (.tuple (dInts (enc p)))) = decide (p ∈ ps) := by
  unfold dRows
  induction ps with
  | nil => simp
  | cons q ps ih =>
    rw [List.map_cons, List.map_cons, List.any_cons, ih, eqv_tup]
    by_cases h : q = p
    · subst h; simp
    · have h1 : ¬ enc q = enc p := fun z => h (inj _ _ z)
      have h2 : ¬ p = q := fun z => h z.symm
      simp [h1, h2]
theorem nb_one {p : Int × Int} {i : Int} : (if p.1 = i then [p.2] else if p.2 = i then [p.1] else []).length ≤ 1 := by
  split
  · simp
  · split <;> simp
section
variable {w : World} {K : PySem.W.Frag} {mg : Str → Option Value} {base : Heap}
def sp_law_turn (K : PySem.W.Frag) : Sp := fun vs H Q _ => ∃ (f c : Addr) (b : Int), vs = [.ref f] ∧ Fer H f c b ∧ b + 2 < 1000000 ∧ ∀ (t : Int) H', 0 ≤ t → t ≤ 7 → Kp (fun a => a = f) H H' → Fer H' f c (b + 2) → Q (.int t) H'
theorem sc_law_turn : FnScope ["_law_ferry_here"] ["_law_ferry_here"] (defScope s_law_turn) := ⟨rfl, rfl, rfl, by decide +kernel, rfl, by decide +kernel, by decide +kernel⟩
theorem c_law_turn (T : TX K mg) : C8.Cal P w K mg base 3 "_law_turn" (sp_law_turn K) [] := by
  refine mkCal (k := 2) T.g_law_turn T.d_law_turn (fun _ _ _ _ _ _ us hl => match us, hl with | [_], _ => rfl) sc_law_turn (fun vs H Q E h => ?_) (fun cdv A outer s H vs Q E hr h => ?_)
  · obtain ⟨f, c, b, rfl, _⟩ := h; rfl
  · obtain ⟨f, c, b, rfl, hf, hb, k⟩ := h
    refine ⟨_, (pss_one (ps_ret (C8.pe_c (c_law_pick T) hr (by decide) rfl (pa_cons (pv 0) (pa_cons (pe_lst (pa_cons pe_int (pa_cons pe_int (pa_cons pe_int (pa_cons pe_int (pa_cons pe_int (pa_cons pe_int (pa_cons pe_int (pa_cons (pe_op op_add pe_int (pe_op op_mul pe_int (C8.pe_c (c_law_cross T) hr (by decide) rfl (pa_cons (pv 0) (pa_cons pe_int pa_nil))))) pa_nil))))))))) pa_nil))))), ?_⟩
    refine ⟨_, rfl, _, rfl, f, c, 4, b, rfl, hf, by omega, by omega, by omega, fun r H1 r0 r1 e1 hf1 => ?_⟩
    refine ⟨_, _, rfl, rfl, .inl ⟨by decide, by decide⟩, _, _, rfl, rfl, by show 8 ≤ sizeLine; decide, fun l hl => ?_⟩
    obtain ⟨n1, n2⟩ := hf1.new hl
    have e2 := Kp.new (F := fun a => a = f) (o := .lst [V.int 2, .int 6, .int 0, .int 4, .int 2, .int 0, .int 6, .int (1 + 2 * r)]) hl
    refine ⟨f, c, l, [V.int 2, .int 6, .int 0, .int 4, .int 2, .int 0, .int 6, .int (1 + 2 * r)], b + 1, rfl, hf1.other n1 n2, by omega, upd_same, fun z => n1 z.symm, by show 1 ≤ 8; omega, by show 8 < 1000000; omega, fun i x H' hi e hf' => ?_⟩
    have hx : ∃ t : Int, x = .int t ∧ 0 ≤ t ∧ t ≤ 7 := by
      have hm := List.mem_of_getElem? hi
      simp only [List.mem_cons, List.not_mem_nil, or_false] at hm
      rcases hm with rfl | rfl | rfl | rfl | rfl | rfl | rfl | rfl <;> exact ⟨_, rfl, by omega, by omega⟩
    obtain ⟨t, rfl, t0, t7⟩ := hx
    exact k t H' t0 t7 ((e1.trans e2).trans e) (by rw [show b + 2 = b + 1 + 1 by omega]; exact hf')
def sp_law_toggled (K : PySem.W.Frag) : Sp := fun vs H Q _ => ∃ (a : Addr) (i j : Int) (xs : List V) (ps : List (Int × Int)), vs = [.ref a, .int i, .int j] ∧ H a = some (.lst xs) ∧ Prs H xs ps ∧ xs.length < 1000 ∧ ∀ l ys H', Kp N0 H H' → H l = none → H' l = some (.lst ys) → Prs H' ys (tog1 ps (norm (i, j))) → Q (.ref l) H'
theorem sc_law_toggled : FnScope ["_law_strings", "_law_one", "_law_other", "_law_ends", "_law_string"] ["_law_strings", "_law_one", "_law_other"] (defScope s_law_toggled) := ⟨rfl, rfl, rfl, by decide +kernel, rfl, by decide +kernel, by decide +kernel⟩
theorem c_law_toggled (T : TX K mg) : C8.Cal P w K mg base 1 "_law_toggled" (sp_law_toggled K) [] := by
  refine mkCal (k := 0) T.g_law_toggled T.d_law_toggled (fun _ _ _ _ _ _ us hl => match us, hl with | [_, _, _], _ => rfl) sc_law_toggled (fun vs H Q E h => ?_) (fun cdv A outer s H vs Q E hr h => ?_)
  · obtain ⟨a, i, j, xs, ps, rfl, _⟩ := h; rfl
  · obtain ⟨a, i, j, xs, ps, rfl, ha, hp, hl, k⟩ := h
    refine ⟨_, (pss_cons (ps_set (i := 3) sc_law_toggled.nd rfl (Or.inr rfl) (pe_tup (pa_cons (pe_callB (call_min2 rfl) (by rfl) T.f_min (by decide +kernel) (pa_cons (pv 1) (pa_cons (pv 2) pa_nil))) (pa_cons (pe_callB (call_max2 rfl) (by rfl) T.f_max (by decide +kernel) (pa_cons (pv 1) (pa_cons (pv 2) pa_nil))) pa_nil))))
      (pss_one (ps_ret (pe_ifExp (pt_cmpR (op_inD (room65 hr)) (pv 3) (pv 0) (by rfl)) (pe_lc (own := [("_law_string", 4)]) (by rfl) sc_law_toggled.nd (pi_list (pv 0)) (blkOk_by (N := ["_law_strings", "_law_one", "_law_other", "_law_ends", "_law_string"]) (sc := defScope s_law_toggled) (own := [("_law_string", 4)]) (by decide +kernel)) (fun _ _ _ _ _ => (pg_name (i := 4) sc_law_toggled.nd rfl (Or.inl rfl))) (fun _ _ _ _ _ => pts_one (pt_cmpR (r := rNeD K) (or_neD rfl hr.units) (pv 4) (pv 3) (nomark _))) (fun _ _ _ _ _ => (pv 4))) (pe_op op_cat (pv 0) (pe_lst (pa_cons (pv 3) pa_nil))))))), ?_⟩
    have w1 : (if j < i then j else i) = min i j := by rw [Int.min_def]; split <;> split <;> omega
    have w2 : (if j > i then j else i) = max i j := by rw [Int.max_def]; split <;> split <;> omega
    refine ⟨_, rfl, _, rfl, _, _, rfl, _, rfl, _, rfl, _, _, rfl, by show 2 ≤ sizeLine; decide, fun t ht => ?_⟩
    rw [w1, w2]
    have e1 := Kp.new (F := N0) (o := .tup [V.int (min i j), .int (max i j)]) ht
    have ht1 : (upd H t (.tup [V.int (min i j), .int (max i j)])) t = some (.tup ((pr (norm (i, j))).map V.int)) := upd_same
    generalize upd H t (.tup [V.int (min i j), .int (max i j)]) = H1 at e1 ht1 ⊢
    generalize norm (i, j) = p at ht1 k
    have ha1 := e1.get0 ha
    have hp1 := hp.mono e1.tp
    refine ⟨_, rfl, _, rfl, _, _, dp_isT ⟨t, rfl, ht1⟩, .lst (SqL.of ha1) (dp_rows hp1), sh_tup, sh_rows, ?_⟩
    rw [any_rows (fun _ _ => pr_inj)]
    refine ⟨_, rfl, ?_⟩
    by_cases hm : p ∈ ps
    · refine iteDT hm ⟨_, rfl, a, rfl, ⟨_, SqL.of ha1⟩, fun D hD => ?_⟩
      refine lcW (walk_list (K := K) (a := a) (xs := xs)) N0 (fun n ys H => Prs H ys ((ps.take n).filter fun q => decide (q ≠ p))) hD id (by omega) (fun H' e => e.sql (SqL.of ha1)) (fun _ _ => Rw.nil) (fun _ _ _ _ e h => h.mono e) ?_ ?_
      · rintro n x ys H2 _ Zy Zn hi ⟨rfl, hx⟩ e2 hy hP _ hZ hN
        obtain ⟨q, hq, hv⟩ := (hp1.mono e2.tp).get hx
        have hg := filter_take (f := fun q : Int × Int => decide (q ≠ p)) hq
        refine ⟨rfl, _, rfl, _, rfl, _, _, dp_isT hv, dp_isT ⟨t, rfl, e2.t _ _ ht1⟩, sh_tup, sh_tup, ?_⟩
        rw [eqv_tup]
        refine ⟨_, rfl, ?_⟩
        by_cases hqp : q = p
        · rw [decide_eq_true (congrArg pr hqp)]
          refine iteF (hN _ Kp.refl ?_)
          rw [hg, if_neg (by simp [hqp]), List.append_nil]; exact hP
        · rw [decide_eq_false fun z => hqp (pr_inj z)]
          refine iteT ⟨_, rfl, hZ _ _ Kp.refl ?_⟩
          rw [hg, if_pos (by simp [hqp])]; exact hP.snoc hv
      · rintro ys H2 e2 hy hP
        rw [hp.length, take_all] at hP
        refine k D ys H2 (e1.trans e2) (e1.back hD) hy ?_
        unfold tog1; rw [if_pos hm]; exact hP
    · refine iteDF hm ⟨_, rfl, _, rfl, by show 1 ≤ sizeLine; decide, fun g hg => ?_⟩
      have e2 := Kp.new (F := N0) (o := .lst [V.ref t]) hg
      have hg2 : (upd H1 g (.lst [V.ref t])) g = some (.lst [V.ref t]) := upd_same
      generalize upd H1 g (.lst [V.ref t]) = H2 at e2 hg2 ⊢
      refine ⟨a, g, xs, [V.ref t], rfl, rfl, e2.get0 ha1, hg2, by have e : sizeLine = 16777216 := rfl; show xs.length + 1 ≤ _; omega, fun l hl' => ?_⟩
      have e3 := Kp.new (F := N0) (o := .lst (xs ++ [V.ref t])) hl'
      refine k l _ _ ((e1.trans e2).trans e3) (e1.back (e2.back hl')) upd_same ?_
      unfold tog1; rw [if_neg hm]
      exact (hp1.mono (e2.trans e3).tp).snoc ⟨t, rfl, (e2.trans e3).t _ _ ht1⟩
def sp_law_near (K : PySem.W.Frag) : Sp := fun vs H Q _ => ∃ (a : Addr) (i : Int) (xs : List V) (ps : List (Int × Int)), vs = [.ref a, .int i] ∧ H a = some (.lst xs) ∧ Prs H xs ps ∧ xs.length < 64 ∧ (∀ p ∈ ps, p.1 ≠ p.2) ∧ ∀ l (ns : List Int) H', Kp N0 H H' → H' l = some (.lst (ns.map V.int)) → ns.Perm (nbr ps i) → Q (.ref l) H'
theorem sc_law_near : FnScope ["_law_strings", "_law_thing", "_law_one", "_law_other"] ["_law_strings", "_law_thing"] (defScope s_law_near) := ⟨rfl, rfl, rfl, by decide +kernel, rfl, by decide +kernel, by decide +kernel⟩
theorem c_law_near (T : TX K mg) : C8.Cal P w K mg base 1 "_law_near" (sp_law_near K) [] := by
  refine mkCal (k := 0) T.g_law_near T.d_law_near (fun _ _ _ _ _ _ us hl => match us, hl with | [_, _], _ => rfl) sc_law_near (fun vs H Q E h => ?_) (fun cdv A outer s H vs Q E hr h => ?_)
  · obtain ⟨a, i, xs, ps, rfl, _⟩ := h; rfl
  · obtain ⟨a, i, xs, ps, rfl, ha, hp, hl, hne, k⟩ := h
    refine ⟨_, (pss_one (ps_ret (pe_callB cr_sorted (by rfl) T.f_sorted (by decide +kernel) (pa_cons (pe_lc (own := [("_law_one", 2), ("_law_other", 3)]) (by rfl) sc_law_near.nd (pi_list (pv 0)) (blkOk_by (N := ["_law_strings", "_law_thing", "_law_one", "_law_other"]) (sc := defScope s_law_near) (own := [("_law_one", 2), ("_law_other", 3)]) (by decide +kernel)) (fun _ _ _ _ _ => (pg_tupK (K := K) 2 rfl rfl (pgs_cons (pg_name (i := 2) sc_law_near.nd rfl (Or.inl rfl)) (pgs_cons (pg_name (i := 3) sc_law_near.nd rfl (Or.inl rfl)) pgs_nil)))) (fun _ _ _ _ _ => pts_one (pt_cmpR (r := rIn K false) (or_in rfl) (pv 1) (pe_tup (pa_cons (pv 2) (pa_cons (pv 3) pa_nil))) (by rfl))) (fun _ _ _ _ _ => (pe_op op_sub (pe_op op_add (pv 2) (pv 3)) (pv 1)))) pa_nil)))), ?_⟩
    refine ⟨_, rfl, a, rfl, ⟨_, SqL.of ha⟩, fun D hD => ?_⟩
    refine lcW (walk_list (K := K) (a := a) (xs := xs)) N0 (fun n ys _ => ys = (nbr (ps.take n) i).map V.int) hD id (by omega) (fun H' e => e.sql (SqL.of ha)) (fun _ _ => rfl) (fun _ _ _ _ _ h => h) ?_ ?_
    · rintro n x ys H2 _ Zy Zn hi ⟨rfl, hx⟩ e2 hy rfl _ hZ hN
      obtain ⟨q, hq, c, rfl, hc⟩ := (hp.mono e2.tp).get hx
      have hqn := hne q (List.mem_of_getElem? hq)
      have hg := nbr_snoc (ps.take n) q i
      rw [← take_snoc hq] at hg
      refine ⟨c, _, rfl, SqT.of hc, rfl, .int q.1, _, rfl, .int q.2, _, rfl, rfl, rfl, ?_⟩
      refine ⟨_, rfl, _, rfl, _, rfl, by show 2 ≤ sizeLine; decide, fun t ht => ?_⟩
      have e3 := Kp.new (F := N0) (o := .tup [V.int q.1, .int q.2]) ht
      refine ⟨t, [V.int q.1, .int q.2], rfl, .inr (SqT.of upd_same), rfl, rfl, _, rfl, ?_⟩
      have hin : inV (.int i) [V.int q.1, .int q.2] = decide (q.1 = i ∨ q.2 = i) := by
        simp only [inV, List.any_cons, List.any_nil, eqV, Bool.or_false]
        by_cases a1 : q.1 = i <;> by_cases a2 : q.2 = i <;> simp [a1, a2]
      rw [hin]
      by_cases a1 : q.1 = i
      · refine iteDT (.inl a1) ⟨_, rfl, _, rfl, _, _, rfl, rfl, _, rfl, _, _, rfl, rfl, hZ _ _ e3 ?_⟩
        rw [hg, if_pos a1, List.map_append]
        show _ ++ [V.int (q.1 + q.2 - i)] = _
        rw [show q.1 + q.2 - i = q.2 by omega]; rfl
      · by_cases a2 : q.2 = i
        · refine iteDT (.inr a2) ⟨_, rfl, _, rfl, _, _, rfl, rfl, _, rfl, _, _, rfl, rfl, hZ _ _ e3 ?_⟩
          rw [hg, if_neg a1, if_pos a2, List.map_append]
          show _ ++ [V.int (q.1 + q.2 - i)] = _
          rw [show q.1 + q.2 - i = q.1 by omega]; rfl
        · refine iteDF (fun z => z.elim a1 a2) (hN _ e3 ?_)
          rw [hg, if_neg a1, if_neg a2, List.append_nil]
    · rintro ys H2 e2 hy rfl
      rw [hp.length, take_all] at hy
      have hln : (nbr ps i).length < 64 := by
        have h : (nbr ps i).length ≤ ps.length * 1 := flatMap_le fun p _ => nb_one
        have h2 := hp.length
        omega
      refine ⟨D, _, rfl, SqL.of hy, hln, fun ns' p hpm _ hpn => ?_⟩
      exact k p ns' _ (e2.trans (Kp.new hpn)) upd_same hpm
end
end K50
end
section
set_option Elab.async false
set_option linter.all false
set_option maxRecDepth 100000
set_option maxHeartbeats 4000000
/-! data of the law's drawn nets -/
namespace K50
open PySem PySem.Spec L2
theorem rg_succ {n : Int} (h : 0 ≤ n) : rg (n + 1) = rg n ++ [n] := by
  unfold rg
  rw [show (n + 1).toNat = n.toNat + 1 by omega, List.range_succ, List.map_append]
  congr 1
  show [((n.toNat : Nat) : Int)] = [n]
  rw [show ((n.toNat : Nat) : Int) = n by omega]
theorem set_perm : ∀ {F : List Int} {w : Nat} {x y : Int}, F[w]? = some x → ([x] ++ F.set w y).Perm (F ++ [y])
  | [], _, _, _, h => by simp at h
  | a :: F, 0, x, y, h => by
    obtain rfl : a = x := by simpa using h
    show (a :: y :: F).Perm (a :: (F ++ [y]))
    refine List.Perm.cons _ ?_
    have := List.perm_append_comm (l₁ := [y]) (l₂ := F)
    exact this
  | a :: F, w + 1, x, y, h => by
    have ih := set_perm (F := F) (w := w) (x := x) (y := y) (by simpa using h)
    show (x :: a :: F.set w y).Perm (a :: (F ++ [y]))
    exact (List.Perm.swap _ _ _).trans (List.Perm.cons a ih)
theorem perm_filter {A B L : List Int} (h : (A ++ B).Perm L) (nd : L.Nodup) : A.Perm (L.filter fun t => !B.contains t) := by
  have nd' := h.nodup_iff.mpr nd
  have dj := (List.nodup_append.mp nd').2.2
  refine List.Perm.trans ?_ (h.filter _)
  rw [List.filter_append]
  have e1 : A.filter (fun t => !B.contains t) = A := List.filter_eq_self.mpr fun a ha => by
    rw [Bool.not_eq_true', ← Bool.not_eq_true, List.contains_iff_mem]
    exact fun hb => dj a ha a hb rfl
  have e2 : B.filter (fun t => !B.contains t) = [] := List.filter_eq_nil_iff.mpr fun b hb => by
    rw [List.contains_iff_mem.mpr hb]; simp
  rw [e1, e2, List.append_nil]
/-- a number by a list of numbers -/
def toF (ms : List Int) (i : Int) : Int := ms.getD i.toNat 0
section
variable {ms : List Int} {n : Int} (h : ms.Perm (rg n)) (h0 : 0 ≤ n)
include h h0
theorem ms_len : ms.length = n.toNat := by rw [h.length_eq, rg_len]
theorem ms_nd : ms.Nodup := h.nodup_iff.mpr rg_nodup
theorem to_get {i : Int} (hi : 0 ≤ i ∧ i < n) : ms[i.toNat]? = some (toF ms i) := by
  have hl := ms_len h h0
  unfold toF
  rw [List.getD_eq_getElem?_getD, List.getElem?_eq_getElem (by omega)]; rfl
theorem to_bd {i : Int} (hi : 0 ≤ i ∧ i < n) : 0 ≤ toF ms i ∧ toF ms i < n := mem_rg.mp (h.mem_iff.mp (List.mem_of_getElem? (to_get h h0 hi)))
theorem to_inj {i j : Int} (hi : 0 ≤ i ∧ i < n) (hj : 0 ≤ j ∧ j < n) (e : toF ms i = toF ms j) : i = j := by
  have h1 := to_get h h0 hi
  rw [e] at h1
  have := nodup_at_any (ms_nd h h0) h1 (to_get h h0 hj)
  omega
theorem to_all : (rg n).map (toF ms) = ms := by
  refine List.ext_getElem (by rw [List.length_map, rg_len, ms_len h h0]) fun k h1 h2 => ?_
  rw [List.getElem_map]
  have hk : (k : Int) < n := by have := ms_len h h0; omega
  have e : (rg n)[k]? = some (k : Int) := rg_get hk
  obtain ⟨h3, h4⟩ := List.getElem?_eq_some_iff.mp e
  rw [h4]
  have h5 := to_get h h0 (i := (k : Int)) ⟨by omega, hk⟩
  rw [show ((k : Int)).toNat = k by omega, List.getElem?_eq_getElem h2] at h5
  exact (Option.some.inj h5).symm
theorem to_rest {A B : List Int} (hab : (A ++ B).Perm (rg n)) : (A.map (toF ms)).Perm ((rg n).filter fun t => !(B.map (toF ms)).contains t) := by
  refine perm_filter ?_ rg_nodup
  rw [← List.map_append]
  refine (hab.map _).trans ?_
  rw [to_all h h0]; exact h
theorem to_es {ps : List (Int × Int)} (hp : ∀ p ∈ ps, 0 ≤ p.1 ∧ p.1 < p.2 ∧ p.2 < n) : ∀ q ∈ ps.map fun p => norm (toF ms p.1, toF ms p.2), 0 ≤ q.1 ∧ q.1 < q.2 ∧ q.2 < n := by
  intro q hq
  obtain ⟨p, hm, rfl⟩ := List.mem_map.mp hq
  obtain ⟨p1, p2, p3⟩ := hp p hm
  refine norm_bd (to_bd h h0 ⟨p1, by omega⟩) (to_bd h h0 ⟨by omega, p3⟩) fun e => ?_
  have := to_inj h h0 ⟨p1, by omega⟩ ⟨by omega, p3⟩ e
  omega
theorem to_ns {ps : List (Int × Int)} (hp : ∀ p ∈ ps, 0 ≤ p.1 ∧ p.1 < p.2 ∧ p.2 < n) (nd : ps.Nodup) : (ps.map fun p => norm (toF ms p.1, toF ms p.2)).Nodup := by
  refine nodup_map_on nd fun a ha b hb e => ?_
  obtain ⟨a1, a2, a3⟩ := hp a ha
  obtain ⟨b1, b2, b3⟩ := hp b hb
  have e1 : min (toF ms a.1) (toF ms a.2) = min (toF ms b.1) (toF ms b.2) := congrArg Prod.fst e
  have e2 : max (toF ms a.1) (toF ms a.2) = max (toF ms b.1) (toF ms b.2) := congrArg Prod.snd e
  have k : (toF ms a.1 = toF ms b.1 ∧ toF ms a.2 = toF ms b.2) ∨ (toF ms a.1 = toF ms b.2 ∧ toF ms a.2 = toF ms b.1) := by omega
  rcases k with ⟨k1, k2⟩ | ⟨k1, k2⟩
  · exact Prod.ext (to_inj h h0 ⟨a1, by omega⟩ ⟨b1, by omega⟩ k1) (to_inj h h0 ⟨by omega, a3⟩ ⟨by omega, b3⟩ k2)
  · have := to_inj h h0 ⟨a1, by omega⟩ ⟨by omega, b3⟩ k1
    have := to_inj h h0 ⟨by omega, a3⟩ ⟨b1, by omega⟩ k2
    omega
theorem to_nd {l : List Int} (hl : ∀ x ∈ l, 0 ≤ x ∧ x < n) (nd : l.Nodup) : (l.map (toF ms)).Nodup := nodup_map_on nd fun a ha b hb e => to_inj h h0 (hl a ha) (hl b hb) e
end
/-- what a drawn net is made of -/
structure RawOk (n : Int) (ps : List (Int × Int)) (gi ke : List Int) (tp : List (Int × Int)) : Prop where
  n1 : 1 ≤ n
  n7 : n ≤ 7
  es : ∀ p ∈ ps, 0 ≤ p.1 ∧ p.1 < p.2 ∧ p.2 < n
  ns : ps.Nodup
  eg : ∀ x ∈ gi, 0 ≤ x ∧ x < n
  ng : gi.Nodup
  lg : gi.length ≤ 2
  ek : ∀ x ∈ ke, 0 ≤ x ∧ x < n
  nk : ke.Nodup
  lk : ke.length ≤ 2
  pt : (tp.map (·.1)).Perm ((rg n).filter fun t => !ke.contains t)
  et : ∀ p ∈ tp, 0 ≤ p.2 ∧ p.2 ≤ 7
end K50
end
section
set_option Elab.async false
set_option linter.all false
set_option maxRecDepth 100000
set_option maxHeartbeats 4000000
namespace K50
open PySem PySem.Spec L2
open PyProof.Rows (envOfC)
theorem rgV_rg (n : Int) : rgV 0 n = (rg n).map V.int := by
  unfold rgV rg
  rw [List.map_map, show (n - 0).toNat = n.toNat by omega]
  refine List.map_congr_left fun a _ => ?_
  show V.int (0 + (a : Int)) = V.int (a : Int)
  rw [Int.zero_add]
theorem Kp.backF {F : Addr → Prop} {H H1 : Hp} {p : Addr} (e : Kp F H H1) (h : H1 p = none) (n : ¬ F p) : H p = none := by
  cases q : H p with
  | none => rfl
  | some o => rw [e.k p o n q] at h; cases h
/-- a drawn net at t -/
def RawAt (H : Hp) (t : Addr) (n : Int) (ps : List (Int × Int)) (gi ke : List Int) (tp : List (Int × Int)) : Prop := ∃ (sa ga ka ta : Addr) (xs ts : List V), H t = some (.tup [.int n, .ref sa, .ref ga, .ref ka, .ref ta]) ∧
  H sa = some (.lst xs) ∧ Prs H xs ps ∧ H ga = some (.lst (gi.map V.int)) ∧ H ka = some (.lst (ke.map V.int)) ∧ H ta = some (.lst ts) ∧ Prs H ts tp
/-- what the deeds keep -/
structure WInv (H H' : Hp) (f c ls lt fr gv : Addr) (B : Int) (xs ts : List V) (F gl : List Int) (ps tp : List (Int × Int)) (i : Nat) : Prop where
  e : Kp (fun a => a = f) H H'
  fe : Fer H' f c B
  fk : H f ≠ none
  ng : H gv = none
  hs : H' ls = some (.lst xs)
  rs : Prs H' xs ps
  ht : H' lt = some (.lst ts)
  rt : Prs H' ts tp
  hf : H' fr = some (.lst (F.map V.int))
  hg : H' gv = some (.lst (gl.map V.int))
  ns : H ls = none
  nt : H lt = none
  nf : H fr = none
  d1 : ls ≠ lt
  d2 : ls ≠ fr
  d3 : lt ≠ fr
  d4 : gv ≠ ls
  d5 : gv ≠ lt
  d6 : gv ≠ fr
  ll : xs.length ≤ i
  lt' : ts.length ≤ i
structure WDat (th W m : Int) (F gl : List Int) (ps tp : List (Int × Int)) : Prop where
  W1 : 1 ≤ W
  W2 : W ≤ 2
  lF : (F.length : Int) = W
  pm : (tp.map (·.1) ++ F).Perm (rg th)
  wt : W ≤ th
  tm : th ≤ m
  es : ∀ p ∈ ps, 0 ≤ p.1 ∧ p.1 < p.2 ∧ p.2 < th
  nd : ps.Nodup
  et : ∀ p ∈ tp, 0 ≤ p.2 ∧ p.2 ≤ 7
  gl' : gl = [] ∨ gl = rg W
section
variable {H H1 H2 : Hp} {f c ls lt fr gv p : Addr} {B B' : Int} {xs ts : List V} {F gl : List Int} {ps tp : List (Int × Int)} {i : Nat}
theorem WInv.nef (I : WInv H H1 f c ls lt fr gv B xs ts F gl ps tp i) {a : Addr} (h : H a = none) : ¬ a = f := fun z => I.fk (by rw [← z]; exact h)
/-- the ferry alone changed, or what is new came -/
theorem WInv.on (I : WInv H H1 f c ls lt fr gv B xs ts F gl ps tp i) (e : Kp (fun a => a = f) H1 H2) (hf : Fer H2 f c B') : WInv H H2 f c ls lt fr gv B' xs ts F gl ps tp i :=
  { I with e := I.e.trans e, fe := hf, hs := e.get (I.nef I.ns) I.hs, rs := I.rs.mono e.tp, ht := e.get (I.nef I.nt) I.ht, rt := I.rt.mono e.tp, hf := e.get (I.nef I.nf) I.hf, hg := e.get (I.nef I.ng) I.hg }
theorem WInv.put (I : WInv H H1 f c ls lt fr gv B xs ts F gl ps tp i) (h : H p = none) (hc : c ≠ p) (o : HO) : Kp (fun a => a = f) H (upd H1 p o) ∧ Fer (upd H1 p o) f c B :=
  ⟨I.e.mut h, I.fe.other (fun z => I.nef h z.symm) hc⟩
end
section
variable {w : World} {K : PySem.W.Frag} {mg : Str → Option Value} {base : Heap}
def sp_law_wired (K : PySem.W.Frag) : Sp := fun vs H Q _ => ∃ (f c : Addr) (m b : Int), vs = [.ref f, .int m] ∧ Fer H f c b ∧ b + 100 < 1000000 ∧ 5 ≤ m ∧ m ≤ 7 ∧
  ∀ t n ps gi ke tp H', Kp (fun a => a = f) H H' → Fer H' f c (b + 100) → RawAt H' t n ps gi ke tp → RawOk n ps gi ke tp → Q (.ref t) H'
theorem sc_law_wired : FnScope ["_law_ferry_here", "_law_most", "_law_wires", "_law_strings", "_law_turns", "_law_fronts", "_law_things", "_law_given", "_law_deed", "_law_wire", "_law_to", "_law_ties", "_law_one", "_law_other", "_law_thing", "_law_turn_here"] ["_law_ferry_here", "_law_most"] (defScope s_law_wired) := ⟨rfl, rfl, rfl, by decide +kernel, rfl, by decide +kernel, by decide +kernel⟩
theorem c_law_wired (T : TX K mg) : C8.Cal P w K mg base 4 "_law_wired" (sp_law_wired K) [] := by
  refine mkCal (k := 3) T.g_law_wired T.d_law_wired (fun _ _ _ _ _ _ us hl => match us, hl with | [_, _], _ => rfl) sc_law_wired (fun vs H Q E h => ?_) (fun cdv A outer s H vs Q E hr h => ?_)
  · obtain ⟨f, c, m, b, rfl, _⟩ := h; rfl
  · obtain ⟨f, c, m, b, rfl, hf, hb, hm5, hm7, k⟩ := h
    have fkn : H f ≠ none := by obtain ⟨_, _, _, h, _⟩ := hf; rw [h]; intro z; cases z
    have ckn : ∀ {q : Addr}, H q = none → c ≠ q := fun h => (hf.new h).2
    refine ⟨_, (pss_cons (ps_par3 (i := 2) (j := 3) (l := 4) rfl sc_law_wired.nd rfl rfl rfl (by decide) (by decide) (by decide) rfl rfl rfl (pa_cons (pe_op op_add pe_int (C8.pe_c (c_law_cross T) hr (by decide) rfl (pa_cons (pv 0) (pa_cons pe_int pa_nil)))) (pa_cons (pe_lst pa_nil) (pa_cons (pe_lst pa_nil) pa_nil))) (by rfl))
      (pss_cons (ps_par (i := 5) (j := 6) rfl sc_law_wired.nd rfl rfl (by decide) rfl rfl (pa_cons (pe_listRg rfl (by rfl) T.f_list (prg_1 (by rfl) T.f_range (pv 2))) (pa_cons (pv 2) pa_nil)) (by rfl))
      (pss_cons (ps_set (i := 7) sc_law_wired.nd rfl (Or.inl rfl) (pe_ifExp (pt_cmpR op_gt (C8.pe_c (c_law_cross T) hr (by decide) rfl (pa_cons (pv 0) (pa_cons pe_int pa_nil))) pe_int (nomark _)) (pe_callTy call_list_of (by rfl) T.f_list (by decide +kernel) (pa_cons (pv 5) pa_nil)) (pe_lst pa_nil)))
      (pss_cons (ps_for PassesOwn.never rfl (pi_range1 (by rfl) T.f_range (pa_cons (pe_op op_add pe_int (C8.pe_c (c_law_cross T) hr (by decide) rfl (pa_cons (pv 0) (pa_cons (pv 1) pa_nil)))) pa_nil)) (pg_name (i := 8) sc_law_wired.nd rfl (Or.inl rfl)) (pss_cons (ps_set (i := 9) sc_law_wired.nd rfl (Or.inl rfl) (C8.pe_c (c_law_cross T) hr (by decide) rfl (pa_cons (pv 0) (pa_cons (pv 2) pa_nil))))
      (pss_one (ps_if (PW.pt (pw_and (pt_cmpR op_gt (C8.pe_c (c_law_cross T) hr (by decide) rfl (pa_cons (pv 0) (pa_cons pe_int pa_nil))) pe_int (nomark _)) (pw_and1 (pt_cmpR op_lt (pv 6) (pv 1) (nomark _))))) (pss_cons (ps_expr (pe_bm PySem.F.plainAttrs_list PySem.F.slot_list_append PySem.F.type_list_append mt_append (pv 3) (pa_cons (pe_tup (pa_cons (pe_ix ix_list (pv 5) (pv 9) (fun _ _ => rfl)) (pa_cons (pv 6) pa_nil))) pa_nil)))
      (pss_cons (ps_expr (pe_bm PySem.F.plainAttrs_list PySem.F.slot_list_append PySem.F.type_list_append mt_append (pv 4) (pa_cons (pe_tup (pa_cons (pe_ix ix_list (pv 5) (pv 9) (fun _ _ => rfl)) (pa_cons (C8.pe_c (c_law_turn T) hr (by decide) rfl (pa_cons (pv 0) pa_nil)) pa_nil))) pa_nil)))
      (pss_one (ps_asg (pe_tup (pa_cons (pv 6) (pa_cons (pe_op op_add (pv 6) pe_int) pa_nil))) (pg_tup rfl (pgs_cons (pg_sub (pv 5) (pv 9) set_list) (pgs_cons (pg_name (i := 6) sc_law_wired.nd rfl (Or.inl rfl)) pgs_nil))))))) (pss_one (ps_if (pt_cmpR op_gt (pv 2) pe_int (nomark _)) (pss_one (ps_set (i := 3) sc_law_wired.nd rfl (Or.inl rfl) (C8.pe_c (c_law_toggled T) hr (by decide) rfl (pa_cons (pv 3) (pa_cons (pe_ix ix_list (pv 5) pe_int (fun _ _ => rfl)) (pa_cons (pe_ix ix_list (pv 5) pe_int (fun _ _ => rfl)) pa_nil)))))) pss_nil))))))
      (pss_cons (ps_set (i := 10) sc_law_wired.nd rfl (Or.inr rfl) (C8.pe_c (c_law_mixed T) hr (by decide) rfl (pa_cons (pv 0) (pa_cons (pe_listRg rfl (by rfl) T.f_list (prg_1 (by rfl) T.f_range (pv 6))) pa_nil))))
      (pss_cons (ps_set (i := 11) sc_law_wired.nd rfl (Or.inl rfl) (pe_callB cr_sortedP (by rfl) T.f_sorted (by decide +kernel) (pa_cons (pe_lc (own := [("_law_one", 12), ("_law_other", 13)]) (by rfl) sc_law_wired.nd (pi_list (pv 3)) (blkOk_by (N := ["_law_ferry_here", "_law_most", "_law_wires", "_law_strings", "_law_turns", "_law_fronts", "_law_things", "_law_given", "_law_deed", "_law_wire", "_law_to", "_law_ties", "_law_one", "_law_other", "_law_thing", "_law_turn_here"]) (sc := defScope s_law_wired) (own := [("_law_one", 12), ("_law_other", 13)]) (by decide +kernel)) (fun _ _ _ _ _ => (pg_tupK (K := K) 2 rfl rfl (pgs_cons (pg_name (i := 12) sc_law_wired.nd rfl (Or.inl rfl)) (pgs_cons (pg_name (i := 13) sc_law_wired.nd rfl (Or.inl rfl)) pgs_nil)))) (fun _ _ _ _ _ => pts_nil) (fun _ _ _ _ _ => (pe_tup (pa_cons (pe_callB (id := "min") (r := rMin2) (cr_min2 rfl) (by rfl) T.f_min (by decide +kernel) (pa_cons (pe_ix (r := rIxL K) (ixLK rfl) (pv 10) (pv 12) (fun _ _ => rfl)) (pa_cons (pe_ix (r := rIxL K) (ixLK rfl) (pv 10) (pv 13) (fun _ _ => rfl)) pa_nil))) (pa_cons (pe_callB (id := "max") (r := rMax2) (cr_max2 rfl) (by rfl) T.f_max (by decide +kernel) (pa_cons (pe_ix (r := rIxL K) (ixLK rfl) (pv 10) (pv 12) (fun _ _ => rfl)) (pa_cons (pe_ix (r := rIxL K) (ixLK rfl) (pv 10) (pv 13) (fun _ _ => rfl)) pa_nil))) pa_nil))))) pa_nil)))
      (pss_one (ps_ret (pe_tup (pa_cons (pv 6) (pa_cons (pv 11) (pa_cons (pe_lc (own := [("_law_thing", 14)]) (by rfl) sc_law_wired.nd (pi_list (pv 7)) (blkOk_by (N := ["_law_ferry_here", "_law_most", "_law_wires", "_law_strings", "_law_turns", "_law_fronts", "_law_things", "_law_given", "_law_deed", "_law_wire", "_law_to", "_law_ties", "_law_one", "_law_other", "_law_thing", "_law_turn_here"]) (sc := defScope s_law_wired) (own := [("_law_thing", 14)]) (by decide +kernel)) (fun _ _ _ _ _ => (pg_name (i := 14) sc_law_wired.nd rfl (Or.inl rfl))) (fun _ _ _ _ _ => pts_nil) (fun _ _ _ _ _ => (pe_ix (r := rIxL K) (ixLK rfl) (pv 10) (pv 14) (fun _ _ => rfl)))) (pa_cons (pe_lc (own := [("_law_thing", 14)]) (by rfl) sc_law_wired.nd (pi_list (pv 5)) (blkOk_by (N := ["_law_ferry_here", "_law_most", "_law_wires", "_law_strings", "_law_turns", "_law_fronts", "_law_things", "_law_given", "_law_deed", "_law_wire", "_law_to", "_law_ties", "_law_one", "_law_other", "_law_thing", "_law_turn_here"]) (sc := defScope s_law_wired) (own := [("_law_thing", 14)]) (by decide +kernel)) (fun _ _ _ _ _ => (pg_name (i := 14) sc_law_wired.nd rfl (Or.inl rfl))) (fun _ _ _ _ _ => pts_nil) (fun _ _ _ _ _ => (pe_ix (r := rIxL K) (ixLK rfl) (pv 10) (pv 14) (fun _ _ => rfl)))) (pa_cons (pe_callB cr_sortedP (by rfl) T.f_sorted (by decide +kernel) (pa_cons (pe_lc (own := [("_law_thing", 14), ("_law_turn_here", 15)]) (by rfl) sc_law_wired.nd (pi_list (pv 4)) (blkOk_by (N := ["_law_ferry_here", "_law_most", "_law_wires", "_law_strings", "_law_turns", "_law_fronts", "_law_things", "_law_given", "_law_deed", "_law_wire", "_law_to", "_law_ties", "_law_one", "_law_other", "_law_thing", "_law_turn_here"]) (sc := defScope s_law_wired) (own := [("_law_thing", 14), ("_law_turn_here", 15)]) (by decide +kernel)) (fun _ _ _ _ _ => (pg_tupK (K := K) 2 rfl rfl (pgs_cons (pg_name (i := 14) sc_law_wired.nd rfl (Or.inl rfl)) (pgs_cons (pg_name (i := 15) sc_law_wired.nd rfl (Or.inl rfl)) pgs_nil)))) (fun _ _ _ _ _ => pts_nil) (fun _ _ _ _ _ => (pe_tup (pa_cons (pe_ix (r := rIxL K) (ixLK rfl) (pv 10) (pv 14) (fun _ _ => rfl)) (pa_cons (pv 15) pa_nil))))) pa_nil)) pa_nil)))))))))))))), ?_⟩
    -- wires, strings, turns
    refine ⟨_, rfl, f, c, 2, b, rfl, hf, by omega, by omega, by omega, fun r H1 r0 r1 e1 hf1 => ⟨_, _, rfl, rfl, ?_⟩⟩
    refine ⟨by show 0 ≤ sizeLine; decide, fun ls hls => ⟨by show 0 ≤ sizeLine; decide, fun lt hlt => ⟨_, _, _, rfl, ?_⟩⟩⟩
    have f2 := Kp.new (F := N0) (o := .lst []) hls
    have hls2 : (upd H1 ls (.lst [])) ls = some (.lst []) := upd_same
    have lsH : H ls = none := e1.backF hls fun z => (hf1.new hls).1 z.symm
    generalize upd H1 ls (.lst []) = H2 at f2 hls2 hlt ⊢
    have f3 := Kp.new (F := N0) (o := .lst []) hlt
    have hlt3 : (upd H2 lt (.lst [])) lt = some (.lst []) := upd_same
    have hf2 := hf1.mono f2
    have ltH : H lt = none := (e1.trans f2.weak).backF hlt fun z => (hf2.new hlt).1 z.symm
    have dst : ls ≠ lt := ne_of_none hls2 hlt
    have hls3 := f3.get0 hls2
    generalize upd H2 lt (.lst []) = H3 at f3 hlt3 hls3 ⊢
    have hf3 := hf2.mono f3
    have W1 : 1 ≤ 1 + r := by omega
    have W2 : 1 + r ≤ 2 := by omega
    have E3 : Kp (fun a => a = f) H H3 := (e1.trans f2.weak).trans f3.weak
    -- fronts, things
    refine ⟨_, rfl, _, rfl, ⟨by decide, by decide, by show -(2 ^ 62) ≤ 1 + r; omega, by show 1 + r < 2 ^ 62; omega, by show (1 + r - 0).toNat ≤ 2 ^ 24; omega⟩, fun fr hfr => ⟨_, rfl, _, _, rfl, ?_⟩⟩
    rw [show rgV 0 ((fun i j => i + j) 1 r) = (rg (1 + r)).map V.int from rgV_rg _]
    have f4 := Kp.new (F := N0) (o := .lst ((rg (1 + r)).map V.int)) hfr
    have hfr4 : (upd H3 fr (.lst ((rg (1 + r)).map V.int))) fr = some (.lst ((rg (1 + r)).map V.int)) := upd_same
    have frH : H fr = none := E3.backF hfr fun z => (hf3.new hfr).1 z.symm
    have d2 : ls ≠ fr := ne_of_none hls3 hfr
    have d3 : lt ≠ fr := ne_of_none hlt3 hfr
    generalize upd H3 fr (.lst ((rg (1 + r)).map V.int)) = H4 at f4 hfr4 ⊢
    have hf4 := hf3.mono f4
    have E4 := E3.trans f4.weak
    -- given
    refine ⟨_, rfl, f, c, 3, b + 1, rfl, hf4, by omega, by omega, by omega, fun r' H5 r0' r1' e5 hf5 => ⟨_, _, rfl, rfl, _, rfl, ?_⟩⟩
    have nf : ∀ {a : Addr} {xs : List V}, H4 a = some (.lst xs) → (∀ c t r, xs ≠ [.ref c, .int t, .int r]) → ¬ a = f := fun h hx => hf4.ne h hx
    have hls5 := e5.get (nf (f4.get0 hls3) (ints_ne (ns := []))) (f4.get0 hls3)
    have hlt5 := e5.get (nf (f4.get0 hlt3) (ints_ne (ns := []))) (f4.get0 hlt3)
    have hfr5 := e5.get (nf hfr4 ints_ne) hfr4
    have E5 := E4.trans e5
    by_cases hr' : r' > 0
    · refine iteDT hr' ⟨_, rfl, fr, _, rfl, .inl (SqL.of hfr5), fun gv hgv => ?_⟩
      obtain ⟨gl, hgl⟩ : ∃ gl, gl = rg (1 + r) := ⟨_, rfl⟩
      have hgl' : gl = [] ∨ gl = rg (1 + r) := .inr hgl
      rw [← hgl]
      have f6 := Kp.new (F := N0) (o := .lst (gl.map V.int)) hgv
      have hgv6 : (upd H5 gv (.lst (gl.map V.int))) gv = some (.lst (gl.map V.int)) := upd_same
      have d4 : gv ≠ ls := fun z => ne_of_none hls5 hgv z.symm
      have d5 : gv ≠ lt := fun z => ne_of_none hlt5 hgv z.symm
      have d6 : gv ≠ fr := fun z => ne_of_none hfr5 hgv z.symm
      generalize upd H5 gv (.lst (gl.map V.int)) = H6 at f6 hgv6 ⊢
      have hf6 := hf5.mono f6
      have E6 := E5.trans f6.weak
      refine ⟨_, rfl, _, rfl, f, c, m, b + 1 + 1, rfl, hf6, by omega, by omega, by omega, fun r2 H7 r20 r21 e7 hf7 => ⟨_, _, rfl, rfl, _, rfl, by show -(2 ^ 62) ≤ 3 + r2; omega, by show 3 + r2 < 2 ^ 62; omega, ?_⟩⟩
      have nf6 : ∀ {a : Addr} {xs : List V}, H6 a = some (.lst xs) → (∀ c t r, xs ≠ [.ref c, .int t, .int r]) → ¬ a = f := fun h hx => hf6.ne h hx
      have hls7 := e7.get (nf6 (f6.get0 hls5) (ints_ne (ns := []))) (f6.get0 hls5)
      have hlt7 := e7.get (nf6 (f6.get0 hlt5) (ints_ne (ns := []))) (f6.get0 hlt5)
      have hfr7 := e7.get (nf6 (f6.get0 hfr5) ints_ne) (f6.get0 hfr5)
      have hgv7 := e7.get (nf6 hgv6 ints_ne) hgv6
      have E7 := E6.trans e7
      have gvH : H gv = none := E5.backF hgv fun z => (hf5.new hgv).1 z.symm
      have start : WInv H H7 f c ls lt fr gv (b + 3 + 4 * ((0 : Nat) : Int)) [] [] (rg (1 + r)) gl [] [] 0 := ⟨E7, hf7.more (by show b + 1 + 1 + 1 ≤ b + 3 + 4 * ((0 : Nat) : Int); omega), fkn, gvH, hls7, .nil, hlt7, .nil, hfr7, hgv7, lsH, ltH, frH, dst, d2, d3, d4, d5, d6, Nat.le_refl _, Nat.le_refl _⟩
      have dat : WDat (1 + r) (1 + r) m (rg (1 + r)) gl [] [] := ⟨by omega, by omega, by rw [rg_len]; omega, .refl _, by omega, by omega, fun p hp => by simp at hp, List.nodup_nil, fun p hp => by simp at hp, hgl'⟩
      refine for_it (walk_range (lo := 0) (n := (3 + r2).toNat)) (fun i σ H' => ∃ ls th xs ts F ps tp o8 o9, σ = [some (.ref f), some (.int m), some (.int (1 + r)), some (.ref ls), some (.ref lt), some (.ref fr), some (.int th), some (.ref gv), o8, o9, none, none, none, none, none, none] ∧ WInv H H' f c ls lt fr gv (b + 3 + 4 * (i : Int)) xs ts F gl ps tp i ∧ WDat th (1 + r) m F gl ps tp) ⟨ls, 1 + r, [], [], rg (1 + r), [], [], _, _, rfl, start, dat⟩ (fun _ _ _ _ _ => trivial) ?_ ?_
      · rintro i x σ H8 _ hi ⟨ls, th, xs, ts, F, ps, tp, o8, o9, rfl, I, D⟩ ⟨rfl, hx⟩
        have hx : x = .int (0 + (i : Int)) := hx
        subst hx
        have hi12 : (i : Int) ≤ 9 := by omega
        -- the wire
        refine ⟨_, rfl, _, rfl, f, c, 1 + r, _, rfl, I.fe, by omega, by omega, by omega, fun v H9 v0 v1 e9 hf9 => ?_⟩
        have I9 := I.on e9 hf9
        have hv : v.toNat < F.length := by have := D.lF; omega
        have hFv : F[v.toNat]? = some F[v.toNat] := List.getElem?_eq_getElem hv
        generalize F[v.toNat] = x at hFv
        have hFm : (F.map V.int)[v.toNat]? = some (.int x) := by rw [List.getElem?_map, hFv]; rfl
        have hxF : x ∈ F := List.mem_of_getElem? hFv
        have hxr : 0 ≤ x ∧ x < th := mem_rg.mp (D.pm.mem_iff.mp (List.mem_append_right _ hxF))
        refine ⟨_, rfl, f, c, 3, _, rfl, hf9, by omega, by omega, by omega, fun v' H10 v0' v1' e10 hf10 => ⟨_, _, rfl, rfl, _, rfl, ?_⟩⟩
        have I10 := I9.on e10 hf10
        by_cases hv' : v' > 0
        · refine iteDT hv' ⟨_, rfl, _, rfl, _, _, rfl, rfl, _, rfl, ?_⟩
          by_cases htm : th < m
          · refine iteDT htm ?_
            have xm := at_ix v0 hFm
            refine ⟨_, rfl, .inl ⟨rfl, _, SqL.of I10.hs⟩, _, rfl, _, rfl, fr, _, _, _, rfl, rfl, SqL.of I10.hf, xm, _, rfl, by show 2 ≤ sizeLine; decide, fun t1 ht1 => ?_⟩
            have e11 := Kp.new (F := fun a => a = f) (o := .tup [V.int x, .int th]) ht1
            have ht11 : (upd H10 t1 (.tup [V.int x, .int th])) t1 = some (.tup ((pr (x, th)).map V.int)) := upd_same
            have I11 := I10.on e11 (I10.fe.other (I10.fe.new ht1).1 (I10.fe.new ht1).2)
            generalize upd H10 t1 (.tup [V.int x, .int th]) = H11 at ht11 I11 ⊢
            refine ⟨ls, xs, _, rfl, rfl, I11.hs, small_line (by have := I11.ll; omega), ?_⟩
            have I12 : WInv H (upd H11 ls (.lst (xs ++ [.ref t1]))) f c ls lt fr gv _ (xs ++ [.ref t1]) ts F gl (ps ++ [(x, th)]) tp (i + 1) :=
              have tp12 : Tp H11 (upd H11 ls (.lst (xs ++ [.ref t1]))) := Tp.upd I11.hs sol_lst
              { I11 with e := I11.e.mut I11.ns, fe := I11.fe.other (fun z => I11.nef I11.ns z.symm) (ckn I11.ns), hs := upd_same, rs := (I11.rs.mono tp12).snoc ⟨t1, rfl, tp12 _ _ sol_tup ht11⟩, ht := by rw [upd_ne (fun z => I11.d1 z.symm)]; exact I11.ht, rt := I11.rt.mono tp12, hf := by rw [upd_ne (fun z => I11.d2 z.symm)]; exact I11.hf, hg := by rw [upd_ne I11.d4]; exact I11.hg, ll := by rw [List.length_append]; have := I11.ll; show xs.length + 1 ≤ i + 1; omega, lt' := by have := I11.lt'; omega }
            generalize upd H11 ls (.lst (xs ++ [.ref t1])) = H12 at I12 ⊢
            refine ⟨_, rfl, .inl ⟨rfl, _, SqL.of I12.ht⟩, _, rfl, _, rfl, fr, _, _, _, rfl, rfl, SqL.of I12.hf, xm, _, rfl, f, c, _, rfl, I12.fe, by omega, fun tt H13 t0 t7 e13 hf13 => ⟨by show 2 ≤ sizeLine; decide, fun t2 ht2 => ?_⟩⟩
            have I13 := I12.on e13 hf13
            have e14 := Kp.new (F := fun a => a = f) (o := .tup [V.int x, .int tt]) ht2
            have ht14 : (upd H13 t2 (.tup [V.int x, .int tt])) t2 = some (.tup ((pr (x, tt)).map V.int)) := upd_same
            have I14 := I13.on e14 (I13.fe.other (I13.fe.new ht2).1 (I13.fe.new ht2).2)
            generalize upd H13 t2 (.tup [V.int x, .int tt]) = H14 at ht14 I14 ⊢
            refine ⟨lt, ts, _, rfl, rfl, I14.ht, small_line (by have := I11.lt'; omega), ?_⟩
            have I15 : WInv H (upd H14 lt (.lst (ts ++ [.ref t2]))) f c ls lt fr gv _ (xs ++ [.ref t1]) (ts ++ [.ref t2]) F gl (ps ++ [(x, th)]) (tp ++ [(x, tt)]) (i + 1) :=
              have tp15 : Tp H14 (upd H14 lt (.lst (ts ++ [.ref t2]))) := Tp.upd I14.ht sol_lst
              { I14 with e := I14.e.mut I14.nt, fe := I14.fe.other (fun z => I14.nef I14.nt z.symm) (ckn I14.nt), ht := upd_same, rt := (I14.rt.mono tp15).snoc ⟨t2, rfl, tp15 _ _ sol_tup ht14⟩, hs := by rw [upd_ne I14.d1]; exact I14.hs, rs := I14.rs.mono tp15, hf := by rw [upd_ne (fun z => I14.d3 z.symm)]; exact I14.hf, hg := by rw [upd_ne I14.d5]; exact I14.hg, lt' := by rw [List.length_append]; have := I11.lt'; show ts.length + 1 ≤ i + 1; omega }
            generalize upd H14 lt (.lst (ts ++ [.ref t2])) = H15 at I15 ⊢
            refine ⟨_, rfl, _, rfl, _, _, rfl, rfl, by show 2 ≤ sizeLine; decide, fun t3 ht3 => ?_⟩
            have e16 := Kp.new (F := fun a => a = f) (o := .tup [V.int th, .int (th + 1)]) ht3
            have ht16 : (upd H15 t3 (.tup [V.int th, .int (th + 1)])) t3 = some (.tup [V.int th, .int (th + 1)]) := upd_same
            have I16 := I15.on e16 (I15.fe.other (I15.fe.new ht3).1 (I15.fe.new ht3).2)
            have conv : upd H15 t3 (.tup [V.int th, (fun i j => V.int (i + j)) th 1]) = upd H15 t3 (.tup [V.int th, .int (th + 1)]) := rfl
            rw [conv]
            generalize upd H15 t3 (.tup [V.int th, .int (th + 1)]) = H16 at ht16 I16 ⊢
            have hix : ixN (F.map V.int).length v = some v.toNat := by
              unfold ixN
              rw [if_pos v0, List.length_map, if_pos (by omega)]
            refine ⟨t3, _, rfl, SqT.of ht16, rfl, .int th, _, rfl, _, rfl, _, rfl, fr, _, v, v.toNat, rfl, rfl, I16.hf, hix, .int (th + 1), _, rfl, rfl, ?_⟩
            refine ⟨ls, th + 1, xs ++ [.ref t1], ts ++ [.ref t2], F.set v.toNat th, ps ++ [(x, th)], tp ++ [(x, tt)], _, _, rfl, ?_, ?_⟩
            · have tp17 : Tp H16 (upd H16 fr (.lst ((F.map V.int).set v.toNat (.int th)))) := Tp.upd I16.hf sol_lst
              exact { I16 with e := I16.e.mut I16.nf, fe := (I16.fe.other (fun z => I16.nef I16.nf z.symm) (ckn I16.nf)).more (by show _ ≤ b + 3 + 4 * ((i + 1 : Nat) : Int); omega), hf := by rw [upd_same, List.map_set], hs := by rw [upd_ne I16.d2]; exact I16.hs, rs := I16.rs.mono tp17, ht := by rw [upd_ne I16.d3]; exact I16.ht, rt := I16.rt.mono tp17, hg := by rw [upd_ne I16.d6]; exact I16.hg }
            · refine { D with lF := by rw [List.length_set]; exact D.lF, pm := ?_, wt := by have := D.wt; omega, tm := by omega, es := fun p hp => ?_, nd := ?_, et := fun p hp => ?_ }
              · rw [List.map_append, List.append_assoc]
                refine (List.Perm.append_left _ (set_perm hFv)).trans ?_
                rw [← List.append_assoc, rg_succ (by omega)]
                exact D.pm.append_right _
              · rcases List.mem_append.mp hp with hp | hp
                · have := D.es p hp; omega
                · rw [List.mem_singleton.mp hp]; exact ⟨hxr.1, hxr.2, by show th < th + 1; omega⟩
              · rw [List.nodup_append]
                refine ⟨D.nd, by simp, fun a ha b hb e => ?_⟩
                rw [List.mem_singleton.mp hb] at e
                have := D.es a ha
                rw [e] at this
                simp only at this
                omega
              · rcases List.mem_append.mp hp with hp | hp
                · exact D.et p hp
                · rw [List.mem_singleton.mp hp]; exact ⟨t0, t7⟩
          · refine iteDF htm ?_
            refine ⟨_, rfl, _, _, rfl, rfl, _, rfl, ?_⟩
            by_cases hr1 : 1 + r > 1
            · refine iteDT hr1 ?_
              have l2 : F.length = 2 := by have := D.lF; omega
              match F, l2, I10, D, hFm, hFv, hxF with
              | [y, z], _, I10, D, _, _, _ =>
              have ⟨nd1, nd2⟩ := List.nodup_cons.mp (List.nodup_append.mp (D.pm.nodup_iff.mpr rg_nodup)).2.1
              have yz : y ≠ z := fun q => nd1 (by rw [q]; exact List.mem_cons_self ..)
              have by' : 0 ≤ y ∧ y < th := mem_rg.mp (D.pm.mem_iff.mp (List.mem_append_right _ (by simp)))
              have bz' : 0 ≤ z ∧ z < th := mem_rg.mp (D.pm.mem_iff.mp (List.mem_append_right _ (by simp)))
              have bn := norm_bd by' bz' yz
              refine ⟨_, rfl, _, rfl, fr, _, _, _, rfl, rfl, SqL.of I10.hf, rfl, _, rfl, fr, _, _, _, rfl, rfl, SqL.of I10.hf, rfl, ls, y, z, xs, ps, rfl, I10.hs, I10.rs, by have := I.ll; omega, fun l ys H11 e11 hl hy11 hP11 => ?_⟩
              have I11 := I10.on e11.weak (I10.fe.mono e11)
              have lH : H l = none := I10.e.backF hl fun q => (I10.fe.new hl).1 q.symm
              have lne : ∀ {a : Addr} {o : HO}, H10 a = some o → l ≠ a := fun h q => by rw [q, h] at hl; cases hl
              have hlen : ys.length ≤ i + 1 := by
                have h1 := hP11.length
                have h2 := tog1_len ps (norm (y, z))
                have h3 := I10.rs.length
                have h4 := I10.ll
                omega
              refine ⟨l, th, ys, ts, [y, z], _, tp, _, _, rfl, { I11 with fe := I11.fe.more (by show _ ≤ b + 3 + 4 * ((i + 1 : Nat) : Int); omega), hs := hy11, rs := hP11, ns := lH, d1 := lne I10.ht, d2 := lne I10.hf, d4 := fun q => lne I10.hg q.symm, ll := hlen, lt' := by have := I10.lt'; omega }, { D with es := fun p hp => ?_, nd := tog1_nodup D.nd }⟩
              rcases tog1_mem hp with hp | hp
              · exact D.es p hp
              · rw [hp]; exact bn
            · refine iteDF hr1 ?_
              exact ⟨ls, th, xs, ts, F, ps, tp, _, _, rfl, { I10 with fe := I10.fe.more (by show _ ≤ b + 3 + 4 * ((i + 1 : Nat) : Int); omega), ll := by have := I10.ll; omega, lt' := by have := I10.lt'; omega }, D⟩
        · refine iteDF hv' (iteF ?_)
          refine ⟨_, rfl, _, _, rfl, rfl, _, rfl, ?_⟩
          by_cases hr1 : 1 + r > 1
          · refine iteDT hr1 ?_
            have l2 : F.length = 2 := by have := D.lF; omega
            match F, l2, I10, D, hFm, hFv, hxF with
            | [y, z], _, I10, D, _, _, _ =>
            have ⟨nd1, nd2⟩ := List.nodup_cons.mp (List.nodup_append.mp (D.pm.nodup_iff.mpr rg_nodup)).2.1
            have yz : y ≠ z := fun q => nd1 (by rw [q]; exact List.mem_cons_self ..)
            have by' : 0 ≤ y ∧ y < th := mem_rg.mp (D.pm.mem_iff.mp (List.mem_append_right _ (by simp)))
            have bz' : 0 ≤ z ∧ z < th := mem_rg.mp (D.pm.mem_iff.mp (List.mem_append_right _ (by simp)))
            have bn := norm_bd by' bz' yz
            refine ⟨_, rfl, _, rfl, fr, _, _, _, rfl, rfl, SqL.of I10.hf, rfl, _, rfl, fr, _, _, _, rfl, rfl, SqL.of I10.hf, rfl, ls, y, z, xs, ps, rfl, I10.hs, I10.rs, by have := I.ll; omega, fun l ys H11 e11 hl hy11 hP11 => ?_⟩
            have I11 := I10.on e11.weak (I10.fe.mono e11)
            have lH : H l = none := I10.e.backF hl fun q => (I10.fe.new hl).1 q.symm
            have lne : ∀ {a : Addr} {o : HO}, H10 a = some o → l ≠ a := fun h q => by rw [q, h] at hl; cases hl
            have hlen : ys.length ≤ i + 1 := by
              have h1 := hP11.length
              have h2 := tog1_len ps (norm (y, z))
              have h3 := I10.rs.length
              have h4 := I10.ll
              omega
            refine ⟨l, th, ys, ts, [y, z], _, tp, _, _, rfl, { I11 with fe := I11.fe.more (by show _ ≤ b + 3 + 4 * ((i + 1 : Nat) : Int); omega), hs := hy11, rs := hP11, ns := lH, d1 := lne I10.ht, d2 := lne I10.hf, d4 := fun q => lne I10.hg q.symm, ll := hlen, lt' := by have := I10.lt'; omega }, { D with es := fun p hp => ?_, nd := tog1_nodup D.nd }⟩
            rcases tog1_mem hp with hp | hp
            · exact D.es p hp
            · rw [hp]; exact bn
          · refine iteDF hr1 ?_
            exact ⟨ls, th, xs, ts, F, ps, tp, _, _, rfl, { I10 with fe := I10.fe.more (by show _ ≤ b + 3 + 4 * ((i + 1 : Nat) : Int); omega), ll := by have := I10.ll; omega, lt' := by have := I10.lt'; omega }, D⟩
      · rintro σ H8 ⟨ls, th, xs, ts, F, ps, tp, o8, o9, rfl, I, D⟩
        have tN : (((3 + r2).toNat : Nat) : Int) ≤ 9 := by omega
        have th7 : th ≤ 7 := by have := D.tm; omega
        have th0 : 0 ≤ th := by have := D.wt; have := D.W1; omega
        -- to
        refine ⟨_, rfl, _, rfl, _, rfl, ⟨by decide, by decide, by omega, by omega, by omega⟩, fun q hq => ?_⟩
        have I9 := I.on (Kp.new (o := .lst (rgV 0 th)) hq) (I.fe.other (I.fe.new hq).1 (I.fe.new hq).2)
        have hq9 : (upd H8 q (.lst (rgV 0 th))) q = some (.lst ((rg th).map V.int)) := by rw [upd_same, rgV_rg]
        generalize upd H8 q (.lst (rgV 0 th)) = H9 at I9 hq9 ⊢
        have lrg : ((rg th).length : Int) = th := by rw [rg_len]; omega
        refine ⟨f, c, q, rg th, _, rfl, I9.fe, by omega, hq9, by omega, fun l ms H10 e10 hf10 hl10 hpm => ?_⟩
        have I10 := I9.on e10 hf10
        have tg : ∀ {x : Int}, 0 ≤ x ∧ x < th → atI (ms.map V.int) x = some (.int (toF ms x)) := fun hx => at_ix hx.1 (by rw [List.getElem?_map, to_get hpm th0 hx]; rfl)
        have bF : ∀ x ∈ F, 0 ≤ x ∧ x < th := fun x hx => mem_rg.mp (D.pm.mem_iff.mp (List.mem_append_right _ hx))
        have bT : ∀ p ∈ tp, 0 ≤ p.1 ∧ p.1 < th := fun p hp => mem_rg.mp (D.pm.mem_iff.mp (List.mem_append_left _ (List.mem_map.mpr ⟨p, hp, rfl⟩)))
        have bG : ∀ x ∈ gl, 0 ≤ x ∧ x < th := fun x hx => by
          have := D.wt
          rcases D.gl' with h | h
          · rw [h] at hx; cases hx
          · rw [h] at hx; have := mem_rg.mp hx; omega
        have lxs : xs.length ≤ 9 := by have := I.ll; omega
        have lts : ts.length ≤ 9 := by have := I.lt'; omega
        have lFl : F.length ≤ 2 := by have := D.lF; have := D.W2; omega
        have nF : F.Nodup := (List.nodup_append.mp (D.pm.nodup_iff.mpr rg_nodup)).2.1
        have nG : gl.Nodup := by
          rcases D.gl' with h | h
          · rw [h]; exact List.nodup_nil
          · rw [h]; exact rg_nodup
        have lG : gl.length ≤ 2 := by
          have := D.W2
          rcases D.gl' with h | h
          · rw [h]; exact Nat.zero_le _
          · rw [h, rg_len]; omega
        -- ties
        refine ⟨_, rfl, ls, rfl, ⟨_, SqL.of I10.hs⟩, fun D1 hD1 => ?_⟩
        refine lcW (walk_list (K := K) (a := ls) (xs := xs)) N0 (fun n ys H => Prs H ys ((ps.take n).map fun p : Int × Int => norm (toF ms p.1, toF ms p.2))) hD1 id (by omega) (fun H' e => e.sql (SqL.of I10.hs)) (fun _ _ => Rw.nil) (fun _ _ _ _ e h => h.mono e) ?_ ?_
        · rintro n x ys H11 _ Zy Zn hi ⟨rfl, hx⟩ e11 hy hP _ hZ hN
          obtain ⟨p, hp, c2, rfl, hc2⟩ := (I10.rs.mono e11.tp).get hx
          obtain ⟨z1, z2, z3⟩ := D.es p (List.mem_of_getElem? hp)
          have g1 := tg (x := p.1) ⟨z1, by omega⟩
          have g2 := tg (x := p.2) ⟨by omega, z3⟩
          have sl := SqL.of (K := K) (e11.get0 hl10)
          have w1 : (if toF ms p.2 < toF ms p.1 then toF ms p.2 else toF ms p.1) = min (toF ms p.1) (toF ms p.2) := by rw [Int.min_def]; split <;> split <;> omega
          have w2 : (if toF ms p.2 > toF ms p.1 then toF ms p.2 else toF ms p.1) = max (toF ms p.1) (toF ms p.2) := by rw [Int.max_def]; split <;> split <;> omega
          refine ⟨c2, _, rfl, SqT.of hc2, rfl, .int p.1, _, rfl, .int p.2, _, rfl, rfl, rfl, yesT ?_⟩
          refine ⟨_, rfl, _, rfl, l, _, _, _, rfl, rfl, sl, g1, _, rfl, _, rfl, l, _, _, _, rfl, rfl, sl, g2, _, _, rfl, _, rfl, _, rfl, l, _, _, _, rfl, rfl, sl, g1, _, rfl, _, rfl, l, _, _, _, rfl, rfl, sl, g2, _, _, rfl, by show 2 ≤ sizeLine; decide, fun t2 ht2 => ?_⟩
          rw [w1, w2]
          refine hZ _ _ (Kp.new ht2) ?_
          rw [take_snoc hp, List.map_append]
          exact (hP.mono (Kp.new (F := N0) ht2).tp).snoc ⟨t2, rfl, upd_same⟩
        rintro ys H11 e11 hy11 hP11
        rw [I10.rs.length, take_all] at hP11
        refine ⟨D1, ys, rfl, SqL.of hy11, prs_each hP11, fun zs sa hzp hsa => ?_⟩
        obtain ⟨qs, hq1, hq2⟩ := Rw.perm hzp hP11
        have e12 := Kp.new (F := N0) (o := .lst zs) hsa
        have hsa12 : (upd H11 sa (.lst zs)) sa = some (.lst zs) := upd_same
        have hq2' := hq2.mono e12.tp
        generalize upd H11 sa (.lst zs) = H12 at e12 hsa12 hq2' ⊢
        have f12 := e11.trans e12
        -- the tuple
        refine ⟨_, rfl, _, rfl, ?_⟩
        have hg12 := f12.get0 I10.hg
        refine ⟨_, rfl, gv, rfl, ⟨_, SqL.of hg12⟩, fun D2 hD2 => ?_⟩
        refine lcW (walk_list (K := K) (a := gv) (xs := gl.map V.int)) N0 (fun i ys H => ys = ((gl.take i).map (toF ms)).map V.int) hD2 id (by rw [List.length_map]; omega) (fun H' e => e.sql (SqL.of hg12)) (fun _ _ => rfl) (fun _ _ _ _ _ h => h) ?_ ?_
        · rintro n x ys H13 _ Zy Zn hi ⟨rfl, hx⟩ e13 hy rfl _ hZ _
          obtain ⟨y, hy, rfl⟩ := map_int_get hx
          refine ⟨rfl, yesT ⟨_, rfl, _, rfl, l, _, _, _, rfl, rfl, SqL.of ((f12.trans e13).get0 hl10), tg (bG y (List.mem_of_getElem? hy)), hZ _ _ Kp.refl ?_⟩⟩
          rw [take_snoc hy]; simp
        rintro gxs H13 e13 hy13 rfl
        rw [List.length_map, take_all] at hy13
        have f13 := f12.trans e13
        have hf13 := f13.get0 I10.hf
        refine ⟨_, rfl, fr, rfl, ⟨_, SqL.of hf13⟩, fun D3 hD3 => ?_⟩
        refine lcW (walk_list (K := K) (a := fr) (xs := F.map V.int)) N0 (fun i ys H => ys = ((F.take i).map (toF ms)).map V.int) hD3 id (by rw [List.length_map]; omega) (fun H' e => e.sql (SqL.of hf13)) (fun _ _ => rfl) (fun _ _ _ _ _ h => h) ?_ ?_
        · rintro n x ys H14 _ Zy Zn hi ⟨rfl, hx⟩ e14 hy rfl _ hZ _
          obtain ⟨y, hy, rfl⟩ := map_int_get hx
          refine ⟨rfl, yesT ⟨_, rfl, _, rfl, l, _, _, _, rfl, rfl, SqL.of ((f13.trans e14).get0 hl10), tg (bF y (List.mem_of_getElem? hy)), hZ _ _ Kp.refl ?_⟩⟩
          rw [take_snoc hy]; simp
        rintro fxs H14 e14 hy14 rfl
        rw [List.length_map, take_all] at hy14
        have f14 := f13.trans e14
        have ht14 := f14.get0 I10.ht
        have rt14 := I10.rt.mono f14.tp
        refine ⟨_, rfl, lt, rfl, ⟨_, SqL.of ht14⟩, fun D4 hD4 => ?_⟩
        refine lcW (walk_list (K := K) (a := lt) (xs := ts)) N0 (fun n ys H => Prs H ys ((tp.take n).map fun p : Int × Int => (toF ms p.1, p.2))) hD4 id (by omega) (fun H' e => e.sql (SqL.of ht14)) (fun _ _ => Rw.nil) (fun _ _ _ _ e h => h.mono e) ?_ ?_
        · rintro n x ys H15 _ Zy Zn hi ⟨rfl, hx⟩ e15 hy hP _ hZ hN
          obtain ⟨p, hp, c2, rfl, hc2⟩ := (rt14.mono e15.tp).get hx
          refine ⟨c2, _, rfl, SqT.of hc2, rfl, .int p.1, _, rfl, .int p.2, _, rfl, rfl, rfl, yesT ?_⟩
          refine ⟨_, rfl, _, rfl, l, _, _, _, rfl, rfl, SqL.of ((f14.trans e15).get0 hl10), tg (bT p (List.mem_of_getElem? hp)), _, rfl, by show 2 ≤ sizeLine; decide, fun t2 ht2 => ?_⟩
          refine hZ _ _ (Kp.new ht2) ?_
          rw [take_snoc hp, List.map_append]
          exact (hP.mono (Kp.new (F := N0) ht2).tp).snoc ⟨t2, rfl, upd_same⟩
        rintro uxs H15 e15 hy15 hP15
        rw [I10.rt.length, take_all] at hP15
        refine ⟨D4, uxs, rfl, SqL.of hy15, prs_each hP15, fun vs ta hvp hta => ?_⟩
        obtain ⟨us, hu1, hu2⟩ := Rw.perm hvp hP15
        have e16 := Kp.new (F := N0) (o := .lst vs) hta
        have hta16 : (upd H15 ta (.lst vs)) ta = some (.lst vs) := upd_same
        have hu2' := hu2.mono e16.tp
        generalize upd H15 ta (.lst vs) = H16 at e16 hta16 hu2' ⊢
        refine ⟨by show 5 ≤ sizeLine; decide, fun rt hrt => ?_⟩
        have e17 := Kp.new (F := N0) (o := .tup [V.int th, .ref sa, .ref D2, .ref D3, .ref ta]) hrt
        have f16 := e15.trans e16
        have g14 : Kp N0 H12 _ := (e13.trans e14).trans (f16.trans e17)
        refine k rt th qs (gl.map (toF ms)) (F.map (toF ms)) us _ (I10.e.trans (f14.trans (f16.trans e17)).weak) ((I10.fe.mono (f14.trans (f16.trans e17))).more (by omega)) ⟨sa, D2, D3, ta, zs, vs, upd_same, g14.get0 hsa12, hq2'.mono g14.tp, (e14.trans (f16.trans e17)).get0 hy13, (f16.trans e17).get0 hy14, e17.get0 hta16, hu2'.mono e17.tp⟩ ?_
        refine ⟨by have := D.wt; have := D.W1; omega, th7, fun p hp => to_es hpm th0 D.es p (hq1.mem_iff.mp hp), hq1.nodup_iff.mpr (to_ns hpm th0 D.es D.nd), fun x hx => ?_, to_nd hpm th0 bG nG, by rw [List.length_map]; exact lG, fun x hx => ?_, to_nd hpm th0 bF nF, by rw [List.length_map]; exact lFl, ?_, fun p hp => ?_⟩
        · obtain ⟨y, hy, rfl⟩ := List.mem_map.mp hx
          exact to_bd hpm th0 (bG y hy)
        · obtain ⟨y, hy, rfl⟩ := List.mem_map.mp hx
          exact to_bd hpm th0 (bF y hy)
        · refine (hu1.map _).trans ?_
          have := to_rest hpm th0 D.pm
          rw [List.map_map] at this ⊢
          exact this
        · obtain ⟨y, hy, rfl⟩ := List.mem_map.mp (hu1.mem_iff.mp hp)
          exact D.et y hy
    · refine iteDF hr' ⟨by show 0 ≤ sizeLine; decide, fun gv hgv => ?_⟩
      obtain ⟨gl, hgl⟩ : ∃ gl : List Int, gl = [] := ⟨_, rfl⟩
      have hgl' : gl = [] ∨ gl = rg (1 + r) := .inl hgl
      have conv : upd H5 gv (.lst []) = upd H5 gv (.lst (gl.map V.int)) := by rw [hgl]; rfl
      rw [conv]
      have f6 := Kp.new (F := N0) (o := .lst (gl.map V.int)) hgv
      have hgv6 : (upd H5 gv (.lst (gl.map V.int))) gv = some (.lst (gl.map V.int)) := upd_same
      have d4 : gv ≠ ls := fun z => ne_of_none hls5 hgv z.symm
      have d5 : gv ≠ lt := fun z => ne_of_none hlt5 hgv z.symm
      have d6 : gv ≠ fr := fun z => ne_of_none hfr5 hgv z.symm
      generalize upd H5 gv (.lst (gl.map V.int)) = H6 at f6 hgv6 ⊢
      have hf6 := hf5.mono f6
      have E6 := E5.trans f6.weak
      refine ⟨_, rfl, _, rfl, f, c, m, b + 1 + 1, rfl, hf6, by omega, by omega, by omega, fun r2 H7 r20 r21 e7 hf7 => ⟨_, _, rfl, rfl, _, rfl, by show -(2 ^ 62) ≤ 3 + r2; omega, by show 3 + r2 < 2 ^ 62; omega, ?_⟩⟩
      have nf6 : ∀ {a : Addr} {xs : List V}, H6 a = some (.lst xs) → (∀ c t r, xs ≠ [.ref c, .int t, .int r]) → ¬ a = f := fun h hx => hf6.ne h hx
      have hls7 := e7.get (nf6 (f6.get0 hls5) (ints_ne (ns := []))) (f6.get0 hls5)
      have hlt7 := e7.get (nf6 (f6.get0 hlt5) (ints_ne (ns := []))) (f6.get0 hlt5)
      have hfr7 := e7.get (nf6 (f6.get0 hfr5) ints_ne) (f6.get0 hfr5)
      have hgv7 := e7.get (nf6 hgv6 ints_ne) hgv6
      have E7 := E6.trans e7
      have gvH : H gv = none := E5.backF hgv fun z => (hf5.new hgv).1 z.symm
      have start : WInv H H7 f c ls lt fr gv (b + 3 + 4 * ((0 : Nat) : Int)) [] [] (rg (1 + r)) gl [] [] 0 := ⟨E7, hf7.more (by show b + 1 + 1 + 1 ≤ b + 3 + 4 * ((0 : Nat) : Int); omega), fkn, gvH, hls7, .nil, hlt7, .nil, hfr7, hgv7, lsH, ltH, frH, dst, d2, d3, d4, d5, d6, Nat.le_refl _, Nat.le_refl _⟩
      have dat : WDat (1 + r) (1 + r) m (rg (1 + r)) gl [] [] := ⟨by omega, by omega, by rw [rg_len]; omega, .refl _, by omega, by omega, fun p hp => by simp at hp, List.nodup_nil, fun p hp => by simp at hp, hgl'⟩
      refine for_it (walk_range (lo := 0) (n := (3 + r2).toNat)) (fun i σ H' => ∃ ls th xs ts F ps tp o8 o9, σ = [some (.ref f), some (.int m), some (.int (1 + r)), some (.ref ls), some (.ref lt), some (.ref fr), some (.int th), some (.ref gv), o8, o9, none, none, none, none, none, none] ∧ WInv H H' f c ls lt fr gv (b + 3 + 4 * (i : Int)) xs ts F gl ps tp i ∧ WDat th (1 + r) m F gl ps tp) ⟨ls, 1 + r, [], [], rg (1 + r), [], [], _, _, rfl, start, dat⟩ (fun _ _ _ _ _ => trivial) ?_ ?_
      · rintro i x σ H8 _ hi ⟨ls, th, xs, ts, F, ps, tp, o8, o9, rfl, I, D⟩ ⟨rfl, hx⟩
        have hx : x = .int (0 + (i : Int)) := hx
        subst hx
        have hi12 : (i : Int) ≤ 9 := by omega
        -- the wire
        refine ⟨_, rfl, _, rfl, f, c, 1 + r, _, rfl, I.fe, by omega, by omega, by omega, fun v H9 v0 v1 e9 hf9 => ?_⟩
        have I9 := I.on e9 hf9
        have hv : v.toNat < F.length := by have := D.lF; omega
        have hFv : F[v.toNat]? = some F[v.toNat] := List.getElem?_eq_getElem hv
        generalize F[v.toNat] = x at hFv
        have hFm : (F.map V.int)[v.toNat]? = some (.int x) := by rw [List.getElem?_map, hFv]; rfl
        have hxF : x ∈ F := List.mem_of_getElem? hFv
        have hxr : 0 ≤ x ∧ x < th := mem_rg.mp (D.pm.mem_iff.mp (List.mem_append_right _ hxF))
        refine ⟨_, rfl, f, c, 3, _, rfl, hf9, by omega, by omega, by omega, fun v' H10 v0' v1' e10 hf10 => ⟨_, _, rfl, rfl, _, rfl, ?_⟩⟩
        have I10 := I9.on e10 hf10
        by_cases hv' : v' > 0
        · refine iteDT hv' ⟨_, rfl, _, rfl, _, _, rfl, rfl, _, rfl, ?_⟩
          by_cases htm : th < m
          · refine iteDT htm ?_
            have xm := at_ix v0 hFm
            refine ⟨_, rfl, .inl ⟨rfl, _, SqL.of I10.hs⟩, _, rfl, _, rfl, fr, _, _, _, rfl, rfl, SqL.of I10.hf, xm, _, rfl, by show 2 ≤ sizeLine; decide, fun t1 ht1 => ?_⟩
            have e11 := Kp.new (F := fun a => a = f) (o := .tup [V.int x, .int th]) ht1
            have ht11 : (upd H10 t1 (.tup [V.int x, .int th])) t1 = some (.tup ((pr (x, th)).map V.int)) := upd_same
            have I11 := I10.on e11 (I10.fe.other (I10.fe.new ht1).1 (I10.fe.new ht1).2)
            generalize upd H10 t1 (.tup [V.int x, .int th]) = H11 at ht11 I11 ⊢
            refine ⟨ls, xs, _, rfl, rfl, I11.hs, small_line (by have := I11.ll; omega), ?_⟩
            have I12 : WInv H (upd H11 ls (.lst (xs ++ [.ref t1]))) f c ls lt fr gv _ (xs ++ [.ref t1]) ts F gl (ps ++ [(x, th)]) tp (i + 1) :=
              have tp12 : Tp H11 (upd H11 ls (.lst (xs ++ [.ref t1]))) := Tp.upd I11.hs sol_lst
              { I11 with e := I11.e.mut I11.ns, fe := I11.fe.other (fun z => I11.nef I11.ns z.symm) (ckn I11.ns), hs := upd_same, rs := (I11.rs.mono tp12).snoc ⟨t1, rfl, tp12 _ _ sol_tup ht11⟩, ht := by rw [upd_ne (fun z => I11.d1 z.symm)]; exact I11.ht, rt := I11.rt.mono tp12, hf := by rw [upd_ne (fun z => I11.d2 z.symm)]; exact I11.hf, hg := by rw [upd_ne I11.d4]; exact I11.hg, ll := by rw [List.length_append]; have := I11.ll; show xs.length + 1 ≤ i + 1; omega, lt' := by have := I11.lt'; omega }
            generalize upd H11 ls (.lst (xs ++ [.ref t1])) = H12 at I12 ⊢
            refine ⟨_, rfl, .inl ⟨rfl, _, SqL.of I12.ht⟩, _, rfl, _, rfl, fr, _, _, _, rfl, rfl, SqL.of I12.hf, xm, _, rfl, f, c, _, rfl, I12.fe, by omega, fun tt H13 t0 t7 e13 hf13 => ⟨by show 2 ≤ sizeLine; decide, fun t2 ht2 => ?_⟩⟩
            have I13 := I12.on e13 hf13
            have e14 := Kp.new (F := fun a => a = f) (o := .tup [V.int x, .int tt]) ht2
            have ht14 : (upd H13 t2 (.tup [V.int x, .int tt])) t2 = some (.tup ((pr (x, tt)).map V.int)) := upd_same
            have I14 := I13.on e14 (I13.fe.other (I13.fe.new ht2).1 (I13.fe.new ht2).2)
            generalize upd H13 t2 (.tup [V.int x, .int tt]) = H14 at ht14 I14 ⊢
            refine ⟨lt, ts, _, rfl, rfl, I14.ht, small_line (by have := I11.lt'; omega), ?_⟩
            have I15 : WInv H (upd H14 lt (.lst (ts ++ [.ref t2]))) f c ls lt fr gv _ (xs ++ [.ref t1]) (ts ++ [.ref t2]) F gl (ps ++ [(x, th)]) (tp ++ [(x, tt)]) (i + 1) :=
              have tp15 : Tp H14 (upd H14 lt (.lst (ts ++ [.ref t2]))) := Tp.upd I14.ht sol_lst
              { I14 with e := I14.e.mut I14.nt, fe := I14.fe.other (fun z => I14.nef I14.nt z.symm) (ckn I14.nt), ht := upd_same, rt := (I14.rt.mono tp15).snoc ⟨t2, rfl, tp15 _ _ sol_tup ht14⟩, hs := by rw [upd_ne I14.d1]; exact I14.hs, rs := I14.rs.mono tp15, hf := by rw [upd_ne (fun z => I14.d3 z.symm)]; exact I14.hf, hg := by rw [upd_ne I14.d5]; exact I14.hg, lt' := by rw [List.length_append]; have := I11.lt'; show ts.length + 1 ≤ i + 1; omega }
            generalize upd H14 lt (.lst (ts ++ [.ref t2])) = H15 at I15 ⊢
            refine ⟨_, rfl, _, rfl, _, _, rfl, rfl, by show 2 ≤ sizeLine; decide, fun t3 ht3 => ?_⟩
            have e16 := Kp.new (F := fun a => a = f) (o := .tup [V.int th, .int (th + 1)]) ht3
            have ht16 : (upd H15 t3 (.tup [V.int th, .int (th + 1)])) t3 = some (.tup [V.int th, .int (th + 1)]) := upd_same
            have I16 := I15.on e16 (I15.fe.other (I15.fe.new ht3).1 (I15.fe.new ht3).2)
            have conv : upd H15 t3 (.tup [V.int th, (fun i j => V.int (i + j)) th 1]) = upd H15 t3 (.tup [V.int th, .int (th + 1)]) := rfl
            rw [conv]
            generalize upd H15 t3 (.tup [V.int th, .int (th + 1)]) = H16 at ht16 I16 ⊢
            have hix : ixN (F.map V.int).length v = some v.toNat := by
              unfold ixN
              rw [if_pos v0, List.length_map, if_pos (by omega)]
            refine ⟨t3, _, rfl, SqT.of ht16, rfl, .int th, _, rfl, _, rfl, _, rfl, fr, _, v, v.toNat, rfl, rfl, I16.hf, hix, .int (th + 1), _, rfl, rfl, ?_⟩
            refine ⟨ls, th + 1, xs ++ [.ref t1], ts ++ [.ref t2], F.set v.toNat th, ps ++ [(x, th)], tp ++ [(x, tt)], _, _, rfl, ?_, ?_⟩
            · have tp17 : Tp H16 (upd H16 fr (.lst ((F.map V.int).set v.toNat (.int th)))) := Tp.upd I16.hf sol_lst
              exact { I16 with e := I16.e.mut I16.nf, fe := (I16.fe.other (fun z => I16.nef I16.nf z.symm) (ckn I16.nf)).more (by show _ ≤ b + 3 + 4 * ((i + 1 : Nat) : Int); omega), hf := by rw [upd_same, List.map_set], hs := by rw [upd_ne I16.d2]; exact I16.hs, rs := I16.rs.mono tp17, ht := by rw [upd_ne I16.d3]; exact I16.ht, rt := I16.rt.mono tp17, hg := by rw [upd_ne I16.d6]; exact I16.hg }
            · refine { D with lF := by rw [List.length_set]; exact D.lF, pm := ?_, wt := by have := D.wt; omega, tm := by omega, es := fun p hp => ?_, nd := ?_, et := fun p hp => ?_ }
              · rw [List.map_append, List.append_assoc]
                refine (List.Perm.append_left _ (set_perm hFv)).trans ?_
                rw [← List.append_assoc, rg_succ (by omega)]
                exact D.pm.append_right _
              · rcases List.mem_append.mp hp with hp | hp
                · have := D.es p hp; omega
                · rw [List.mem_singleton.mp hp]; exact ⟨hxr.1, hxr.2, by show th < th + 1; omega⟩
              · rw [List.nodup_append]
                refine ⟨D.nd, by simp, fun a ha b hb e => ?_⟩
                rw [List.mem_singleton.mp hb] at e
                have := D.es a ha
                rw [e] at this
                simp only at this
                omega
              · rcases List.mem_append.mp hp with hp | hp
                · exact D.et p hp
                · rw [List.mem_singleton.mp hp]; exact ⟨t0, t7⟩
          · refine iteDF htm ?_
            refine ⟨_, rfl, _, _, rfl, rfl, _, rfl, ?_⟩
            by_cases hr1 : 1 + r > 1
            · refine iteDT hr1 ?_
              have l2 : F.length = 2 := by have := D.lF; omega
              match F, l2, I10, D, hFm, hFv, hxF with
              | [y, z], _, I10, D, _, _, _ =>
              have ⟨nd1, nd2⟩ := List.nodup_cons.mp (List.nodup_append.mp (D.pm.nodup_iff.mpr rg_nodup)).2.1
              have yz : y ≠ z := fun q => nd1 (by rw [q]; exact List.mem_cons_self ..)
              have by' : 0 ≤ y ∧ y < th := mem_rg.mp (D.pm.mem_iff.mp (List.mem_append_right _ (by simp)))
              have bz' : 0 ≤ z ∧ z < th := mem_rg.mp (D.pm.mem_iff.mp (List.mem_append_right _ (by simp)))
              have bn := norm_bd by' bz' yz
              refine ⟨_, rfl, _, rfl, fr, _, _, _, rfl, rfl, SqL.of I10.hf, rfl, _, rfl, fr, _, _, _, rfl, rfl, SqL.of I10.hf, rfl, ls, y, z, xs, ps, rfl, I10.hs, I10.rs, by have := I.ll; omega, fun l ys H11 e11 hl hy11 hP11 => ?_⟩
              have I11 := I10.on e11.weak (I10.fe.mono e11)
              have lH : H l = none := I10.e.backF hl fun q => (I10.fe.new hl).1 q.symm
              have lne : ∀ {a : Addr} {o : HO}, H10 a = some o → l ≠ a := fun h q => by rw [q, h] at hl; cases hl
              have hlen : ys.length ≤ i + 1 := by
                have h1 := hP11.length
                have h2 := tog1_len ps (norm (y, z))
                have h3 := I10.rs.length
                have h4 := I10.ll
                omega
              refine ⟨l, th, ys, ts, [y, z], _, tp, _, _, rfl, { I11 with fe := I11.fe.more (by show _ ≤ b + 3 + 4 * ((i + 1 : Nat) : Int); omega), hs := hy11, rs := hP11, ns := lH, d1 := lne I10.ht, d2 := lne I10.hf, d4 := fun q => lne I10.hg q.symm, ll := hlen, lt' := by have := I10.lt'; omega }, { D with es := fun p hp => ?_, nd := tog1_nodup D.nd }⟩
              rcases tog1_mem hp with hp | hp
              · exact D.es p hp
              · rw [hp]; exact bn
            · refine iteDF hr1 ?_
              exact ⟨ls, th, xs, ts, F, ps, tp, _, _, rfl, { I10 with fe := I10.fe.more (by show _ ≤ b + 3 + 4 * ((i + 1 : Nat) : Int); omega), ll := by have := I10.ll; omega, lt' := by have := I10.lt'; omega }, D⟩
        · refine iteDF hv' (iteF ?_)
          refine ⟨_, rfl, _, _, rfl, rfl, _, rfl, ?_⟩
          by_cases hr1 : 1 + r > 1
          · refine iteDT hr1 ?_
            have l2 : F.length = 2 := by have := D.lF; omega
            match F, l2, I10, D, hFm, hFv, hxF with
            | [y, z], _, I10, D, _, _, _ =>
            have ⟨nd1, nd2⟩ := List.nodup_cons.mp (List.nodup_append.mp (D.pm.nodup_iff.mpr rg_nodup)).2.1
            have yz : y ≠ z := fun q => nd1 (by rw [q]; exact List.mem_cons_self ..)
            have by' : 0 ≤ y ∧ y < th := mem_rg.mp (D.pm.mem_iff.mp (List.mem_append_right _ (by simp)))
            have bz' : 0 ≤ z ∧ z < th := mem_rg.mp (D.pm.mem_iff.mp (List.mem_append_right _ (by simp)))
            have bn := norm_bd by' bz' yz
            refine ⟨_, rfl, _, rfl, fr, _, _, _, rfl, rfl, SqL.of I10.hf, rfl, _, rfl, fr, _, _, _, rfl, rfl, SqL.of I10.hf, rfl, ls, y, z, xs, ps, rfl, I10.hs, I10.rs, by have := I.ll; omega, fun l ys H11 e11 hl hy11 hP11 => ?_⟩
            have I11 := I10.on e11.weak (I10.fe.mono e11)
            have lH : H l = none := I10.e.backF hl fun q => (I10.fe.new hl).1 q.symm
            have lne : ∀ {a : Addr} {o : HO}, H10 a = some o → l ≠ a := fun h q => by rw [q, h] at hl; cases hl
            have hlen : ys.length ≤ i + 1 := by
              have h1 := hP11.length
              have h2 := tog1_len ps (norm (y, z))
              have h3 := I10.rs.length
              have h4 := I10.ll
              omega
            refine ⟨l, th, ys, ts, [y, z], _, tp, _, _, rfl, { I11 with fe := I11.fe.more (by show _ ≤ b + 3 + 4 * ((i + 1 : Nat) : Int); omega), hs := hy11, rs := hP11, ns := lH, d1 := lne I10.ht, d2 := lne I10.hf, d4 := fun q => lne I10.hg q.symm, ll := hlen, lt' := by have := I10.lt'; omega }, { D with es := fun p hp => ?_, nd := tog1_nodup D.nd }⟩
            rcases tog1_mem hp with hp | hp
            · exact D.es p hp
            · rw [hp]; exact bn
          · refine iteDF hr1 ?_
            exact ⟨ls, th, xs, ts, F, ps, tp, _, _, rfl, { I10 with fe := I10.fe.more (by show _ ≤ b + 3 + 4 * ((i + 1 : Nat) : Int); omega), ll := by have := I10.ll; omega, lt' := by have := I10.lt'; omega }, D⟩
      · rintro σ H8 ⟨ls, th, xs, ts, F, ps, tp, o8, o9, rfl, I, D⟩
        have tN : (((3 + r2).toNat : Nat) : Int) ≤ 9 := by omega
        have th7 : th ≤ 7 := by have := D.tm; omega
        have th0 : 0 ≤ th := by have := D.wt; have := D.W1; omega
        -- to
        refine ⟨_, rfl, _, rfl, _, rfl, ⟨by decide, by decide, by omega, by omega, by omega⟩, fun q hq => ?_⟩
        have I9 := I.on (Kp.new (o := .lst (rgV 0 th)) hq) (I.fe.other (I.fe.new hq).1 (I.fe.new hq).2)
        have hq9 : (upd H8 q (.lst (rgV 0 th))) q = some (.lst ((rg th).map V.int)) := by rw [upd_same, rgV_rg]
        generalize upd H8 q (.lst (rgV 0 th)) = H9 at I9 hq9 ⊢
        have lrg : ((rg th).length : Int) = th := by rw [rg_len]; omega
        refine ⟨f, c, q, rg th, _, rfl, I9.fe, by omega, hq9, by omega, fun l ms H10 e10 hf10 hl10 hpm => ?_⟩
        have I10 := I9.on e10 hf10
        have tg : ∀ {x : Int}, 0 ≤ x ∧ x < th → atI (ms.map V.int) x = some (.int (toF ms x)) := fun hx => at_ix hx.1 (by rw [List.getElem?_map, to_get hpm th0 hx]; rfl)
        have bF : ∀ x ∈ F, 0 ≤ x ∧ x < th := fun x hx => mem_rg.mp (D.pm.mem_iff.mp (List.mem_append_right _ hx))
        have bT : ∀ p ∈ tp, 0 ≤ p.1 ∧ p.1 < th := fun p hp => mem_rg.mp (D.pm.mem_iff.mp (List.mem_append_left _ (List.mem_map.mpr ⟨p, hp, rfl⟩)))
        have bG : ∀ x ∈ gl, 0 ≤ x ∧ x < th := fun x hx => by
          have := D.wt
          rcases D.gl' with h | h
          · rw [h] at hx; cases hx
          · rw [h] at hx; have := mem_rg.mp hx; omega
        have lxs : xs.length ≤ 9 := by have := I.ll; omega
        have lts : ts.length ≤ 9 := by have := I.lt'; omega
        have lFl : F.length ≤ 2 := by have := D.lF; have := D.W2; omega
        have nF : F.Nodup := (List.nodup_append.mp (D.pm.nodup_iff.mpr rg_nodup)).2.1
        have nG : gl.Nodup := by
          rcases D.gl' with h | h
          · rw [h]; exact List.nodup_nil
          · rw [h]; exact rg_nodup
        have lG : gl.length ≤ 2 := by
          have := D.W2
          rcases D.gl' with h | h
          · rw [h]; exact Nat.zero_le _
          · rw [h, rg_len]; omega
        -- ties
        refine ⟨_, rfl, ls, rfl, ⟨_, SqL.of I10.hs⟩, fun D1 hD1 => ?_⟩
        refine lcW (walk_list (K := K) (a := ls) (xs := xs)) N0 (fun n ys H => Prs H ys ((ps.take n).map fun p : Int × Int => norm (toF ms p.1, toF ms p.2))) hD1 id (by omega) (fun H' e => e.sql (SqL.of I10.hs)) (fun _ _ => Rw.nil) (fun _ _ _ _ e h => h.mono e) ?_ ?_
        · rintro n x ys H11 _ Zy Zn hi ⟨rfl, hx⟩ e11 hy hP _ hZ hN
          obtain ⟨p, hp, c2, rfl, hc2⟩ := (I10.rs.mono e11.tp).get hx
          obtain ⟨z1, z2, z3⟩ := D.es p (List.mem_of_getElem? hp)
          have g1 := tg (x := p.1) ⟨z1, by omega⟩
          have g2 := tg (x := p.2) ⟨by omega, z3⟩
          have sl := SqL.of (K := K) (e11.get0 hl10)
          have w1 : (if toF ms p.2 < toF ms p.1 then toF ms p.2 else toF ms p.1) = min (toF ms p.1) (toF ms p.2) := by rw [Int.min_def]; split <;> split <;> omega
          have w2 : (if toF ms p.2 > toF ms p.1 then toF ms p.2 else toF ms p.1) = max (toF ms p.1) (toF ms p.2) := by rw [Int.max_def]; split <;> split <;> omega
          refine ⟨c2, _, rfl, SqT.of hc2, rfl, .int p.1, _, rfl, .int p.2, _, rfl, rfl, rfl, yesT ?_⟩
          refine ⟨_, rfl, _, rfl, l, _, _, _, rfl, rfl, sl, g1, _, rfl, _, rfl, l, _, _, _, rfl, rfl, sl, g2, _, _, rfl, _, rfl, _, rfl, l, _, _, _, rfl, rfl, sl, g1, _, rfl, _, rfl, l, _, _, _, rfl, rfl, sl, g2, _, _, rfl, by show 2 ≤ sizeLine; decide, fun t2 ht2 => ?_⟩
          rw [w1, w2]
          refine hZ _ _ (Kp.new ht2) ?_
          rw [take_snoc hp, List.map_append]
          exact (hP.mono (Kp.new (F := N0) ht2).tp).snoc ⟨t2, rfl, upd_same⟩
        rintro ys H11 e11 hy11 hP11
        rw [I10.rs.length, take_all] at hP11
        refine ⟨D1, ys, rfl, SqL.of hy11, prs_each hP11, fun zs sa hzp hsa => ?_⟩
        obtain ⟨qs, hq1, hq2⟩ := Rw.perm hzp hP11
        have e12 := Kp.new (F := N0) (o := .lst zs) hsa
        have hsa12 : (upd H11 sa (.lst zs)) sa = some (.lst zs) := upd_same
        have hq2' := hq2.mono e12.tp
        generalize upd H11 sa (.lst zs) = H12 at e12 hsa12 hq2' ⊢
        have f12 := e11.trans e12
        -- the tuple
        refine ⟨_, rfl, _, rfl, ?_⟩
        have hg12 := f12.get0 I10.hg
        refine ⟨_, rfl, gv, rfl, ⟨_, SqL.of hg12⟩, fun D2 hD2 => ?_⟩
        refine lcW (walk_list (K := K) (a := gv) (xs := gl.map V.int)) N0 (fun i ys H => ys = ((gl.take i).map (toF ms)).map V.int) hD2 id (by rw [List.length_map]; omega) (fun H' e => e.sql (SqL.of hg12)) (fun _ _ => rfl) (fun _ _ _ _ _ h => h) ?_ ?_
        · rintro n x ys H13 _ Zy Zn hi ⟨rfl, hx⟩ e13 hy rfl _ hZ _
          obtain ⟨y, hy, rfl⟩ := map_int_get hx
          refine ⟨rfl, yesT ⟨_, rfl, _, rfl, l, _, _, _, rfl, rfl, SqL.of ((f12.trans e13).get0 hl10), tg (bG y (List.mem_of_getElem? hy)), hZ _ _ Kp.refl ?_⟩⟩
          rw [take_snoc hy]; simp
        rintro gxs H13 e13 hy13 rfl
        rw [List.length_map, take_all] at hy13
        have f13 := f12.trans e13
        have hf13 := f13.get0 I10.hf
        refine ⟨_, rfl, fr, rfl, ⟨_, SqL.of hf13⟩, fun D3 hD3 => ?_⟩
        refine lcW (walk_list (K := K) (a := fr) (xs := F.map V.int)) N0 (fun i ys H => ys = ((F.take i).map (toF ms)).map V.int) hD3 id (by rw [List.length_map]; omega) (fun H' e => e.sql (SqL.of hf13)) (fun _ _ => rfl) (fun _ _ _ _ _ h => h) ?_ ?_
        · rintro n x ys H14 _ Zy Zn hi ⟨rfl, hx⟩ e14 hy rfl _ hZ _
          obtain ⟨y, hy, rfl⟩ := map_int_get hx
          refine ⟨rfl, yesT ⟨_, rfl, _, rfl, l, _, _, _, rfl, rfl, SqL.of ((f13.trans e14).get0 hl10), tg (bF y (List.mem_of_getElem? hy)), hZ _ _ Kp.refl ?_⟩⟩
          rw [take_snoc hy]; simp
        rintro fxs H14 e14 hy14 rfl
        rw [List.length_map, take_all] at hy14
        have f14 := f13.trans e14
        have ht14 := f14.get0 I10.ht
        have rt14 := I10.rt.mono f14.tp
        refine ⟨_, rfl, lt, rfl, ⟨_, SqL.of ht14⟩, fun D4 hD4 => ?_⟩
        refine lcW (walk_list (K := K) (a := lt) (xs := ts)) N0 (fun n ys H => Prs H ys ((tp.take n).map fun p : Int × Int => (toF ms p.1, p.2))) hD4 id (by omega) (fun H' e => e.sql (SqL.of ht14)) (fun _ _ => Rw.nil) (fun _ _ _ _ e h => h.mono e) ?_ ?_
        · rintro n x ys H15 _ Zy Zn hi ⟨rfl, hx⟩ e15 hy hP _ hZ hN
          obtain ⟨p, hp, c2, rfl, hc2⟩ := (rt14.mono e15.tp).get hx
          refine ⟨c2, _, rfl, SqT.of hc2, rfl, .int p.1, _, rfl, .int p.2, _, rfl, rfl, rfl, yesT ?_⟩
          refine ⟨_, rfl, _, rfl, l, _, _, _, rfl, rfl, SqL.of ((f14.trans e15).get0 hl10), tg (bT p (List.mem_of_getElem? hp)), _, rfl, by show 2 ≤ sizeLine; decide, fun t2 ht2 => ?_⟩
          refine hZ _ _ (Kp.new ht2) ?_
          rw [take_snoc hp, List.map_append]
          exact (hP.mono (Kp.new (F := N0) ht2).tp).snoc ⟨t2, rfl, upd_same⟩
        rintro uxs H15 e15 hy15 hP15
        rw [I10.rt.length, take_all] at hP15
        refine ⟨D4, uxs, rfl, SqL.of hy15, prs_each hP15, fun vs ta hvp hta => ?_⟩
        obtain ⟨us, hu1, hu2⟩ := Rw.perm hvp hP15
        have e16 := Kp.new (F := N0) (o := .lst vs) hta
        have hta16 : (upd H15 ta (.lst vs)) ta = some (.lst vs) := upd_same
        have hu2' := hu2.mono e16.tp
        generalize upd H15 ta (.lst vs) = H16 at e16 hta16 hu2' ⊢
        refine ⟨by show 5 ≤ sizeLine; decide, fun rt hrt => ?_⟩
        have e17 := Kp.new (F := N0) (o := .tup [V.int th, .ref sa, .ref D2, .ref D3, .ref ta]) hrt
        have f16 := e15.trans e16
        have g14 : Kp N0 H12 _ := (e13.trans e14).trans (f16.trans e17)
        refine k rt th qs (gl.map (toF ms)) (F.map (toF ms)) us _ (I10.e.trans (f14.trans (f16.trans e17)).weak) ((I10.fe.mono (f14.trans (f16.trans e17))).more (by omega)) ⟨sa, D2, D3, ta, zs, vs, upd_same, g14.get0 hsa12, hq2'.mono g14.tp, (e14.trans (f16.trans e17)).get0 hy13, (f16.trans e17).get0 hy14, e17.get0 hta16, hu2'.mono e17.tp⟩ ?_
        refine ⟨by have := D.wt; have := D.W1; omega, th7, fun p hp => to_es hpm th0 D.es p (hq1.mem_iff.mp hp), hq1.nodup_iff.mpr (to_ns hpm th0 D.es D.nd), fun x hx => ?_, to_nd hpm th0 bG nG, by rw [List.length_map]; exact lG, fun x hx => ?_, to_nd hpm th0 bF nF, by rw [List.length_map]; exact lFl, ?_, fun p hp => ?_⟩
        · obtain ⟨y, hy, rfl⟩ := List.mem_map.mp hx
          exact to_bd hpm th0 (bG y hy)
        · obtain ⟨y, hy, rfl⟩ := List.mem_map.mp hx
          exact to_bd hpm th0 (bF y hy)
        · refine (hu1.map _).trans ?_
          have := to_rest hpm th0 D.pm
          rw [List.map_map] at this ⊢
          exact this
        · obtain ⟨y, hy, rfl⟩ := List.mem_map.mp (hu1.mem_iff.mp hp)
          exact D.et y hy
end
end K50
end
section
set_option Elab.async false
set_option linter.all false
set_option maxRecDepth 100000
set_option maxHeartbeats 4000000
namespace K50
open PySem PySem.Spec L2
open PyProof.Rows (envOfC)
theorem pick_int {ns : List Int} {i : Nat} {x : V} (h : (ns.map V.int)[i]? = some x) {lo hi : Int} (hb : ∀ n ∈ ns, lo ≤ n ∧ n ≤ hi) : ∃ t : Int, x = .int t ∧ lo ≤ t ∧ t ≤ hi := by
  obtain ⟨n, hn, rfl⟩ := map_int_get h
  exact ⟨n, rfl, hb n (List.mem_of_getElem? hn)⟩
theorem cut_to {xs : List V} {k : Int} (h : 0 ≤ k) : cutV xs none (some k) = xs.take k.toNat := by
  unfold cutV HT.sIx
  simp only [if_neg (show ¬ k < 0 by omega), List.drop_zero, Nat.sub_zero]
  by_cases hk : k.toNat ≤ xs.length
  · rw [Nat.min_eq_left hk]
  · rw [Nat.min_eq_right (by omega), List.take_of_length_le (Nat.le_refl _), List.take_of_length_le (by omega)]
section
variable {w : World} {K : PySem.W.Frag} {mg : Str → Option Value} {base : Heap}
def sp_law_drawn (K : PySem.W.Frag) : Sp := fun vs H Q _ => ∃ (f c : Addr) (m b : Int), vs = [.ref f, .int m] ∧ Fer H f c b ∧ b + 300 < 1000000 ∧ 5 ≤ m ∧ m ≤ 7 ∧
  ∀ t n ps gi ke tp H', Kp (fun a => a = f) H H' → Fer H' f c (b + 300) → RawAt H' t n ps gi ke tp → RawOk n ps gi ke tp → Q (.ref t) H'
theorem sc_law_drawn : FnScope ["_law_ferry_here", "_law_most", "_law_things", "_law_order", "_law_often", "_law_strings", "_law_one", "_law_kept", "_law_given", "_law_thing", "_law_other"] ["_law_ferry_here", "_law_most"] (defScope s_law_drawn) := ⟨rfl, rfl, rfl, by decide +kernel, rfl, by decide +kernel, by decide +kernel⟩
theorem c_law_drawn (T : TX K mg) : C8.Cal P w K mg base 5 "_law_drawn" (sp_law_drawn K) [] := by
  refine mkCal (k := 4) T.g_law_drawn T.d_law_drawn (fun _ _ _ _ _ _ us hl => match us, hl with | [_, _], _ => rfl) sc_law_drawn (fun vs H Q E h => ?_) (fun cdv A outer s H vs Q E hr h => ?_)
  · obtain ⟨f, c, m, b, rfl, _⟩ := h; rfl
  · obtain ⟨f, c, m, b, rfl, hf, hb, hm5, hm7, k⟩ := h
    refine ⟨_, (pss_cons (ps_if (pt_cmpR op_eq (C8.pe_c (c_law_cross T) hr (by decide) rfl (pa_cons (pv 0) (pa_cons pe_int pa_nil))) pe_int (nomark _)) (pss_one (ps_ret (C8.pe_c (c_law_wired T) hr (by decide) rfl (pa_cons (pv 0) (pa_cons (pv 1) pa_nil))))) pss_nil)
      (pss_cons (ps_par (i := 2) (j := 3) rfl sc_law_drawn.nd rfl rfl (by decide) rfl rfl (pa_cons (pe_op op_add pe_int (C8.pe_c (c_law_cross T) hr (by decide) rfl (pa_cons (pv 0) (pa_cons (pe_op op_sub (pv 1) pe_int) pa_nil)))) (pa_cons (pe_lst pa_nil) pa_nil)) (by rfl))
      (pss_cons (ps_asg (pe_tup (pa_cons (C8.pe_c (c_law_pick T) hr (by decide) rfl (pa_cons (pv 0) (pa_cons (pe_lst (pa_cons pe_int (pa_cons pe_int (pa_cons pe_int pa_nil)))) pa_nil))) (pa_cons (pe_lst pa_nil) pa_nil))) (pg_tup rfl (pgs_cons (pg_name (i := 4) sc_law_drawn.nd rfl (Or.inr rfl)) (pgs_cons (pg_name (i := 5) sc_law_drawn.nd rfl (Or.inl rfl)) pgs_nil))))
      (pss_cons (ps_for PassesOwn.never rfl (pi_range1 (by rfl) T.f_range (pa_cons (pv 2) pa_nil)) (pg_name (i := 6) sc_law_drawn.nd rfl (Or.inr rfl)) (pss_one (ps_expr (pe_bm PySem.F.plainAttrs_list PySem.F.slot_list_extend PySem.F.type_list_extend mt_extend (pv 5) (pa_cons (pe_lc (own := [("_law_other", 10)]) (by rfl) sc_law_drawn.nd (pi_range2 (by rfl) T.f_range (pa_cons (pe_op op_add (pv 6) pe_int) (pa_cons (pv 2) pa_nil))) (blkOk_by (N := ["_law_ferry_here", "_law_most", "_law_things", "_law_order", "_law_often", "_law_strings", "_law_one", "_law_kept", "_law_given", "_law_thing", "_law_other"]) (sc := defScope s_law_drawn) (own := [("_law_other", 10)]) (by decide +kernel)) (fun _ _ _ _ _ => (pg_name (i := 10) sc_law_drawn.nd rfl (Or.inl rfl))) (fun _ _ _ _ _ => pts_one (pt_cmpR op_lt (C8.pe_c (c_law_cross T) hr (by decide) rfl (pa_cons (pv 0) (pa_cons pe_int pa_nil))) (pv 4) (nomark _))) (fun _ _ _ _ _ => (pe_tup (pa_cons (pv 6) (pa_cons (pv 10) pa_nil))))) pa_nil)))))
      (pss_cons (ps_set (i := 3) sc_law_drawn.nd rfl (Or.inl rfl) (C8.pe_c (c_law_mixed T) hr (by decide) rfl (pa_cons (pv 0) (pa_cons (pe_listRg rfl (by rfl) T.f_list (prg_1 (by rfl) T.f_range (pv 2))) pa_nil))))
      (pss_cons (ps_set (i := 7) sc_law_drawn.nd rfl (Or.inr rfl) (pe_slice sl_list (pv 3) po_none (po_some (C8.pe_c (c_law_pick T) hr (by decide) rfl (pa_cons (pv 0) (pa_cons (pe_lst (pa_cons pe_int (pa_cons pe_int (pa_cons pe_int (pa_cons pe_int pa_nil))))) pa_nil))))))
      (pss_cons (ps_set (i := 8) sc_law_drawn.nd rfl (Or.inl rfl) (pe_slice sl_list (C8.pe_c (c_law_mixed T) hr (by decide) rfl (pa_cons (pv 0) (pa_cons (pv 3) pa_nil))) po_none (po_some (C8.pe_c (c_law_pick T) hr (by decide) rfl (pa_cons (pv 0) (pa_cons (pe_lst (pa_cons pe_int (pa_cons pe_int (pa_cons pe_int (pa_cons pe_int pa_nil))))) pa_nil))))))
      (pss_one (ps_ret (pe_tup (pa_cons (pv 2) (pa_cons (pv 5) (pa_cons (pv 8) (pa_cons (pv 7) (pa_cons (pe_lc (own := [("_law_thing", 9)]) (by rfl) sc_law_drawn.nd (pi_range1 (by rfl) T.f_range (pa_cons (pv 2) pa_nil)) (blkOk_by (N := ["_law_ferry_here", "_law_most", "_law_things", "_law_order", "_law_often", "_law_strings", "_law_one", "_law_kept", "_law_given", "_law_thing", "_law_other"]) (sc := defScope s_law_drawn) (own := [("_law_thing", 9)]) (by decide +kernel)) (fun _ _ _ _ _ => (pg_name (i := 9) sc_law_drawn.nd rfl (Or.inl rfl))) (fun _ _ _ _ _ => pts_one (pt_cmpR (r := rIn K true) (or_notIn rfl) (pv 9) (pv 7) (by rfl))) (fun _ _ _ _ _ => (pe_tup (pa_cons (pv 9) (pa_cons (C8.pe_c (c_law_turn T) hr (by decide) rfl (pa_cons (pv 0) pa_nil)) pa_nil))))) pa_nil))))))))))))))), ?_⟩
    refine ⟨_, rfl, f, c, 3, b, rfl, hf, by omega, by omega, by omega, fun r H1 r0 r1 e1 hf1 => ⟨rfl, _, rfl, ?_⟩⟩
    by_cases hr0 : r = 0
    · refine iteEqT hr0 ⟨_, rfl, _, rfl, f, c, m, b + 1, rfl, hf1, by omega, hm5, hm7, fun t n ps gi ke tp H' e hf' ra ro => ?_⟩
      exact k t n ps gi ke tp H' (e1.trans e) (hf'.more (by omega)) ra ro
    refine iteEqF hr0 ?_
    -- things, order
    refine ⟨_, rfl, _, rfl, _, _, rfl, rfl, f, c, m - 1, b + 1, rfl, hf1, by omega, by omega, by omega, fun r2 H2 r20 r21 e2 hf2 => ⟨_, _, rfl, rfl, ?_⟩⟩
    refine ⟨by show 0 ≤ sizeLine; decide, fun od hod => ⟨_, _, rfl, ?_⟩⟩
    have E2 := e1.trans e2
    have f3 := Kp.new (F := N0) (o := .lst []) hod
    generalize upd H2 od (.lst []) = H3 at f3 ⊢
    have hf3 := hf2.mono f3
    have E3 := E2.trans f3.weak
    have n1 : 2 ≤ 2 + r2 := by omega
    have n7 : 2 + r2 ≤ 7 := by omega
    obtain ⟨n, hn⟩ : ∃ n, n = 2 + r2 := ⟨_, rfl⟩
    -- often, strings
    refine ⟨_, rfl, by show 3 ≤ sizeLine; decide, fun l3 hl3 => ?_⟩
    have f4 := Kp.new (F := N0) (o := .lst [V.int 2, .int 3, .int 1]) hl3
    have hl4 : (upd H3 l3 (.lst [V.int 2, .int 3, .int 1])) l3 = some (.lst (([2, 3, 1] : List Int).map V.int)) := upd_same
    generalize upd H3 l3 (.lst [V.int 2, .int 3, .int 1]) = H4 at f4 hl4 ⊢
    have hf4 := hf3.mono f4
    refine ⟨f, c, l3, _, _, rfl, hf4, by omega, hl4, hf4.ne hl4 ints_ne, by show 1 ≤ 3; omega, by show 3 < 1000000; omega, fun i5 x5 H5 hx5 e5 hf5 => ?_⟩
    obtain ⟨oft, rfl, _, _⟩ := pick_int (lo := 1) (hi := 3) hx5 (by decide)
    have E5 := (E3.trans f4.weak).trans e5
    refine ⟨by show 0 ≤ sizeLine; decide, fun sa hsa => ⟨by show 2 ≤ sizeLine; decide, fun t ht => ?_⟩⟩
    have saH : H sa = none := E5.backF hsa fun z => (hf5.new hsa).1 z.symm
    have f6 := Kp.new (F := N0) (o := .lst []) hsa
    have hsa6 : (upd H5 sa (.lst [])) sa = some (.lst []) := upd_same
    generalize upd H5 sa (.lst []) = H6 at f6 hsa6 ht ⊢
    have f7 := Kp.new (F := N0) (o := .tup [V.int oft, .ref sa]) ht
    have ht7 : (upd H6 t (.tup [V.int oft, .ref sa])) t = some (.tup [V.int oft, .ref sa]) := upd_same
    generalize upd H6 t (.tup [V.int oft, .ref sa]) = H7 at f7 ht7 ⊢
    have hsa7 := f7.get0 hsa6
    have hf7 := (hf5.mono f6).mono f7
    have E7 := (E5.trans f6.weak).trans f7.weak
    refine ⟨t, _, rfl, SqT.of ht7, rfl, .int oft, _, rfl, .ref sa, _, rfl, rfl, ?_⟩
    have fkn : H f ≠ none := by obtain ⟨_, _, _, h, _⟩ := hf; rw [h]; intro z; cases z
    have saf : ¬ sa = f := fun z => fkn (by rw [← z]; exact saH)
    have csa : c ≠ sa := (hf.new saH).2
    -- the strings
    refine ⟨_, rfl, 2 + r2, rfl, by show -(2 ^ 62) ≤ 2 + r2; omega, by show 2 + r2 < 2 ^ 62; omega, ?_⟩
    refine for_it (walk_range (lo := 0) (n := (2 + r2).toNat)) (fun i σ H' => ∃ o6 xs ps, σ = [some (.ref f), some (.int m), some (.int (2 + r2)), some (.ref od), some (.int oft), some (.ref sa), o6, none, none, none, none] ∧ Kp (fun a => a = f) H H' ∧ Fer H' f c (b + 10 + 7 * (i : Int)) ∧
      H' sa = some (.lst xs) ∧ Prs H' xs ps ∧ (∀ p ∈ ps, 0 ≤ p.1 ∧ p.1 < (i : Int) ∧ p.1 < p.2 ∧ p.2 < 2 + r2) ∧ ps.Nodup ∧ xs.length ≤ 7 * i) ⟨_, [], [], rfl, E7, hf7.more (by show _ ≤ b + 10 + 7 * ((0 : Nat) : Int); omega), hsa7, .nil, fun p hp => by simp at hp, List.nodup_nil, by simp⟩ (fun _ _ _ _ _ => trivial) ?_ ?_
    · rintro i x σ H8 _ hi ⟨o6, xs, ps, rfl, E8, hf8, hsa8, hP8, hps, hnd, hxl⟩ ⟨rfl, hx⟩
      have hx : x = .int (0 + (i : Int)) := hx
      subst hx
      have i7 : (i : Int) < 2 + r2 := by omega
      refine ⟨_, rfl, .inl ⟨rfl, _, SqL.of hsa8⟩, ?_⟩
      refine ⟨_, rfl, _, _, rfl, rfl, _, rfl, _, _, rfl, ⟨by show -(2 ^ 62) ≤ 0 + (i : Int) + 1; omega, by show 0 + (i : Int) + 1 < 2 ^ 62; omega, by show -(2 ^ 62) ≤ 2 + r2; omega, by show 2 + r2 < 2 ^ 62; omega⟩, fun D hD => ?_⟩
      have Dne := hf8.new hD
      refine lcD (walk_range (lo := 0 + (i : Int) + 1) (n := (2 + r2 - (0 + (i : Int) + 1)).toNat)) (fun a => a = f) (fun j ys H' => Fer H' f c (b + 10 + 7 * (i : Int) + j) ∧ ∃ es : List (Int × Int), Prs H' ys es ∧ (∀ p ∈ es, p.1 = (i : Int) ∧ p.1 < p.2 ∧ p.2 < (i : Int) + 1 + j) ∧ es.Nodup) hD (fun z => Dne.1 z.symm) (by omega) (fun _ _ => trivial) (fun H' e => ⟨(hf8.mono e).more (by show _ ≤ b + 10 + 7 * (i : Int) + ((0 : Nat) : Int); omega), [], .nil, fun p hp => by simp at hp, List.nodup_nil⟩) ?_ ?_ ?_
      · rintro j ys H9 o hy ⟨h1, es, h2, h3⟩
        exact ⟨h1.other Dne.1 Dne.2, es, h2.mono (Tp.upd hy sol_lst), h3⟩
      · rintro j x ys H9 _ Zy Zn hj ⟨rfl, hx⟩ e9 hy ⟨h1, es, h2, h3, h4⟩ hyl hZ hN
        have hx : x = .int (0 + (i : Int) + 1 + (j : Int)) := hx
        subst hx
        refine ⟨rfl, _, rfl, f, c, 4, _, rfl, h1, by omega, by omega, by omega, fun q H10 q0 q1 e10 hf10 => ⟨_, rfl, _, _, rfl, rfl, _, rfl, ?_⟩⟩
        have hy10 := e10.get (fun z => Dne.1 z.symm) hy
        have h2' := h2.mono e10.tp
        by_cases hq : q < oft
        · refine iteDT hq ⟨_, rfl, _, rfl, by show 2 ≤ sizeLine; decide, fun t2 ht2 => hZ _ _ (e10.trans (Kp.new ht2)) fun o => ?_⟩
          have e11 := Kp.new (F := N0) (o := .tup [V.int (0 + (i : Int)), .int (0 + (i : Int) + 1 + (j : Int))]) ht2
          have ht11 : (upd H10 t2 (.tup [V.int (0 + (i : Int)), .int (0 + (i : Int) + 1 + (j : Int))])) t2 = some (.tup ((pr ((i : Int), (i : Int) + 1 + (j : Int))).map V.int)) := by
            rw [upd_same, Int.zero_add]; rfl
          have hy11 := e11.get0 hy10
          have hf11 := hf10.mono e11
          have h211 := h2'.mono e11.tp
          have conv : upd H10 t2 (.tup [V.int (0 + (i : Int)), .int (0 + (i : Int) + 1 + (j : Int))]) = upd H10 t2 (.tup [V.int (0 + (i : Int)), V.int (0 + (i : Int) + 1 + (j : Int))]) := rfl
          generalize upd H10 t2 (.tup [V.int (0 + (i : Int)), V.int (0 + (i : Int) + 1 + (j : Int))]) = H11 at e11 ht11 hy11 hf11 h211 ⊢
          refine ⟨(hf11.other Dne.1 Dne.2).more (by show _ ≤ b + 10 + 7 * (i : Int) + ((j + 1 : Nat) : Int); omega), es ++ [((i : Int), (i : Int) + 1 + (j : Int))], (h211.mono (Tp.upd hy11 sol_lst)).snoc ⟨t2, rfl, ?_⟩, fun p hp => ?_, ?_⟩
          · exact Tp.upd hy11 sol_lst _ _ sol_tup ht11
          · rcases List.mem_append.mp hp with hp | hp
            · have := h3 p hp; omega
            · rw [List.mem_singleton.mp hp]
              refine ⟨rfl, ?_, ?_⟩
              · show (i : Int) < (i : Int) + 1 + (j : Int); omega
              · show (i : Int) + 1 + (j : Int) < (i : Int) + 1 + ((j + 1 : Nat) : Int); omega
          · rw [List.nodup_append]
            refine ⟨h4, by simp, fun a ha b hb e => ?_⟩
            rw [List.mem_singleton.mp hb] at e
            have := h3 a ha
            rw [e] at this
            simp only at this
            omega
        · refine iteDF hq (hN _ e10 ⟨hf10.more (by show _ ≤ b + 10 + 7 * (i : Int) + ((j + 1 : Nat) : Int); omega), es, h2', fun p hp => ?_, h4⟩)
          have := h3 p hp; omega
      · rintro ys H9 e9 hy ⟨h1, es, h2, h3, h4⟩
        have hsa9 := e9.get saf hsa8
        have hP9 := hP8.mono e9.tp
        have tp10 : Tp H9 (upd H9 sa (.lst (xs ++ ys))) := Tp.upd hsa9 sol_lst
        have hyl : ys.length ≤ 7 := by
          rw [h2.length]
          have q := nodup_le (l := es.map (·.2)) (m := rg 7) (nodup_map_on h4 fun a ha b hb e => Prod.ext ((h3 a ha).1.trans (h3 b hb).1.symm) e) fun x hx => by
            obtain ⟨p, hp, rfl⟩ := List.mem_map.mp hx
            have := h3 p hp
            exact mem_rg.mpr ⟨by omega, by omega⟩
          rw [List.length_map, rg_len] at q
          exact q
        refine ⟨sa, D, xs, ys, rfl, rfl, hsa9, hy, by have e : sizeLine = 16777216 := rfl; omega, _, xs ++ ys, ps ++ es, rfl, (E8.trans e9).mut saH, (h1.other (fun z => saf z.symm) csa).more (by show _ ≤ b + 10 + 7 * ((i + 1 : Nat) : Int); omega), upd_same, (hP9.mono tp10).append (h2.mono tp10), fun p hp => ?_, ?_, by rw [List.length_append]; omega⟩
        · rcases List.mem_append.mp hp with hp | hp
          · have := hps p hp; omega
          · have := h3 p hp; omega
        · rw [List.nodup_append]
          refine ⟨hnd, h4, fun a ha b hb e => ?_⟩
          have h5 := hps a ha
          have h6 := h3 b hb
          rw [e] at h5
          omega
    rintro σ H8 ⟨o6, xs, ps, rfl, E8, hf8, hsa8, hP8, hps, hnd, hxl⟩
    have th0 : 0 ≤ 2 + r2 := by omega
    have nn : (((2 + r2).toNat : Nat) : Int) = 2 + r2 := by omega
    rw [nn] at hf8 hps
    -- order
    refine ⟨_, rfl, _, rfl, _, rfl, ⟨by decide, by decide, by show -(2 ^ 62) ≤ 2 + r2; omega, by show 2 + r2 < 2 ^ 62; omega, by show (2 + r2 - 0).toNat ≤ 2 ^ 24; omega⟩, fun q hq => ?_⟩
    have hq9 : (upd H8 q (.lst (rgV 0 (2 + r2)))) q = some (.lst ((rg (2 + r2)).map V.int)) := by rw [upd_same, rgV_rg]
    have f9 := Kp.new (F := N0) (o := .lst (rgV 0 (2 + r2))) hq
    generalize upd H8 q (.lst (rgV 0 (2 + r2))) = H9 at f9 hq9 ⊢
    have lrg : ((rg (2 + r2)).length : Int) = 2 + r2 := by rw [rg_len]; omega
    refine ⟨f, c, q, rg (2 + r2), _, rfl, hf8.mono f9, by omega, hq9, by omega, fun od2 ms H10 e10 hf10 hod hpm => ?_⟩
    have odf := hf10.ne hod ints_ne
    have g8 : Kp (fun a => a = f) H8 H10 := f9.weak.trans e10
    have bM : ∀ x ∈ ms, 0 ≤ x ∧ x < 2 + r2 := fun x hx => mem_rg.mp (hpm.mem_iff.mp hx)
    have ndM : ms.Nodup := hpm.nodup_iff.mpr rg_nodup
    have lM : ms.length ≤ 7 := by rw [hpm.length_eq]; omega
    -- kept
    refine ⟨_, rfl, _, rfl, by show 4 ≤ sizeLine; decide, fun l4 hl4' => ?_⟩
    have f11 := Kp.new (F := N0) (o := .lst [V.int 1, .int 2, .int 1, .int 0]) hl4'
    have hl11 : (upd H10 l4 (.lst [V.int 1, .int 2, .int 1, .int 0])) l4 = some (.lst (([1, 2, 1, 0] : List Int).map V.int)) := upd_same
    generalize upd H10 l4 (.lst [V.int 1, .int 2, .int 1, .int 0]) = H11 at f11 hl11 ⊢
    have hf11 := hf10.mono f11
    refine ⟨f, c, l4, _, _, rfl, hf11, by omega, hl11, hf11.ne hl11 ints_ne, by show 1 ≤ 4; omega, by show 4 < 1000000; omega, fun i12 x12 H12 hx12 e12 hf12 => ?_⟩
    obtain ⟨kk, rfl, kk0, kk2⟩ := pick_int (lo := 0) (hi := 2) hx12 (by decide)
    have hod12 := e12.get odf (f11.get0 hod)
    refine ⟨kk, rfl, od2, _, rfl, SqL.of hod12, fun ka hka => ?_⟩
    rw [cut_to kk0]
    have hk13 : (upd H12 ka (.lst ((ms.map V.int).take kk.toNat))) ka = some (.lst ((ms.take kk.toNat).map V.int)) := by rw [upd_same, List.map_take]
    have f13 := Kp.new (F := N0) (o := .lst ((ms.map V.int).take kk.toNat)) hka
    generalize upd H12 ka (.lst ((ms.map V.int).take kk.toNat)) = H13 at f13 hk13 ⊢
    have hf13 := hf12.mono f13
    have kaf := hf13.ne hk13 ints_ne
    have hod13 := f13.get0 hod12
    -- given
    refine ⟨_, rfl, _, rfl, f, c, od2, ms, _, rfl, hf13, by omega, hod13, by omega, fun gm gs H14 e14 hf14 hgm hgp => ?_⟩
    have gmf := hf14.ne hgm ints_ne
    refine ⟨_, rfl, by show 4 ≤ sizeLine; decide, fun l5 hl5 => ?_⟩
    have f15 := Kp.new (F := N0) (o := .lst [V.int 0, .int 1, .int 1, .int 2]) hl5
    have hl15 : (upd H14 l5 (.lst [V.int 0, .int 1, .int 1, .int 2])) l5 = some (.lst (([0, 1, 1, 2] : List Int).map V.int)) := upd_same
    generalize upd H14 l5 (.lst [V.int 0, .int 1, .int 1, .int 2]) = H15 at f15 hl15 ⊢
    have hf15 := hf14.mono f15
    refine ⟨f, c, l5, _, _, rfl, hf15, by omega, hl15, hf15.ne hl15 ints_ne, by show 1 ≤ 4; omega, by show 4 < 1000000; omega, fun i16 x16 H16 hx16 e16 hf16 => ?_⟩
    obtain ⟨gk, rfl, gk0, gk2⟩ := pick_int (lo := 0) (hi := 2) hx16 (by decide)
    have hgm16 := e16.get gmf (f15.get0 hgm)
    refine ⟨gk, rfl, gm, _, rfl, SqL.of hgm16, fun ga hga => ?_⟩
    rw [cut_to gk0]
    have hg17 : (upd H16 ga (.lst ((gs.map V.int).take gk.toNat))) ga = some (.lst ((gs.take gk.toNat).map V.int)) := by rw [upd_same, List.map_take]
    have f17 := Kp.new (F := N0) (o := .lst ((gs.map V.int).take gk.toNat)) hga
    generalize upd H16 ga (.lst ((gs.map V.int).take gk.toNat)) = H17 at f17 hg17 ⊢
    have hf17 := hf16.mono f17
    have gaf := hf17.ne hg17 ints_ne
    have g13 : Kp (fun a => a = f) H13 H17 := (e14.trans f15.weak).trans (e16.trans f17.weak)
    have hk17 := g13.get kaf hk13
    have g10 : Kp (fun a => a = f) H10 H17 := (f11.weak.trans e12).trans (f13.weak.trans g13)
    have g817 := g8.trans g10
    have hsa17 := g817.get saf hsa8
    have hP17 := hP8.mono g817.tp
    have E17 := E8.trans g817
    -- the tuple
    refine ⟨_, rfl, _, rfl, _, rfl, _, rfl, ?_⟩
    refine ⟨_, rfl, 2 + r2, rfl, by show -(2 ^ 62) ≤ 2 + r2; omega, by show 2 + r2 < 2 ^ 62; omega, fun D hD => ?_⟩
    have Dne := hf17.new hD
    have hkd : (ms.take kk.toNat) = (ms.take kk.toNat) := rfl
    generalize hke : ms.take kk.toNat = ke at hk13 hk17
    refine lcD (walk_range (lo := 0) (n := (2 + r2).toNat)) (fun a => a = f) (fun j ys H' => Fer H' f c (b + 100 + 2 * (j : Int)) ∧ ∃ tp : List (Int × Int), Prs H' ys tp ∧ tp.map (·.1) = ((rg (2 + r2)).take j).filter (fun t => !ke.contains t) ∧ ∀ p ∈ tp, 0 ≤ p.2 ∧ p.2 ≤ 7) hD (fun z => Dne.1 z.symm) (by omega) (fun _ _ => trivial) (fun H' e => ⟨(hf17.mono e).more (by omega), [], .nil, rfl, fun p hp => by simp at hp⟩) ?_ ?_ ?_
    · rintro j ys H18 o hy ⟨h1, es, h2, h3⟩
      exact ⟨h1.other Dne.1 Dne.2, es, h2.mono (Tp.upd hy sol_lst), h3⟩
    · rintro j x ys H18 _ Zy Zn hj ⟨rfl, hx⟩ e18 hy ⟨h1, tp, h2, h3, h4⟩ hyl hZ hN
      have e0 : (0 : Int) + (j : Int) = (j : Int) := Int.zero_add _
      have hx : x = .int (0 + (j : Int)) := hx
      rw [e0] at hx
      subst hx
      have hg := filter_take (f := fun t => !ke.contains t) (rg_get (n := 2 + r2) (i := j) (by omega))
      refine ⟨rfl, _, rfl, _, rfl, ka, _, rfl, .inl (SqL.of (e18.get kaf hk17)), rfl, flat_ints _, ?_⟩
      rw [inV_ints]
      refine ⟨_, rfl, ?_⟩
      cases hc : ke.contains (j : Int) with
      | true =>
        refine iteF (hN _ Kp.refl ⟨h1.more (by omega), tp, h2, ?_, h4⟩)
        rw [hg, hc, h3]; simp
      | false =>
        refine iteT ⟨_, rfl, _, rfl, f, c, _, rfl, h1, by omega, fun tt H19 t0 t7 e19 hf19 => ⟨by show 2 ≤ sizeLine; decide, fun t2 ht2 => hZ _ _ (e19.trans (Kp.new ht2)) fun o => ?_⟩⟩
        have hy19 := e19.get (fun z => Dne.1 z.symm) hy
        have e20 := Kp.new (F := N0) (o := .tup [V.int (j : Int), .int tt]) ht2
        have ht20 : (upd H19 t2 (.tup [V.int (j : Int), .int tt])) t2 = some (.tup ((pr ((j : Int), tt)).map V.int)) := upd_same
        have hy20 := e20.get0 hy19
        have hf20 := hf19.mono e20
        have h220 := (h2.mono e19.tp).mono e20.tp
        generalize upd H19 t2 (.tup [V.int (j : Int), .int tt]) = H20 at e20 ht20 hy20 hf20 h220 ⊢
        refine ⟨(hf20.other Dne.1 Dne.2).more (by omega), tp ++ [((j : Int), tt)], (h220.mono (Tp.upd hy20 sol_lst)).snoc ⟨t2, rfl, Tp.upd hy20 sol_lst _ _ sol_tup ht20⟩, ?_, fun p hp => ?_⟩
        · rw [hg, hc, List.map_append, h3]; simp
        · rcases List.mem_append.mp hp with hp | hp
          · exact h4 p hp
          · rw [List.mem_singleton.mp hp]; exact ⟨t0, t7⟩
    · rintro ys H18 e18 hy ⟨h1, tp, h2, h3, h4⟩
      have hall : (rg (2 + r2)).take (2 + r2).toNat = rg (2 + r2) := by rw [← rg_len]; exact take_all _
      rw [hall] at h3
      refine ⟨by show 5 ≤ sizeLine; decide, fun rt hrt => ?_⟩
      have e19 := Kp.new (F := N0) (o := .tup [V.int (2 + r2), .ref sa, .ref ga, .ref ka, .ref D]) hrt
      have g18 : Kp (fun a => a = f) H17 _ := e18.trans e19.weak
      refine k rt (2 + r2) ps (gs.take gk.toNat) ke tp _ (E17.trans g18) ((h1.mono e19).more (by omega)) ⟨sa, ga, ka, D, xs, ys, upd_same, g18.get saf hsa17, hP17.mono g18.tp, g18.get gaf hg17, g18.get kaf hk17, e19.get0 hy, h2.mono e19.tp⟩ ?_
      subst hke
      refine ⟨by omega, by omega, fun p hp => ?_, hnd, fun x hx => bM x (hgp.mem_iff.mp (List.mem_of_mem_take hx)), (hgp.nodup_iff.mpr ndM).sublist (List.take_sublist _ _), by rw [List.length_take]; omega, fun x hx => bM x (List.mem_of_mem_take hx), ndM.sublist (List.take_sublist _ _), by rw [List.length_take]; omega, by rw [h3], h4⟩
      have := hps p hp
      omega
end
end K50
end
section
set_option Elab.async false
set_option linter.all false
set_option maxRecDepth 100000
set_option maxHeartbeats 4000000
namespace K50
open PySem PySem.Spec L2
open PyProof.Rows (envOfC)
theorem RawAt.mono {F : Addr → Prop} {H H' : Hp} {t : Addr} {n : Int} {ps tp : List (Int × Int)} {gi ke : List Int} (e : Kp F H H') (hF : ∀ a xs, H a = some (.lst xs) → F a → ∃ c t r, xs = [.ref c, .int t, .int r]) (h : RawAt H t n ps gi ke tp) : RawAt H' t n ps gi ke tp := by
  obtain ⟨sa, ga, ka, ta, xs, ts, h1, h2, h3, h4, h5, h6, h7⟩ := h
  have no1 : ∀ {us : List V} {qs : List (Int × Int)}, Prs H us qs → ∀ c t r, us ≠ [V.ref c, .int t, .int r] := fun h c t r z => by
    subst z
    cases h with
    | cons _ h => cases h with
      | cons h _ => obtain ⟨_, h, _⟩ := h; cases h
  exact ⟨sa, ga, ka, ta, xs, ts, e.t _ _ h1, e.k _ _ (fun z => let ⟨c, t, r, q⟩ := hF _ _ h2 z; no1 h3 c t r q) h2, h3.mono e.tp, e.k _ _ (fun z => let ⟨c, t, r, q⟩ := hF _ _ h4 z; ints_ne c t r q) h4, e.k _ _ (fun z => let ⟨c, t, r, q⟩ := hF _ _ h5 z; ints_ne c t r q) h5,
    e.k _ _ (fun z => let ⟨c, t, r, q⟩ := hF _ _ h6 z; no1 h7 c t r q) h6, h7.mono e.tp⟩
theorem RawAt.mono0 {H H' : Hp} {t : Addr} {n : Int} {ps tp : List (Int × Int)} {gi ke : List Int} (e : Kp N0 H H') (h : RawAt H t n ps gi ke tp) : RawAt H' t n ps gi ke tp := h.mono e fun _ _ _ z => z.elim
theorem RawAt.monoF {H H' : Hp} {f c t : Addr} {b n : Int} {ps tp : List (Int × Int)} {gi ke : List Int} (hf : Fer H f c b) (e : Kp (fun a => a = f) H H') (h : RawAt H t n ps gi ke tp) : RawAt H' t n ps gi ke tp :=
  h.mono e fun a xs ha z => by
    obtain ⟨t, r, _, hf, _⟩ := hf
    rw [z, hf] at ha; cases ha
    exact ⟨_, _, _, rfl⟩
section
variable {w : World} {K : PySem.W.Frag} {mg : Str → Option Value} {base : Heap}
def sp_law_made (K : PySem.W.Frag) : Sp := fun vs H Q _ => ∃ (t : Addr) (n : Int) (ps : List (Int × Int)) (gi ke : List Int) (tp : List (Int × Int)), vs = [.ref t] ∧ RawAt H t n ps gi ke tp ∧ RawOk n ps gi ke tp ∧
  ∀ x N H', Kp N0 H H' → NetAt K H' x N → N.Ok → Made N n ps gi ke tp → Q (.ref x) H'
theorem sc_law_made : FnScope ["_law_net"] ["_law_net"] (defScope s_law_made) := ⟨rfl, rfl, rfl, by decide +kernel, rfl, by decide +kernel, by decide +kernel⟩
theorem c_law_made (T : TX K mg) : C8.Cal P w K mg base 9 "_law_made" (sp_law_made K) [] := by
  refine mkCal (k := 8) T.g_law_made T.d_law_made (fun _ _ _ _ _ _ us hl => match us, hl with | [_], _ => rfl) sc_law_made (fun vs H Q E h => ?_) (fun cdv A outer s H vs Q E hr h => ?_)
  · obtain ⟨t, n, ps, gi, ke, tp, rfl, _⟩ := h; rfl
  · obtain ⟨t, n, ps, gi, ke, tp, rfl, ⟨sa, ga, ka, ta, xs, ts, ht, hs, hP, hg, hk, hta, hT⟩, ok, kk⟩ := h
    refine ⟨_, (pss_one (ps_ret (C8.pe_mk (c_Net T) hr (by decide) rfl (pa_cons (pe_ix ix_tup (pv 0) pe_int (fun _ _ => rfl)) (pa_cons (pe_ix ix_tup (pv 0) pe_int (fun _ _ => rfl)) (pa_cons (pe_ix ix_tup (pv 0) pe_int (fun _ _ => rfl)) (pa_cons (pe_ix ix_tup (pv 0) pe_int (fun _ _ => rfl)) (pa_cons (pe_ix ix_tup (pv 0) pe_int (fun _ _ => rfl)) pa_nil)))))))), ?_⟩
    have st := SqT.of (K := K) ht
    refine ⟨_, rfl, t, _, _, _, rfl, rfl, st, rfl, _, rfl, t, _, _, _, rfl, rfl, st, rfl, _, rfl, t, _, _, _, rfl, rfl, st, rfl, _, rfl, t, _, _, _, rfl, rfl, st, rfl, _, rfl, t, _, _, _, rfl, rfl, st, rfl, fun x dx hx hdx ne => ?_⟩
    have e : Kp N0 H (upd (upd H dx (.own x)) x (.ins (NetC K) dx [])) := (Kp.new hdx).trans (Kp.new (by rw [upd_ne (fun z => ne z.symm)]; exact hx))
    have hxx : (upd (upd H dx (.own x)) x (.ins (NetC K) dx [])) x = _ := upd_same
    refine (fun hs => hs _ e hxx : (∀ H1, Kp N0 H H1 → H1 x = some (.ins (NetC K) dx []) → sp_Net_init K _ H1 _ _) → sp_Net_init K _ (upd (upd H dx (.own x)) x (.ins (NetC K) dx [])) _ _) fun H1 e1 hxx => ?_
    refine ⟨x, dx, sa, ga, ka, ta, n, xs, ts, ps, gi, ke, tp, rfl, hxx, ⟨ok.n1, ok.n7, e1.get0 hs, hP.mono e1.tp, fun p hp => ?_, ?_, ?_, e1.get0 hg, ok.eg, ok.ng, e1.get0 hk, ok.ek, ok.nk, e1.get0 hta, hT.mono e1.tp, ok.pt, ok.et⟩, fun N H2 e2 hN okN made => ⟨rfl, ?_⟩⟩
    · have := ok.es p hp; omega
    · rw [norm_all fun p hp => (ok.es p hp).2.1]; exact ok.ns
    · have := pairs_few ok.n7 ok.ns ok.es; omega
    · have hm : ps.map norm = ps := norm_all fun p hp => (ok.es p hp).2.1
      exact kk x N H2 (e1.fresh hx e2) hN okN made
def sp_law_parts (K : PySem.W.Frag) : Sp := fun vs H Q _ => ∃ (p : Addr) (N : Nt), vs = [.ref p] ∧ NetAt K H p N ∧ ∀ t H', Kp N0 H H' → RawAt H' t N.sz N.ed N.gi N.ke N.tu → Q (.ref t) H'
theorem sc_law_parts : FnScope ["_law_net"] ["_law_net"] (defScope s_law_parts) := ⟨rfl, rfl, rfl, by decide +kernel, rfl, by decide +kernel, by decide +kernel⟩
theorem c_law_parts (T : TX K mg) : C8.Cal P w K mg base 1 "_law_parts" (sp_law_parts K) [] := by
  refine mkCal (k := 0) T.g_law_parts T.d_law_parts (fun _ _ _ _ _ _ us hl => match us, hl with | [_], _ => rfl) sc_law_parts (fun vs H Q E h => ?_) (fun cdv A outer s H vs Q E hr h => ?_)
  · obtain ⟨p, N, rfl, _⟩ := h; rfl
  · obtain ⟨p, N, rfl, ⟨dx, a1, a2, a3, a4, a5, vs, ts, ob, hp⟩, k⟩ := h
    refine ⟨_, (pss_one (ps_ret (pe_tup (pa_cons (pe_fld (pv 0) rfl) (pa_cons (pe_callTy call_list_of (by rfl) T.f_list (by decide +kernel) (pa_cons (pe_fld (pv 0) rfl) pa_nil)) (pa_cons (pe_callTy call_list_of (by rfl) T.f_list (by decide +kernel) (pa_cons (pe_fld (pv 0) rfl) pa_nil)) (pa_cons (pe_callTy call_list_of (by rfl) T.f_list (by decide +kernel) (pa_cons (pe_fld (pv 0) rfl) pa_nil)) (pa_cons (pe_callTy call_list_of (by rfl) T.f_list (by decide +kernel) (pa_cons (pe_fld (pv 0) rfl) pa_nil)) pa_nil)))))))), ?_⟩
    refine ⟨_, rfl, p, _, dx, _, _, rfl, hp.o, T.c_Net, T.n_Net_things, fs_things, ?_⟩
    refine ⟨_, rfl, p, _, dx, _, _, rfl, hp.o, T.c_Net, T.n_Net_strings, fs_strings, a1, _, rfl, .inr (SqT.of hp.h1), fun sa hsa => ?_⟩
    have e1 := Kp.new (F := N0) (o := .lst vs) hsa
    have hsa1 : (upd H sa (.lst vs)) sa = some (.lst vs) := upd_same
    generalize upd H sa (.lst vs) = H1 at e1 hsa1 ⊢
    have hp1 := hp.mono e1
    refine ⟨_, rfl, p, _, dx, _, _, rfl, hp1.o, T.c_Net, T.n_Net_given, fs_given, a2, _, rfl, .inr (SqT.of hp1.h2), fun ga hga => ?_⟩
    have e2 := Kp.new (F := N0) (o := .lst (N.gi.map V.int)) hga
    have hga2 : (upd H1 ga (.lst (N.gi.map V.int))) ga = some (.lst (N.gi.map V.int)) := upd_same
    generalize upd H1 ga (.lst (N.gi.map V.int)) = H2 at e2 hga2 ⊢
    have hp2 := hp1.mono e2
    refine ⟨_, rfl, p, _, dx, _, _, rfl, hp2.o, T.c_Net, T.n_Net_kept, fs_kept, a3, _, rfl, .inr (SqT.of hp2.h3), fun ka hka => ?_⟩
    have e3 := Kp.new (F := N0) (o := .lst (N.ke.map V.int)) hka
    have hka3 : (upd H2 ka (.lst (N.ke.map V.int))) ka = some (.lst (N.ke.map V.int)) := upd_same
    generalize upd H2 ka (.lst (N.ke.map V.int)) = H3 at e3 hka3 ⊢
    have hp3 := hp2.mono e3
    refine ⟨_, rfl, p, _, dx, _, _, rfl, hp3.o, T.c_Net, T.n_Net_turns, fs_turns, a5, _, rfl, .inr (.inl (.inr ⟨_, hp3.h5⟩)), fun ta hta => ?_⟩
    have e4 := Kp.new (F := N0) (o := .lst ts) hta
    have hta4 : (upd H3 ta (.lst ts)) ta = some (.lst ts) := upd_same
    generalize upd H3 ta (.lst ts) = H4 at e4 hta4 ⊢
    refine ⟨by show 5 ≤ sizeLine; decide, fun t ht => ?_⟩
    have e5 := Kp.new (F := N0) (o := .tup [V.int N.sz, .ref sa, .ref ga, .ref ka, .ref ta]) ht
    have E := ((e1.trans e2).trans (e3.trans e4)).trans e5
    exact k t _ E ⟨sa, ga, ka, ta, vs, ts, upd_same, ((e2.trans e3).trans (e4.trans e5)).get0 hsa1, hp.r1.mono E.tp, (e3.trans (e4.trans e5)).get0 hga2, (e4.trans e5).get0 hka3, e5.get0 hta4, hp.r5.mono E.tp⟩
def sp_law_is_free (K : PySem.W.Frag) : Sp := fun vs H Q _ => ∃ (t : Addr) (i : Int) (N : Nt), vs = [.ref t, .int i] ∧ RawAt H t N.sz N.ed N.gi N.ke N.tu ∧ N.Ok ∧ 0 ≤ i ∧ i < N.sz ∧ ∀ b, (b = true ↔ N.inner i) → Ret H Q (.bl b)
theorem sc_law_is_free : FnScope ["_law_net", "_law_thing", "_law_things", "_law_strings", "_law_given", "_law_kept", "_law_turns", "_law_near_here"] ["_law_net", "_law_thing"] (defScope s_law_is_free) := ⟨rfl, rfl, rfl, by decide +kernel, rfl, by decide +kernel, by decide +kernel⟩
theorem c_law_is_free (T : TX K mg) : C8.Cal P w K mg base 2 "_law_is_free" (sp_law_is_free K) [] := by
  refine mkCal (k := 1) T.g_law_is_free T.d_law_is_free (fun _ _ _ _ _ _ us hl => match us, hl with | [_, _], _ => rfl) sc_law_is_free (fun vs H Q E h => ?_) (fun cdv A outer s H vs Q E hr h => ?_)
  · obtain ⟨t, i, N, rfl, _⟩ := h; rfl
  · obtain ⟨t, i, N, rfl, ⟨sa, ga, ka, ta, xs, ts, ht, hs, hP, hg, hk, hta, hT⟩, ok, h0, h1, k⟩ := h
    refine ⟨_, (pss_cons (ps_asg (pv 0) (pg_tup rfl (pgs_cons (pg_name (i := 2) sc_law_is_free.nd rfl (Or.inl rfl)) (pgs_cons (pg_name (i := 3) sc_law_is_free.nd rfl (Or.inl rfl)) (pgs_cons (pg_name (i := 4) sc_law_is_free.nd rfl (Or.inl rfl)) (pgs_cons (pg_name (i := 5) sc_law_is_free.nd rfl (Or.inr rfl)) (pgs_cons (pg_name (i := 6) sc_law_is_free.nd rfl (Or.inl rfl)) pgs_nil)))))))
      (pss_one (ps_ret (pe_and (pe_cmpR op_notIn_seq (pv 1) (pe_op op_cat (pe_callTy call_list_of (by rfl) T.f_list (by decide +kernel) (pa_cons (pv 4) pa_nil)) (pe_callTy call_list_of (by rfl) T.f_list (by decide +kernel) (pa_cons (pv 5) pa_nil))) (by rfl)) (pe_one (pe_cmpR (op_eqD hr.units) (pe_lc (own := [("_law_near_here", 7)]) (by rfl) sc_law_is_free.nd (pi_list (C8.pe_c (c_law_near T) hr (by decide) rfl (pa_cons (pv 3) (pa_cons (pv 1) pa_nil)))) (blkOk_by (N := ["_law_net", "_law_thing", "_law_things", "_law_strings", "_law_given", "_law_kept", "_law_turns", "_law_near_here"]) (sc := defScope s_law_is_free) (own := [("_law_near_here", 7)]) (by decide +kernel)) (fun _ _ _ _ _ => (pg_name (i := 7) sc_law_is_free.nd rfl (Or.inl rfl))) (fun _ _ _ _ _ => pts_one (pt_cmpR (r := rIn K false) (or_in rfl) (pv 7) (pv 5) (by rfl))) (fun _ _ _ _ _ => (pv 7))) (pe_lst pa_nil) (nomark _))))))), ?_⟩
    refine ⟨_, rfl, t, _, rfl, SqT.of ht, rfl, .int N.sz, _, rfl, .ref sa, _, rfl, .ref ga, _, rfl, .ref ka, _, rfl, .ref ta, _, rfl, rfl, ?_⟩
    refine ⟨_, rfl, _, rfl, ga, _, rfl, .inl (SqL.of hg), fun g1 hg1 => ?_⟩
    have e1 := Kp.new (F := N0) (o := .lst (N.gi.map V.int)) hg1
    have hg11 : (upd H g1 (.lst (N.gi.map V.int))) g1 = some (.lst (N.gi.map V.int)) := upd_same
    generalize upd H g1 (.lst (N.gi.map V.int)) = H1 at e1 hg11 ⊢
    have hk1 := e1.get0 hk
    refine ⟨_, rfl, ka, _, rfl, .inl (SqL.of hk1), fun k1 hk1' => ?_⟩
    have e2 := Kp.new (F := N0) (o := .lst (N.ke.map V.int)) hk1'
    have hk2 : (upd H1 k1 (.lst (N.ke.map V.int))) k1 = some (.lst (N.ke.map V.int)) := upd_same
    generalize upd H1 k1 (.lst (N.ke.map V.int)) = H2 at e2 hk2 ⊢
    have gs := range_small ok.n7 ok.giN ok.gi
    have ks := range_small ok.n7 ok.keN ok.ke
    refine ⟨g1, k1, _, _, rfl, rfl, e2.get0 hg11, hk2, by rw [List.length_map, List.length_map]; have e : sizeLine = 16777216 := rfl; omega, fun u hu => ?_⟩
    have e3 := Kp.new (F := N0) (o := .lst (N.gi.map V.int ++ N.ke.map V.int)) hu
    have hu3 : (upd H2 u (.lst (N.gi.map V.int ++ N.ke.map V.int))) u = some (.lst ((N.gi ++ N.ke).map V.int)) := by rw [upd_same, List.map_append]
    generalize upd H2 u (.lst (N.gi.map V.int ++ N.ke.map V.int)) = H3 at e3 hu3 ⊢
    have E3 := (e1.trans e2).trans e3
    refine ⟨u, _, rfl, .inl (SqL.of hu3), rfl, flat_ints _, ?_⟩
    rw [inV_ints]
    refine ⟨_, rfl, ?_⟩
    cases hc : (N.gi ++ N.ke).contains i with
    | true =>
      have hm := List.contains_iff_mem.mp hc
      refine iteF (k _ ⟨fun z => by simp at z, fun z => ?_⟩ _ E3)
      rcases List.mem_append.mp hm with hm | hm
      · exact absurd hm z.g
      · exact absurd hm z.k
    | false =>
      have hg' : i ∉ N.gi := fun z => by rw [List.contains_iff_mem.mpr (List.mem_append_left _ z)] at hc; cases hc
      have hk' : i ∉ N.ke := fun z => by rw [List.contains_iff_mem.mpr (List.mem_append_right _ z)] at hc; cases hc
      have few := pairs_few ok.n7 ok.edN ok.ed
      have hpl := hP.length
      refine iteT ⟨_, rfl, _, rfl, sa, i, xs, N.ed, rfl, E3.get0 hs, hP.mono E3.tp, by omega, fun p hp => by have := ok.ed p hp; omega, fun l ns H4 e4 hl hns => ?_⟩
      have hk4 := (E3.trans e4).get0 hk
      have hnl : ns.length < 64 := by
        rw [hns.length_eq]
        have := nbr_len (i := i) ok N.ed.length
        rw [take_all] at this; exact this
      refine ⟨l, rfl, ⟨_, SqL.of hl⟩, fun D hD => ?_⟩
      refine lcW (walk_list (K := K) (a := l) (xs := ns.map V.int)) N0 (fun j ys _ => ys = ((ns.take j).filter fun y => N.ke.contains y).map V.int) hD id (by rw [List.length_map]; omega) (fun H' e => e.sql (SqL.of hl)) (fun _ _ => rfl) (fun _ _ _ _ _ h => h) ?_ ?_
      · rintro j x ys H5 _ Zy Zn hi ⟨rfl, hx⟩ e5 hy rfl _ hZ hN
        obtain ⟨n, hn, rfl⟩ := map_int_get hx
        have hgf := filter_take (f := fun y => N.ke.contains y) hn
        refine ⟨rfl, _, rfl, _, rfl, ka, _, rfl, .inl (SqL.of (e5.get0 hk4)), rfl, flat_ints _, ?_⟩
        rw [inV_ints]
        refine ⟨_, rfl, ?_⟩
        cases hc2 : N.ke.contains n with
        | true => exact iteT ⟨_, rfl, hZ _ _ Kp.refl (by rw [hgf, hc2]; simp)⟩
        | false => exact iteF (hN _ Kp.refl (by rw [hgf, hc2]; simp))
      · rintro ys H5 e5 hy rfl
        rw [List.length_map, take_all] at hy
        refine ⟨by show 0 ≤ sizeLine; decide, fun g hgn => ?_⟩
        have e6 := Kp.new (F := N0) (o := .lst []) hgn
        have hg6 : (upd H5 g (.lst [])) g = some (.lst (([] : List Int).map V.int)) := upd_same
        generalize upd H5 g (.lst []) = H6 at e6 hg6 ⊢
        refine ⟨_, _, dp_list (SqL.of (e6.get0 hy)), dp_list (SqL.of hg6), sh_list, sh_list, ?_⟩
        rw [eqv_list]
        refine k _ ?_ _ (((E3.trans e4).trans e5).trans e6)
        rw [decide_eq_true_eq, List.filter_eq_nil_iff]
        constructor
        · exact fun z => ⟨hg', hk', fun j hj hjk => z j (hns.mem_iff.mpr (mem_nbr.mpr hj)) (List.contains_iff_mem.mpr hjk)⟩
        · exact fun z j hj hjk => z.n j (mem_nbr.mp (hns.mem_iff.mp hj)) (List.contains_iff_mem.mp hjk)
end
end K50
end
section
set_option Elab.async false
set_option linter.all false
set_option maxRecDepth 100000
set_option maxHeartbeats 4000000
namespace K50
open PySem PySem.Spec L2
open PyProof.Rows (envOfC)
theorem prs_dict {K : PySem.W.Frag} {H : Hp} {ts : List V} {tu : List (Int × Int)} (h : Prs H ts tu) : ∃ as : List Addr, ts = as.map V.ref ∧ Paired (fun p (kv : Key × V) => SqT K H p [kV kv.1, kv.2]) as (kvI tu) := by
  induction h with
  | nil => exact ⟨[], rfl, .nil⟩
  | cons r _ ih =>
    obtain ⟨as, e, q⟩ := ih
    obtain ⟨a, rfl, ha⟩ := r
    exact ⟨a :: as, by rw [e]; rfl, .cons (SqT.of ha) q⟩
/-- a tuple that may tell a step -/
def Cand (H : Hp) (t : Addr) (N : Nt) : Prop := (∃ i, H t = some (.tup [.str "quarter", .int i]) ∧ 0 ≤ i ∧ i < N.sz) ∨ ∃ i j, H t = some (.tup [.str "pair", .int i, .int j]) ∧ 0 ≤ i ∧ i < N.sz ∧ 0 ≤ j ∧ j < N.sz
theorem Cand.mono {H H' : Hp} {t : Addr} {N : Nt} (e : Tp H H') (h : Cand H t N) : Cand H' t N := by
  rcases h with ⟨i, h, r⟩ | ⟨i, j, h, r⟩
  · exact .inl ⟨i, e _ _ sol_tup h, r⟩
  · exact .inr ⟨i, j, e _ _ sol_tup h, r⟩
theorem in_two {o : Option Int} {a b : Int} : inV ((o.map V.int).getD .non) [.int a, .int b] = true ↔ ∃ t, o = some t ∧ (t = a ∨ t = b) := by
  cases o with
  | none => simp [inV, eqV]
  | some t =>
    have e : inV (.int t) [.int a, .int b] = (decide (a = t) || decide (b = t)) := by
      simp only [inV, List.any_cons, List.any_nil, eqV, Bool.or_false]; rfl
    show inV (.int t) _ = true ↔ _
    rw [e]
    simp only [Bool.or_eq_true, decide_eq_true_eq]
    constructor
    · rintro (h | h)
      · exact ⟨t, rfl, .inl h.symm⟩
      · exact ⟨t, rfl, .inr h.symm⟩
    · rintro ⟨u, h, z⟩
      cases h
      rcases z with rfl | rfl
      · exact .inl rfl
      · exact .inr rfl
section
variable {w : World} {K : PySem.W.Frag} {mg : Str → Option Value} {base : Heap}
def sp_law_may (K : PySem.W.Frag) : Sp := fun vs H Q _ => ∃ (t s : Addr) (N : Nt), vs = [.ref t, .ref s] ∧ RawAt H t N.sz N.ed N.gi N.ke N.tu ∧ N.Ok ∧ Cand H s N ∧ ∀ b, (b = true → StepAt H s N) → Ret H Q (.bl b)
theorem sc_law_may : FnScope ["_law_net", "_law_step", "_law_turns", "_law_one", "_law_other"] ["_law_net", "_law_step"] (defScope s_law_may) := ⟨rfl, rfl, rfl, by decide +kernel, rfl, by decide +kernel, by decide +kernel⟩
theorem c_law_may (T : TX K mg) : C8.Cal P w K mg base 3 "_law_may" (sp_law_may K) [] := by
  refine mkCal (k := 2) T.g_law_may T.d_law_may (fun _ _ _ _ _ _ us hl => match us, hl with | [_, _], _ => rfl) sc_law_may (fun vs H Q E h => ?_) (fun cdv A outer s H vs Q E hr h => ?_)
  · obtain ⟨t, s, N, rfl, _⟩ := h; rfl
  · obtain ⟨t, s1, N, rfl, hraw, ok, hc, k⟩ := h
    have ⟨sa, ga, ka, ta, xs, ts, ht, hs, hP, hg, hk, hta, hT⟩ := hraw
    have no : ∀ {H'}, Kp N0 H H' → Q (.bl false) H' := fun e => k false (fun z => by cases z) _ e
    refine ⟨_, (pss_cons (ps_set (i := 2) sc_law_may.nd rfl (Or.inl rfl) (pe_callTy (call_dictP rfl) (by rfl) T.f_dict (by decide +kernel) (pa_cons (pe_ix ix_tup (pv 0) pe_int (fun _ _ => rfl)) pa_nil)))
      (pss_cons (ps_if (pt_cmpR op_lt (pe_ix ix_tup (pv 0) pe_int (fun _ _ => rfl)) (pe_callB call_len_seq (by rfl) T.f_len (by decide +kernel) (pa_cons (pv 1) pa_nil)) (nomark _)) (pss_one (ps_ret pe_bl)) pss_nil)
      (pss_cons (ps_if (pt_cmpR op_eq (pe_ix ix_tup (pv 1) pe_int (fun _ _ => rfl)) pe_str (nomark _)) (pss_one (ps_ret (pe_and (pe_cmpR op_in_seq (pe_dget1 (hu_of hr) (pv 2) (pe_ix ix_tup (pv 1) pe_int (fun _ _ => rfl)) ⟨rfl, rfl, rfl, rfl⟩) (pe_tup (pa_cons pe_int (pa_cons pe_int pa_nil))) (by rfl)) (pe_one (C8.pe_c (c_law_is_free T) hr (by decide) rfl (pa_cons (pv 0) (pa_cons (pe_ix ix_tup (pv 1) pe_int (fun _ _ => rfl)) pa_nil))))))) pss_nil)
      (pss_cons (ps_par (i := 3) (j := 4) rfl sc_law_may.nd rfl rfl (by decide) rfl rfl (pa_cons (pe_ix ix_tup (pv 1) pe_int (fun _ _ => rfl)) (pa_cons (pe_ix ix_tup (pv 1) pe_int (fun _ _ => rfl)) pa_nil)) (by rfl))
      (pss_cons (ps_if (PW.pt (pw_or (pt_cmpR op_notIn_seq (pv 4) (C8.pe_c (c_law_near T) hr (by decide) rfl (pa_cons (pe_ix ix_tup (pv 0) pe_int (fun _ _ => rfl)) (pa_cons (pv 3) pa_nil))) (by rfl)) (pw_or (pt_cmpR op_notIn_seq (pe_dget1 (hu_of hr) (pv 2) (pv 3) ⟨rfl, rfl, rfl, rfl⟩) (pe_tup (pa_cons pe_int (pa_cons pe_int pa_nil))) (by rfl)) (pw_or1 (pt_cmpR op_notIn_seq (pe_dget1 (hu_of hr) (pv 2) (pv 4) ⟨rfl, rfl, rfl, rfl⟩) (pe_tup (pa_cons pe_int (pa_cons pe_int pa_nil))) (by rfl)))))) (pss_one (ps_ret pe_bl)) pss_nil)
      (pss_one (ps_ret (pe_and (C8.pe_c (c_law_is_free T) hr (by decide) rfl (pa_cons (pv 0) (pa_cons (pv 3) pa_nil))) (pe_one (C8.pe_c (c_law_is_free T) hr (by decide) rfl (pa_cons (pv 0) (pa_cons (pv 4) pa_nil)))))))))))), ?_⟩
    obtain ⟨as, has, hpd⟩ := prs_dict (K := K) hT
    refine ⟨_, rfl, t, _, _, _, rfl, rfl, SqT.of ht, rfl, ta, as, kvI N.tu, rfl, by rw [← has]; exact SqL.of hta, hpd, fun d hd => ?_⟩
    rw [mergeK_kvI ok.tN]
    have e1 := Kp.new (F := N0) (o := .dK (kvI N.tu)) hd
    have hd1 : (upd H d (.dK (kvI N.tu))) d = some (.dK (kvI N.tu)) := upd_same
    generalize upd H d (.dK (kvI N.tu)) = H1 at e1 hd1 ⊢
    have ht1 := e1.t _ _ ht
    have few := pairs_few ok.n7 ok.edN ok.ed
    have hpl := hP.length
    rcases hc with ⟨i, hs0, h0, h1⟩ | ⟨i, j, hs0, h0, h1, h2, h3⟩
    · have hs1 := e1.t _ _ hs0
      have ss := SqT.of (K := K) hs1
      refine ⟨_, rfl, t, _, _, _, rfl, rfl, SqT.of ht1, rfl, _, rfl, s1, _, rfl, .inr ss, _, _, rfl, rfl, _, rfl, ?_⟩
      by_cases hn : N.sz < 2
      · exact iteDT hn (no e1)
      refine iteDF hn ?_
      refine ⟨_, rfl, s1, _, _, _, rfl, rfl, ss, rfl, rfl, _, rfl, ?_⟩
      refine iteT ?_
      refine ⟨_, rfl, d, rfl, .inl ⟨_, .inl hd1⟩, _, rfl, s1, _, _, _, rfl, rfl, ss, rfl, _, DGet.k (k := Sum.inl i) hd1, by show 2 ≤ sizeLine; decide, fun u hu => ?_⟩
      rw [valV_kvI]
      have e2 := Kp.new (F := N0) (o := .tup [V.int 2, .int 6]) hu
      refine ⟨u, _, rfl, .inr (SqT.of upd_same), flat_opt, rfl, _, rfl, ?_⟩
      cases hq : inV ((Option.map V.int (tuAt N.tu i)).getD .non) [.int 2, .int 6] with
      | false => exact iteF (no (e1.trans e2))
      | true =>
        have E2 := e1.trans e2
        refine iteT ⟨_, rfl, _, rfl, s1, _, _, _, rfl, rfl, SqT.of (e2.t _ _ hs1), rfl, t, i, N, rfl, hraw.mono0 E2, ok, h0, h1, fun b hb H3 e3 => ?_⟩
        refine k b (fun z => .inl ⟨i, hs0, h0, h1, by omega, in_two.mp hq, hb.mp z⟩) _ (E2.trans e3)
    · have hs1 := e1.t _ _ hs0
      have ss := SqT.of (K := K) hs1
      refine ⟨_, rfl, t, _, _, _, rfl, rfl, SqT.of ht1, rfl, _, rfl, s1, _, rfl, .inr ss, _, _, rfl, rfl, _, rfl, ?_⟩
      by_cases hn : N.sz < 3
      · exact iteDT hn (no e1)
      refine iteDF hn ?_
      refine ⟨_, rfl, s1, _, _, _, rfl, rfl, ss, rfl, rfl, _, rfl, ?_⟩
      refine iteF ?_
      refine ⟨_, rfl, s1, _, _, _, rfl, rfl, ss, rfl, _, rfl, s1, _, _, _, rfl, rfl, ss, rfl, _, _, rfl, ?_⟩
      refine ⟨_, rfl, _, rfl, t, _, _, _, rfl, rfl, SqT.of ht1, rfl, _, rfl, sa, i, xs, N.ed, rfl, e1.get0 hs, hP.mono e1.tp, by omega, fun p hp => by have := ok.ed p hp; omega, fun l ns H2 e2 hl hns => ?_⟩
      refine ⟨l, _, rfl, .inl (SqL.of hl), rfl, flat_ints _, ?_⟩
      rw [inV_ints]
      refine ⟨_, rfl, ?_⟩
      have E2 := e1.trans e2
      have hd2 := e2.get0 hd1
      cases hcj : ns.contains j with
      | false => exact iteT (iteT (no E2))
      | true =>
      have hadj : adj N.ed i j := mem_nbr.mp (hns.mem_iff.mp (List.contains_iff_mem.mp hcj))
      refine iteF ?_
      refine ⟨_, rfl, d, rfl, .inl ⟨_, .inl hd2⟩, _, rfl, _, DGet.k (k := Sum.inl i) hd2, by show 2 ≤ sizeLine; decide, fun u hu => ?_⟩
      rw [valV_kvI]
      have e3 := Kp.new (F := N0) (o := .tup [V.int 0, .int 4]) hu
      refine ⟨u, _, rfl, .inr (SqT.of upd_same), flat_opt, rfl, _, rfl, ?_⟩
      generalize upd H2 u (.tup [V.int 0, .int 4]) = H3 at e3 ⊢
      have E3 := E2.trans e3
      cases hq : inV ((Option.map V.int (tuAt N.tu i)).getD .non) [.int 0, .int 4] with
      | false => exact iteT (iteT (no E3))
      | true =>
      refine iteF ?_
      have hd3 := e3.get0 hd2
      refine ⟨_, rfl, d, rfl, .inl ⟨_, .inl hd3⟩, _, rfl, _, DGet.k (k := Sum.inl j) hd3, by show 2 ≤ sizeLine; decide, fun u2 hu2 => ?_⟩
      rw [valV_kvI]
      have e4 := Kp.new (F := N0) (o := .tup [V.int 0, .int 4]) hu2
      refine ⟨u2, _, rfl, .inr (SqT.of upd_same), flat_opt, rfl, _, rfl, ?_⟩
      generalize upd H3 u2 (.tup [V.int 0, .int 4]) = H4 at e4 ⊢
      have E4 := E3.trans e4
      cases hq2 : inV ((Option.map V.int (tuAt N.tu j)).getD .non) [.int 0, .int 4] with
      | false => exact iteT (no E4)
      | true =>
      refine iteF ?_
      refine ⟨_, rfl, _, rfl, t, i, N, rfl, hraw.mono0 E4, ok, h0, h1, fun b hb H5 e5 => ⟨b, rfl, ?_⟩⟩
      cases b with
      | false => exact iteF (no (E4.trans e5))
      | true =>
      refine iteT ⟨_, rfl, _, rfl, t, j, N, rfl, hraw.mono0 (E4.trans e5), ok, h2, h3, fun b hb2 H6 e6 => ?_⟩
      exact k b (fun z => .inr ⟨i, j, hs0, h0, h1, h2, h3, by omega, hadj, in_two.mp hq, in_two.mp hq2, hb.mp rfl, hb2.mp z⟩) _ ((E4.trans e5).trans e6)
def sp_law_steps (K : PySem.W.Frag) : Sp := fun vs H Q _ => ∃ (t : Addr) (N : Nt), vs = [.ref t] ∧ RawAt H t N.sz N.ed N.gi N.ke N.tu ∧ N.Ok ∧ ∀ l xs H', Kp N0 H H' → H' l = some (.lst xs) → (∀ x ∈ xs, ∃ s, x = V.ref s ∧ StepAt H' s N) → xs.length < 1000 → Q (.ref l) H'
theorem sc_law_steps : FnScope ["_law_net", "_law_steps_here", "_law_one", "_law_thing", "_law_step", "_law_other"] ["_law_net"] (defScope s_law_steps) := ⟨rfl, rfl, rfl, by decide +kernel, rfl, by decide +kernel, by decide +kernel⟩
theorem c_law_steps (T : TX K mg) : C8.Cal P w K mg base 4 "_law_steps" (sp_law_steps K) [] := by
  refine mkCal (k := 3) T.g_law_steps T.d_law_steps (fun _ _ _ _ _ _ us hl => match us, hl with | [_], _ => rfl) sc_law_steps (fun vs H Q E h => ?_) (fun cdv A outer s H vs Q E hr h => ?_)
  · obtain ⟨t, N, rfl, _⟩ := h; rfl
  · obtain ⟨t, N, rfl, hraw, ok, k⟩ := h
    have ⟨sa, ga, ka, ta, xs, ts, ht, hs, hP, hg, hk, hta, hT⟩ := hraw
    have hn7 := ok.n7
    have hn1 := ok.n1
    refine ⟨_, (pss_cons (ps_setLc (i := 1) rfl sc_law_steps.nd rfl rfl (sw_true rfl rfl rfl (by decide +kernel)) (own := [("_law_thing", 3)]) (pi_range1 (by rfl) T.f_range (pa_cons (pe_ix ix_tup (pv 0) pe_int (fun _ _ => rfl)) pa_nil)) (blkOk_by (N := ["_law_net", "_law_steps_here", "_law_one", "_law_thing", "_law_step", "_law_other"]) (sc := defScope s_law_steps) (own := [("_law_thing", 3)]) (by decide +kernel)) (fun _ _ _ _ _ => (pg_name (i := 3) sc_law_steps.nd rfl (Or.inl rfl))) (fun _ _ _ _ _ => pts_nil) (fun _ _ _ _ _ => (pe_tup (pa_cons pe_str (pa_cons (pv 3) pa_nil)))))
      (pss_cons (ps_for PassesOwn.never rfl (pi_range1 (by rfl) T.f_range (pa_cons (pe_ix ix_tup (pv 0) pe_int (fun _ _ => rfl)) pa_nil)) (pg_name (i := 2) sc_law_steps.nd rfl (Or.inr rfl)) (pss_one (ps_expr (pe_bm PySem.F.plainAttrs_list PySem.F.slot_list_extend PySem.F.type_list_extend mt_extend (pv 1) (pa_cons (pe_lc (own := [("_law_other", 5)]) (by rfl) sc_law_steps.nd (pi_range2 (by rfl) T.f_range (pa_cons (pe_op op_add (pv 2) pe_int) (pa_cons (pe_ix ix_tup (pv 0) pe_int (fun _ _ => rfl)) pa_nil))) (blkOk_by (N := ["_law_net", "_law_steps_here", "_law_one", "_law_thing", "_law_step", "_law_other"]) (sc := defScope s_law_steps) (own := [("_law_other", 5)]) (by decide +kernel)) (fun _ _ _ _ _ => (pg_name (i := 5) sc_law_steps.nd rfl (Or.inl rfl))) (fun _ _ _ _ _ => pts_nil) (fun _ _ _ _ _ => (pe_tup (pa_cons pe_str (pa_cons (pv 2) (pa_cons (pv 5) pa_nil)))))) pa_nil)))))
      (pss_one (ps_ret (pe_lc (own := [("_law_step", 4)]) (by rfl) sc_law_steps.nd (pi_list (pv 1)) (blkOk_by (N := ["_law_net", "_law_steps_here", "_law_one", "_law_thing", "_law_step", "_law_other"]) (sc := defScope s_law_steps) (own := [("_law_step", 4)]) (by decide +kernel)) (fun _ _ _ _ _ => (pg_name (i := 4) sc_law_steps.nd rfl (Or.inl rfl))) (fun _ _ _ _ _ => pts_one (pt_val (C8.pe_c (c_law_may T) hr (by decide) rfl (pa_cons (pv 0) (pa_cons (pv 4) pa_nil))))) (fun _ _ _ _ _ => (pv 4))))))), ?_⟩
    refine ⟨_, rfl, t, _, _, _, rfl, rfl, SqT.of ht, rfl, N.sz, rfl, by omega, by omega, fun D hD => ?_⟩
    refine lcW (walk_range (lo := 0) (n := N.sz.toNat)) N0 (fun i ys H => ys.length ≤ i ∧ ∀ x ∈ ys, ∃ s, x = V.ref s ∧ Cand H s N) hD id (by omega) (fun _ _ => trivial) (fun _ _ => ⟨Nat.le_refl _, fun x hx => by simp at hx⟩) (fun _ _ _ _ e h => ⟨h.1, fun x hx => let ⟨s, q, c⟩ := h.2 x hx; ⟨s, q, c.mono e⟩⟩) ?_ ?_
    · rintro i x ys H1 _ Zy Zn hi ⟨rfl, hx⟩ e1 hy ⟨hln, hall⟩ _ hZ _
      have hx : x = .int (0 + (i : Int)) := hx
      subst hx
      refine ⟨rfl, yesT ⟨_, rfl, by show 2 ≤ sizeLine; decide, fun s1 hs1 => hZ _ _ (Kp.new hs1) ⟨by rw [List.length_append]; show ys.length + 1 ≤ i + 1; omega, fun y hy => ?_⟩⟩⟩
      rcases List.mem_append.mp hy with hy | hy
      · obtain ⟨s, q, c⟩ := hall y hy
        exact ⟨s, q, c.mono (Tp.new hs1)⟩
      · exact ⟨s1, List.mem_singleton.mp hy, .inl ⟨_, upd_same, by omega, by omega⟩⟩
    rintro ys1 H1 e1 hD1 ⟨hln1, hall1⟩
    have DH : H D = none := hD
    refine ⟨_, rfl, t, _, _, _, rfl, rfl, SqT.of (e1.t _ _ ht), rfl, N.sz, rfl, by omega, by omega, ?_⟩
    refine for_it (walk_range (lo := 0) (n := N.sz.toNat)) (fun i σ H' => ∃ o2 ys, σ = [some (.ref t), some (.ref D), o2, none, none, none] ∧ Kp N0 H H' ∧ H' D = some (.lst ys) ∧ ys.length ≤ 7 + 7 * i ∧ ∀ x ∈ ys, ∃ s, x = V.ref s ∧ Cand H' s N) ⟨_, ys1, rfl, e1, hD1, by omega, hall1⟩ (fun _ _ _ _ _ => trivial) ?_ ?_
    · rintro i x σ H2 _ hi ⟨o2, ys, rfl, e2, hD2, hln, hall⟩ ⟨rfl, hx⟩
      have hx : x = .int (0 + (i : Int)) := hx
      subst hx
      refine ⟨_, rfl, .inl ⟨rfl, _, SqL.of hD2⟩, ?_⟩
      refine ⟨_, rfl, _, _, rfl, rfl, _, rfl, t, _, _, _, rfl, rfl, SqT.of (e2.t _ _ ht), rfl, _, _, rfl, ⟨by show -(2 ^ 62) ≤ 0 + (i : Int) + 1; omega, by show 0 + (i : Int) + 1 < 2 ^ 62; omega, by omega, by omega⟩, fun D2 hD2n => ?_⟩
      refine lcW (walk_range (lo := 0 + (i : Int) + 1) (n := (N.sz - (0 + (i : Int) + 1)).toNat)) N0 (fun i ys H => ys.length ≤ i ∧ ∀ x ∈ ys, ∃ s, x = V.ref s ∧ Cand H s N) hD2n id (by omega) (fun _ _ => trivial) (fun _ _ => ⟨Nat.le_refl _, fun x hx => by simp at hx⟩) (fun _ _ _ _ e h => ⟨h.1, fun x hx => let ⟨s, q, c⟩ := h.2 x hx; ⟨s, q, c.mono e⟩⟩) ?_ ?_
      · rintro j x zs H3 _ Zy Zn hj ⟨rfl, hx⟩ e3 hy ⟨hln3, hall3⟩ _ hZ _
        have hx : x = .int (0 + (i : Int) + 1 + (j : Int)) := hx
        subst hx
        refine ⟨rfl, yesT ⟨_, rfl, _, rfl, by show 3 ≤ sizeLine; decide, fun s1 hs1 => hZ _ _ (Kp.new hs1) ⟨by rw [List.length_append]; show zs.length + 1 ≤ j + 1; omega, fun y hy => ?_⟩⟩⟩
        rcases List.mem_append.mp hy with hy | hy
        · obtain ⟨s, q, c⟩ := hall3 y hy
          exact ⟨s, q, c.mono (Tp.new hs1)⟩
        · exact ⟨s1, List.mem_singleton.mp hy, .inr ⟨_, _, upd_same, by omega, by omega, by omega, by omega⟩⟩
      · rintro zs H3 e3 hy ⟨hln3, hall3⟩
        have hD3 := e3.get0 hD2
        have tp4 : Tp H3 (upd H3 D (.lst (ys ++ zs))) := Tp.upd hD3 sol_lst
        refine ⟨D, D2, ys, zs, rfl, rfl, hD3, hy, by have e : sizeLine = 16777216 := rfl; omega, _, ys ++ zs, rfl, (e2.trans e3).mut DH, upd_same, by rw [List.length_append]; omega, fun x hx => ?_⟩
        rcases List.mem_append.mp hx with hx | hx
        · obtain ⟨s, q, c⟩ := hall x hx
          exact ⟨s, q, c.mono (e3.tp.trans tp4)⟩
        · obtain ⟨s, q, c⟩ := hall3 x hx
          exact ⟨s, q, c.mono tp4⟩
    rintro σ H2 ⟨o2, ys, rfl, e2, hD2, hln, hall⟩
    refine ⟨_, rfl, D, rfl, ⟨_, SqL.of hD2⟩, fun D3 hD3 => ?_⟩
    refine lcW (walk_list (K := K) (a := D) (xs := ys)) N0 (fun i zs H => zs.length ≤ i ∧ ∀ x ∈ zs, ∃ s, x = V.ref s ∧ StepAt H s N) hD3 id (by omega) (fun H' e => e.sql (SqL.of hD2)) (fun _ _ => ⟨Nat.le_refl _, fun x hx => by simp at hx⟩) (fun _ _ _ _ e h => ⟨h.1, fun x hx => let ⟨s, q, c⟩ := h.2 x hx; ⟨s, q, c.mono e⟩⟩) ?_ ?_
    · rintro j x zs H3 _ Zy Zn hj ⟨rfl, hx⟩ e3 hy ⟨hln3, hall3⟩ _ hZ hN
      obtain ⟨s1, rfl, c1⟩ := hall x (List.mem_of_getElem? hx)
      refine ⟨rfl, _, rfl, _, rfl, t, s1, N, rfl, hraw.mono0 (e2.trans e3), ok, c1.mono e3.tp, fun b hb H4 e4 => ⟨b, rfl, ?_⟩⟩
      cases b with
      | false => exact iteF (hN _ e4 ⟨by omega, fun x hx => let ⟨s, q, c⟩ := hall3 x hx; ⟨s, q, c.mono e4.tp⟩⟩)
      | true =>
        refine iteT ⟨_, rfl, hZ _ _ e4 ⟨by rw [List.length_append]; show zs.length + 1 ≤ j + 1; omega, fun y hy => ?_⟩⟩
        rcases List.mem_append.mp hy with hy | hy
        · obtain ⟨s, q, c⟩ := hall3 y hy
          exact ⟨s, q, c.mono e4.tp⟩
        · exact ⟨s1, List.mem_singleton.mp hy, (hb rfl).mono e4.tp⟩
    · rintro zs H3 e3 hy ⟨hln3, hall3⟩
      exact k D3 zs H3 (e2.trans e3) hy hall3 (by omega)
end
end K50
end
section
set_option Elab.async false
set_option linter.all false
/-! amounts: sums of an eighth of a round -/
namespace K50
structure Am where
  a : Int
  b : Int
  c : Int
  d : Int
deriving DecidableEq
namespace Am
theorem ext' {x y : Am} (h1 : x.a = y.a) (h2 : x.b = y.b) (h3 : x.c = y.c) (h4 : x.d = y.d) : x = y := by
  cases x; cases y; simp_all
def zero : Am := ⟨0, 0, 0, 0⟩
def add (x y : Am) : Am := ⟨x.a + y.a, x.b + y.b, x.c + y.c, x.d + y.d⟩
/-- an eighth of a round more -/
def tw (x : Am) : Am := ⟨-x.d, x.a, x.b, x.c⟩
def wp : Nat → Am → Am
  | 0, x => x
  | n + 1, x => tw (wp n x)
def sm (k : Int) (x : Am) : Am := ⟨k * x.a, k * x.b, k * x.c, k * x.d⟩
def mul (x y : Am) : Am := add (add (add (sm x.a y) (sm x.b (tw y))) (sm x.c (tw (tw y)))) (sm x.d (tw (tw (tw y))))
def small (n : Int) (x : Am) : Prop := (-n ≤ x.a ∧ x.a ≤ n) ∧ (-n ≤ x.b ∧ x.b ≤ n) ∧ (-n ≤ x.c ∧ x.c ≤ n) ∧ (-n ≤ x.d ∧ x.d ≤ n)
end Am
def am (x : Am) : List Int := [x.a, x.b, x.c, x.d]
theorem am_inj {x y : Am} (h : am x = am y) : x = y := by
  unfold am at h
  simp only [List.cons.injEq, and_true] at h
  exact Am.ext' h.1 h.2.1 h.2.2.1 h.2.2.2
/-- a turn, whatever its size -/
def tn (t : Int) (x : Am) : Am := Am.wp (t % 8).toNat x
end K50
end
section
set_option Elab.async false
set_option linter.all false
set_option maxRecDepth 100000
set_option maxHeartbeats 4000000
namespace K50
open PySem PySem.Spec L2
open PyProof.Rows (envOfC)
theorem walk_zipT {K : PySem.W.Frag} {a b : Addr} {xs ys : List V} {n : Nat} (h : n = min xs.length ys.length) : Walk (RZ.ItzT K a b) n (fun H => SqT K H a xs ∧ SqT K H b ys) (YPair (fun i => xs[i]?) fun i => ys[i]?) := by
  refine ⟨fun i H hi ⟨h1, h2⟩ => ⟨xs, ys, xs[i]'(by omega), ys[i]'(by omega), h1, h2, List.getElem?_eq_getElem _, List.getElem?_eq_getElem _⟩, fun H ⟨h1, h2⟩ => ⟨xs, ys, h1, h2, by omega⟩, fun i H x H' hi ⟨h1, h2⟩ h => ?_⟩
  obtain ⟨T, x, y, e1, e2, e3, e4, e5⟩ := h
  exact ⟨T, x, y, e1, e2, e3, e4 xs h1, e5 ys h2⟩
section
variable {w : World} {K : PySem.W.Frag} {mg : Str → Option Value} {base : Heap}
def sp_law_turned (K : PySem.W.Frag) : Sp := fun vs H Q _ => ∃ (v : V) (x : Am) (t : Int), vs = [v, .int t] ∧ IsT H v (am x) ∧ ∀ v' H', Kp N0 H H' → IsT H' v' (am (tn t x)) → Q v' H'
theorem sc_law_turned : FnScope ["_law_amount", "_law_turn_here", "_law_step"] ["_law_amount", "_law_turn_here"] (defScope s_law_turned) := ⟨rfl, rfl, rfl, by decide +kernel, rfl, by decide +kernel, by decide +kernel⟩
theorem c_law_turned (T : TX K mg) : C8.Cal P w K mg base 1 "_law_turned" (sp_law_turned K) [] := by
  refine mkCal (k := 0) T.g_law_turned T.d_law_turned (fun _ _ _ _ _ _ us hl => match us, hl with | [_, _], _ => rfl) sc_law_turned (fun vs H Q E h => ?_) (fun cdv A outer s H vs Q E hr h => ?_)
  · obtain ⟨v, x, t, rfl, _⟩ := h; rfl
  · obtain ⟨v, x, t, rfl, hv, k⟩ := h
    refine ⟨_, (pss_cons (ps_for PassesOwn.never rfl (pi_range1 (by rfl) T.f_range (pa_cons (pe_op op_mod (pe_callTy call_int1 (by rfl) T.f_int (by decide +kernel) (pa_cons (pv 1) pa_nil)) pe_int) pa_nil)) (pg_name (i := 2) sc_law_turned.nd rfl (Or.inl rfl)) (pss_one (ps_set (i := 0) sc_law_turned.nd rfl (Or.inl rfl) (pe_tup (pa_cons (pe_un un_neg (pe_ix ix_tup (pv 0) pe_int (fun _ _ => rfl))) (pa_cons (pe_ix ix_tup (pv 0) pe_int (fun _ _ => rfl)) (pa_cons (pe_ix ix_tup (pv 0) pe_int (fun _ _ => rfl)) (pa_cons (pe_ix ix_tup (pv 0) pe_int (fun _ _ => rfl)) pa_nil))))))))
      (pss_one (ps_ret (pv 0)))), ?_⟩
    have t0 : 0 ≤ t % 8 := by omega
    have t7 : t % 8 < 8 := by omega
    refine ⟨_, rfl, .inl ⟨_, rfl, _, _, rfl, rfl, by show (0 : Int) < 8; decide, t % 8, rfl, by omega, by omega, ?_⟩⟩
    refine for_it (walk_range (lo := 0) (n := (t % 8).toNat)) (fun i σ H' => ∃ v' o2, σ = [some v', some (.int t), o2] ∧ Kp N0 H H' ∧ IsT H' v' (am (Am.wp i x))) ⟨v, _, rfl, Kp.refl, hv⟩ (fun _ _ _ _ _ => trivial) ?_ ?_
    · rintro i y σ H1 _ hi ⟨v', o2, rfl, e1, hv1⟩ ⟨rfl, hy⟩
      obtain ⟨p, rfl, hp⟩ := hv1
      have sp := SqT.of (K := K) hp
      refine ⟨_, rfl, p, _, _, _, rfl, rfl, sp, rfl, _, rfl, _, rfl, p, _, _, _, rfl, rfl, sp, rfl, _, rfl, p, _, _, _, rfl, rfl, sp, rfl, _, rfl, p, _, _, _, rfl, rfl, sp, rfl, by show 4 ≤ sizeLine; decide, fun q hq => ?_⟩
      exact ⟨.ref q, _, rfl, e1.trans (Kp.new hq), q, rfl, upd_same⟩
    · rintro σ H1 ⟨v', o2, rfl, e1, hv1⟩
      exact ⟨_, rfl, k v' H1 e1 hv1⟩
def sp_law_times (K : PySem.W.Frag) : Sp := fun vs H Q _ => ∃ (v u : V) (x y : Am), vs = [v, u] ∧ IsT H v (am x) ∧ IsT H u (am y) ∧ Am.small 1000000 x ∧ ∀ v' H', Kp N0 H H' → IsT H' v' (am (Am.mul x y)) → Q v' H'
def mulN (x y : Am) : Nat → Am
  | 0 => Am.zero
  | n + 1 => Am.add (mulN x y n) (Am.sm ((am x).getD n 0) (tn n y))
theorem mulN4 (x y : Am) : mulN x y 4 = Am.mul x y := by
  have e : ∀ z : Am, Am.add Am.zero z = z := fun z => Am.ext' (Int.zero_add _) (Int.zero_add _) (Int.zero_add _) (Int.zero_add _)
  show Am.add (Am.add (Am.add (Am.add Am.zero (Am.sm x.a (tn 0 y))) (Am.sm x.b (tn 1 y))) (Am.sm x.c (tn 2 y))) (Am.sm x.d (tn 3 y)) = _
  rw [e]; rfl
theorem sc_law_times : FnScope ["_law_one", "_law_other", "_law_found", "_law_at", "_law_more", "_law_number", "_law_its"] ["_law_one", "_law_other"] (defScope s_law_times) := ⟨rfl, rfl, rfl, by decide +kernel, rfl, by decide +kernel, by decide +kernel⟩
theorem c_law_times (T : TX K mg) : C8.Cal P w K mg base 2 "_law_times" (sp_law_times K) [] := by
  refine mkCal (k := 1) T.g_law_times T.d_law_times (fun _ _ _ _ _ _ us hl => match us, hl with | [_, _], _ => rfl) sc_law_times (fun vs H Q E h => ?_) (fun cdv A outer s H vs Q E hr h => ?_)
  · obtain ⟨v, u, x, y, rfl, _⟩ := h; rfl
  · obtain ⟨v, u, x, y, rfl, hv, hu, hsm, k⟩ := h
    refine ⟨_, (pss_cons (ps_set (i := 2) sc_law_times.nd rfl (Or.inl rfl) (pe_tup (pa_cons pe_int (pa_cons pe_int (pa_cons pe_int (pa_cons pe_int pa_nil))))))
      (pss_cons (ps_for PassesOwn.never rfl (pi_range1 (by rfl) T.f_range (pa_cons pe_int pa_nil)) (pg_name (i := 3) sc_law_times.nd rfl (Or.inr rfl)) (pss_cons (ps_set (i := 4) sc_law_times.nd rfl (Or.inl rfl) (C8.pe_c (c_law_turned T) hr (by decide) rfl (pa_cons (pv 1) (pa_cons (pv 3) pa_nil))))
      (pss_one (ps_set (i := 2) sc_law_times.nd rfl (Or.inl rfl) (pe_callTy call_tuple_of (by rfl) T.f_tuple (by decide +kernel) (pa_cons (pe_lc (own := [("_law_number", 5), ("_law_its", 6)]) (by rfl) sc_law_times.nd (RZ.pi_zipA (by rfl) T.f_zip (pa_cons (pv 2) (pa_cons (pv 4) pa_nil))) (blkOk_by (N := ["_law_one", "_law_other", "_law_found", "_law_at", "_law_more", "_law_number", "_law_its"]) (sc := defScope s_law_times) (own := [("_law_number", 5), ("_law_its", 6)]) (by decide +kernel)) (fun _ _ _ _ _ => (pg_tupK (K := K) 2 rfl rfl (pgs_cons (pg_name (i := 5) sc_law_times.nd rfl (Or.inl rfl)) (pgs_cons (pg_name (i := 6) sc_law_times.nd rfl (Or.inl rfl)) pgs_nil)))) (fun _ _ _ _ _ => pts_nil) (fun _ _ _ _ _ => (pe_op op_add (pv 5) (pe_op op_mul (pe_ix (r := rIxT K) (ixTK rfl) (pv 0) (pv 3) (fun _ _ => rfl)) (pv 6))))) pa_nil))))))
      (pss_one (ps_ret (pv 2))))), ?_⟩
    refine ⟨by show 4 ≤ sizeLine; decide, fun q hq => ?_⟩
    refine ⟨4, rfl, by decide, by decide, ?_⟩
    refine for_it (walk_range (lo := 0) (n := 4)) (fun i σ H' => ∃ v' o3 o4, σ = [some v, some u, some v', o3, o4, none, none] ∧ Kp N0 H H' ∧ IsT H' v' (am (mulN x y i))) ⟨.ref q, _, _, rfl, Kp.new hq, q, rfl, upd_same⟩ (fun _ _ _ _ _ => trivial) ?_ ?_
    · rintro i z σ H1 _ hi ⟨v', o3, o4, rfl, e1, hv1⟩ ⟨rfl, hz⟩
      have e0 : (0 : Int) + (i : Int) = (i : Int) := Int.zero_add _
      have hz : z = .int (0 + (i : Int)) := hz
      rw [e0] at hz
      subst hz
      refine ⟨_, rfl, _, rfl, u, y, i, rfl, hu.mono e1.tp, fun m H2 e2 hm => ?_⟩
      obtain ⟨p, rfl, hp⟩ := hv1.mono e2.tp
      obtain ⟨r, rfl, hr'⟩ := hm
      obtain ⟨o, rfl, ho⟩ := hv.mono (e1.trans e2).tp
      have hxi : (am x)[i]? = some ((am x).getD i 0) := by
        rw [List.getD_eq_getElem?_getD, List.getElem?_eq_getElem (show i < (am x).length by exact hi)]; rfl
      have hxb : -1000000 ≤ (am x).getD i 0 ∧ (am x).getD i 0 ≤ 1000000 := by
        match i, hi with
        | 0, _ => exact hsm.1
        | 1, _ => exact hsm.2.1
        | 2, _ => exact hsm.2.2.1
        | 3, _ => exact hsm.2.2.2
      have hat : atI ((am x).map V.int) (i : Int) = some (.int ((am x).getD i 0)) := atI_nat (by rw [List.getElem?_map, hxi]; rfl)
      generalize hxv : (am x).getD i 0 = xv at hxb hat
      have hstep : mulN x y (i + 1) = Am.add (mulN x y i) (Am.sm xv (tn i y)) := by rw [← hxv]; rfl
      rw [hstep]
      generalize mulN x y i = m1 at hp ⊢
      generalize tn (i : Int) y = m2 at hr' ⊢
      refine ⟨_, rfl, _, rfl, p, r, (am m1).map V.int, (am m2).map V.int, rfl, .inr ⟨SqT.of hp, SqT.of hr', fun D hD => ?_⟩⟩
      refine lcW (walk_zipT (K := K) (n := 4) rfl) N0 (fun j ys _ => ys = ((am (Am.add m1 (Am.sm xv m2))).take j).map V.int) hD id (by omega) (fun H' e => ⟨SqT.of (e.t _ _ hp), SqT.of (e.t _ _ hr')⟩) (fun _ _ => rfl) (fun _ _ _ _ _ h => h) ?_ ?_
      · rintro j z ys H3 H4 Zy Zn hj ⟨t, a1, a2, rfl, ht, rfl, ha1, ha2⟩ e3 hy rfl _ hZ _
        have key : ∃ p1 p2, a1 = V.int p1 ∧ a2 = V.int p2 ∧ (am (Am.add m1 (Am.sm xv m2)))[j]? = some (p1 + xv * p2) := by
          match j, hj with
          | 0, _ => cases ha1; cases ha2; exact ⟨_, _, rfl, rfl, rfl⟩
          | 1, _ => cases ha1; cases ha2; exact ⟨_, _, rfl, rfl, rfl⟩
          | 2, _ => cases ha1; cases ha2; exact ⟨_, _, rfl, rfl, rfl⟩
          | 3, _ => cases ha1; cases ha2; exact ⟨_, _, rfl, rfl, rfl⟩
        obtain ⟨p1, p2, rfl, rfl, hsum⟩ := key
        have ho4 := (e3.trans (Kp.new (F := N0) (o := .tup [V.int p1, .int p2]) ht)).t _ _ ho
        refine ⟨t, _, rfl, SqT.of upd_same, rfl, .int p1, _, rfl, .int p2, _, rfl, rfl, rfl, yesT ?_⟩
        refine ⟨_, rfl, _, rfl, _, rfl, o, _, _, _, rfl, rfl, SqT.of ho4, hat, _, rfl, _, _, rfl, rfl, .inl ⟨by omega, by omega⟩, _, _, rfl, rfl, hZ _ _ (Kp.new ht) ?_⟩
        rw [take_snoc hsum, List.map_append]; rfl
      · rintro ys H3 e3 hy rfl
        refine ⟨D, _, rfl, .inl ⟨SqL.of hy, fun q2 hq2 => ?_⟩⟩
        exact ⟨.ref q2, _, _, rfl, ((e1.trans e2).trans e3).trans (Kp.new hq2), q2, rfl, upd_same⟩
    · rintro σ H1 ⟨v', o3, o4, rfl, e1, hv1⟩
      rw [mulN4] at hv1
      exact ⟨_, rfl, k v' H1 e1 hv1⟩
end
end K50
end
section
set_option Elab.async false
set_option linter.all false
/-! the ends of a net, as the law adds them up -/
namespace K50
/-- the bit of a thing -/
def hb (b : Nat) (i : Int) : Int := if 0 ≤ i then ((b : Int) / 2 ^ i.toNat) % 2 else 0
theorem hb_bit (b : Nat) (i : Int) : hb b i = 0 ∨ hb b i = 1 := by unfold hb; split <;> omega
/-- the eighths of a round of an assignment -/
def ph (ps tp : List (Int × Int)) (h : Int → Int) : Int := 4 * (ps.map fun p => h p.1 * h p.2).sum + (tp.map fun p => p.2 * h p.1).sum
def pvsL (h : Int → Int) : Nat → List Int → List Int
  | _, [] => []
  | p, x :: l => h x * 2 ^ p :: pvsL h (p + 1) l
theorem pvsL_snoc (h : Int → Int) (l : List Int) (x : Int) : ∀ p, pvsL h p (l ++ [x]) = pvsL h p l ++ [h x * 2 ^ (p + l.length)] := by
  induction l with
  | nil => intro p; rfl
  | cons y l ih =>
    intro p
    show h y * 2 ^ p :: pvsL h (p + 1) (l ++ [x]) = h y * 2 ^ p :: (pvsL h (p + 1) l ++ _)
    rw [ih, List.length_cons, show p + 1 + l.length = p + (l.length + 1) by omega]
/-- the number that the bits of some things tell -/
def pvs (l : List Int) (h : Int → Int) : Int := (pvsL h 0 l).sum
theorem pvsL_bd {h : Int → Int} (hh : ∀ i, h i = 0 ∨ h i = 1) (l : List Int) : ∀ p, 0 ≤ (pvsL h p l).sum ∧ (pvsL h p l).sum ≤ 2 ^ (p + l.length) - 2 ^ p := by
  induction l with
  | nil => intro p; simp [pvsL]
  | cons x l ih =>
    intro p
    have ⟨i1, i2⟩ := ih (p + 1)
    show 0 ≤ (h x * 2 ^ p :: pvsL h (p + 1) l).sum ∧ (h x * 2 ^ p :: pvsL h (p + 1) l).sum ≤ _
    rw [List.sum_cons, List.length_cons]
    have e1 : (2 : Int) ^ (p + 1) = 2 * 2 ^ p := by rw [Int.pow_succ, Int.mul_comm]
    have e2 : p + 1 + l.length = p + (l.length + 1) := by omega
    rw [e2] at i2
    have pos : (0 : Int) < 2 ^ p := Int.pow_pos (by decide)
    rcases hh x with q | q
    · rw [q, Int.zero_mul]; omega
    · rw [q, Int.one_mul]; omega
theorem pvs_bd {h : Int → Int} (hh : ∀ i, h i = 0 ∨ h i = 1) (l : List Int) : 0 ≤ pvs l h ∧ pvs l h < 2 ^ l.length := by
  have ⟨h1, h2⟩ := pvsL_bd hh l 0
  unfold pvs
  rw [Nat.zero_add] at h2
  refine ⟨h1, ?_⟩
  have : (2 : Int) ^ 0 = 1 := rfl
  omega
/-- what one assignment adds -/
def tm (ps tp : List (Int × Int)) (gi : List Int) (sp : List Am) (h : Int → Int) : Am := tn (ph ps tp h) (sp.getD (pvs gi h).toNat Am.zero)
def endK (ps tp : List (Int × Int)) (gi ke : List Int) (sp : List Am) (k : Nat) : Nat → Am
  | 0 => Am.zero
  | m + 1 => if pvs ke (hb m) = (k : Int) then Am.add (endK ps tp gi ke sp k m) (tm ps tp gi sp (hb m)) else endK ps tp gi ke sp k m
def endM (ps tp : List (Int × Int)) (gi ke : List Int) (sp : List Am) (m : Nat) : List Am := (List.range (2 ^ ke.length)).map fun k => endK ps tp gi ke sp k m
def endL (n : Int) (ps tp : List (Int × Int)) (gi ke : List Int) (sp : List Am) : List Am := endM ps tp gi ke sp (2 ^ n.toNat)
theorem endM_zero (ps tp : List (Int × Int)) (gi ke : List Int) (sp : List Am) : endM ps tp gi ke sp 0 = List.replicate (2 ^ ke.length) Am.zero := by
  unfold endM
  refine List.ext_getElem (by simp) fun k h1 h2 => ?_
  rw [List.getElem_map, List.getElem_replicate]; rfl
theorem endM_step (ps tp : List (Int × Int)) (gi ke : List Int) (sp : List Am) (m : Nat) :
    endM ps tp gi ke sp (m + 1) = (endM ps tp gi ke sp m).set (pvs ke (hb m)).toNat (Am.add ((endM ps tp gi ke sp m).getD (pvs ke (hb m)).toNat Am.zero) (tm ps tp gi sp (hb m))) := by
  have ⟨b1, b2⟩ := pvs_bd (hb_bit m) ke
  have hlt : (pvs ke (hb m)).toNat < 2 ^ ke.length := by
    have e : ((2 ^ ke.length : Nat) : Int) = (2 : Int) ^ ke.length := by rw [Int.natCast_pow]; rfl
    omega
  unfold endM
  have hg : ((List.range (2 ^ ke.length)).map fun k => endK ps tp gi ke sp k m).getD (pvs ke (hb m)).toNat Am.zero = endK ps tp gi ke sp (pvs ke (hb m)).toNat m := by
    rw [List.getD_eq_getElem?_getD, List.getElem?_map, List.getElem?_range hlt]; rfl
  rw [hg]
  refine List.ext_getElem (by rw [List.length_set, List.length_map, List.length_map]) fun k h1 h2 => ?_
  rw [List.length_map, List.length_range] at h1
  rw [List.getElem_map, List.getElem_range, List.getElem_set]
  by_cases e : (pvs ke (hb m)).toNat = k
  · rw [if_pos e]
    show (if pvs ke (hb m) = (k : Int) then Am.add (endK ps tp gi ke sp k m) (tm ps tp gi sp (hb m)) else endK ps tp gi ke sp k m) = _
    rw [if_pos (by omega), e]
  · rw [if_neg e, List.getElem_map, List.getElem_range]
    show (if pvs ke (hb m) = (k : Int) then Am.add (endK ps tp gi ke sp k m) (tm ps tp gi sp (hb m)) else endK ps tp gi ke sp k m) = _
    rw [if_neg (by omega)]
end K50
end
section
set_option Elab.async false
set_option linter.all false
set_option maxRecDepth 100000
set_option maxHeartbeats 4000000
namespace K50
open PySem PySem.Spec L2
open PyProof.Rows (envOfC)
theorem hb_eq {b : Nat} {i : Int} (h : 0 ≤ i) : ((b : Int) / 2 ^ i.toNat) % 2 = hb b i := by unfold hb; rw [if_pos h]
theorem flat_rep {α : Type} (x : α) : ∀ n : Nat, (List.replicate n [x]).flatten = List.replicate n x
  | 0 => rfl
  | n + 1 => by rw [List.replicate_succ, List.flatten_cons, flat_rep x n]; rfl
theorem rw_rep {H : Hp} {v : V} {x : Am} (h : IsT H v (am x)) : ∀ n, Rw am H (List.replicate n v) (List.replicate n x)
  | 0 => .nil
  | n + 1 => by rw [List.replicate_succ, List.replicate_succ]; exact .cons h (rw_rep h n)
theorem rw_set {H : Hp} {vs : List V} {xs : List Am} (h : Rw am H vs xs) {v : V} {x : Am} (hv : IsT H v (am x)) : ∀ i, Rw am H (vs.set i v) (xs.set i x) := by
  induction h with
  | nil => intro i; exact .nil
  | cons r t ih =>
    intro i
    cases i with
    | zero => exact .cons hv t
    | succ i => exact .cons r (ih i)
section
variable {w : World} {K : PySem.W.Frag} {mg : Str → Option Value} {base : Heap}
def sp_law_end (K : PySem.W.Frag) : Sp := fun vs H Q _ => ∃ (t sl : Addr) (n : Int) (ps : List (Int × Int)) (gi ke : List Int) (tp : List (Int × Int)) (svs : List V) (sp : List Am), vs = [.ref t, .ref sl] ∧ RawAt H t n ps gi ke tp ∧ RawOk n ps gi ke tp ∧
  H sl = some (.lst svs) ∧ Rw am H svs sp ∧ sp.length = 2 ^ gi.length ∧ ∀ l ws H', Kp N0 H H' → H' l = some (.lst ws) → Rw am H' ws (endL n ps tp gi ke sp) → Q (.ref l) H'
theorem sc_law_end : FnScope ["_law_net", "_law_spread_here", "_law_things", "_law_strings", "_law_given", "_law_kept", "_law_turns", "_law_found", "_law_bits", "_law_have", "_law_turn_here", "_law_here", "_law_there", "_law_thing", "_law_number", "_law_its", "_law_place", "_law_one", "_law_other"] ["_law_net", "_law_spread_here"] (defScope s_law_end) := ⟨rfl, rfl, rfl, by decide +kernel, rfl, by decide +kernel, by decide +kernel⟩
theorem c_law_end (T : TX K mg) : C8.Cal P w K mg base 2 "_law_end" (sp_law_end K) [] := by
  refine mkCal (k := 1) T.g_law_end T.d_law_end (fun _ _ _ _ _ _ us hl => match us, hl with | [_, _], _ => rfl) sc_law_end (fun vs H Q E h => ?_) (fun cdv A outer s H vs Q E hr h => ?_)
  · obtain ⟨t, sl, n, ps, gi, ke, tp, svs, sp, rfl, _⟩ := h; rfl
  · obtain ⟨t, sl, n, ps, gi, ke, tp, svs, sp, rfl, ⟨sa, ga, ka, ta, xs, ts, ht, hs, hP, hg, hk, hta, hT⟩, ok, hsl, hsp, hspl, k⟩ := h
    have n7 := ok.n7
    have n1 := ok.n1
    have few := pairs_few ok.n7 ok.ns ok.es
    have hpl := hP.length
    have htl := hT.length
    have tpl : tp.length < 64 := by
      have h1 := ok.pt.length_eq
      have h2 := List.length_filter_le (fun t => !ke.contains t) (rg n)
      rw [List.length_map] at h1
      rw [rg_len] at h2
      omega
    have tpb : ∀ p ∈ tp, 0 ≤ p.1 ∧ p.1 < n := fun p hp => mem_rg.mp (List.mem_filter.mp (ok.pt.mem_iff.mp (List.mem_map.mpr ⟨p, hp, rfl⟩))).1
    refine ⟨_, (pss_cons (ps_asg (pv 0) (pg_tup rfl (pgs_cons (pg_name (i := 2) sc_law_end.nd rfl (Or.inl rfl)) (pgs_cons (pg_name (i := 3) sc_law_end.nd rfl (Or.inl rfl)) (pgs_cons (pg_name (i := 4) sc_law_end.nd rfl (Or.inl rfl)) (pgs_cons (pg_name (i := 5) sc_law_end.nd rfl (Or.inl rfl)) (pgs_cons (pg_name (i := 6) sc_law_end.nd rfl (Or.inl rfl)) pgs_nil)))))))
      (pss_cons (ps_set (i := 7) sc_law_end.nd rfl (Or.inl rfl) (pe_op op_rep (pe_lst (pa_cons (pe_tup (pa_cons pe_int (pa_cons pe_int (pa_cons pe_int (pa_cons pe_int pa_nil))))) pa_nil)) (pe_op op_shl pe_int (pe_callB call_len_seq (by rfl) T.f_len (by decide +kernel) (pa_cons (pv 5) pa_nil)))))
      (pss_cons (ps_for PassesOwn.never rfl (pi_range1 (by rfl) T.f_range (pa_cons (pe_op op_shl pe_int (pv 2)) pa_nil)) (pg_name (i := 8) sc_law_end.nd rfl (Or.inr rfl)) (pss_cons (ps_set (i := 9) sc_law_end.nd rfl (Or.inr rfl) (pe_lc (own := [("_law_thing", 13)]) (by rfl) sc_law_end.nd (pi_range1 (by rfl) T.f_range (pa_cons (pv 2) pa_nil)) (blkOk_by (N := ["_law_net", "_law_spread_here", "_law_things", "_law_strings", "_law_given", "_law_kept", "_law_turns", "_law_found", "_law_bits", "_law_have", "_law_turn_here", "_law_here", "_law_there", "_law_thing", "_law_number", "_law_its", "_law_place", "_law_one", "_law_other"]) (sc := defScope s_law_end) (own := [("_law_thing", 13)]) (by decide +kernel)) (fun _ _ _ _ _ => (pg_name (i := 13) sc_law_end.nd rfl (Or.inl rfl))) (fun _ _ _ _ _ => pts_nil) (fun _ _ _ _ _ => (pe_op op_mod (pe_callTy (T := "int") (r := rInt1) (cr_int) (by rfl) T.f_int (by decide +kernel) (pa_cons (pe_op op_shr (pv 8) (pv 13)) pa_nil)) pe_int))))
      (pss_cons (ps_set (i := 10) sc_law_end.nd rfl (Or.inl rfl) (pe_op op_add (pe_op op_mul pe_int (pe_callB (cr_sum rfl) (by rfl) T.f_sum (by decide +kernel) (pa_cons (pe_lc (own := [("_law_one", 17), ("_law_other", 18)]) (by rfl) sc_law_end.nd (pi_list (pv 3)) (blkOk_by (N := ["_law_net", "_law_spread_here", "_law_things", "_law_strings", "_law_given", "_law_kept", "_law_turns", "_law_found", "_law_bits", "_law_have", "_law_turn_here", "_law_here", "_law_there", "_law_thing", "_law_number", "_law_its", "_law_place", "_law_one", "_law_other"]) (sc := defScope s_law_end) (own := [("_law_one", 17), ("_law_other", 18)]) (by decide +kernel)) (fun _ _ _ _ _ => (pg_tupK (K := K) 2 rfl rfl (pgs_cons (pg_name (i := 17) sc_law_end.nd rfl (Or.inl rfl)) (pgs_cons (pg_name (i := 18) sc_law_end.nd rfl (Or.inl rfl)) pgs_nil)))) (fun _ _ _ _ _ => pts_nil) (fun _ _ _ _ _ => (pe_op op_mul (pe_ix (r := rIxL K) (ixLK rfl) (pv 9) (pv 17) (fun _ _ => rfl)) (pe_ix (r := rIxL K) (ixLK rfl) (pv 9) (pv 18) (fun _ _ => rfl))))) pa_nil))) (pe_callB (cr_sum rfl) (by rfl) T.f_sum (by decide +kernel) (pa_cons (pe_lc (own := [("_law_thing", 13), ("_law_its", 15)]) (by rfl) sc_law_end.nd (pi_list (pv 6)) (blkOk_by (N := ["_law_net", "_law_spread_here", "_law_things", "_law_strings", "_law_given", "_law_kept", "_law_turns", "_law_found", "_law_bits", "_law_have", "_law_turn_here", "_law_here", "_law_there", "_law_thing", "_law_number", "_law_its", "_law_place", "_law_one", "_law_other"]) (sc := defScope s_law_end) (own := [("_law_thing", 13), ("_law_its", 15)]) (by decide +kernel)) (fun _ _ _ _ _ => (pg_tupK (K := K) 2 rfl rfl (pgs_cons (pg_name (i := 13) sc_law_end.nd rfl (Or.inl rfl)) (pgs_cons (pg_name (i := 15) sc_law_end.nd rfl (Or.inl rfl)) pgs_nil)))) (fun _ _ _ _ _ => pts_nil) (fun _ _ _ _ _ => (pe_op op_mul (pv 15) (pe_ix (r := rIxL K) (ixLK rfl) (pv 9) (pv 13) (fun _ _ => rfl))))) pa_nil))))
      (pss_cons (ps_par (i := 11) (j := 12) rfl sc_law_end.nd rfl rfl (by decide) rfl rfl (pa_cons (pe_callB (cr_sum rfl) (by rfl) T.f_sum (by decide +kernel) (pa_cons (pe_lc (own := [("_law_place", 16), ("_law_thing", 13)]) (by rfl) sc_law_end.nd (pi_enum (by rfl) T.f_enumerate (pa_cons (pv 4) pa_nil)) (blkOk_by (N := ["_law_net", "_law_spread_here", "_law_things", "_law_strings", "_law_given", "_law_kept", "_law_turns", "_law_found", "_law_bits", "_law_have", "_law_turn_here", "_law_here", "_law_there", "_law_thing", "_law_number", "_law_its", "_law_place", "_law_one", "_law_other"]) (sc := defScope s_law_end) (own := [("_law_place", 16), ("_law_thing", 13)]) (by decide +kernel)) (fun _ _ _ _ _ => (pg_tupK (K := K) 2 rfl rfl (pgs_cons (pg_name (i := 16) sc_law_end.nd rfl (Or.inl rfl)) (pgs_cons (pg_name (i := 13) sc_law_end.nd rfl (Or.inl rfl)) pgs_nil)))) (fun _ _ _ _ _ => pts_nil) (fun _ _ _ _ _ => (pe_op op_shl (pe_ix (r := rIxL K) (ixLK rfl) (pv 9) (pv 13) (fun _ _ => rfl)) (pv 16)))) pa_nil)) (pa_cons (pe_callB (cr_sum rfl) (by rfl) T.f_sum (by decide +kernel) (pa_cons (pe_lc (own := [("_law_place", 16), ("_law_thing", 13)]) (by rfl) sc_law_end.nd (pi_enum (by rfl) T.f_enumerate (pa_cons (pv 5) pa_nil)) (blkOk_by (N := ["_law_net", "_law_spread_here", "_law_things", "_law_strings", "_law_given", "_law_kept", "_law_turns", "_law_found", "_law_bits", "_law_have", "_law_turn_here", "_law_here", "_law_there", "_law_thing", "_law_number", "_law_its", "_law_place", "_law_one", "_law_other"]) (sc := defScope s_law_end) (own := [("_law_place", 16), ("_law_thing", 13)]) (by decide +kernel)) (fun _ _ _ _ _ => (pg_tupK (K := K) 2 rfl rfl (pgs_cons (pg_name (i := 16) sc_law_end.nd rfl (Or.inl rfl)) (pgs_cons (pg_name (i := 13) sc_law_end.nd rfl (Or.inl rfl)) pgs_nil)))) (fun _ _ _ _ _ => pts_nil) (fun _ _ _ _ _ => (pe_op op_shl (pe_ix (r := rIxL K) (ixLK rfl) (pv 9) (pv 13) (fun _ _ => rfl)) (pv 16)))) pa_nil)) pa_nil)) (by rfl))
      (pss_one (ps_asg (pe_callTy call_tuple_of (by rfl) T.f_tuple (by decide +kernel) (pa_cons (pe_lc (own := [("_law_number", 14), ("_law_its", 15)]) (by rfl) sc_law_end.nd (RZ.pi_zipA (by rfl) T.f_zip (pa_cons (pe_ix ix_list (pv 7) (pv 12) (fun _ _ => rfl)) (pa_cons (C8.pe_c (c_law_turned T) hr (by decide) rfl (pa_cons (pe_ix ix_list (pv 1) (pv 11) (fun _ _ => rfl)) (pa_cons (pv 10) pa_nil))) pa_nil))) (blkOk_by (N := ["_law_net", "_law_spread_here", "_law_things", "_law_strings", "_law_given", "_law_kept", "_law_turns", "_law_found", "_law_bits", "_law_have", "_law_turn_here", "_law_here", "_law_there", "_law_thing", "_law_number", "_law_its", "_law_place", "_law_one", "_law_other"]) (sc := defScope s_law_end) (own := [("_law_number", 14), ("_law_its", 15)]) (by decide +kernel)) (fun _ _ _ _ _ => (pg_tupK (K := K) 2 rfl rfl (pgs_cons (pg_name (i := 14) sc_law_end.nd rfl (Or.inl rfl)) (pgs_cons (pg_name (i := 15) sc_law_end.nd rfl (Or.inl rfl)) pgs_nil)))) (fun _ _ _ _ _ => pts_nil) (fun _ _ _ _ _ => (pe_op op_add (pv 14) (pv 15)))) pa_nil)) (pg_sub (pv 7) (pv 12) set_list)))))))
      (pss_one (ps_ret (pv 7)))))), ?_⟩
    refine ⟨_, rfl, t, _, rfl, SqT.of ht, rfl, .int n, _, rfl, .ref sa, _, rfl, .ref ga, _, rfl, .ref ka, _, rfl, .ref ta, _, rfl, rfl, ?_⟩
    -- found
    refine ⟨by show 4 ≤ sizeLine; decide, fun z0 hz0 => ⟨by show 1 ≤ sizeLine; decide, fun l0 hl0 => ?_⟩⟩
    have e1 := Kp.new (F := N0) (o := .tup [V.int 0, .int 0, .int 0, .int 0]) hz0
    have hz1 : (upd H z0 (.tup [V.int 0, .int 0, .int 0, .int 0])) z0 = some (.tup ((am Am.zero).map V.int)) := upd_same
    generalize upd H z0 (.tup [V.int 0, .int 0, .int 0, .int 0]) = H1 at e1 hz1 hl0 ⊢
    have e2 := Kp.new (F := N0) (o := .lst [V.ref z0]) hl0
    have hl2 : (upd H1 l0 (.lst [V.ref z0])) l0 = some (.lst [V.ref z0]) := upd_same
    generalize upd H1 l0 (.lst [V.ref z0]) = H2 at e2 hl2 ⊢
    have hk2 := (e1.trans e2).get0 hk
    have kl : ((ke.map V.int).length : Int) ≤ 2 := by rw [List.length_map]; have := ok.lk; omega
    have kle : (((ke.map V.int).length : Int)).toNat = ke.length := by rw [List.length_map]; omega
    obtain ⟨M, hM⟩ : ∃ M, M = 2 ^ ke.length := ⟨_, rfl⟩
    have p2 : (1 : Int) * 2 ^ (((ke.map V.int).length : Int)).toNat = (M : Int) := by rw [kle, Int.one_mul, hM, Int.natCast_pow]; rfl
    have p24 : M ≤ 4 := by
      have h : 2 ^ ke.length ≤ 2 ^ 2 := Nat.pow_le_pow_right (by omega) ok.lk
      rw [hM]; exact h
    refine ⟨_, rfl, ka, _, rfl, .inl (SqL.of hk2), _, _, rfl, rfl, ⟨by omega, by omega, by decide⟩, ?_⟩
    refine ⟨l0, _, _, rfl, rfl, hl2, by rw [p2]; omega, by rw [p2]; omega, by rw [p2]; have e : sizeLine = 16777216 := rfl; show 1 * ((M : Int)).toNat ≤ _; omega, fun fo hfo => ?_⟩
    rw [p2, flat_rep, show ((M : Int)).toNat = M by omega]
    have e3 := Kp.new (F := N0) (o := .lst (List.replicate M (V.ref z0))) hfo
    have hfo3 : (upd H2 fo (.lst (List.replicate M (V.ref z0)))) fo = some (.lst (List.replicate M (V.ref z0))) := upd_same
    have foH : H fo = none := (e1.trans e2).back hfo
    generalize upd H2 fo (.lst (List.replicate M (V.ref z0))) = H3 at e3 hfo3 ⊢
    have E3 := (e1.trans e2).trans e3
    have hw3 : Rw am H3 (List.replicate M (V.ref z0)) (endM ps tp gi ke sp 0) := by
      rw [endM_zero, ← hM]
      exact rw_rep ⟨z0, rfl, (e2.trans e3).t _ _ hz1⟩ M
    -- the loop over the bits
    have pn : (1 : Int) * 2 ^ n.toNat = ((2 ^ n.toNat : Nat) : Int) := by rw [Int.one_mul, Int.natCast_pow]; rfl
    have pnb : 2 ^ n.toNat ≤ 128 := by
      have h : 2 ^ n.toNat ≤ 2 ^ 7 := Nat.pow_le_pow_right (by omega) (by omega)
      exact h
    obtain ⟨B, hB⟩ : ∃ B, B = 2 ^ n.toNat := ⟨_, rfl⟩
    rw [← hB] at pn pnb
    refine ⟨_, rfl, _, _, rfl, rfl, ⟨by omega, by omega, by decide⟩, _, rfl, by show -(2 ^ 62) ≤ (1 : Int) * 2 ^ n.toNat; rw [pn]; omega, by show (1 : Int) * 2 ^ n.toNat < 2 ^ 62; rw [pn]; omega, ?_⟩
    have conv : ((1 : Int) * 2 ^ n.toNat).toNat = B := by rw [pn]; omega
    refine for_it (walk_range (lo := 0) (n := ((1 : Int) * 2 ^ n.toNat).toNat)) (fun i σ H' => ∃ o8 o9 o10 o11 o12 ws, σ = [some (.ref t), some (.ref sl), some (.int n), some (.ref sa), some (.ref ga), some (.ref ka), some (.ref ta), some (.ref fo), o8, o9, o10, o11, o12, none, none, none, none, none, none] ∧ Kp N0 H H' ∧ H' fo = some (.lst ws) ∧ Rw am H' ws (endM ps tp gi ke sp i)) ⟨_, _, _, _, _, _, rfl, E3, hfo3, hw3⟩ (fun _ _ _ _ _ => trivial) ?_ ?_
    · rintro i x σ _ H4 hi ⟨o8, o9, o10, o11, o12, ws, rfl, E4, hfo4, hw4⟩ ⟨rfl, hx⟩
      have e0 : (0 : Int) + (i : Int) = (i : Int) := Int.zero_add _
      have hx : x = .int (0 + (i : Int)) := hx
      rw [e0] at hx
      subst hx
      -- have
      refine ⟨_, rfl, n, rfl, by omega, by omega, fun D9 hD9 => ?_⟩
      refine lcW (walk_range (lo := 0) (n := n.toNat)) N0 (fun j ys _ => ys = (((rg n).take j).map (hb i)).map V.int) hD9 id (by omega) (fun _ _ => trivial) (fun _ _ => rfl) (fun _ _ _ _ _ h => h) ?_ ?_
      · rintro j y ys H5 _ Zy Zn hj ⟨rfl, hy⟩ e5 hyD rfl _ hZ _
        have e0 : (0 : Int) + (j : Int) = (j : Int) := Int.zero_add _
        have hy : y = .int (0 + (j : Int)) := hy
        rw [e0] at hy
        subst hy
        refine ⟨rfl, yesT ⟨_, rfl, _, rfl, _, _, rfl, rfl, by show (0 : Int) ≤ (j : Int); omega, .inl ⟨_, rfl, _, _, rfl, rfl, by show (0 : Int) < 2; decide, hZ _ _ Kp.refl ?_⟩⟩⟩
        rw [take_snoc (rg_get (n := n) (i := j) (by omega)), List.map_append, List.map_append]
        show _ ++ [V.int (((i : Int) / 2 ^ ((j : Int)).toNat) % 2)] = _ ++ [V.int (hb i (j : Int))]
        rw [hb_eq (by omega)]
      rintro ys H5 e5 hD5 rfl
      have hall : (rg n).take n.toNat = rg n := by rw [← rg_len]; exact take_all _
      rw [hall] at hD5
      have hat : ∀ {y : Int}, 0 ≤ y ∧ y < n → atI (((rg n).map (hb i)).map V.int) y = some (.int (hb i y)) := fun {y} hy => at_ix hy.1 (by
        rw [List.getElem?_map, List.getElem?_map, rg_get (n := n) (i := y.toNat) (by omega)]
        show some (V.int (hb i ((y.toNat : Nat) : Int))) = _
        rw [show ((y.toNat : Nat) : Int) = y by omega])
      have hbb : ∀ y, -(2 ^ 64) < hb i y ∧ hb i y < 2 ^ 64 := fun y => by rcases hb_bit i y with h | h <;> rw [h] <;> decide
      have bit := hb_bit i
      generalize hhb : hb i = h at hD5 hat hbb bit
      have E5 := E4.trans e5
      -- the turn
      have hs5 := E5.get0 hs
      have hP5 := hP.mono E5.tp
      refine ⟨_, rfl, sa, rfl, ⟨_, SqL.of hs5⟩, fun D1 hD1 => ?_⟩
      refine lcW (walk_list (K := K) (a := sa) (xs := xs)) N0 (fun j ys _ => ys = ((ps.take j).map fun p : Int × Int => h p.1 * h p.2).map V.int) hD1 id (by omega) (fun H' e => e.sql (SqL.of hs5)) (fun _ _ => rfl) (fun _ _ _ _ _ h => h) ?_ ?_
      · rintro j x ys H6 _ Zy Zn hj ⟨rfl, hx⟩ e6 hy rfl _ hZ _
        obtain ⟨p, hp, c, rfl, hc⟩ := (hP5.mono e6.tp).get hx
        obtain ⟨z1, z2, z3⟩ := ok.es p (List.mem_of_getElem? hp)
        have sD := SqL.of (K := K) (e6.get0 hD5)
        refine ⟨c, _, rfl, SqT.of hc, rfl, .int p.1, _, rfl, .int p.2, _, rfl, rfl, rfl, yesT ?_⟩
        refine ⟨_, rfl, _, rfl, D9, _, _, _, rfl, rfl, sD, hat ⟨z1, by omega⟩, _, rfl, _, rfl, D9, _, _, _, rfl, rfl, sD, hat ⟨by omega, z3⟩, _, _, rfl, rfl, .inl (hbb _), hZ _ _ Kp.refl ?_⟩
        rw [take_snoc hp, List.map_append, List.map_append]; rfl
      rintro ys H6 e6 hy6 rfl
      rw [hP.length, take_all] at hy6
      refine ⟨D1, _, rfl, SqL.of hy6, _, _, rfl, rfl, .inl ⟨by decide, by decide⟩, ?_⟩
      have E6 := E5.trans e6
      have hta6 := E6.get0 hta
      have hT6 := hT.mono E6.tp
      have hD6 := e6.get0 hD5
      refine ⟨_, rfl, ta, rfl, ⟨_, SqL.of hta6⟩, fun D2 hD2 => ?_⟩
      refine lcW (walk_list (K := K) (a := ta) (xs := ts)) N0 (fun j ys _ => ys = ((tp.take j).map fun p : Int × Int => p.2 * h p.1).map V.int) hD2 id (by omega) (fun H' e => e.sql (SqL.of hta6)) (fun _ _ => rfl) (fun _ _ _ _ _ h => h) ?_ ?_
      · rintro j x ys H7 _ Zy Zn hj ⟨rfl, hx⟩ e7 hy rfl _ hZ _
        obtain ⟨p, hp, c, rfl, hc⟩ := (hT6.mono e7.tp).get hx
        have tb := ok.et p (List.mem_of_getElem? hp)
        have sD := SqL.of (K := K) (e7.get0 hD6)
        refine ⟨c, _, rfl, SqT.of hc, rfl, .int p.1, _, rfl, .int p.2, _, rfl, rfl, rfl, yesT ?_⟩
        refine ⟨_, rfl, _, rfl, _, rfl, D9, _, _, _, rfl, rfl, sD, hat (tpb p (List.mem_of_getElem? hp)), _, _, rfl, rfl, .inl ⟨by omega, by omega⟩, hZ _ _ Kp.refl ?_⟩
        rw [take_snoc hp, List.map_append, List.map_append]; rfl
      rintro ys H7 e7 hy7 rfl
      rw [hT.length, take_all] at hy7
      refine ⟨D2, _, rfl, SqL.of hy7, _, _, rfl, rfl, ?_⟩
      have E7 := E6.trans e7
      have hD7 := e7.get0 hD6
      -- here, there
      have hg7 := E7.get0 hg
      refine ⟨_, rfl, ga, _, rfl, SqL.of hg7, fun D3 hD3 => ?_⟩
      refine lcW (walk_enum (K := K) (a := ga) (xs := gi.map V.int)) N0 (fun j ys _ => ys = (pvsL h 0 (gi.take j)).map V.int) hD3 id (by rw [List.length_map]; have := ok.lg; omega) (fun H' e => e.sql (SqL.of hg7)) (fun _ _ => rfl) (fun _ _ _ _ _ h => h) ?_ ?_
      · rintro j x ys H8 _ Zy Zn hj ⟨t1, x1, x2, rfl, ht1, rfl, hx1, hx2⟩ e8 hy rfl _ hZ _
        cases hx1
        obtain ⟨y, hy2, rfl⟩ := map_int_get (show (gi.map V.int)[j]? = some x2 from hx2)
        have e9 := Kp.new (F := N0) (o := .tup [V.int (j : Int), .int y]) ht1
        have jl : j < gi.length := (List.getElem?_eq_some_iff.mp hy2).1
        refine ⟨t1, _, rfl, SqT.of upd_same, rfl, .int (j : Int), _, rfl, .int y, _, rfl, rfl, rfl, yesT ?_⟩
        refine ⟨_, rfl, _, rfl, D9, _, _, _, rfl, rfl, SqL.of ((e8.trans e9).get0 hD7), hat (ok.eg y (List.mem_of_getElem? hy2)), _, rfl, _, _, rfl, rfl, ⟨by omega, by have := ok.lg; omega, ?_⟩, hZ _ _ e9 ?_⟩
        · rcases bit y with q | q <;> rw [q] <;> decide
        · rw [take_snoc hy2, pvsL_snoc, List.map_append, List.length_take, Nat.min_eq_left (by omega), Nat.zero_add]
          show _ ++ [V.int (h y * 2 ^ ((j : Int)).toNat)] = _
          rw [show ((j : Int)).toNat = j by omega]; rfl
      rintro ys H8 e8 hy8 rfl
      rw [List.length_map, take_all] at hy8
      refine ⟨D3, _, rfl, SqL.of hy8, ?_⟩
      have E8 := E7.trans e8
      have hD8 := e8.get0 hD7
      have hk8 := E8.get0 hk
      refine ⟨_, rfl, ka, _, rfl, SqL.of hk8, fun D4 hD4 => ?_⟩
      refine lcW (walk_enum (K := K) (a := ka) (xs := ke.map V.int)) N0 (fun j ys _ => ys = (pvsL h 0 (ke.take j)).map V.int) hD4 id (by rw [List.length_map]; have := ok.lk; omega) (fun H' e => e.sql (SqL.of hk8)) (fun _ _ => rfl) (fun _ _ _ _ _ h => h) ?_ ?_
      · rintro j x ys H9 _ Zy Zn hj ⟨t1, x1, x2, rfl, ht1, rfl, hx1, hx2⟩ e9 hy rfl _ hZ _
        cases hx1
        obtain ⟨y, hy2, rfl⟩ := map_int_get (show (ke.map V.int)[j]? = some x2 from hx2)
        have e10 := Kp.new (F := N0) (o := .tup [V.int (j : Int), .int y]) ht1
        have jl : j < ke.length := (List.getElem?_eq_some_iff.mp hy2).1
        refine ⟨t1, _, rfl, SqT.of upd_same, rfl, .int (j : Int), _, rfl, .int y, _, rfl, rfl, rfl, yesT ?_⟩
        refine ⟨_, rfl, _, rfl, D9, _, _, _, rfl, rfl, SqL.of ((e9.trans e10).get0 hD8), hat (ok.ek y (List.mem_of_getElem? hy2)), _, rfl, _, _, rfl, rfl, ⟨by omega, by have := ok.lk; omega, ?_⟩, hZ _ _ e10 ?_⟩
        · rcases bit y with q | q <;> rw [q] <;> decide
        · rw [take_snoc hy2, pvsL_snoc, List.map_append, List.length_take, Nat.min_eq_left (by omega), Nat.zero_add]
          show _ ++ [V.int (h y * 2 ^ ((j : Int)).toNat)] = _
          rw [show ((j : Int)).toNat = j by omega]; rfl
      rintro ys H9 e9 hy9 rfl
      rw [List.length_map, take_all] at hy9
      refine ⟨D4, _, rfl, SqL.of hy9, _, _, rfl, ?_⟩
      have E9 := E8.trans e9
      -- found[there] = ..
      have f59 : Kp N0 H4 H9 := ((e5.trans e6).trans (e7.trans e8)).trans e9
      have hfo9 := f59.get0 hfo4
      have hw9 := hw4.mono f59.tp
      have hsl9 := E9.get0 hsl
      have hsp9 := hsp.mono E9.tp
      have ⟨k1, k2⟩ := pvs_bd bit ke
      have ⟨g1, g2⟩ := pvs_bd bit gi
      have lw : ws.length = 2 ^ ke.length := by rw [hw4.length]; unfold endM; rw [List.length_map, List.length_range]
      have lk : (pvs ke h).toNat < ws.length := by
        have e : ((2 ^ ke.length : Nat) : Int) = (2 : Int) ^ ke.length := by rw [Int.natCast_pow]; rfl
        omega
      have lg : (pvs gi h).toNat < sp.length := by
        have e : ((2 ^ gi.length : Nat) : Int) = (2 : Int) ^ gi.length := by rw [Int.natCast_pow]; rfl
        omega
      have hwl := hw9.length
      have hsl' := hsp9.length
      have gk : (endM ps tp gi ke sp i)[(pvs ke h).toNat]? = some ((endM ps tp gi ke sp i).getD (pvs ke h).toNat Am.zero) := by
        rw [List.getD_eq_getElem?_getD, List.getElem?_eq_getElem (by omega)]; rfl
      have gg : sp[(pvs gi h).toNat]? = some (sp.getD (pvs gi h).toNat Am.zero) := by
        rw [List.getD_eq_getElem?_getD, List.getElem?_eq_getElem lg]; rfl
      obtain ⟨v1, hv1, w1, rfl, hw1⟩ := hw9.get' gk
      obtain ⟨v2, hv2, hv2'⟩ := hsp9.get' gg
      have a1 := at_ix k1 hv1
      have a2 := at_ix g1 hv2
      have hstep := endM_step ps tp gi ke sp i
      rw [hhb] at hstep
      refine ⟨_, rfl, _, rfl, fo, _, _, _, rfl, rfl, SqL.of hfo9, a1, _, rfl, _, rfl, sl, _, _, _, rfl, rfl, SqL.of hsl9, a2, _, rfl, v2, _, ph ps tp h, rfl, hv2', fun v' H10 e10 hv10 => ?_⟩
      have htm : IsT H10 v' (am (tm ps tp gi sp h)) := hv10
      generalize tm ps tp gi sp h = m2 at htm hstep
      generalize hm1 : (endM ps tp gi ke sp i).getD (pvs ke h).toNat Am.zero = m1 at hw1 hstep
      obtain ⟨r, rfl, hr2⟩ := htm
      have hw10 := e10.t _ _ hw1
      refine ⟨w1, r, (am m1).map V.int, (am m2).map V.int, rfl, .inr ⟨SqT.of hw10, SqT.of hr2, fun D hD => ?_⟩⟩
      refine lcW (walk_zipT (K := K) (n := 4) rfl) N0 (fun j ys _ => ys = ((am (Am.add m1 m2)).take j).map V.int) hD id (by omega) (fun H' e => ⟨SqT.of (e.t _ _ hw10), SqT.of (e.t _ _ hr2)⟩) (fun _ _ => rfl) (fun _ _ _ _ _ h => h) ?_ ?_
      · rintro j z ys H11 H12 Zy Zn hj ⟨t1, b1, b2, rfl, ht1, rfl, hb1, hb2⟩ e11 hy rfl _ hZ _
        have key : ∃ p1 p2, b1 = V.int p1 ∧ b2 = V.int p2 ∧ (am (Am.add m1 m2))[j]? = some (p1 + p2) := by
          match j, hj with
          | 0, _ => cases hb1; cases hb2; exact ⟨_, _, rfl, rfl, rfl⟩
          | 1, _ => cases hb1; cases hb2; exact ⟨_, _, rfl, rfl, rfl⟩
          | 2, _ => cases hb1; cases hb2; exact ⟨_, _, rfl, rfl, rfl⟩
          | 3, _ => cases hb1; cases hb2; exact ⟨_, _, rfl, rfl, rfl⟩
        obtain ⟨p1, p2', rfl, rfl, hsum⟩ := key
        refine ⟨t1, _, rfl, SqT.of upd_same, rfl, .int p1, _, rfl, .int p2', _, rfl, rfl, rfl, yesT ⟨_, rfl, _, rfl, _, _, rfl, rfl, hZ _ _ (Kp.new ht1) ?_⟩⟩
        rw [take_snoc hsum, List.map_append]; rfl
      · rintro ys H11 e11 hy rfl
        refine ⟨D, _, rfl, .inl ⟨SqL.of hy, fun q2 hq2 => ?_⟩⟩
        have e12 := Kp.new (F := N0) (o := .tup (((am (Am.add m1 m2)).take 4).map V.int)) hq2
        have hq12 : (upd H11 q2 (.tup (((am (Am.add m1 m2)).take 4).map V.int))) q2 = some (.tup ((am (Am.add m1 m2)).map V.int)) := upd_same
        generalize upd H11 q2 (.tup (((am (Am.add m1 m2)).take 4).map V.int)) = H12 at e12 hq12 ⊢
        have g912 : Kp N0 H9 H12 := (e10.trans e11).trans e12
        have hfo12 := g912.get0 hfo9
        have hix : ixN ws.length (pvs ke h) = some (pvs ke h).toNat := by
          unfold ixN
          rw [if_pos k1, if_pos (by omega)]
        have tp13 : Tp H12 (upd H12 fo (.lst (ws.set (pvs ke h).toNat (.ref q2)))) := Tp.upd hfo12 sol_lst
        refine ⟨_, rfl, _, rfl, fo, ws, _, _, rfl, rfl, hfo12, hix, _, _, _, _, _, _, rfl, (E9.trans g912).mut foH, upd_same, ?_⟩
        rw [hstep]
        exact rw_set ((hw9.mono g912.tp).mono tp13) ⟨q2, rfl, tp13 _ _ sol_tup hq12⟩ _
    · rintro σ H4 ⟨o8, o9, o10, o11, o12, ws, rfl, E4, hfo4, hw4⟩
      rw [conv, hB] at hw4
      exact ⟨_, rfl, k fo ws H4 E4 hfo4 hw4⟩
end
end K50
end
section
set_option Elab.async false
set_option linter.all false
set_option maxRecDepth 100000
set_option maxHeartbeats 4000000
namespace K50
open PySem PySem.Spec L2
open PyProof.Rows (envOfC)
theorem cut_fromI {xs : List V} {r : Int} (h : 0 ≤ r) : cutV xs (some (r + 1)) none = xs.drop (r.toNat + 1) := by
  have e : r = ((r.toNat : Nat) : Int) := by omega
  rw [e, cut_from]; rfl
section
variable {w : World} {K : PySem.W.Frag} {mg : Str → Option Value} {base : Heap}
def sp_law_ferry (K : PySem.W.Frag) : Sp := fun vs H Q _ => ∃ (a : Addr) (ns : List Int), vs = [.ref a] ∧ SqL K H a (ns.map V.int) ∧ ∀ f c H', Kp N0 H H' → Fer H' f c 0 → Q (.ref f) H'
theorem sc_law_ferry : FnScope ["_law_script", "_law_cell"] ["_law_script"] (defScope s_law_ferry) := ⟨rfl, rfl, rfl, by decide +kernel, rfl, by decide +kernel, by decide +kernel⟩
theorem c_law_ferry (T : TX K mg) : C8.Cal P w K mg base 1 "_law_ferry" (sp_law_ferry K) [] := by
  refine mkCal (k := 0) T.g_law_ferry T.d_law_ferry (fun _ _ _ _ _ _ us hl => match us, hl with | [_], _ => rfl) sc_law_ferry (fun vs H Q E h => ?_) (fun cdv A outer s H vs Q E hr h => ?_)
  · obtain ⟨a, ns, rfl, _⟩ := h; rfl
  · obtain ⟨a, ns, rfl, ha, k⟩ := h
    refine ⟨_, (pss_one (ps_ret (pe_lst (pa_cons (pe_lc (own := [("_law_cell", 1)]) (by rfl) sc_law_ferry.nd (pi_list (pe_slice sl_list (pv 0) po_none (po_some pe_int))) (blkOk_by (N := ["_law_script", "_law_cell"]) (sc := defScope s_law_ferry) (own := [("_law_cell", 1)]) (by decide +kernel)) (fun _ _ _ _ _ => (pg_name (i := 1) sc_law_ferry.nd rfl (Or.inl rfl))) (fun _ _ _ _ _ => pts_nil) (fun _ _ _ _ _ => (pe_callTy (T := "int") (r := rInt1) (cr_int) (by rfl) T.f_int (by decide +kernel) (pa_cons (pv 1) pa_nil)))) (pa_cons pe_int (pa_cons pe_int pa_nil)))))), ?_⟩
    refine ⟨_, rfl, 60, rfl, a, _, rfl, ha, fun p hp => ?_⟩
    rw [cut_to (by decide)]
    have hp1 : (upd H p (.lst ((ns.map V.int).take (60 : Int).toNat))) p = some (.lst ((ns.take 60).map V.int)) := by rw [upd_same, List.map_take]; rfl
    have e1 := Kp.new (F := N0) (o := .lst ((ns.map V.int).take (60 : Int).toNat)) hp
    generalize upd H p (.lst ((ns.map V.int).take (60 : Int).toNat)) = H1 at e1 hp1 ⊢
    have ln : (ns.take 60).length ≤ 60 := by rw [List.length_take]; omega
    generalize ns.take 60 = ms at hp1 ln
    refine ⟨p, rfl, ⟨_, SqL.of hp1⟩, fun D hD => ?_⟩
    refine lcW (walk_list (K := K) (a := p) (xs := ms.map V.int)) N0 (fun i ys _ => ys = (ms.take i).map V.int) hD id (by rw [List.length_map]; omega) (fun H' e => e.sql (SqL.of hp1)) (fun _ _ => rfl) (fun _ _ _ _ _ h => h) ?_ ?_
    · rintro i x ys H2 _ Zy Zn hi ⟨rfl, hx⟩ e2 hy rfl _ hZ _
      obtain ⟨n, hn, rfl⟩ := map_int_get hx
      refine ⟨rfl, yesT ⟨_, rfl, .inl ⟨_, rfl, hZ _ _ Kp.refl ?_⟩⟩⟩
      rw [take_snoc hn, List.map_append]; rfl
    · rintro ys H2 e2 hy rfl
      rw [List.length_map, take_all] at hy
      refine ⟨by show 3 ≤ sizeLine; decide, fun f hf => ?_⟩
      have ne := ne_of_none hy hf
      exact k f D _ ((e1.trans e2).trans (Kp.new hf)) ⟨0, 0, ms, upd_same, by rw [upd_ne ne]; exact hy, ne, ln, by decide, by decide, by decide⟩
def sp_law_spread (K : PySem.W.Frag) : Sp := fun vs H Q _ => ∃ (f c : Addr) (p b : Int), vs = [.ref f, .int p] ∧ Fer H f c b ∧ b + 100 < 1000000 ∧ 0 ≤ p ∧ p ≤ 2 ∧
  ∀ l ws (sp : List Am) H', Kp (fun a => a = f) H H' → Fer H' f c (b + 100) → H' l = some (.lst ws) → Rw am H' ws sp → sp.length = 2 ^ p.toNat → (∀ x ∈ sp, Am.small 4 x) → l ≠ f → Q (.ref l) H'
theorem sc_law_spread : FnScope ["_law_ferry_here", "_law_places", "_law_found", "_law_at", "_law_number"] ["_law_ferry_here", "_law_places"] (defScope s_law_spread) := ⟨rfl, rfl, rfl, by decide +kernel, rfl, by decide +kernel, by decide +kernel⟩
theorem c_law_spread (T : TX K mg) : C8.Cal P w K mg base 3 "_law_spread" (sp_law_spread K) [] := by
  refine mkCal (k := 2) T.g_law_spread T.d_law_spread (fun _ _ _ _ _ _ us hl => match us, hl with | [_, _], _ => rfl) sc_law_spread (fun vs H Q E h => ?_) (fun cdv A outer s H vs Q E hr h => ?_)
  · obtain ⟨f, c, p, b, rfl, _⟩ := h; rfl
  · obtain ⟨f, c, p, b, rfl, hf, hb, hp0, hp2, k⟩ := h
    refine ⟨_, (pss_cons (ps_set (i := 2) sc_law_spread.nd rfl (Or.inl rfl) (pe_lst pa_nil))
      (pss_cons (ps_for PassesOwn.never rfl (pi_range1 (by rfl) T.f_range (pa_cons (pe_op op_shl pe_int (pv 1)) pa_nil)) (pg_name (i := 3) sc_law_spread.nd rfl (Or.inl rfl)) (pss_one (ps_expr (pe_bm PySem.F.plainAttrs_list PySem.F.slot_list_append PySem.F.type_list_append mt_append (pv 2) (pa_cons (pe_callTy call_tuple_of (by rfl) T.f_tuple (by decide +kernel) (pa_cons (pe_lc (own := [("_law_number", 4)]) (by rfl) sc_law_spread.nd (pi_range1 (by rfl) T.f_range (pa_cons pe_int pa_nil)) (blkOk_by (N := ["_law_ferry_here", "_law_places", "_law_found", "_law_at", "_law_number"]) (sc := defScope s_law_spread) (own := [("_law_number", 4)]) (by decide +kernel)) (fun _ _ _ _ _ => (pg_name (i := 4) sc_law_spread.nd rfl (Or.inl rfl))) (fun _ _ _ _ _ => pts_nil) (fun _ _ _ _ _ => (C8.pe_c (c_law_pick T) hr (by decide) rfl (pa_cons (pv 0) (pa_cons (pe_lst (pa_cons pe_int (pa_cons pe_int (pa_cons (pe_un un_neg pe_int) (pa_cons (pe_op op_sub (C8.pe_c (c_law_cross T) hr (by decide) rfl (pa_cons (pv 0) (pa_cons pe_int pa_nil))) pe_int) pa_nil))))) pa_nil))))) pa_nil)) pa_nil)))))
      (pss_cons (ps_set (i := 3) sc_law_spread.nd rfl (Or.inl rfl) (C8.pe_c (c_law_cross T) hr (by decide) rfl (pa_cons (pv 0) (pa_cons (pe_callB call_len_seq (by rfl) T.f_len (by decide +kernel) (pa_cons (pv 2) pa_nil)) pa_nil))))
      (pss_one (ps_ret (pe_op op_cat (pe_op op_cat (pe_slice sl_list (pv 2) po_none (po_some (pv 3))) (pe_lst (pa_cons (pe_tup (pa_cons (pe_op op_add pe_int (C8.pe_c (c_law_cross T) hr (by decide) rfl (pa_cons (pv 0) (pa_cons pe_int pa_nil)))) (pa_cons pe_int (pa_cons pe_int (pa_cons pe_int pa_nil))))) pa_nil))) (pe_slice sl_list (pv 2) (po_some (pe_op op_add (pv 3) pe_int)) po_none))))))), ?_⟩
    have fkn : H f ≠ none := by obtain ⟨_, _, _, h, _⟩ := hf; rw [h]; intro z; cases z
    refine ⟨by show 0 ≤ sizeLine; decide, fun fo hfo => ?_⟩
    have fof : ¬ fo = f := fun z => fkn (by rw [← z]; exact hfo)
    have cfo : c ≠ fo := (hf.new hfo).2
    have e1 := Kp.new (F := N0) (o := .lst []) hfo
    have hfo1 : (upd H fo (.lst [])) fo = some (.lst []) := upd_same
    generalize upd H fo (.lst []) = H1 at e1 hfo1 ⊢
    have hf1 := hf.mono e1
    have pn : (1 : Int) * 2 ^ p.toNat = ((2 ^ p.toNat : Nat) : Int) := by rw [Int.one_mul, Int.natCast_pow]; rfl
    have pnb : 2 ^ p.toNat ≤ 4 := by
      have h : 2 ^ p.toNat ≤ 2 ^ 2 := Nat.pow_le_pow_right (by omega) (by omega)
      exact h
    have pn1 : 1 ≤ 2 ^ p.toNat := Nat.pos_of_ne_zero (by simp)
    obtain ⟨B, hB⟩ : ∃ B, B = 2 ^ p.toNat := ⟨_, rfl⟩
    rw [← hB] at pn pnb pn1
    refine ⟨_, rfl, _, _, rfl, rfl, ⟨by omega, by omega, by decide⟩, _, rfl, by show -(2 ^ 62) ≤ (1 : Int) * 2 ^ p.toNat; rw [pn]; omega, by show (1 : Int) * 2 ^ p.toNat < 2 ^ 62; rw [pn]; omega, ?_⟩
    have conv : ((1 : Int) * 2 ^ p.toNat).toNat = B := by rw [pn]; omega
    refine for_it (walk_range (lo := 0) (n := ((1 : Int) * 2 ^ p.toNat).toNat)) (fun i σ H' => ∃ o3 ws sp, σ = [some (.ref f), some (.int p), some (.ref fo), o3, none] ∧ Kp (fun a => a = f) H H' ∧ Fer H' f c (b + 8 * (i : Int)) ∧ H' fo = some (.lst ws) ∧ Rw am H' ws sp ∧ sp.length = i ∧ ∀ x ∈ sp, Am.small 4 x)
      ⟨_, [], [], rfl, e1.weak, hf1.more (by show b ≤ b + 8 * ((0 : Nat) : Int); omega), hfo1, .nil, rfl, fun x hx => by simp at hx⟩ (fun _ _ _ _ _ => trivial) ?_ ?_
    · rintro i x σ _ H2 hi ⟨o3, ws, sp, rfl, E2, hf2, hfo2, hw2, hsl, hsm⟩ ⟨rfl, hx⟩
      rw [conv] at hi
      refine ⟨_, rfl, .inl ⟨rfl, _, SqL.of hfo2⟩, 4, rfl, by decide, by decide, fun D hD => ?_⟩
      have Dne := hf2.new hD
      refine lcD (walk_range (lo := 0) (n := 4)) (fun a => a = f) (fun j ys H' => Fer H' f c (b + 8 * (i : Int) + 2 * (j : Int)) ∧ ∃ ns : List Int, ys = ns.map V.int ∧ ns.length = j ∧ ∀ n ∈ ns, -4 ≤ n ∧ n ≤ 4) hD (fun z => Dne.1 z.symm) (by omega) (fun _ _ => trivial) (fun H' e => ⟨(hf2.mono e).more (by omega), [], rfl, rfl, fun p hp => by simp at hp⟩) ?_ ?_ ?_
      · rintro j ys H3 o hy ⟨h1, h2⟩
        exact ⟨h1.other Dne.1 Dne.2, h2⟩
      · rintro j y ys H3 _ Zy Zn hj ⟨rfl, hy⟩ e3 hyD ⟨h1, ns, rfl, hnl, hnb⟩ hyl hZ _
        refine ⟨rfl, yesT ⟨_, rfl, _, rfl, _, rfl, f, c, 9, _, rfl, h1, by omega, by omega, by omega, fun r H4 r0 r1 e4 hf4 => ⟨_, _, rfl, rfl, by show 4 ≤ sizeLine; decide, fun l hl => ?_⟩⟩⟩
        have e5 := Kp.new (F := N0) (o := .lst [V.int 0, .int 1, .int (-1), .int (r - 4)]) hl
        have hl5 : (upd H4 l (.lst [V.int 0, .int 1, .int (-1), .int (r - 4)])) l = some (.lst (([0, 1, -1, r - 4] : List Int).map V.int)) := upd_same
        have conv2 : upd H4 l (.lst [V.int 0, .int 1, .int (-1), (fun i j => V.int (i - j)) r 4]) = upd H4 l (.lst [V.int 0, .int 1, .int (-1), .int (r - 4)]) := rfl
        rw [conv2]
        generalize upd H4 l (.lst [V.int 0, .int 1, .int (-1), .int (r - 4)]) = H5 at e5 hl5 ⊢
        have hf5 := hf4.mono e5
        refine ⟨f, c, l, _, _, rfl, hf5, by omega, hl5, hf5.ne hl5 ints_ne, by show 1 ≤ 4; omega, by show 4 < 1000000; omega, fun i6 x6 H6 hx6 e6 hf6 => ?_⟩
        obtain ⟨t, rfl, t0, t7⟩ := pick_int (lo := -4) (hi := 4) hx6 (by
          intro n hn
          simp only [List.mem_cons, List.not_mem_nil, or_false] at hn
          omega)
        refine hZ _ _ ((e4.trans e5.weak).trans e6) fun o => ⟨(hf6.other Dne.1 Dne.2).more (by omega), ns ++ [t], by rw [List.map_append]; rfl, by rw [List.length_append]; show ns.length + 1 = j + 1; omega, fun n hn => ?_⟩
        rcases List.mem_append.mp hn with hn | hn
        · exact hnb n hn
        · rw [List.mem_singleton.mp hn]; exact ⟨t0, t7⟩
      · rintro ys H3 e3 hyD ⟨h1, ns, rfl, hnl, hnb⟩
        refine ⟨D, _, rfl, .inl ⟨SqL.of hyD, fun q hq => ?_⟩⟩
        have hx4 : ∃ z : Am, ns = am z ∧ Am.small 4 z := by
          match ns, hnl, hnb with
          | [a1, a2, a3, a4], _, hnb => exact ⟨⟨a1, a2, a3, a4⟩, rfl, hnb a1 (by simp), hnb a2 (by simp), hnb a3 (by simp), hnb a4 (by simp)⟩
        obtain ⟨z, rfl, hz⟩ := hx4
        have e4 := Kp.new (F := N0) (o := .tup ((am z).map V.int)) hq
        have hq4 : (upd H3 q (.tup ((am z).map V.int))) q = some (.tup ((am z).map V.int)) := upd_same
        have hfo3 := e3.get fof hfo2
        have hf4 := h1.mono e4
        have hw3 := hw2.mono e3.tp
        generalize upd H3 q (.tup ((am z).map V.int)) = H4 at e4 hq4 hf4 ⊢
        have hfo4 := e4.get0 hfo3
        have tp5 : Tp H4 (upd H4 fo (.lst (ws ++ [.ref q]))) := Tp.upd hfo4 sol_lst
        refine ⟨fo, ws, _, rfl, rfl, hfo4, small_line (by rw [hw2.length]; omega), _, ws ++ [.ref q], sp ++ [z], rfl, ((E2.trans e3).trans e4.weak).mut hfo, (hf4.other (fun z => fof z.symm) cfo).more (by omega), upd_same, ((hw3.mono e4.tp).mono tp5).snoc ⟨q, rfl, tp5 _ _ sol_tup hq4⟩, by rw [List.length_append]; show sp.length + 1 = i + 1; omega, fun x hx => ?_⟩
        rcases List.mem_append.mp hx with hx | hx
        · exact hsm x hx
        · rw [List.mem_singleton.mp hx]; exact hz
    rintro σ H2 ⟨o3, ws, sp, rfl, E2, hf2, hfo2, hw2, hsl, hsm⟩
    rw [conv] at hsl hf2
    have hwl := hw2.length
    refine ⟨_, rfl, _, rfl, fo, _, rfl, .inl (SqL.of hfo2), f, c, (ws.length : Int), _, rfl, hf2, by omega, by omega, by omega, fun r H3 r0 r1 e3 hf3 => ?_⟩
    have hfo3 := e3.get fof hfo2
    have hw3 := hw2.mono e3.tp
    refine ⟨_, rfl, _, rfl, r, rfl, fo, _, rfl, SqL.of hfo3, fun s1 hs1 => ?_⟩
    rw [cut_to r0]
    have f4 := Kp.new (F := N0) (o := .lst (ws.take r.toNat)) hs1
    have hs14 : (upd H3 s1 (.lst (ws.take r.toNat))) s1 = some (.lst (ws.take r.toNat)) := upd_same
    generalize upd H3 s1 (.lst (ws.take r.toNat)) = H4 at f4 hs14 ⊢
    have hf4 := hf3.mono f4
    have s1f : s1 ≠ f := (hf3.new hs1).1.symm
    refine ⟨_, rfl, f, c, 3, _, rfl, hf4, by omega, by omega, by omega, fun q H5 q0 q1 e5 hf5 => ⟨_, _, rfl, rfl, by show 4 ≤ sizeLine; decide, fun t ht => ⟨by show 1 ≤ sizeLine; decide, fun l1 hl1 => ?_⟩⟩⟩
    have f6 := Kp.new (F := N0) (o := .tup [V.int (1 + q), .int 0, .int 0, .int 0]) ht
    have ht6 : (upd H5 t (.tup [V.int (1 + q), .int 0, .int 0, .int 0])) t = some (.tup ((am ⟨1 + q, 0, 0, 0⟩).map V.int)) := upd_same
    have conv3 : upd H5 t (.tup [(fun i j => V.int (i + j)) 1 q, .int 0, .int 0, .int 0]) = upd H5 t (.tup [V.int (1 + q), .int 0, .int 0, .int 0]) := rfl
    rw [conv3] at hl1 ⊢
    generalize upd H5 t (.tup [V.int (1 + q), .int 0, .int 0, .int 0]) = H6 at f6 ht6 hl1 ⊢
    have f7 := Kp.new (F := N0) (o := .lst [V.ref t]) hl1
    have hl17 : (upd H6 l1 (.lst [V.ref t])) l1 = some (.lst [V.ref t]) := upd_same
    generalize upd H6 l1 (.lst [V.ref t]) = H7 at f7 hl17 ⊢
    have hf7 := (hf5.mono f6).mono f7
    have hs17 := f7.get0 (f6.get0 (e5.get s1f hs14))
    refine ⟨s1, l1, _, _, rfl, rfl, hs17, hl17, by rw [List.length_take]; have e : sizeLine = 16777216 := rfl; show _ + 1 ≤ _; omega, fun s2 hs2 => ?_⟩
    have f8 := Kp.new (F := N0) (o := .lst (ws.take r.toNat ++ [V.ref t])) hs2
    have hs28 : (upd H7 s2 (.lst (ws.take r.toNat ++ [V.ref t]))) s2 = some (.lst (ws.take r.toNat ++ [V.ref t])) := upd_same
    generalize upd H7 s2 (.lst (ws.take r.toNat ++ [V.ref t])) = H8 at f8 hs28 ⊢
    have hf8 := hf7.mono f8
    have g38 : Kp (fun a => a = f) H3 H8 := (f4.weak.trans e5).trans ((f6.trans f7).trans f8).weak
    have hfo8 := g38.get fof hfo3
    refine ⟨_, rfl, _, rfl, _, _, rfl, rfl, _, rfl, fo, _, rfl, SqL.of hfo8, fun s3 hs3 => ?_⟩
    rw [cut_fromI r0]
    have f9 := Kp.new (F := N0) (o := .lst (ws.drop (r.toNat + 1))) hs3
    have hs39 : (upd H8 s3 (.lst (ws.drop (r.toNat + 1)))) s3 = some (.lst (ws.drop (r.toNat + 1))) := upd_same
    generalize upd H8 s3 (.lst (ws.drop (r.toNat + 1))) = H9 at f9 hs39 ⊢
    have hf9 := hf8.mono f9
    refine ⟨s2, s3, _, _, rfl, rfl, f9.get0 hs28, hs39, by rw [List.length_append, List.length_take, List.length_drop]; have e : sizeLine = 16777216 := rfl; show _ + 1 + _ ≤ _; omega, fun l hl => ?_⟩
    have f10 := Kp.new (F := N0) (o := .lst (ws.take r.toNat ++ [V.ref t] ++ ws.drop (r.toNat + 1))) hl
    have G : Kp (fun a => a = f) H3 _ := (g38.trans f9.weak).trans f10.weak
    have w10 := hw3.mono G.tp
    have ht10 := ((f7.trans f8).trans (f9.trans f10)).t _ _ ht6
    refine k l _ (sp.take r.toNat ++ [⟨1 + q, 0, 0, 0⟩] ++ sp.drop (r.toNat + 1)) _ ((E2.trans e3).trans G) ((hf9.mono f10).more (by omega)) upd_same (((w10.take _).snoc ⟨t, rfl, ht10⟩).append (w10.drop _)) ?_ (fun x hx => ?_) (hf9.new hl).1.symm
    · rw [List.length_append, List.length_append, List.length_take, List.length_drop, ← hB]
      show min r.toNat sp.length + 1 + (sp.length - (r.toNat + 1)) = B
      omega
    · rcases List.mem_append.mp hx with hx | hx
      · rcases List.mem_append.mp hx with hx | hx
        · exact hsm x (List.mem_of_mem_take hx)
        · rw [List.mem_singleton.mp hx]
          have z4 : (-4 : Int) ≤ 0 ∧ (0 : Int) ≤ 4 := by decide
          refine ⟨⟨?_, ?_⟩, z4, z4, z4⟩
          · show -4 ≤ 1 + q; omega
          · show 1 + q ≤ 4; omega
      · exact hsm x (List.mem_of_mem_drop hx)
end
end K50
end
section
set_option Elab.async false
set_option linter.all false
set_option maxRecDepth 100000
set_option maxHeartbeats 4000000
namespace K50
open PySem PySem.Spec L2
open PyProof.Rows (envOfC)
theorem eqv_rows_nil {xss : List (List Int)} : PyData.eqv (.list (dRows xss)) (.list (dInts [])) = decide (xss = []) := by
  rw [PyData.eqv]
  cases xss with
  | nil => simp [dRows, dInts, PyData.eqvAll]
  | cons x xss => simp [dRows, dInts, PyData.eqvAll]
theorem am_eq {x y : Am} : (am x = am y) ↔ x = y := ⟨am_inj, fun h => by rw [h]⟩
theorem am_zero : am Am.zero = [0, 0, 0, 0] := rfl
/-- two ends that are alike -/
structure Alike (mine its : List Am) : Prop where
  len : mine.length = its.length
  hz : (∀ x ∈ mine, x = Am.zero) ↔ (∀ x ∈ its, x = Am.zero)
  hm : ∀ (i j : Nat) x y x' y', mine[i]? = some x → its[i]? = some x' → mine[j]? = some y → its[j]? = some y' → Am.mul x y' = Am.mul y x'
section
variable {w : World} {K : PySem.W.Frag} {mg : Str → Option Value} {base : Heap}
def sp_law_are_alike (K : PySem.W.Frag) : Sp := fun vs H Q _ => ∃ (a b : Addr) (vs1 vs2 : List V) (mine its : List Am), vs = [.ref a, .ref b] ∧ H a = some (.lst vs1) ∧ Rw am H vs1 mine ∧ H b = some (.lst vs2) ∧ Rw am H vs2 its ∧ mine.length < 1000 ∧
  (∀ x ∈ mine, Am.small 1000000 x) ∧ Alike mine its ∧ Ret H Q (.bl true)
theorem sc_law_are_alike : FnScope ["_law_mine", "_law_its", "_law_some", "_law_at", "_law_amount", "_law_place"] ["_law_mine", "_law_its"] (defScope s_law_are_alike) := ⟨rfl, rfl, rfl, by decide +kernel, rfl, by decide +kernel, by decide +kernel⟩
theorem c_law_are_alike (T : TX K mg) : C8.Cal P w K mg base 3 "_law_are_alike" (sp_law_are_alike K) [] := by
  refine mkCal (k := 2) T.g_law_are_alike T.d_law_are_alike (fun _ _ _ _ _ _ us hl => match us, hl with | [_, _], _ => rfl) sc_law_are_alike (fun vs H Q E h => ?_) (fun cdv A outer s H vs Q E hr h => ?_)
  · obtain ⟨a, b, vs1, vs2, mine, its, rfl, _⟩ := h; rfl
  · obtain ⟨a, b, vs1, vs2, mine, its, rfl, ha, h1, hb, h2, hml, hsm, al, k⟩ := h
    have l1 := h1.length
    have l2 := h2.length
    have ll := al.len
    refine ⟨_, (pss_cons (ps_setLc (i := 2) rfl sc_law_are_alike.nd rfl rfl (sw_true rfl rfl rfl (by decide +kernel)) (own := [("_law_at", 3), ("_law_amount", 4)]) (pi_enum (by rfl) T.f_enumerate (pa_cons (pv 0) pa_nil)) (blkOk_by (N := ["_law_mine", "_law_its", "_law_some", "_law_at", "_law_amount", "_law_place"]) (sc := defScope s_law_are_alike) (own := [("_law_at", 3), ("_law_amount", 4)]) (by decide +kernel)) (fun _ _ _ _ _ => (pg_tupK (K := K) 2 rfl rfl (pgs_cons (pg_name (i := 3) sc_law_are_alike.nd rfl (Or.inl rfl)) (pgs_cons (pg_name (i := 4) sc_law_are_alike.nd rfl (Or.inl rfl)) pgs_nil)))) (fun _ _ _ _ _ => pts_one (pt_cmpR (r := rNeD K) (or_neD rfl hr.units) (pv 4) (pe_tup (pa_cons pe_int (pa_cons pe_int (pa_cons pe_int (pa_cons pe_int pa_nil))))) (nomark _))) (fun _ _ _ _ _ => (pv 3)))
      (pss_cons (ps_if (PW.pt (pw_or (pt_cmpR (op_eqD hr.units) (pv 2) (pe_lst pa_nil) (nomark _)) (pw_or1 (pt_cmpR (op_eqD hr.units) (pe_lc (own := [("_law_amount", 4)]) (by rfl) sc_law_are_alike.nd (pi_list (pv 1)) (blkOk_by (N := ["_law_mine", "_law_its", "_law_some", "_law_at", "_law_amount", "_law_place"]) (sc := defScope s_law_are_alike) (own := [("_law_amount", 4)]) (by decide +kernel)) (fun _ _ _ _ _ => (pg_name (i := 4) sc_law_are_alike.nd rfl (Or.inl rfl))) (fun _ _ _ _ _ => pts_one (pt_cmpR (r := rNeD K) (or_neD rfl hr.units) (pv 4) (pe_tup (pa_cons pe_int (pa_cons pe_int (pa_cons pe_int (pa_cons pe_int pa_nil))))) (nomark _))) (fun _ _ _ _ _ => (pv 4))) (pe_lst pa_nil) (nomark _))))) (pss_one (ps_ret (pe_and (pe_cmpR (op_eqD hr.units) (pv 2) (pe_lst pa_nil) (nomark _)) (pe_one (pe_cmpR (op_eqD hr.units) (pe_lc (own := [("_law_amount", 4)]) (by rfl) sc_law_are_alike.nd (pi_list (pv 1)) (blkOk_by (N := ["_law_mine", "_law_its", "_law_some", "_law_at", "_law_amount", "_law_place"]) (sc := defScope s_law_are_alike) (own := [("_law_amount", 4)]) (by decide +kernel)) (fun _ _ _ _ _ => (pg_name (i := 4) sc_law_are_alike.nd rfl (Or.inl rfl))) (fun _ _ _ _ _ => pts_one (pt_cmpR (r := rNeD K) (or_neD rfl hr.units) (pv 4) (pe_tup (pa_cons pe_int (pa_cons pe_int (pa_cons pe_int (pa_cons pe_int pa_nil))))) (nomark _))) (fun _ _ _ _ _ => (pv 4))) (pe_lst pa_nil) (nomark _)))))) pss_nil)
      (pss_cons (ps_set (i := 3) sc_law_are_alike.nd rfl (Or.inr rfl) (pe_ix ix_list (pv 2) pe_int (fun _ _ => rfl)))
      (pss_one (ps_ret (pe_cmpR (op_eqD hr.units) (pe_lc (own := [("_law_place", 5), ("_law_amount", 4)]) (by rfl) sc_law_are_alike.nd (pi_enum (by rfl) T.f_enumerate (pa_cons (pv 1) pa_nil)) (blkOk_by (N := ["_law_mine", "_law_its", "_law_some", "_law_at", "_law_amount", "_law_place"]) (sc := defScope s_law_are_alike) (own := [("_law_place", 5), ("_law_amount", 4)]) (by decide +kernel)) (fun _ _ _ _ _ => (pg_tupK (K := K) 2 rfl rfl (pgs_cons (pg_name (i := 5) sc_law_are_alike.nd rfl (Or.inl rfl)) (pgs_cons (pg_name (i := 4) sc_law_are_alike.nd rfl (Or.inl rfl)) pgs_nil)))) (fun _ _ _ _ _ => pts_one (pt_cmpR (r := rNeD K) (or_neD rfl hr.units) (C8.pe_c (c_law_times T) hr (by decide) rfl (pa_cons (pe_ix (r := rIxL K) (ixLK rfl) (pv 0) (pv 3) (fun _ _ => rfl)) (pa_cons (pv 4) pa_nil))) (C8.pe_c (c_law_times T) hr (by decide) rfl (pa_cons (pe_ix (r := rIxL K) (ixLK rfl) (pv 0) (pv 5) (fun _ _ => rfl)) (pa_cons (pe_ix (r := rIxL K) (ixLK rfl) (pv 1) (pv 3) (fun _ _ => rfl)) pa_nil))) (nomark _))) (fun _ _ _ _ _ => (pv 5))) (pe_lst pa_nil) (nomark _))))))), ?_⟩
    -- some
    refine ⟨_, rfl, a, _, rfl, SqL.of ha, fun D hD => ?_⟩
    refine lcW (walk_enum (K := K) (a := a) (xs := vs1)) N0 (fun i ys _ => ∃ js : List Int, ys = js.map V.int ∧ (∀ j ∈ js, ∃ m : Nat, j = (m : Int) ∧ m < mine.length) ∧ (js = [] ↔ ∀ x ∈ mine.take i, x = Am.zero)) hD id (by omega) (fun H' e => e.sql (SqL.of ha)) (fun _ _ => ⟨[], rfl, fun j hj => by simp at hj, by simp⟩) (fun _ _ _ _ _ h => h) ?_ ?_
    · rintro i z ys H1 H2 Zy Zn hi ⟨t, x1, x2, rfl, ht, rfl, hx1, hx2⟩ e1 hy ⟨js, rfl, hj1, hj2⟩ _ hZ hN
      cases hx1
      obtain ⟨x, hx, hv⟩ := (h1.mono e1.tp).get (show vs1[i]? = some x2 from hx2)
      have e2 := Kp.new (F := N0) (o := .tup [V.int (i : Int), x2]) ht
      have hv2 := hv.mono e2.tp
      refine ⟨t, _, rfl, SqT.of upd_same, rfl, .int (i : Int), _, rfl, x2, _, rfl, rfl, rfl, ?_⟩
      generalize upd H1 t (.tup [V.int (i : Int), x2]) = H3 at e2 hv2 ⊢
      refine ⟨_, rfl, by show 4 ≤ sizeLine; decide, fun u hu => ?_⟩
      have e3 := Kp.new (F := N0) (o := .tup [V.int 0, .int 0, .int 0, .int 0]) hu
      refine ⟨_, _, dp_isT (hv2.mono e3.tp), dp_isT ⟨u, rfl, show _ = some (.tup ((am Am.zero).map V.int)) from upd_same⟩, sh_tup, sh_tup, ?_⟩
      rw [eqv_tup]
      refine ⟨_, rfl, ?_⟩
      have hm : mine.take (i + 1) = mine.take i ++ [x] := take_snoc hx
      by_cases hxz : x = Am.zero
      · rw [decide_eq_true (am_eq.mpr hxz)]
        refine iteF (hN _ (e2.trans e3) ⟨js, rfl, hj1, hj2.trans ?_⟩)
        rw [hm]
        constructor
        · intro q y hy
          rcases List.mem_append.mp hy with hy | hy
          · exact q y hy
          · rw [List.mem_singleton.mp hy]; exact hxz
        · exact fun q y hy => q y (List.mem_append_left _ hy)
      · rw [decide_eq_false fun z => hxz (am_eq.mp z)]
        refine iteT ⟨_, rfl, hZ _ _ (e2.trans e3) ⟨js ++ [(i : Int)], by rw [List.map_append]; rfl, fun j hj => ?_, ?_⟩⟩
        · rcases List.mem_append.mp hj with hj | hj
          · exact hj1 j hj
          · exact ⟨i, List.mem_singleton.mp hj, (List.getElem?_eq_some_iff.mp hx).1⟩
        · refine ⟨fun q => by simp at q, fun q => absurd (q x ?_) hxz⟩
          rw [hm]; exact List.mem_append_right _ (List.mem_singleton.mpr rfl)
    rintro ys H1 e1 hy1 ⟨js, rfl, hj1, hj2⟩
    rw [l1, take_all] at hj2
    -- the test
    refine ⟨_, rfl, by show 0 ≤ sizeLine; decide, fun g hg => ?_⟩
    have e2 := Kp.new (F := N0) (o := .lst []) hg
    have hg2' : (upd H1 g (.lst [])) g = some (.lst (([] : List Int).map V.int)) := upd_same
    generalize upd H1 g (.lst []) = H2 at e2 hg2' ⊢
    have hy2 := e2.get0 hy1
    have E2 := e1.trans e2
    refine ⟨_, _, dp_list (SqL.of hy2), dp_list (SqL.of hg2'), sh_list, sh_list, ?_⟩
    rw [eqv_list]
    refine ⟨_, rfl, ?_⟩
    by_cases hjs : js = []
    · rw [decide_eq_true hjs]
      have az := hj2.mp hjs
      have bz := al.hz.mp az
      refine iteT (iteT ?_)
      refine ⟨_, rfl, by show 0 ≤ sizeLine; decide, fun g3 hg3 => ?_⟩
      have e3 := Kp.new (F := N0) (o := .lst []) hg3
      have hg33 : (upd H2 g3 (.lst [])) g3 = some (.lst (([] : List Int).map V.int)) := upd_same
      generalize upd H2 g3 (.lst []) = H3 at e3 hg33 ⊢
      refine ⟨_, _, dp_list (SqL.of (e3.get0 hy2)), dp_list (SqL.of hg33), sh_list, sh_list, ?_⟩
      rw [eqv_list, decide_eq_true hjs]
      refine ⟨true, rfl, iteT ?_⟩
      have hbN := (E2.trans e3).get0 hb
      have h2N := h2.mono (E2.trans e3).tp
      refine ⟨_, rfl, b, rfl, ⟨_, SqL.of hbN⟩, fun D2 hD2 => ?_⟩
      refine lcW (walk_list (K := K) (a := b) (xs := vs2)) N0 (fun i ys H => ∃ zs : List Am, Rw am H ys zs ∧ (zs = [] ↔ ∀ x ∈ its.take i, x = Am.zero)) hD2 id (by omega) (fun H' e => e.sql (SqL.of hbN)) (fun _ _ => ⟨[], .nil, by simp⟩) (fun _ _ _ _ e ⟨zs, q1, q2⟩ => ⟨zs, q1.mono e, q2⟩) ?_ ?_
      · rintro i x2 ys H5 _ Zy Zn hi ⟨rfl, hx2⟩ e5 hy ⟨zs, hz1, hz2⟩ _ hZ hN
        obtain ⟨x, hx, hv⟩ := (h2N.mono e5.tp).get hx2
        refine ⟨rfl, _, rfl, by show 4 ≤ sizeLine; decide, fun u hu => ?_⟩
        have e6 := Kp.new (F := N0) (o := .tup [V.int 0, .int 0, .int 0, .int 0]) hu
        refine ⟨_, _, dp_isT (hv.mono e6.tp), dp_isT ⟨u, rfl, show _ = some (.tup ((am Am.zero).map V.int)) from upd_same⟩, sh_tup, sh_tup, ?_⟩
        rw [eqv_tup]
        refine ⟨_, rfl, ?_⟩
        have hm : its.take (i + 1) = its.take i ++ [x] := take_snoc hx
        by_cases hxz : x = Am.zero
        · rw [decide_eq_true (am_eq.mpr hxz)]
          refine iteF (hN _ e6 ⟨zs, hz1.mono e6.tp, hz2.trans ?_⟩)
          rw [hm]
          constructor
          · intro q y hy
            rcases List.mem_append.mp hy with hy | hy
            · exact q y hy
            · rw [List.mem_singleton.mp hy]; exact hxz
          · exact fun q y hy => q y (List.mem_append_left _ hy)
        · rw [decide_eq_false fun z => hxz (am_eq.mp z)]
          refine iteT ⟨_, rfl, hZ _ _ e6 ⟨zs ++ [x], (hz1.mono e6.tp).snoc (hv.mono e6.tp), ?_⟩⟩
          refine ⟨fun q => by simp at q, fun q => absurd (q x ?_) hxz⟩
          rw [hm]; exact List.mem_append_right _ (List.mem_singleton.mpr rfl)
      rintro ys H5 e5 hy5 ⟨zs, hz1, hz2⟩
      rw [l2, take_all] at hz2
      refine ⟨by show 0 ≤ sizeLine; decide, fun g2 hg2 => ?_⟩
      have e6 := Kp.new (F := N0) (o := .lst []) hg2
      have hg26 : (upd H5 g2 (.lst [])) g2 = some (.lst (([] : List Int).map V.int)) := upd_same
      generalize upd H5 g2 (.lst []) = H6 at e6 hg26 ⊢
      refine ⟨_, _, .lst (SqL.of (e6.get0 hy5)) (dp_rows (hz1.mono e6.tp)), dp_list (SqL.of hg26), sh_rows, sh_list, ?_⟩
      rw [eqv_rows_nil]
      have hzs : (zs.map am = []) ↔ ∀ x ∈ its, x = Am.zero := by rw [List.map_eq_nil_iff]; exact hz2
      rw [decide_eq_true (hzs.mpr bz)]
      exact k _ ((E2.trans e3).trans (e5.trans e6))
    · rw [decide_eq_false hjs]
      refine iteF ?_
      have hbN := E2.get0 hb
      have h2N := h2.mono E2.tp
      refine ⟨_, rfl, b, rfl, ⟨_, SqL.of hbN⟩, fun D2 hD2 => ?_⟩
      refine lcW (walk_list (K := K) (a := b) (xs := vs2)) N0 (fun i ys H => ∃ zs : List Am, Rw am H ys zs ∧ (zs = [] ↔ ∀ x ∈ its.take i, x = Am.zero)) hD2 id (by omega) (fun H' e => e.sql (SqL.of hbN)) (fun _ _ => ⟨[], .nil, by simp⟩) (fun _ _ _ _ e ⟨zs, q1, q2⟩ => ⟨zs, q1.mono e, q2⟩) ?_ ?_
      · rintro i x2 ys H5 _ Zy Zn hi ⟨rfl, hx2⟩ e5 hy ⟨zs, hz1, hz2⟩ _ hZ hN
        obtain ⟨x, hx, hv⟩ := (h2N.mono e5.tp).get hx2
        refine ⟨rfl, _, rfl, by show 4 ≤ sizeLine; decide, fun u hu => ?_⟩
        have e6 := Kp.new (F := N0) (o := .tup [V.int 0, .int 0, .int 0, .int 0]) hu
        refine ⟨_, _, dp_isT (hv.mono e6.tp), dp_isT ⟨u, rfl, show _ = some (.tup ((am Am.zero).map V.int)) from upd_same⟩, sh_tup, sh_tup, ?_⟩
        rw [eqv_tup]
        refine ⟨_, rfl, ?_⟩
        have hm : its.take (i + 1) = its.take i ++ [x] := take_snoc hx
        by_cases hxz : x = Am.zero
        · rw [decide_eq_true (am_eq.mpr hxz)]
          refine iteF (hN _ e6 ⟨zs, hz1.mono e6.tp, hz2.trans ?_⟩)
          rw [hm]
          constructor
          · intro q y hy
            rcases List.mem_append.mp hy with hy | hy
            · exact q y hy
            · rw [List.mem_singleton.mp hy]; exact hxz
          · exact fun q y hy => q y (List.mem_append_left _ hy)
        · rw [decide_eq_false fun z => hxz (am_eq.mp z)]
          refine iteT ⟨_, rfl, hZ _ _ e6 ⟨zs ++ [x], (hz1.mono e6.tp).snoc (hv.mono e6.tp), ?_⟩⟩
          refine ⟨fun q => by simp at q, fun q => absurd (q x ?_) hxz⟩
          rw [hm]; exact List.mem_append_right _ (List.mem_singleton.mpr rfl)
      rintro ys H5 e5 hy5 ⟨zs, hz1, hz2⟩
      rw [l2, take_all] at hz2
      refine ⟨by show 0 ≤ sizeLine; decide, fun g2 hg2 => ?_⟩
      have e6 := Kp.new (F := N0) (o := .lst []) hg2
      have hg26 : (upd H5 g2 (.lst [])) g2 = some (.lst (([] : List Int).map V.int)) := upd_same
      generalize upd H5 g2 (.lst []) = H6 at e6 hg26 ⊢
      refine ⟨_, _, .lst (SqL.of (e6.get0 hy5)) (dp_rows (hz1.mono e6.tp)), dp_list (SqL.of hg26), sh_rows, sh_list, ?_⟩
      rw [eqv_rows_nil]
      have hzs : (zs.map am = []) ↔ ∀ x ∈ its, x = Am.zero := by rw [List.map_eq_nil_iff]; exact hz2
      have nz : ¬ ∀ x ∈ its, x = Am.zero := fun q => hjs (hj2.mpr (al.hz.mpr q))
      rw [decide_eq_false fun q => nz (hzs.mp q)]
      refine ⟨_, rfl, iteF ?_⟩
      have E6 := E2.trans (e5.trans e6)
      match js, hjs, hj1, hy2 with
      | j0 :: js', _, hj1, hy2 =>
      obtain ⟨m0, rfl, hm0⟩ := hj1 j0 (List.mem_cons_self ..)
      have hy6 := (e5.trans e6).get0 hy2
      have at6 : atI (List.map V.int ((m0 : Int) :: js')) 0 = some (.int (m0 : Int)) := atI_nat (j := 0) rfl
      refine ⟨_, rfl, D, _, _, _, rfl, rfl, SqL.of hy6, at6, ?_⟩
      have ha6 := E6.get0 ha
      have hb6 := E6.get0 hb
      have h16 := h1.mono E6.tp
      have h26 := h2.mono E6.tp
      have gm0 : mine[m0]? = some mine[m0] := List.getElem?_eq_getElem hm0
      have gi0 : its[m0]? = some its[m0] := List.getElem?_eq_getElem (by omega)
      obtain ⟨v0, hv0, hv0'⟩ := h16.get' gm0
      obtain ⟨u0, hu0, hu0'⟩ := h26.get' gi0
      have at0 := atI_nat hv0
      have ai0 := atI_nat hu0
      have s0 := hsm _ (List.mem_of_getElem? gm0)
      generalize mine[m0] = x0 at gm0 hv0' s0
      generalize its[m0] = y0 at gi0 hu0'
      refine ⟨_, rfl, b, _, rfl, SqL.of hb6, fun D3 hD3 => ?_⟩
      refine lcW (walk_enum (K := K) (a := b) (xs := vs2)) N0 (fun i ys _ => ys = []) hD3 id (by omega) (fun H' e => e.sql (SqL.of hb6)) (fun _ _ => rfl) (fun _ _ _ _ _ h => h) ?_ ?_
      · rintro i z ys H7 H8 Zy Zn hi ⟨t, x1, x2, rfl, ht, rfl, hx1, hx2⟩ e7 hy rfl _ hZ hN
        cases hx1
        obtain ⟨y1, hy1', hv⟩ := (h26.mono e7.tp).get (show vs2[i]? = some x2 from hx2)
        have gi : mine[i]? = some mine[i] := List.getElem?_eq_getElem (by omega)
        have e8 := Kp.new (F := N0) (o := .tup [V.int (i : Int), x2]) ht
        have hv8 := hv.mono e8.tp
        refine ⟨t, _, rfl, SqT.of upd_same, rfl, .int (i : Int), _, rfl, x2, _, rfl, rfl, rfl, ?_⟩
        generalize upd H7 t (.tup [V.int (i : Int), x2]) = H8 at e8 hv8 ⊢
        have e78 := e7.trans e8
        obtain ⟨v1, hv1, hv1'⟩ := (h16.mono e78.tp).get' gi
        have s1 := hsm _ (List.mem_of_getElem? gi)
        generalize hmi : mine[i] = x1 at gi hv1' s1
        refine ⟨_, rfl, _, rfl, a, _, _, _, rfl, rfl, SqL.of (e78.get0 ha6), at0, _, rfl, v0, x2, x0, y1, rfl, hv0'.mono e78.tp, hv8, s0, fun p1 H9 e9 hp1 => ?_⟩
        have e79 := e78.trans e9
        refine ⟨_, rfl, _, rfl, a, _, _, _, rfl, rfl, SqL.of (e79.get0 ha6), atI_nat hv1, _, rfl, _, rfl, b, _, _, _, rfl, rfl, SqL.of (e79.get0 hb6), ai0, v1, u0, x1, y0, rfl, hv1'.mono e9.tp, hu0'.mono e79.tp, s1, fun p2 H10 e10 hp2 => ?_⟩
        refine ⟨_, _, dp_isT (hp1.mono e10.tp), dp_isT hp2, sh_tup, sh_tup, ?_⟩
        rw [eqv_tup, al.hm m0 i x0 x1 y0 y1 gm0 gi0 gi hy1', decide_eq_true rfl]
        exact ⟨_, rfl, iteF (hN _ ((e8.trans e9).trans e10) rfl)⟩
      · rintro ys H7 e7 hy rfl
        refine ⟨by show 0 ≤ sizeLine; decide, fun g4 hg4 => ?_⟩
        have e8 := Kp.new (F := N0) (o := .lst []) hg4
        have hg48 : (upd H7 g4 (.lst [])) g4 = some (.lst (([] : List Int).map V.int)) := upd_same
        generalize upd H7 g4 (.lst []) = H8 at e8 hg48 ⊢
        refine ⟨_, _, dp_list (ns := []) (SqL.of (e8.get0 hy)), dp_list (SqL.of hg48), sh_list, sh_list, ?_⟩
        rw [eqv_list, decide_eq_true rfl]
        exact k _ (E6.trans (e7.trans e8))
end
end K50
end
section
set_option Elab.async false
set_option linter.all false
/-! sums over assignments -/
namespace K50
namespace Am
theorem add_comm (x y : Am) : add x y = add y x := by apply ext' <;> exact Int.add_comm ..
theorem add_assoc (x y z : Am) : add (add x y) z = add x (add y z) := by apply ext' <;> exact Int.add_assoc ..
theorem add_zero (x : Am) : add x zero = x := by apply ext' <;> exact Int.add_zero _
theorem zero_add (x : Am) : add zero x = x := by apply ext' <;> exact Int.zero_add _
theorem add4 (x y z u : Am) : add (add x y) (add z u) = add (add x z) (add y u) := by apply ext' <;> simp only [add] <;> omega
theorem tw_add (x y : Am) : tw (add x y) = add (tw x) (tw y) := by apply ext' <;> simp only [add, tw] <;> omega
theorem tw_zero : tw zero = zero := rfl
theorem wp_add (n : Nat) (x y : Am) : wp n (add x y) = add (wp n x) (wp n y) := by
  induction n with
  | zero => rfl
  | succ n ih => show tw (wp n (add x y)) = add (tw (wp n x)) (tw (wp n y)); rw [ih, tw_add]
theorem wp_zero (n : Nat) : wp n zero = zero := by
  induction n with
  | zero => rfl
  | succ n ih => show tw (wp n zero) = zero; rw [ih, tw_zero]
theorem wp_wp (m n : Nat) (x : Am) : wp m (wp n x) = wp (m + n) x := by
  induction m with
  | zero => rw [Nat.zero_add]; rfl
  | succ m ih => show tw (wp m (wp n x)) = _; rw [ih, show m + 1 + n = (m + n) + 1 by omega]; rfl
theorem wp8 (x : Am) : wp 8 x = x := by apply ext' <;> simp only [wp, tw] <;> omega
theorem wp_8 (q : Nat) (x : Am) : wp (8 * q) x = x := by
  induction q with
  | zero => rfl
  | succ q ih => rw [show 8 * (q + 1) = 8 + 8 * q by omega, ← wp_wp, ih, wp8]
theorem wp_mod (n : Nat) (x : Am) : wp (n % 8) x = wp n x := by
  have h : wp n x = wp (n % 8 + 8 * (n / 8)) x := by rw [Nat.mod_add_div]
  rw [h, ← wp_wp, wp_8]
end Am
theorem tn_mod {a b : Int} (x : Am) (h : a % 8 = b % 8) : tn a x = tn b x := by unfold tn; rw [h]
theorem tn_tn (a b : Int) (x : Am) : tn a (tn b x) = tn (a + b) x := by
  unfold tn
  rw [Am.wp_wp, ← Am.wp_mod]
  congr 1
  omega
theorem tn_add (a : Int) (x y : Am) : tn a (Am.add x y) = Am.add (tn a x) (tn a y) := Am.wp_add ..
theorem tn_zero (a : Int) : tn a Am.zero = Am.zero := Am.wp_zero _
/-- an assignment with a place more -/
def ins (u v : Int) (h : Int → Int) : Int → Int := fun i => if i < u then h i else if i = u then v else h (i - 1)
theorem hb_zero : hb 0 = fun _ => 0 := by
  funext i; unfold hb; split <;> simp
theorem hb_dbl (b : Nat) (v : Nat) (hv : v = 0 ∨ v = 1) : hb (2 * b + v) = ins 0 v (hb b) := by
  funext i
  unfold ins
  by_cases h0 : i < 0
  · rw [if_pos h0]; unfold hb; rw [if_neg (by omega), if_neg (by omega)]
  · rw [if_neg h0]
    by_cases h1 : i = 0
    · subst h1
      rw [if_pos rfl]
      unfold hb
      rw [if_pos (by omega)]
      show (((2 * b + v : Nat) : Int) / 1) % 2 = v
      omega
    · rw [if_neg h1]
      unfold hb
      rw [if_pos (by omega), if_pos (by omega)]
      obtain ⟨k, rfl⟩ : ∃ k : Nat, i = (k : Int) + 1 := ⟨(i - 1).toNat, by omega⟩
      have e1 : ((k : Int) + 1).toNat = k + 1 := by omega
      have e2 : ((k : Int) + 1 - 1).toNat = k := by omega
      rw [e1, e2, Int.pow_succ, Int.mul_comm, ← Int.ediv_ediv_of_nonneg (by decide)]
      congr 2
      omega
def sumR (F : (Int → Int) → Am) : Nat → Am
  | 0 => Am.zero
  | m + 1 => Am.add (sumR F m) (F (hb m))
def sb : Nat → ((Int → Int) → Am) → Am
  | 0, F => F fun _ => 0
  | n + 1, F => Am.add (sb n fun h => F (ins 0 0 h)) (sb n fun h => F (ins 0 1 h))
theorem sumR_dbl (F : (Int → Int) → Am) (m : Nat) : sumR F (2 * m) = sumR (fun h => Am.add (F (ins 0 0 h)) (F (ins 0 1 h))) m := by
  induction m with
  | zero => rfl
  | succ m ih =>
    rw [show 2 * (m + 1) = (2 * m + 1) + 1 by omega]
    show Am.add (Am.add (sumR F (2 * m)) (F (hb (2 * m)))) (F (hb (2 * m + 1))) = Am.add (sumR _ m) _
    rw [ih, Am.add_assoc]
    have e0 := hb_dbl m 0 (.inl rfl)
    have e1 := hb_dbl m 1 (.inr rfl)
    rw [Nat.add_zero] at e0
    rw [e0, e1]; rfl
theorem sb_add (n : Nat) : ∀ F G : (Int → Int) → Am, sb n (fun h => Am.add (F h) (G h)) = Am.add (sb n F) (sb n G) := by
  induction n with
  | zero => intro F G; rfl
  | succ n ih =>
    intro F G
    show Am.add (sb n _) (sb n _) = Am.add (Am.add _ _) (Am.add _ _)
    rw [ih (fun h => F (ins 0 0 h)) (fun h => G (ins 0 0 h)), ih (fun h => F (ins 0 1 h)) (fun h => G (ins 0 1 h)), Am.add4]
theorem sumR_sb (n : Nat) : ∀ F : (Int → Int) → Am, sumR F (2 ^ n) = sb n F := by
  induction n with
  | zero =>
    intro F
    show Am.add Am.zero (F (hb 0)) = F fun _ => 0
    rw [Am.zero_add, hb_zero]
  | succ n ih =>
    intro F
    rw [show 2 ^ (n + 1) = 2 * 2 ^ n by rw [Nat.pow_succ, Nat.mul_comm], sumR_dbl, ih, sb_add (n := n) (F := fun h => F (ins 0 0 h)) (G := fun h => F (ins 0 1 h))]
    rfl
theorem ins_ins {u v v0 : Int} (h : Int → Int) (hu : 0 < u) : ins u v (ins 0 v0 h) = ins 0 v0 (ins (u - 1) v h) := by
  funext i
  unfold ins
  by_cases a : i < u <;> by_cases b : i < 0 <;> by_cases c : i = 0 <;> by_cases d : i = u <;> by_cases e : i - 1 < 0 <;> by_cases f : i - 1 = 0 <;> by_cases g : i - 1 < u - 1 <;> by_cases j : i - 1 = u - 1 <;> simp only [a, b, c, d, e, f, g, j, if_true, if_false] <;> first | rfl | omega | (exfalso; omega) | skip
theorem sb_ins (n : Nat) : ∀ (u : Int) (F : (Int → Int) → Am), 0 ≤ u → u ≤ n → sb (n + 1) F = Am.add (sb n fun h => F (ins u 0 h)) (sb n fun h => F (ins u 1 h)) := by
  induction n with
  | zero =>
    intro u F h0 h1
    obtain rfl : u = 0 := by omega
    rfl
  | succ n ih =>
    intro u F h0 h1
    by_cases hu : u = 0
    · subst hu; rfl
    · show Am.add (sb (n + 1) _) (sb (n + 1) _) = _
      rw [ih (u - 1) (fun h => F (ins 0 0 h)) (by omega) (by omega), ih (u - 1) (fun h => F (ins 0 1 h)) (by omega) (by omega), Am.add4]
      congr 1
      · show _ = Am.add (sb n fun h => F (ins u 0 (ins 0 0 h))) (sb n fun h => F (ins u 0 (ins 0 1 h)))
        simp only [ins_ins _ (show (0 : Int) < u by omega)]
      · show _ = Am.add (sb n fun h => F (ins u 1 (ins 0 0 h))) (sb n fun h => F (ins u 1 (ins 0 1 h)))
        simp only [ins_ins _ (show (0 : Int) < u by omega)]
theorem sb_congr (n : Nat) : ∀ {F G : (Int → Int) → Am}, (∀ h, (∀ i, h i = 0 ∨ h i = 1) → F h = G h) → sb n F = sb n G := by
  induction n with
  | zero => intro F G e; exact e _ fun _ => .inl rfl
  | succ n ih =>
    intro F G e
    have hi : ∀ v h, (v = 0 ∨ v = 1) → (∀ i : Int, h i = 0 ∨ h i = 1) → ∀ i, ins 0 v h i = 0 ∨ ins 0 v h i = 1 := by
      intro v h hv hh i
      unfold ins
      split
      · exact hh _
      · split
        · exact hv
        · exact hh _
    show Am.add _ _ = Am.add _ _
    rw [ih (F := fun h => F (ins 0 0 h)) (G := fun h => G (ins 0 0 h)) fun h hh => e _ (hi 0 h (.inl rfl) hh), ih (F := fun h => F (ins 0 1 h)) (G := fun h => G (ins 0 1 h)) fun h hh => e _ (hi 1 h (.inr rfl) hh)]
/-- what one assignment adds to the end k -/
def endF (ps tp : List (Int × Int)) (gi ke : List Int) (sp : List Am) (k : Nat) (h : Int → Int) : Am := if pvs ke h = (k : Int) then tm ps tp gi sp h else Am.zero
theorem endK_sb (ps tp : List (Int × Int)) (gi ke : List Int) (sp : List Am) (k : Nat) (n : Nat) : endK ps tp gi ke sp k (2 ^ n) = sb n (endF ps tp gi ke sp k) := by
  rw [← sumR_sb]
  generalize 2 ^ n = m
  induction m with
  | zero => rfl
  | succ m ih =>
    show (if _ then _ else _) = Am.add (sumR _ m) (endF ps tp gi ke sp k (hb m))
    rw [← ih]
    unfold endF
    split
    · rfl
    · rw [Am.add_zero]
end K50
end
section
set_option Elab.async false
set_option linter.all false
/-! assignments behind a step -/
namespace K50
theorem left_succ (n : Nat) (gone : List Int) : leftOf ((n : Int) + 1) gone = leftOf n gone ++ (if (n : Int) ∈ gone then [] else [(n : Int)]) := by
  unfold leftOf
  have e : rg ((n : Int) + 1) = rg n ++ [(n : Int)] := by
    unfold rg
    rw [show ((n : Int) + 1).toNat = n + 1 by omega, List.range_succ, List.map_append]; rfl
  rw [e, List.filter_append]
  congr 1
  by_cases h : (n : Int) ∈ gone
  · rw [if_pos h, List.filter_cons, List.filter_nil]; simp [h]
  · rw [if_neg h, List.filter_cons, List.filter_nil]; simp [h]
theorem nu_left (gone : List Int) {x : Int} : ∀ n : Nat, x ∈ leftOf n gone → nu (leftOf n gone) x = (leftOf x gone).length := by
  intro n
  induction n with
  | zero => intro h; have := (mem_left.mp h).1; omega
  | succ n ih =>
    intro h
    have e := left_succ n gone
    rw [show (((n + 1 : Nat)) : Int) = (n : Int) + 1 by omega, e] at h ⊢
    unfold nu
    rw [List.idxOf_append]
    by_cases hx : x ∈ leftOf n gone
    · rw [if_pos hx]; exact ih hx
    · rw [if_neg hx]
      rcases List.mem_append.mp h with q | q
      · exact absurd q hx
      · split at q
        · cases q
        · obtain rfl := List.mem_singleton.mp q
          rename_i hg
          rw [if_neg hg]; simp
theorem left1_len {u : Int} (hu : 0 ≤ u) : ∀ k : Nat, ((leftOf (k : Int) [u]).length : Int) = (k : Int) - (if u < k then 1 else 0) := by
  intro k
  induction k with
  | zero => show (0 : Int) = _; rw [if_neg (by omega)]; rfl
  | succ k ih =>
    rw [show (((k + 1 : Nat)) : Int) = (k : Int) + 1 by omega, left_succ, List.length_append]
    simp only [List.mem_singleton]
    split <;> split at ih <;> split <;> simp only [List.length_nil, List.length_cons] <;> omega
theorem left2_len {i j : Int} (hi : 0 ≤ i) (hj : 0 ≤ j) (hij : i ≠ j) : ∀ k : Nat, ((leftOf (k : Int) [i, j]).length : Int) = (k : Int) - (if i < k then 1 else 0) - (if j < k then 1 else 0) := by
  intro k
  induction k with
  | zero => show (0 : Int) = _; rw [if_neg (by omega), if_neg (by omega)]; rfl
  | succ k ih =>
    rw [show (((k + 1 : Nat)) : Int) = (k : Int) + 1 by omega, left_succ, List.length_append]
    simp only [List.mem_cons, List.not_mem_nil, or_false]
    have t1 : (if i < (k : Int) + 1 then (1 : Int) else 0) = (if i < k then 1 else 0) + (if (k : Int) = i then 1 else 0) := by split <;> split <;> split <;> omega
    have t2 : (if j < (k : Int) + 1 then (1 : Int) else 0) = (if j < k then 1 else 0) + (if (k : Int) = j then 1 else 0) := by split <;> split <;> split <;> omega
    rw [t1, t2]
    by_cases a : (k : Int) = i
    · rw [if_pos (.inl a), if_pos a, if_neg (by omega)]; simp only [List.length_nil]; omega
    · by_cases b : (k : Int) = j
      · rw [if_pos (.inr b), if_neg a, if_pos b]; simp only [List.length_nil]; omega
      · rw [if_neg (by simp [a, b]), if_neg a, if_neg b]; simp only [List.length_cons, List.length_nil]; omega
/-- an assignment of the things left, none at the others -/
def lift (left : List Int) (g : Int → Int) : Int → Int := fun x => if x ∈ left then g (nu left x) else 0
def up (h : Int → Int) (u v : Int) : Int → Int := fun x => if x = u then v else h x
/-- looks at the things below n alone -/
def Loc (n : Nat) (F : (Int → Int) → Am) : Prop := ∀ h h' : Int → Int, (∀ x : Int, 0 ≤ x → x < (n : Int) → h x = h' x) → F h = F h'
theorem ins_up1 {n : Nat} {u v : Int} (g : Int → Int) (h0 : 0 ≤ u) {x : Int} (x0 : 0 ≤ x) (x1 : x < n) : ins u v g x = up (lift (leftOf n [u]) g) u v x := by
  unfold ins up lift
  by_cases e : x = u
  · rw [if_neg (by omega), if_pos e, if_pos e]
  · have hm : x ∈ leftOf n [u] := mem_left.mpr ⟨⟨x0, x1⟩, by simpa using e⟩
    rw [if_neg e, if_neg e, if_pos hm, nu_left _ n hm]
    obtain ⟨k, rfl⟩ : ∃ k : Nat, x = k := ⟨x.toNat, by omega⟩
    rw [left1_len h0]
    by_cases a : u < (k : Int)
    · rw [if_neg (by omega), if_pos a]
    · rw [if_pos (by omega), if_neg a, Int.sub_zero]
theorem ins_up2 {n : Nat} {i j p q : Int} (g : Int → Int) (h0 : 0 ≤ i) (h1 : i < j) {x : Int} (x0 : 0 ≤ x) (x1 : x < n) : ins j q (ins i p g) x = up (up (lift (leftOf n [i, j]) g) i p) j q x := by
  unfold up lift
  by_cases e : x = j
  · subst e; unfold ins; rw [if_neg (by omega), if_pos rfl, if_pos rfl]
  · rw [if_neg e]
    by_cases e2 : x = i
    · subst e2; rw [if_pos rfl]; unfold ins; rw [if_pos h1, if_neg (by omega), if_pos rfl]
    · have hm : x ∈ leftOf n [i, j] := mem_left.mpr ⟨⟨x0, x1⟩, by simp [e, e2]⟩
      rw [if_neg e2, if_pos hm, nu_left _ n hm]
      obtain ⟨k, rfl⟩ : ∃ k : Nat, x = k := ⟨x.toNat, by omega⟩
      rw [left2_len h0 (by omega) (by omega)]
      unfold ins
      by_cases a : i < (k : Int)
      · by_cases b : j < (k : Int)
        · rw [if_neg (by omega), if_neg e, if_neg (by omega), if_neg (by omega), if_pos a, if_pos b]
        · rw [if_pos (by omega), if_neg (by omega), if_neg e2, if_pos a, if_neg b]; congr 1; omega
      · rw [if_pos (by omega), if_pos (by omega), if_neg a, if_neg (by omega), Int.sub_zero, Int.sub_zero]
theorem left_swap (n i j : Int) : leftOf n [i, j] = leftOf n [j, i] := by
  unfold leftOf
  refine List.filter_congr fun x _ => ?_
  simp only [List.contains_cons, List.contains_nil, Bool.or_false]
  rw [Bool.or_comm]
theorem up_swap (h : Int → Int) {i j p q : Int} (hij : i ≠ j) : up (up h i p) j q = up (up h j q) i p := by
  funext x; unfold up
  by_cases a : x = i
  · rw [if_neg (by omega), if_pos a, if_pos a]
  · rw [if_neg a, if_neg a]
theorem sb_one {n : Nat} {F : (Int → Int) → Am} (hF : Loc (n + 1) F) {u : Int} (h0 : 0 ≤ u) (h1 : u < n + 1) :
    sb (n + 1) F = sb n fun g => Am.add (F (up (lift (leftOf ((n : Int) + 1) [u]) g) u 0)) (F (up (lift (leftOf ((n : Int) + 1) [u]) g) u 1)) := by
  have e : ∀ v, (fun g => F (ins u v g)) = fun g => F (up (lift (leftOf ((n : Int) + 1) [u]) g) u v) := fun v => by
    funext g
    exact hF _ _ fun x x0 x1 => ins_up1 (n := n + 1) g h0 x0 x1
  rw [sb_ins n u F h0 (by omega), sb_add, ← e 0, ← e 1]
theorem sb_two {n : Nat} {F : (Int → Int) → Am} (hF : Loc (n + 2) F) {i j : Int} (h0 : 0 ≤ i) (h1 : i < n + 2) (h2 : 0 ≤ j) (h3 : j < n + 2) (hij : i ≠ j) :
    sb (n + 2) F = sb n fun g => Am.add (Am.add (F (up (up (lift (leftOf ((n : Int) + 2) [i, j]) g) i 0) j 0)) (F (up (up (lift (leftOf ((n : Int) + 2) [i, j]) g) i 1) j 0)))
      (Am.add (F (up (up (lift (leftOf ((n : Int) + 2) [i, j]) g) i 0) j 1)) (F (up (up (lift (leftOf ((n : Int) + 2) [i, j]) g) i 1) j 1))) := by
  rw [sb_add, sb_add, sb_add]
  by_cases h : i < j
  · have e : ∀ p q, (fun g => F (ins j q (ins i p g))) = fun g => F (up (up (lift (leftOf ((n : Int) + 2) [i, j]) g) i p) j q) := fun p q => by
      funext g
      exact hF _ _ fun x x0 x1 => ins_up2 (n := n + 2) g h0 h x0 x1
    rw [sb_ins (n + 1) j F h2 (by omega), sb_ins n i _ h0 (by omega), sb_ins n i _ h0 (by omega), ← e 0 0, ← e 1 0, ← e 0 1, ← e 1 1]
  · have e : ∀ p q, (fun g => F (ins i p (ins j q g))) = fun g => F (up (up (lift (leftOf ((n : Int) + 2) [i, j]) g) i p) j q) := fun p q => by
      funext g
      refine hF _ _ fun x x0 x1 => ?_
      rw [up_swap _ hij, left_swap]
      exact ins_up2 (n := n + 2) g h2 (by omega) x0 x1
    rw [sb_ins (n + 1) i F h0 (by omega), sb_ins n j _ h2 (by omega), sb_ins n j _ h2 (by omega), ← e 0 0, ← e 1 0, ← e 0 1, ← e 1 1, Am.add4]
end K50
end
section
set_option Elab.async false
set_option linter.all false
/-! the phases: sums over strings and turns -/
namespace K50
def S2 (ps : List (Int × Int)) (h : Int → Int) : Int := (ps.map fun p => h p.1 * h p.2).sum
def S1 (tp : List (Int × Int)) (h : Int → Int) : Int := (tp.map fun p => p.2 * h p.1).sum
def SL (l : List Int) (h : Int → Int) : Int := (l.map h).sum
theorem ph_eq (ps tp : List (Int × Int)) (h : Int → Int) : ph ps tp h = 4 * S2 ps h + S1 tp h := rfl
theorem S2_nil (h : Int → Int) : S2 [] h = 0 := rfl
theorem S2_cons (p : Int × Int) (ps : List (Int × Int)) (h : Int → Int) : S2 (p :: ps) h = h p.1 * h p.2 + S2 ps h := by unfold S2; rw [List.map_cons, List.sum_cons]
theorem S1_cons (p : Int × Int) (ps : List (Int × Int)) (h : Int → Int) : S1 (p :: ps) h = p.2 * h p.1 + S1 ps h := by unfold S1; rw [List.map_cons, List.sum_cons]
theorem SL_cons (x : Int) (l : List Int) (h : Int → Int) : SL (x :: l) h = h x + SL l h := by unfold SL; rw [List.map_cons, List.sum_cons]
theorem S2_app (a b : List (Int × Int)) (h : Int → Int) : S2 (a ++ b) h = S2 a h + S2 b h := by unfold S2; rw [List.map_append, List.sum_append]
theorem S1_app (a b : List (Int × Int)) (h : Int → Int) : S1 (a ++ b) h = S1 a h + S1 b h := by unfold S1; rw [List.map_append, List.sum_append]
theorem SL_app (a b : List Int) (h : Int → Int) : SL (a ++ b) h = SL a h + SL b h := by unfold SL; rw [List.map_append, List.sum_append]
theorem sum_perm {a b : List Int} (h : a.Perm b) : a.sum = b.sum := by
  induction h with
  | nil => rfl
  | cons x _ ih => rw [List.sum_cons, List.sum_cons, ih]
  | swap x y l => rw [List.sum_cons, List.sum_cons, List.sum_cons, List.sum_cons]; omega
  | trans _ _ i1 i2 => rw [i1, i2]
theorem S2_perm {a b : List (Int × Int)} (e : a.Perm b) (h : Int → Int) : S2 a h = S2 b h := sum_perm (e.map _)
theorem S1_perm {a b : List (Int × Int)} (e : a.Perm b) (h : Int → Int) : S1 a h = S1 b h := sum_perm (e.map _)
theorem SL_perm {a b : List Int} (e : a.Perm b) (h : Int → Int) : SL a h = SL b h := sum_perm (e.map _)
theorem w_norm (p : Int × Int) (h : Int → Int) : h (norm p).1 * h (norm p).2 = h p.1 * h p.2 := by
  unfold norm
  by_cases e : p.1 ≤ p.2
  · rw [Int.min_eq_left e, Int.max_eq_right e]
  · rw [Int.min_eq_right (by omega), Int.max_eq_left (by omega), Int.mul_comm]
theorem S2_norm (a : List (Int × Int)) (h : Int → Int) : S2 (a.map norm) h = S2 a h := by
  induction a with
  | nil => rfl
  | cons p a ih => rw [List.map_cons, S2_cons, S2_cons, w_norm, ih]
theorem S2_up (u v : Int) (h : Int → Int) (hu : h u = 0) : ∀ ps : List (Int × Int), (∀ p ∈ ps, p.1 ≠ p.2) → S2 ps (up h u v) = S2 ps h + v * SL (nbr ps u) h := by
  intro ps
  induction ps with
  | nil => intro _; show (0 : Int) = 0 + v * 0; omega
  | cons p ps ih =>
    intro hp
    have ih := ih fun q hq => hp q (List.mem_cons_of_mem _ hq)
    have hne := hp p (List.mem_cons_self ..)
    have en : nbr (p :: ps) u = (if p.1 = u then [p.2] else if p.2 = u then [p.1] else []) ++ nbr ps u := by unfold nbr; rw [List.flatMap_cons]
    rw [S2_cons, S2_cons, ih, en, SL_app]
    by_cases a : p.1 = u
    · have b : p.2 ≠ u := by omega
      rw [if_pos a]
      show up h u v p.1 * up h u v p.2 + _ = h p.1 * h p.2 + _ + v * (h p.2 + 0 + _)
      unfold up
      rw [if_pos a, if_neg b, a, hu, Int.add_zero, Int.mul_add]; omega
    · rw [if_neg a]
      by_cases b : p.2 = u
      · rw [if_pos b]
        show up h u v p.1 * up h u v p.2 + _ = h p.1 * h p.2 + _ + v * (h p.1 + 0 + _)
        unfold up
        rw [if_neg a, if_pos b, b, hu, Int.add_zero, Int.mul_add, Int.mul_comm (h p.1) v]; omega
      · rw [if_neg b]
        show up h u v p.1 * up h u v p.2 + _ = h p.1 * h p.2 + _ + v * (0 + _)
        unfold up
        rw [if_neg a, if_neg b, Int.zero_add]; omega
theorem S1_off (u v : Int) (h : Int → Int) : ∀ tp : List (Int × Int), u ∉ tp.map (·.1) → S1 tp (up h u v) = S1 tp h := by
  intro tp
  induction tp with
  | nil => intro _; rfl
  | cons p tp ih =>
    intro hp
    rw [List.map_cons, List.mem_cons, not_or] at hp
    rw [S1_cons, S1_cons, ih hp.2]
    unfold up
    rw [if_neg fun z => hp.1 z.symm]
theorem S1_up (u v : Int) (h : Int → Int) (hu : h u = 0) : ∀ tp : List (Int × Int), (tp.map (·.1)).Nodup → S1 tp (up h u v) = S1 tp h + v * (tuAt tp u).getD 0 := by
  intro tp
  induction tp with
  | nil => intro _; show (0 : Int) = 0 + v * 0; omega
  | cons p tp ih =>
    intro hp
    rw [List.map_cons, List.nodup_cons] at hp
    rw [S1_cons, S1_cons]
    unfold tuAt
    rw [List.find?_cons]
    by_cases a : p.1 = u
    · rw [decide_eq_true a, S1_off u v h tp (by rw [← a]; exact hp.1)]
      show p.2 * up h u v p.1 + _ = _ + v * p.2
      unfold up
      rw [if_pos a, a, hu, Int.mul_comm p.2 v]; omega
    · rw [decide_eq_false a, ih hp.2]
      show _ = _ + v * (tuAt tp u).getD 0
      unfold up
      rw [if_neg a]; omega
theorem S2_drop (p : Int × Int) (h : Int → Int) : ∀ ps : List (Int × Int), ps.Nodup → p ∈ ps → S2 ps h = S2 (ps.filter fun q => decide (q ≠ p)) h + h p.1 * h p.2 := by
  intro ps
  induction ps with
  | nil => intro _ z; cases z
  | cons q ps ih =>
    intro nd hp
    rw [List.nodup_cons] at nd
    rw [S2_cons, List.filter_cons]
    by_cases e : q = p
    · subst e
      rw [decide_eq_false (by simp), if_neg (by simp)]
      have : (ps.filter fun r => decide (r ≠ q)) = ps := List.filter_eq_self.mpr fun r hr => decide_eq_true fun z => nd.1 (z ▸ hr)
      rw [this]; omega
    · rw [decide_eq_true e, if_pos rfl, S2_cons, ih nd.2 ((List.mem_cons.mp hp).resolve_left fun z => e z.symm)]; omega
theorem S2_tog (h : Int → Int) : ∀ (l ps : List (Int × Int)), ps.Nodup → (S2 (tog ps l) h - S2 ps h - S2 l h) % 2 = 0 := by
  intro l
  induction l with
  | nil => intro ps _; show (S2 ps h - S2 ps h - 0) % 2 = 0; omega
  | cons p l ih =>
    intro ps nd
    have ih := ih (tog1 ps p) (tog1_nodup nd)
    show (S2 (tog (tog1 ps p) l) h - _ - _) % 2 = 0
    rw [S2_cons]
    have : S2 (tog1 ps p) h = S2 ps h + h p.1 * h p.2 ∨ S2 (tog1 ps p) h = S2 ps h - h p.1 * h p.2 := by
      unfold tog1
      split
      · rename_i hp
        right; have := S2_drop p h ps nd hp; omega
      · left; rw [S2_app, S2_cons]; show _ + (_ + 0) = _; omega
    rcases this with q | q <;> omega
theorem S2_ties (left : List Int) (g : Int → Int) (l : List (Int × Int)) : S2 (tiesOf l left) g = S2 l (lift left g) := by
  unfold tiesOf
  induction l with
  | nil => rfl
  | cons p l ih =>
    rw [List.filter_cons, S2_cons]
    unfold lift at ih ⊢
    by_cases a : p.1 ∈ left
    · by_cases b : p.2 ∈ left
      · rw [decide_eq_true a, decide_eq_true b, Bool.and_true, if_pos rfl, List.map_cons, S2_cons, ih, if_pos a, if_pos b]
      · rw [decide_eq_false b, Bool.and_false, if_neg (by simp), ih, if_neg b, Int.mul_zero, Int.zero_add]
    · rw [decide_eq_false a, Bool.false_and, if_neg (by simp), ih, if_neg a, Int.zero_mul, Int.zero_add]
def SM (mo tp : List (Int × Int)) (h : Int → Int) : Int := (tp.map fun p => (tuAt mo p.1).getD 0 * h p.1).sum
theorem SM_cons (mo : List (Int × Int)) (p : Int × Int) (tp : List (Int × Int)) (h : Int → Int) : SM mo (p :: tp) h = (tuAt mo p.1).getD 0 * h p.1 + SM mo tp h := by unfold SM; rw [List.map_cons, List.sum_cons]
theorem S1_turns (left : List Int) (g : Int → Int) (mo tp : List (Int × Int)) : (S1 (turnsOf tp left mo) g - S1 tp (lift left g) - SM mo tp (lift left g)) % 8 = 0 := by
  unfold turnsOf
  induction tp with
  | nil => show ((0 : Int) - 0 - 0) % 8 = 0; omega
  | cons p tp ih =>
    rw [List.filter_cons, S1_cons, SM_cons]
    by_cases a : p.1 ∈ left
    · rw [decide_eq_true a, if_pos rfl, List.map_cons, S1_cons]
      have e : lift left g p.1 = g (nu left p.1) := by unfold lift; rw [if_pos a]
      rw [e]
      show ((p.2 + (tuAt mo p.1).getD 0) % 8 * g (nu left p.1) + _ - _ - _) % 8 = 0
      generalize (tuAt mo p.1).getD 0 = m at *
      generalize g (nu left p.1) = x at *
      have e2 : (p.2 + m) % 8 * x = p.2 * x + m * x - 8 * ((p.2 + m) / 8 * x) := by
        have := Int.emod_add_mul_ediv (p.2 + m) 8
        have e3 : (p.2 + m) % 8 = p.2 + m - 8 * ((p.2 + m) / 8) := by omega
        rw [e3]; grind
      rw [e2]
      generalize p.2 * x = y1 at *
      generalize m * x = y2 at *
      generalize (p.2 + m) / 8 * x = y3 at *
      omega
    · have e : lift left g p.1 = 0 := by unfold lift; rw [if_neg a]
      rw [decide_eq_false a, if_neg (by simp), e, Int.mul_zero, Int.mul_zero]
      omega
theorem tuAt_no {mo : List (Int × Int)} {k : Int} (h : k ∉ mo.map (·.1)) : tuAt mo k = none := by
  unfold tuAt
  rw [List.find?_eq_none.mpr]; · rfl
  intro p hp
  rw [decide_eq_true_eq]
  exact fun e => h (List.mem_map.mpr ⟨p, hp, e⟩)
theorem SM_nil (tp : List (Int × Int)) (h : Int → Int) : SM [] tp h = 0 := by
  induction tp with
  | nil => rfl
  | cons p tp ih => rw [SM_cons, ih]; show 0 * _ + 0 = (0 : Int); omega
theorem SM_off (m : Int × Int) (mo : List (Int × Int)) (h : Int → Int) : ∀ tp : List (Int × Int), m.1 ∉ tp.map (·.1) → SM (m :: mo) tp h = SM mo tp h := by
  intro tp
  induction tp with
  | nil => intro _; rfl
  | cons p tp ih =>
    intro hp
    rw [List.map_cons, List.mem_cons, not_or] at hp
    rw [SM_cons, SM_cons, ih hp.2]
    unfold tuAt
    rw [List.find?_cons, decide_eq_false hp.1]
theorem SM_in (m : Int × Int) (mo : List (Int × Int)) (h : Int → Int) (hm : m.1 ∉ mo.map (·.1)) : ∀ tp : List (Int × Int), (tp.map (·.1)).Nodup → m.1 ∈ tp.map (·.1) → SM (m :: mo) tp h = m.2 * h m.1 + SM mo tp h := by
  intro tp
  induction tp with
  | nil => intro _ z; cases z
  | cons p tp ih =>
    intro nd hp
    rw [List.map_cons, List.nodup_cons] at nd
    rw [SM_cons, SM_cons]
    by_cases a : m.1 = p.1
    · rw [SM_off m mo h tp (by rw [a]; exact nd.1), ← a, tuAt_no hm]
      unfold tuAt
      rw [List.find?_cons, decide_eq_true rfl]
      show m.2 * _ + _ = m.2 * _ + (0 * _ + _)
      omega
    · rw [List.map_cons, List.mem_cons] at hp
      rw [ih nd.2 (hp.resolve_left a)]
      have : tuAt (m :: mo) p.1 = tuAt mo p.1 := by unfold tuAt; rw [List.find?_cons, decide_eq_false a]
      rw [this]; omega
theorem SM_S1 (h : Int → Int) (tp : List (Int × Int)) (nd : (tp.map (·.1)).Nodup) : ∀ mo : List (Int × Int), (mo.map (·.1)).Nodup → (∀ k ∈ mo.map (·.1), k ∈ tp.map (·.1)) → SM mo tp h = S1 mo h := by
  intro mo
  induction mo with
  | nil => intro _ _; exact SM_nil tp h
  | cons m mo ih =>
    intro n2 hk
    rw [List.map_cons, List.nodup_cons] at n2
    rw [SM_in m mo h n2.1 tp nd (hk _ (by rw [List.map_cons]; exact List.mem_cons_self ..)), S1_cons, ih n2.2 fun k z => hk k (by rw [List.map_cons]; exact List.mem_cons_of_mem _ z)]
theorem S1_const (c : Int) (h : Int → Int) (l : List Int) : S1 (l.map fun x => (x, c)) h = c * SL l h := by
  induction l with
  | nil => show (0 : Int) = c * 0; omega
  | cons x l ih => rw [List.map_cons, S1_cons, ih, SL_cons, Int.mul_add]
/-- the strings between sorts -/
theorem S2_row (a : Int) (h : Int → Int) (its : List Int) : S2 (its.map fun b => norm (a, b)) h = h a * SL its h := by
  induction its with
  | nil => show (0 : Int) = h a * 0; omega
  | cons b its ih => rw [List.map_cons, S2_cons, ih, SL_cons, w_norm, Int.mul_add]
theorem S2_cross (h : Int → Int) (mine its : List Int) : S2 (cross mine its) h = SL mine h * SL its h := by
  unfold cross
  induction mine with
  | nil => show (0 : Int) = 0 * _; omega
  | cons a mine ih => rw [List.flatMap_cons, S2_app, ih, S2_row, SL_cons, Int.add_mul]
theorem S2_flat (h : Int → Int) (mine : List Int) (rows : List (List Int)) : S2 (rows.flatMap fun its => cross mine its) h = SL mine h * SL rows.flatten h := by
  induction rows with
  | nil => show (0 : Int) = _ * 0; omega
  | cons its rows ih => rw [List.flatMap_cons, S2_app, ih, S2_cross, List.flatten_cons, SL_app, Int.mul_add]
theorem between_cons (mine : List Int) (rows : List (List Int)) : betweenL (mine :: rows) = (rows.flatMap fun its => cross mine its) ++ betweenL rows := by
  unfold betweenL
  rw [List.length_cons, List.range_succ_eq_map, List.flatMap_cons, List.flatMap_map]
  rfl
theorem S2_sing (h : Int → Int) (hh : ∀ i, h i = 0 ∨ h i = 1) (r : List Int) : 2 * S2 (betweenL (r.map fun x => [x])) h = SL r h * SL r h - SL r h := by
  induction r with
  | nil => rfl
  | cons x r ih =>
    have e0 : SL (x :: r) h = h x + SL r h := SL_cons ..
    rw [e0, List.map_cons, between_cons, S2_app, S2_flat]
    have e : (r.map fun x => [x]).flatten = r := by
      clear ih e0
      induction r with
      | nil => rfl
      | cons y r ih => rw [List.map_cons, List.flatten_cons, ih]; rfl
    rw [e]
    have e2 : SL [x] h = h x := by show h x + 0 = h x; omega
    rw [e2]
    rcases hh x with q | q <;> rw [q] <;> grind
theorem S2_three (h : Int → Int) (a b c : List Int) : S2 (betweenL [a, b, c]) h = SL a h * SL b h + SL a h * SL c h + SL b h * SL c h := by
  rw [between_cons, between_cons, between_cons, S2_app, S2_app, S2_app, S2_flat, S2_flat, S2_flat]
  show SL a h * SL (b ++ (c ++ [])) h + (SL b h * SL (c ++ []) h + (SL c h * 0 + 0)) = _
  rw [SL_app, List.append_nil]
  grind
end K50
end
section
set_option Elab.async false
set_option linter.all false
/-! what a step does to the ends: common part and the quarter -/
namespace K50
namespace Am
theorem mul_add (c x y : Am) : mul c (add x y) = add (mul c x) (mul c y) := by
  apply ext' <;> simp only [mul, add, sm, tw] <;> grind
theorem mul_zero (c : Am) : mul c zero = zero := by
  apply ext' <;> simp only [mul, add, sm, tw, zero] <;> grind
theorem mul_comm (x y : Am) : mul x y = mul y x := by
  apply ext' <;> simp only [mul, add, sm, tw] <;> grind
theorem mul_assoc (x y z : Am) : mul (mul x y) z = mul x (mul y z) := by
  apply ext' <;> simp only [mul, add, sm, tw] <;> grind
/-- no divisor of zero -/
def NZ (c : Am) : Prop := ∀ x, mul c x = zero → x = zero
theorem NZ.mul {c d : Am} (h : NZ c) (h' : NZ d) : NZ (Am.mul c d) := fun x e => h' x (h _ (by rw [← mul_assoc]; exact e))
end Am
theorem sb_mul (c : Am) (n : Nat) : ∀ F : (Int → Int) → Am, sb n (fun g => Am.mul c (F g)) = Am.mul c (sb n F) := by
  induction n with
  | zero => intro F; rfl
  | succ n ih =>
    intro F
    show Am.add (sb n _) (sb n _) = Am.mul c (Am.add _ _)
    rw [ih (fun g => F (ins 0 0 g)), ih (fun g => F (ins 0 1 g)), Am.mul_add]
theorem pvsL_of {h g : Int → Int} (f : Int → Int) : ∀ (l : List Int) (p : Nat), (∀ x ∈ l, h x = g (f x)) → pvsL h p l = pvsL g p (l.map f) := by
  intro l
  induction l with
  | nil => intro p _; rfl
  | cons x l ih =>
    intro p e
    show h x * 2 ^ p :: _ = g (f x) * 2 ^ p :: _
    rw [e x (List.mem_cons_self ..), ih (p + 1) fun y hy => e y (List.mem_cons_of_mem _ hy)]
theorem pvs_of {h g : Int → Int} (f : Int → Int) {l : List Int} (e : ∀ x ∈ l, h x = g (f x)) : pvs l h = pvs (l.map f) g := by
  unfold pvs; rw [pvsL_of f l 0 e]
theorem S2_congr {ps : List (Int × Int)} {h g : Int → Int} (e : ∀ p ∈ ps, h p.1 = g p.1 ∧ h p.2 = g p.2) : S2 ps h = S2 ps g := by
  unfold S2
  rw [List.map_congr_left fun p hp => by rw [(e p hp).1, (e p hp).2]]
theorem S1_congr {ps : List (Int × Int)} {h g : Int → Int} (e : ∀ p ∈ ps, h p.1 = g p.1) : S1 ps h = S1 ps g := by
  unfold S1
  rw [List.map_congr_left fun p hp => by rw [e p hp]]
theorem Nt.Ok.tuK {N : Nt} (ok : N.Ok) {p : Int × Int} (hp : p ∈ N.tu) : 0 ≤ p.1 ∧ p.1 < N.sz := by
  have h := ok.tu.mem_iff.mp (List.mem_map.mpr ⟨p, hp, rfl⟩)
  rw [ok.lo] at h
  exact mem_rg.mp (List.mem_filter.mp h).1
theorem Nt.Ok.tuN {N : Nt} (ok : N.Ok) : (N.tu.map (·.1)).Nodup := by
  rw [ok.tu.nodup_iff, ok.lo]
  exact rg_nodup.filter _
theorem Nt.Ok.keyIn {N : Nt} (ok : N.Ok) {x : Int} (h0 : 0 ≤ x) (h1 : x < N.sz) (hk : x ∉ N.ke) : x ∈ N.tu.map (·.1) := by
  rw [ok.tu.mem_iff, ok.lo]
  exact List.mem_filter.mpr ⟨mem_rg.mpr ⟨h0, h1⟩, by simpa using hk⟩
theorem endF_loc {N : Nt} (ok : N.Ok) (sp : List Am) (k : Nat) {n : Nat} (hn : N.sz = n) : Loc n (endF N.ed N.tu N.gi N.ke sp k) := by
  intro h g e
  have e1 : ∀ x ∈ N.ke, h x = g (id x) := fun x hx => by have := ok.ke x hx; exact e x this.1 (by omega)
  have e2 : ∀ x ∈ N.gi, h x = g (id x) := fun x hx => by have := ok.gi x hx; exact e x this.1 (by omega)
  have p1 := pvs_of id e1
  have p2 := pvs_of id e2
  rw [List.map_id] at p1 p2
  have p3 : ph N.ed N.tu h = ph N.ed N.tu g := by
    rw [ph_eq, ph_eq, S2_congr fun p hp => ?_, S1_congr fun p hp => ?_]
    · have := ok.tuK hp; exact e _ this.1 (by omega)
    · have := ok.ed p hp; exact ⟨e _ (by omega) (by omega), e _ (by omega) (by omega)⟩
  unfold endF tm
  rw [p1, p2, p3]
/-- the phase of the net behind a step -/
theorem ph_made {N N' : Nt} {left gi ke : List Int} {m : Int} {prs mo : List (Int × Int)} (ok : N.Ok) (hm : Made N' m (tiesOf (tog N.ed prs) left) gi ke (turnsOf N.tu left mo))
    (nd : (mo.map (·.1)).Nodup) (sub : ∀ k ∈ mo.map (·.1), k ∈ N.tu.map (·.1)) (g : Int → Int) :
    (ph N'.ed N'.tu g - ph N.ed N.tu (lift left g) - 4 * S2 prs (lift left g) - S1 mo (lift left g)) % 8 = 0 := by
  rw [ph_eq, ph_eq, S2_perm hm.ed, S2_norm, S1_perm hm.tu, S2_ties]
  have h1 := S2_tog (lift left g) prs N.ed ok.edN
  have h2 := S1_turns left g mo N.tu
  rw [SM_S1 _ _ ok.tuN mo nd sub] at h2
  omega
/-- one place of an assignment in the phase -/
theorem ph_up {N : Nt} (ok : N.Ok) (u v : Int) (h : Int → Int) (hu : h u = 0) : ph N.ed N.tu (up h u v) = ph N.ed N.tu h + 4 * (v * SL (nbr N.ed u) h) + v * (tuAt N.tu u).getD 0 := by
  rw [ph_eq, ph_eq, S2_up u v h hu N.ed fun p hp => by have := ok.ed p hp; omega, S1_up u v h hu N.tu ok.tuN]
  omega
/-- one turn's two answers -/
def qc (t : Int) : Am := if t = 2 then ⟨1, 0, 1, 0⟩ else ⟨1, 0, -1, 0⟩
theorem qc_nz {t : Int} (ht : t = 2 ∨ t = 6) : Am.NZ (qc t) := by
  intro x e
  have h1 := congrArg Am.a e
  have h2 := congrArg Am.b e
  have h3 := congrArg Am.c e
  have h4 := congrArg Am.d e
  rcases ht with rfl | rfl
  · have : qc 2 = ⟨1, 0, 1, 0⟩ := rfl
    rw [this] at h1 h2 h3 h4
    simp only [Am.mul, Am.add, Am.sm, Am.tw, Am.zero] at h1 h2 h3 h4
    apply Am.ext' <;> simp only [Am.zero] <;> omega
  · have : qc 6 = ⟨1, 0, -1, 0⟩ := rfl
    rw [this] at h1 h2 h3 h4
    simp only [Am.mul, Am.add, Am.sm, Am.tw, Am.zero] at h1 h2 h3 h4
    apply Am.ext' <;> simp only [Am.zero] <;> omega
theorem tn0 (x : Am) : tn 0 x = x := rfl
theorem q_law {t S B : Int} (ht : t = 2 ∨ t = 6) (hB : 2 * B = S * S - S) (x : Am) : Am.add x (tn (4 * S + t) x) = Am.mul (qc t) (tn (4 * B + (8 - t) * S) x) := by
  rcases (show S % 2 = 0 ∨ S % 2 = 1 by omega) with hs | hs
  · obtain ⟨m, rfl⟩ : ∃ m, S = 2 * m := ⟨S / 2, by omega⟩
    have hB' : B = 2 * (m * m) - m := by have : 2 * m * (2 * m) = 4 * (m * m) := by grind
                                         omega
    generalize m * m = mm at hB'
    rcases ht with rfl | rfl
    · rw [tn_mod (a := 4 * (2 * m) + 2) (b := 2) x (by omega), tn_mod (a := 4 * B + (8 - 2) * (2 * m)) (b := 0) x (by omega)]
      apply Am.ext' <;> simp only [Am.mul, Am.add, Am.sm, Am.tw, qc, tn, Am.wp, if_true] <;> simp [Am.wp, Am.tw] <;> omega
    · rw [tn_mod (a := 4 * (2 * m) + 6) (b := 6) x (by omega), tn_mod (a := 4 * B + (8 - 6) * (2 * m)) (b := 0) x (by omega)]
      apply Am.ext' <;> simp only [Am.mul, Am.add, Am.sm, Am.tw, qc, tn, Am.wp, if_true] <;> simp [Am.wp, Am.tw] <;> omega
  · obtain ⟨m, rfl⟩ : ∃ m, S = 2 * m + 1 := ⟨S / 2, by omega⟩
    have hB' : B = 2 * (m * m) + m := by have : (2 * m + 1) * (2 * m + 1) = 4 * (m * m) + 4 * m + 1 := by grind
                                         omega
    generalize m * m = mm at hB'
    rcases ht with rfl | rfl
    · rw [tn_mod (a := 4 * (2 * m + 1) + 2) (b := 6) x (by omega), tn_mod (a := 4 * B + (8 - 2) * (2 * m + 1)) (b := 6) x (by omega)]
      apply Am.ext' <;> simp only [Am.mul, Am.add, Am.sm, Am.tw, qc, tn, Am.wp, if_true] <;> simp [Am.wp, Am.tw] <;> omega
    · rw [tn_mod (a := 4 * (2 * m + 1) + 6) (b := 2) x (by omega), tn_mod (a := 4 * B + (8 - 6) * (2 * m + 1)) (b := 2) x (by omega)]
      apply Am.ext' <;> simp only [Am.mul, Am.add, Am.sm, Am.tw, qc, tn, Am.wp, if_true] <;> simp [Am.wp, Am.tw] <;> omega
end K50
end
section
set_option Elab.async false
set_option linter.all false
/-! a quarter and the ends -/
namespace K50
theorem lift_in {left : List Int} {x : Int} (h : x ∈ left) (g : Int → Int) : lift left g x = g (nu left x) := if_pos h
theorem lift_out {left : List Int} {x : Int} (h : x ∉ left) (g : Int → Int) : lift left g x = 0 := if_neg h
theorem up_ne {h : Int → Int} {u v x : Int} (e : x ≠ u) : up h u v x = h x := if_neg e
theorem lift_bit {left : List Int} {g : Int → Int} (hg : ∀ i, g i = 0 ∨ g i = 1) (i : Int) : lift left g i = 0 ∨ lift left g i = 1 := by
  unfold lift
  split
  · exact hg _
  · exact .inl rfl
theorem Nt.inner.row {N : Nt} (ok : N.Ok) {u : Int} (c : N.inner u) {r : List Int} (hr : r.Perm (nbr N.ed u)) {x : Int} (hx : x ∈ r) : x ∈ N.tu.map (·.1) ∧ (0 ≤ x ∧ x < N.sz) ∧ x ≠ u := by
  have hx' := hr.mem_iff.mp hx
  have hb := nbr_bd ok hx'
  exact ⟨ok.keyIn hb.1.1 hb.1.2 (c.n x (mem_nbr.mp hx')), hb⟩
structure EndOf (N N' : Nt) : Prop where
  c : ∃ c, Am.NZ c ∧ ∀ sp k, endK N.ed N.tu N.gi N.ke sp k (2 ^ N.sz.toNat) = Am.mul c (endK N'.ed N'.tu N'.gi N'.ke sp k (2 ^ N'.sz.toNat))
  gl : N'.gi.length = N.gi.length
  kl : N'.ke.length = N.ke.length
  od : odds N'.tu = odds N.tu
theorem odds_perm {a b : List (Int × Int)} (h : a.Perm b) : odds a = odds b := by unfold odds; exact (h.filter _).length_eq
theorem odds_cons (p : Int × Int) (l : List (Int × Int)) : odds (p :: l) = (if p.2 % 2 = 1 then 1 else 0) + odds l := by
  unfold odds
  rw [List.filter_cons]
  by_cases h : p.2 % 2 = 1
  · rw [decide_eq_true h, if_pos rfl, if_pos h, List.length_cons]; omega
  · rw [decide_eq_false h, if_neg (by simp), if_neg h]; omega
theorem odds_turns (left : List Int) (mo : List (Int × Int)) : ∀ tu : List (Int × Int), (∀ p ∈ tu, p.1 ∉ left → p.2 % 2 = 0) → (∀ k, ((tuAt mo k).getD 0) % 2 = 0) → odds (turnsOf tu left mo) = odds tu := by
  intro tu
  unfold turnsOf
  induction tu with
  | nil => intro _ _; rfl
  | cons p tu ih =>
    intro h1 h2
    have ih := ih (fun q hq => h1 q (List.mem_cons_of_mem _ hq)) h2
    rw [List.filter_cons, odds_cons]
    by_cases a : p.1 ∈ left
    · rw [decide_eq_true a, if_pos rfl, List.map_cons, odds_cons, ih]
      have := h2 p.1
      generalize (tuAt mo p.1).getD 0 = m at *
      show (if (p.2 + m) % 8 % 2 = 1 then 1 else 0) + _ = _
      split <;> split <;> omega
    · rw [decide_eq_false a, if_neg (by simp), ih, if_neg (by have := h1 p (List.mem_cons_self ..) a; omega), Nat.zero_add]
theorem more_even {mo : List (Int × Int)} (h : ∀ p ∈ mo, p.2 % 2 = 0) (k : Int) : ((tuAt mo k).getD 0) % 2 = 0 := by
  cases e : tuAt mo k with
  | none => rfl
  | some v => exact h _ (tuAt_mem e)
theorem gone_even {N : Nt} (ok : N.Ok) {gone : List Int} (h : ∀ g ∈ gone, ∃ t, tuAt N.tu g = some t ∧ t % 2 = 0) : ∀ p ∈ N.tu, p.1 ∉ leftOf N.sz gone → p.2 % 2 = 0 := by
  intro p hp hn
  have hg : p.1 ∈ gone := Classical.byContradiction fun z => hn (mem_left.mpr ⟨ok.tuK hp, z⟩)
  obtain ⟨t, ht, he⟩ := h _ hg
  rw [tuAt_of ok.tN (t := p.2) hp] at ht
  cases ht
  exact he
theorem quarter_ends {N N' : Nt} (ok : N.Ok) {u : Int} (h0 : 0 ≤ u) (h1 : u < N.sz) (q : N.Qok u) (st : QStep N u N') : EndOf N N' := by
  obtain ⟨r, t, hr, ht, ht', hm⟩ := st.r
  have c := q.c
  have n1 := ok.n1
  have hu : u ∉ leftOf N.sz [u] := fun z => (mem_left.mp z).2 (by simp)
  have gL : ∀ x ∈ N.gi, x ∈ leftOf N.sz [u] := fun x hx => mem_left.mpr ⟨ok.gi x hx, by intro z; rw [List.mem_singleton] at z; exact c.g (z ▸ hx)⟩
  have kL : ∀ x ∈ N.ke, x ∈ leftOf N.sz [u] := fun x hx => mem_left.mpr ⟨ok.ke x hx, by intro z; rw [List.mem_singleton] at z; exact c.k (z ▸ hx)⟩
  have mk : (r.map fun x => (x, 8 - t)).map (·.1) = r := by rw [List.map_map]; exact List.map_id _
  have nd : ((r.map fun x => (x, 8 - t)).map (·.1)).Nodup := by rw [mk, hr.nodup_iff]; exact nbr_nd ok u
  have sub : ∀ k ∈ (r.map fun x => (x, 8 - t)).map (·.1), k ∈ N.tu.map (·.1) := fun k hk => by rw [mk] at hk; exact (c.row ok hr hk).1
  have ev : t % 2 = 0 := by omega
  refine ⟨⟨qc t, qc_nz ht', fun sp k => ?_⟩, by rw [hm.gi, List.length_map], by rw [hm.ke, List.length_map], ?_⟩
  · obtain ⟨n, hn⟩ : ∃ n : Nat, N.sz = (n : Int) + 1 := ⟨(N.sz - 1).toNat, by omega⟩
    have hn' : N'.sz = n := by
      rw [hm.sz, hn, show (n : Int) + 1 = ((n + 1 : Nat) : Int) by omega, left1_len h0, if_pos (by omega)]; omega
    rw [show N.sz.toNat = n + 1 by omega, show N'.sz.toNat = n by omega, endK_sb, endK_sb, sb_one (endF_loc ok sp k (n := n + 1) (by omega)) h0 (by omega), ← sb_mul]
    refine sb_congr n fun g hg => ?_
    rw [← hn]
    have e0 : lift (leftOf N.sz [u]) g u = 0 := lift_out hu g
    have pk : ∀ v, pvs N.ke (up (lift (leftOf N.sz [u]) g) u v) = pvs N'.ke g := fun v => by
      rw [hm.ke]
      exact pvs_of _ fun x hx => by
        have hne : x ≠ u := fun z => c.k (z ▸ hx)
        rw [up_ne hne, lift_in (kL x hx)]
    have pg : ∀ v, pvs N.gi (up (lift (leftOf N.sz [u]) g) u v) = pvs N'.gi g := fun v => by
      rw [hm.gi]
      exact pvs_of _ fun x hx => by
        have hne : x ≠ u := fun z => c.g (z ▸ hx)
        rw [up_ne hne, lift_in (gL x hx)]
    have pp := fun v => ph_up ok u v _ e0
    have pn := ph_made ok hm nd sub g
    have hB := S2_sing (lift (leftOf N.sz [u]) g) (lift_bit hg) r
    unfold endF tm
    rw [pk, pk]
    split
    · rw [pg, pg, pp, pp, ← SL_perm hr, ht]
      rw [S1_const] at pn
      generalize sp.getD (pvs N'.gi g).toNat Am.zero = A
      generalize SL r (lift (leftOf N.sz [u]) g) = S at *
      generalize S2 (betweenL (r.map fun x => [x])) (lift (leftOf N.sz [u]) g) = B at *
      generalize ph N.ed N.tu (lift (leftOf N.sz [u]) g) = f at *
      have l := q_law ht' hB (tn f A)
      rw [tn_tn, tn_tn] at l
      show Am.add (tn (f + 4 * (0 * S) + 0 * t) A) (tn (f + 4 * (1 * S) + 1 * t) A) = _
      rw [tn_mod (a := f + 4 * (0 * S) + 0 * t) (b := f) A (by omega), tn_mod (a := f + 4 * (1 * S) + 1 * t) (b := 4 * S + t + f) A (by omega), l]
      congr 1
      refine tn_mod A ?_
      omega
    · rw [Am.add_zero, Am.mul_zero]
  · rw [odds_perm hm.tu]
    refine odds_turns _ _ _ (gone_even ok fun g hg => ?_) (more_even fun p hp => ?_)
    · rw [List.mem_singleton] at hg; subst hg; exact ⟨t, ht, ev⟩
    · obtain ⟨x, _, rfl⟩ := List.mem_map.mp hp; show (8 - t) % 2 = 0; omega
end K50
end
section
set_option Elab.async false
set_option linter.all false
/-! a pair and the ends -/
namespace K50
def pc (t u : Int) : Am := if t = 4 ∧ u = 4 then ⟨-2, 0, 0, 0⟩ else ⟨2, 0, 0, 0⟩
theorem pc_or (t u : Int) : pc t u = ⟨2, 0, 0, 0⟩ ∨ pc t u = ⟨-2, 0, 0, 0⟩ := by unfold pc; split <;> simp
theorem pc_nz (t u : Int) : Am.NZ (pc t u) := by
  intro x e
  rcases pc_or t u with q | q <;> rw [q] at e
  · have h1 := congrArg Am.a e
    have h2 := congrArg Am.b e
    have h3 := congrArg Am.c e
    have h4 := congrArg Am.d e
    simp only [Am.mul, Am.add, Am.sm, Am.tw, Am.zero] at h1 h2 h3 h4
    apply Am.ext' <;> simp only [Am.zero] <;> omega
  · have h1 := congrArg Am.a e
    have h2 := congrArg Am.b e
    have h3 := congrArg Am.c e
    have h4 := congrArg Am.d e
    simp only [Am.mul, Am.add, Am.sm, Am.tw, Am.zero] at h1 h2 h3 h4
    apply Am.ext' <;> simp only [Am.zero] <;> omega
theorem tn4 (z : Int) (x : Am) : tn (4 * z) x = if z % 2 = 0 then x else Am.sm (-1) x := by
  split
  · rw [tn_mod (b := 0) x (by omega)]; rfl
  · rw [tn_mod (b := 4) x (by omega)]
    apply Am.ext' <;> simp [Am.sm, tn, Am.wp, Am.tw]
theorem p_fin {t u : Int} (ht : t = 0 ∨ t = 4) (hu : u = 0 ∨ u = 4) {z1 z2 z3 z4 : Int} (h3 : z3 % 2 = (z1 + z2 + 1) % 2) (h4 : (z4 - z1 * z2) % 2 = if t = 4 ∧ u = 4 then 1 else 0) (x : Am) :
    Am.add (Am.add x (tn (4 * z1) x)) (Am.add (tn (4 * z2) x) (tn (4 * z3) x)) = Am.mul (pc t u) (tn (4 * z4) x) := by
  have c := Int.mul_emod z1 z2 2
  generalize z1 * z2 = zz at *
  rw [tn4, tn4, tn4, tn4]
  unfold pc
  by_cases k : t = 4 ∧ u = 4
  · rw [if_pos k] at h4 ⊢
    rcases (show z1 % 2 = 0 ∨ z1 % 2 = 1 by omega) with q1 | q1 <;> rcases (show z2 % 2 = 0 ∨ z2 % 2 = 1 by omega) with q2 | q2 <;> rw [q1, q2] at c
    · rw [if_pos q1, if_pos q2, if_neg (by omega), if_neg (by omega)]; apply Am.ext' <;> simp only [Am.mul, Am.add, Am.sm, Am.tw] <;> omega
    · rw [if_pos q1, if_neg (by omega), if_pos (by omega), if_neg (by omega)]; apply Am.ext' <;> simp only [Am.mul, Am.add, Am.sm, Am.tw] <;> omega
    · rw [if_neg (by omega), if_pos q2, if_pos (by omega), if_neg (by omega)]; apply Am.ext' <;> simp only [Am.mul, Am.add, Am.sm, Am.tw] <;> omega
    · rw [if_neg (by omega), if_neg (by omega), if_neg (by omega), if_pos (by omega)]; apply Am.ext' <;> simp only [Am.mul, Am.add, Am.sm, Am.tw] <;> omega
  · rw [if_neg k] at h4 ⊢
    rcases (show z1 % 2 = 0 ∨ z1 % 2 = 1 by omega) with q1 | q1 <;> rcases (show z2 % 2 = 0 ∨ z2 % 2 = 1 by omega) with q2 | q2 <;> rw [q1, q2] at c
    · rw [if_pos q1, if_pos q2, if_neg (by omega), if_pos (by omega)]; apply Am.ext' <;> simp only [Am.mul, Am.add, Am.sm, Am.tw] <;> omega
    · rw [if_pos q1, if_neg (by omega), if_pos (by omega), if_pos (by omega)]; apply Am.ext' <;> simp only [Am.mul, Am.add, Am.sm, Am.tw] <;> omega
    · rw [if_neg (by omega), if_pos q2, if_pos (by omega), if_pos (by omega)]; apply Am.ext' <;> simp only [Am.mul, Am.add, Am.sm, Am.tw] <;> omega
    · rw [if_neg (by omega), if_neg (by omega), if_neg (by omega), if_neg (by omega)]; apply Am.ext' <;> simp only [Am.mul, Am.add, Am.sm, Am.tw] <;> omega
theorem p_law {t u M I C : Int} (ht : t = 0 ∨ t = 4) (hu : u = 0 ∨ u = 4) (x : Am) :
    Am.add (Am.add x (tn (4 * (M + C) + t) x)) (Am.add (tn (4 * (I + C) + u) x) (tn (4 * (M + C) + 4 * (I + C) + 4 + t + u) x)) = Am.mul (pc t u) (tn (4 * (M * I + M * C + I * C) + ((t + u + 4) * C + u * M + t * I)) x) := by
  obtain ⟨t', e1, ht'⟩ : ∃ t', t = 4 * t' ∧ (t' = 0 ∨ t' = 1) := ⟨t / 4, by omega, by omega⟩
  obtain ⟨u', e2, hu'⟩ : ∃ u', u = 4 * u' ∧ (u' = 0 ∨ u' = 1) := ⟨u / 4, by omega, by omega⟩
  have r1 : 4 * (M + C) + t = 4 * (M + C + t') := by omega
  have r2 : 4 * (I + C) + u = 4 * (I + C + u') := by omega
  have r3 : 4 * (M + C) + 4 * (I + C) + 4 + t + u = 4 * (M + C + (I + C) + 1 + t' + u') := by omega
  have r4 : 4 * (M * I + M * C + I * C) + ((t + u + 4) * C + u * M + t * I) = 4 * (M * I + M * C + I * C + ((t' + u' + 1) * C + u' * M + t' * I)) := by subst e1 e2; grind
  rw [r1, r2, r3, r4]
  refine p_fin ht hu (by omega) ?_ x
  have r5 : M * I + M * C + I * C + ((t' + u' + 1) * C + u' * M + t' * I) - (M + C + t') * (I + C + u') = C - C * C - t' * u' := by grind
  have c := Int.mul_emod C C 2
  rw [r5]
  rcases (show C % 2 = 0 ∨ C % 2 = 1 by omega) with q | q <;> rw [q] at c <;> generalize C * C = CC at c ⊢ <;>
    rcases ht' with rfl | rfl <;> rcases hu' with rfl | rfl <;> subst e1 e2 <;> simp <;> omega
theorem SL_split (e : Int → Int) (P Q : Int → Bool) : ∀ l : List Int, (∀ x ∈ l, e x = (if P x then e x else 0) + (if Q x then e x else 0)) → SL l e = SL (l.filter P) e + SL (l.filter Q) e := by
  intro l
  induction l with
  | nil => intro _; rfl
  | cons x l ih =>
    intro h
    have hx := h x (List.mem_cons_self ..)
    have ih := ih fun y hy => h y (List.mem_cons_of_mem _ hy)
    rw [List.filter_cons, List.filter_cons, SL_cons, ih]
    cases hP : P x <;> cases hQ : Q x <;> rw [hP, hQ] at hx <;> simp only [if_true, if_false, Bool.false_eq_true] at hx ⊢ <;> (try rw [SL_cons]) <;> (try rw [SL_cons]) <;> omega
theorem SL_mine {r s : List Int} {j : Int} {e : Int → Int} (h0 : e j = 0) : SL r e = SL (mineOf r s j) e + SL (bothOf r s) e := by
  unfold mineOf
  conv => rhs; rhs; unfold bothOf
  refine SL_split e _ _ r fun x hx => ?_
  by_cases a : x ∈ s
  · have hb : (bothOf r s).contains x = true := List.contains_iff_mem.mpr (mem_both.mpr ⟨hx, a⟩)
    have hs : s.contains x = true := List.contains_iff_mem.mpr a
    rw [hb, hs]; simp
  · have hb : (bothOf r s).contains x = false := by rw [← Bool.not_eq_true, List.contains_iff_mem, mem_both]; exact fun z => a z.2
    have hs : s.contains x = false := by rw [← Bool.not_eq_true, List.contains_iff_mem]; exact a
    rw [hb, hs]
    by_cases b : x = j
    · subst b; rw [h0]; simp
    · simp [b]
theorem SL_its {r s : List Int} {i : Int} {e : Int → Int} (nr : r.Nodup) (ns : s.Nodup) (h0 : e i = 0) : SL s e = SL (itsOf r s i) e + SL (bothOf r s) e := by
  have hp : (bothOf r s).Perm (s.filter fun x => r.contains x) := by
    refine (List.perm_ext_iff_of_nodup (nr.filter _) (ns.filter _)).mpr fun x => ?_
    rw [← bothOf, mem_both, List.mem_filter, List.contains_iff_mem, and_comm]
  rw [SL_perm hp]
  unfold itsOf
  refine SL_split e _ _ s fun x hx => ?_
  by_cases a : x ∈ r
  · have hb : (bothOf r s).contains x = true := List.contains_iff_mem.mpr (mem_both.mpr ⟨a, hx⟩)
    have hs : r.contains x = true := List.contains_iff_mem.mpr a
    rw [hb, hs]; simp
  · have hb : (bothOf r s).contains x = false := by rw [← Bool.not_eq_true, List.contains_iff_mem, mem_both]; exact fun z => a z.1
    have hs : r.contains x = false := by rw [← Bool.not_eq_true, List.contains_iff_mem]; exact a
    rw [hb, hs]
    by_cases b : x = i
    · subst b; rw [h0]; simp
    · simp [b]
end K50
end
section
set_option Elab.async false
set_option linter.all false
/-! a pair and the ends; the steps all -/
namespace K50
theorem SL_up (i p : Int) (e : Int → Int) (h0 : e i = 0) : ∀ l : List Int, l.Nodup → SL l (up e i p) = SL l e + (if i ∈ l then p else 0) := by
  intro l
  induction l with
  | nil => intro _; rw [if_neg (by simp)]; rfl
  | cons x l ih =>
    intro nd
    rw [List.nodup_cons] at nd
    rw [SL_cons, SL_cons, ih nd.2]
    by_cases a : x = i
    · subst a
      rw [if_neg nd.1, if_pos (List.mem_cons_self ..), h0]
      unfold up; rw [if_pos rfl]; omega
    · rw [up_ne a]
      have : (i ∈ x :: l) ↔ i ∈ l := by rw [List.mem_cons]; exact ⟨fun z => z.resolve_left fun z => a z.symm, .inr⟩
      by_cases b : i ∈ l
      · rw [if_pos b, if_pos (this.mpr b)]; omega
      · rw [if_neg b, if_neg fun z => b (this.mp z)]; omega
theorem pair_ends {N N' : Nt} (ok : N.Ok) {i j : Int} (h0 : 0 ≤ i) (h1 : i < N.sz) (h2 : 0 ≤ j) (h3 : j < N.sz) (hij : i ≠ j) (q : N.Pok i j) (st : PStep N i j N') : EndOf N N' := by
  obtain ⟨r, s, t, u, hr, hs, ht, ht', hu, hu', hm⟩ := st.r
  have c := q.c
  have d := q.d
  have n1 := ok.n1
  have n2 := q.n
  have hi : i ∉ leftOf N.sz [i, j] := fun z => (mem_left.mp z).2 (by simp)
  have hj : j ∉ leftOf N.sz [i, j] := fun z => (mem_left.mp z).2 (by simp)
  have ni : ∀ l : List Int, i ∉ l → ∀ x ∈ l, x ≠ i := fun l a x hx z => a (z ▸ hx)
  have nj : ∀ l : List Int, j ∉ l → ∀ x ∈ l, x ≠ j := fun l a x hx z => a (z ▸ hx)
  have gL : ∀ x ∈ N.gi, x ∈ leftOf N.sz [i, j] := fun x hx => mem_left.mpr ⟨ok.gi x hx, by simp [ni _ c.g x hx, nj _ d.g x hx]⟩
  have kL : ∀ x ∈ N.ke, x ∈ leftOf N.sz [i, j] := fun x hx => mem_left.mpr ⟨ok.ke x hx, by simp [ni _ c.k x hx, nj _ d.k x hx]⟩
  have nr : r.Nodup := by rw [hr.nodup_iff]; exact nbr_nd ok i
  have ns : s.Nodup := by rw [hs.nodup_iff]; exact nbr_nd ok j
  have mk : (((bothOf r s).map fun x => (x, t + u + 4)) ++ ((mineOf r s j).map fun x => (x, u)) ++ ((itsOf r s i).map fun x => (x, t))).map (·.1) = bothOf r s ++ mineOf r s j ++ itsOf r s i := by
    rw [List.map_append, List.map_append, List.map_map, List.map_map, List.map_map]
    exact congr (congrArg _ (congr (congrArg _ (List.map_id _)) (List.map_id _))) (List.map_id _)
  have nd : ((((bothOf r s).map fun x => (x, t + u + 4)) ++ ((mineOf r s j).map fun x => (x, u)) ++ ((itsOf r s i).map fun x => (x, t))).map (·.1)).Nodup := by
    rw [mk, List.nodup_append, List.nodup_append]
    refine ⟨⟨nr.filter _, nr.filter _, fun a ha b hb e => ?_⟩, ns.filter _, fun a ha b hb e => ?_⟩
    · subst e; exact (mem_mine.mp hb).2.2 (mem_both.mp ha).2
    · subst e
      rcases List.mem_append.mp ha with z | z
      · exact (mem_its.mp hb).2.2 (mem_both.mp z).1
      · exact (mem_mine.mp z).2.2 (mem_its.mp hb).1
  have sub : ∀ k ∈ (((bothOf r s).map fun x => (x, t + u + 4)) ++ ((mineOf r s j).map fun x => (x, u)) ++ ((itsOf r s i).map fun x => (x, t))).map (·.1), k ∈ N.tu.map (·.1) := fun k hk => by
    rw [mk] at hk
    rcases List.mem_append.mp hk with z | z
    · rcases List.mem_append.mp z with z | z
      · exact (c.row ok hr (mem_both.mp z).1).1
      · exact (c.row ok hr (mem_mine.mp z).1).1
    · exact (d.row ok hs (mem_its.mp z).1).1
  refine ⟨⟨pc t u, pc_nz t u, fun sp k => ?_⟩, by rw [hm.gi, List.length_map], by rw [hm.ke, List.length_map], ?_⟩
  · obtain ⟨n, hn⟩ : ∃ n : Nat, N.sz = (n : Int) + 2 := ⟨(N.sz - 2).toNat, by omega⟩
    have hn' : N'.sz = n := by
      rw [hm.sz, hn, show (n : Int) + 2 = ((n + 2 : Nat) : Int) by omega, left2_len h0 h2 hij, if_pos (by omega), if_pos (by omega)]; omega
    rw [show N.sz.toNat = n + 2 by omega, show N'.sz.toNat = n by omega, endK_sb, endK_sb, sb_two (endF_loc ok sp k (n := n + 2) (by omega)) h0 (by omega) h2 (by omega) hij, ← sb_mul]
    refine sb_congr n fun g hg => ?_
    rw [← hn]
    have ei : lift (leftOf N.sz [i, j]) g i = 0 := lift_out hi g
    have ej : lift (leftOf N.sz [i, j]) g j = 0 := lift_out hj g
    have pk : ∀ p v, pvs N.ke (up (up (lift (leftOf N.sz [i, j]) g) i p) j v) = pvs N'.ke g := fun p v => by
      rw [hm.ke]
      exact pvs_of _ fun x hx => by rw [up_ne (nj _ d.k x hx), up_ne (ni _ c.k x hx), lift_in (kL x hx)]
    have pg : ∀ p v, pvs N.gi (up (up (lift (leftOf N.sz [i, j]) g) i p) j v) = pvs N'.gi g := fun p v => by
      rw [hm.gi]
      exact pvs_of _ fun x hx => by rw [up_ne (nj _ d.g x hx), up_ne (ni _ c.g x hx), lift_in (gL x hx)]
    have hin : i ∈ nbr N.ed j := mem_nbr.mpr (q.e.elim .inr .inl)
    have pp : ∀ p v, ph N.ed N.tu (up (up (lift (leftOf N.sz [i, j]) g) i p) j v) = ph N.ed N.tu (lift (leftOf N.sz [i, j]) g) + 4 * (p * SL r (lift (leftOf N.sz [i, j]) g)) + p * t + 4 * (v * (SL s (lift (leftOf N.sz [i, j]) g) + p)) + v * u := fun p v => by
      rw [ph_up ok j v _ (by rw [up_ne hij.symm]; exact ej), ph_up ok i p _ ei, SL_up i p _ ei _ (nbr_nd ok j), if_pos hin, SL_perm hr, SL_perm hs, ht, hu]
      rfl
    have pn := ph_made ok hm nd sub g
    rw [S1_app, S1_app, S1_const, S1_const, S1_const, S2_three] at pn
    have sr : SL r (lift (leftOf N.sz [i, j]) g) = _ := SL_mine (s := s) (j := j) ej
    have ss : SL s (lift (leftOf N.sz [i, j]) g) = _ := SL_its (r := r) (i := i) nr ns ei
    unfold endF tm
    rw [pk, pk, pk, pk]
    split
    · rw [pg, pg, pg, pg, pp, pp, pp, pp, sr, ss]
      generalize sp.getD (pvs N'.gi g).toNat Am.zero = A
      generalize SL (mineOf r s j) (lift (leftOf N.sz [i, j]) g) = M at *
      generalize SL (itsOf r s i) (lift (leftOf N.sz [i, j]) g) = I at *
      generalize SL (bothOf r s) (lift (leftOf N.sz [i, j]) g) = C at *
      generalize ph N.ed N.tu (lift (leftOf N.sz [i, j]) g) = f at *
      have l := p_law (M := M) (I := I) (C := C) ht' hu' (tn f A)
      rw [tn_tn, tn_tn, tn_tn, tn_tn] at l
      rw [tn_mod (b := f) A (by omega), tn_mod (a := f + 4 * (1 * (M + C)) + 1 * t + 4 * (0 * (I + C + 1)) + 0 * u) (b := 4 * (M + C) + t + f) A (by omega),
        tn_mod (a := f + 4 * (0 * (M + C)) + 0 * t + 4 * (1 * (I + C + 0)) + 1 * u) (b := 4 * (I + C) + u + f) A (by omega),
        tn_mod (a := f + 4 * (1 * (M + C)) + 1 * t + 4 * (1 * (I + C + 1)) + 1 * u) (b := 4 * (M + C) + 4 * (I + C) + 4 + t + u + f) A (by omega), l]
      congr 1
      refine tn_mod A ?_
      omega
    · rw [Am.add_zero, Am.add_zero, Am.mul_zero]
  · rw [odds_perm hm.tu]
    refine odds_turns _ _ _ (gone_even ok fun g hg => ?_) (more_even fun p hp => ?_)
    · rw [List.mem_cons, List.mem_singleton] at hg
      rcases hg with rfl | rfl
      · exact ⟨t, ht, by omega⟩
      · exact ⟨u, hu, by omega⟩
    · rcases List.mem_append.mp hp with z | z
      · rcases List.mem_append.mp z with z | z
        · obtain ⟨x, _, rfl⟩ := List.mem_map.mp z; show (t + u + 4) % 2 = 0; omega
        · obtain ⟨x, _, rfl⟩ := List.mem_map.mp z; show u % 2 = 0; omega
      · obtain ⟨x, _, rfl⟩ := List.mem_map.mp z; show t % 2 = 0; omega
theorem EndOf.refl {N : Nt} : EndOf N N := ⟨⟨⟨1, 0, 0, 0⟩, fun x e => by
    have h1 := congrArg Am.a e
    have h2 := congrArg Am.b e
    have h3 := congrArg Am.c e
    have h4 := congrArg Am.d e
    simp only [Am.mul, Am.add, Am.sm, Am.tw, Am.zero] at h1 h2 h3 h4
    apply Am.ext' <;> simp only [Am.zero] <;> omega, fun sp k => by apply Am.ext' <;> simp only [Am.mul, Am.add, Am.sm, Am.tw] <;> omega⟩, rfl, rfl, rfl⟩
theorem EndOf.trans {A B C : Nt} (h : EndOf A B) (g : EndOf B C) : EndOf A C := by
  obtain ⟨⟨c, nc, hc⟩, a1, a2, a3⟩ := h
  obtain ⟨⟨d, nd, hd⟩, b1, b2, b3⟩ := g
  exact ⟨⟨Am.mul c d, nc.mul nd, fun sp k => by rw [hc, hd, Am.mul_assoc]⟩, b1.trans a1, b2.trans a2, b3.trans a3⟩
theorem Stp.ends {N N' : Nt} (ok : N.Ok) (h : Stp N N') : EndOf N N' := by
  rcases h with ⟨i, h0, h1, hq, st⟩ | ⟨i, j, h0, h1, h2, h3, hij, hp, st⟩
  · exact quarter_ends ok h0 h1 hq st
  · exact pair_ends ok h0 h1 h2 h3 hij hp st
end K50
end
section
set_option Elab.async false
set_option linter.all false
/-! ends alike, and small -/
namespace K50
theorem Reach.ends {N N' : Nt} (h : Reach N N') : EndOf N N' := by
  induction h with
  | refl => exact EndOf.refl
  | step r ok s ih => exact ih.trans (s.ends ok)
theorem endL_len (n : Int) (ps tp : List (Int × Int)) (gi ke : List Int) (sp : List Am) : (endL n ps tp gi ke sp).length = 2 ^ ke.length := by
  unfold endL endM; rw [List.length_map, List.length_range]
theorem endL_get {n : Int} {ps tp : List (Int × Int)} {gi ke : List Int} {sp : List Am} {k : Nat} {x : Am} (h : (endL n ps tp gi ke sp)[k]? = some x) : k < 2 ^ ke.length ∧ x = endK ps tp gi ke sp k (2 ^ n.toNat) := by
  unfold endL endM at h
  rw [List.getElem?_map] at h
  by_cases hk : k < 2 ^ ke.length
  · rw [List.getElem?_range hk] at h
    exact ⟨hk, (Option.some.inj h).symm⟩
  · rw [List.getElem?_eq_none (by rw [List.length_range]; omega)] at h; cases h
theorem endL_mem {n : Int} {ps tp : List (Int × Int)} {gi ke : List Int} {sp : List Am} {x : Am} : x ∈ endL n ps tp gi ke sp ↔ ∃ k, k < 2 ^ ke.length ∧ x = endK ps tp gi ke sp k (2 ^ n.toNat) := by
  unfold endL endM
  rw [List.mem_map]
  constructor
  · rintro ⟨k, hk, rfl⟩; exact ⟨k, List.mem_range.mp hk, rfl⟩
  · rintro ⟨k, hk, rfl⟩; exact ⟨k, List.mem_range.mpr hk, rfl⟩
theorem ph_raw {N : Nt} {n : Int} {ps tp : List (Int × Int)} {gi ke : List Int} (hm : Made N n ps gi ke tp) (h : Int → Int) : ph N.ed N.tu h = ph ps tp h := by
  rw [ph_eq, ph_eq, S2_perm hm.ed, S2_norm, S1_perm hm.tu]
theorem endK_raw {N : Nt} {n : Int} {ps tp : List (Int × Int)} {gi ke : List Int} (hm : Made N n ps gi ke tp) (sp : List Am) (k : Nat) : ∀ m, endK N.ed N.tu N.gi N.ke sp k m = endK ps tp gi ke sp k m := by
  intro m
  rw [hm.gi, hm.ke]
  induction m with
  | zero => rfl
  | succ m ih =>
    unfold endK
    rw [ih]
    unfold tm
    rw [ph_raw hm]
theorem endL_raw {N : Nt} {n : Int} {ps tp : List (Int × Int)} {gi ke : List Int} (hm : Made N n ps gi ke tp) (sp : List Am) : endL N.sz N.ed N.tu N.gi N.ke sp = endL n ps tp gi ke sp := by
  unfold endL endM
  rw [hm.sz, hm.ke]
  refine List.map_congr_left fun k _ => ?_
  have := endK_raw hm sp k (2 ^ n.toNat)
  rw [hm.ke] at this
  exact this
theorem EndOf.alike {N N' : Nt} (h : EndOf N N') (sp : List Am) : Alike (endL N.sz N.ed N.tu N.gi N.ke sp) (endL N'.sz N'.ed N'.tu N'.gi N'.ke sp) := by
  obtain ⟨⟨c, nc, hc⟩, h1, h2, h3⟩ := h
  refine ⟨by rw [endL_len, endL_len, h2], ⟨fun hz x hx => ?_, fun hz x hx => ?_⟩, fun i j x y x' y' hx hx' hy hy' => ?_⟩
  · obtain ⟨k, hk, rfl⟩ := endL_mem.mp hx
    refine nc _ ?_
    rw [← hc]
    exact hz _ (endL_mem.mpr ⟨k, by rw [← h2]; exact hk, rfl⟩)
  · obtain ⟨k, hk, rfl⟩ := endL_mem.mp hx
    rw [hc, hz _ (endL_mem.mpr ⟨k, by rw [h2]; exact hk, rfl⟩), Am.mul_zero]
  · have e1 := (endL_get hx).2
    have e2 := (endL_get hx').2
    have e3 := (endL_get hy).2
    have e4 := (endL_get hy').2
    rw [e1, e3, hc, hc, ← e2, ← e4, Am.mul_assoc, Am.mul_assoc, Am.mul_comm x' y']
theorem small_tw {n : Int} {x : Am} (h : Am.small n x) : Am.small n (Am.tw x) := by
  obtain ⟨h1, h2, h3, h4⟩ := h
  exact ⟨⟨by show -n ≤ -x.d; omega, by show -x.d ≤ n; omega⟩, h1, h2, h3⟩
theorem small_tn {n : Int} {x : Am} (t : Int) (h : Am.small n x) : Am.small n (tn t x) := by
  unfold tn
  generalize (t % 8).toNat = k
  induction k with
  | zero => exact h
  | succ k ih => exact small_tw ih
theorem small_add {n m : Int} {x y : Am} (h : Am.small n x) (g : Am.small m y) : Am.small (n + m) (Am.add x y) := by
  obtain ⟨h1, h2, h3, h4⟩ := h
  obtain ⟨g1, g2, g3, g4⟩ := g
  refine ⟨?_, ?_, ?_, ?_⟩ <;> simp only [Am.add] <;> omega
theorem small_mono {n m : Int} {x : Am} (h : Am.small n x) (e : n ≤ m) : Am.small m x := by
  obtain ⟨h1, h2, h3, h4⟩ := h
  refine ⟨?_, ?_, ?_, ?_⟩ <;> omega
theorem small_zero {n : Int} (h : 0 ≤ n) : Am.small n Am.zero := by
  refine ⟨?_, ?_, ?_, ?_⟩ <;> simp only [Am.zero] <;> omega
theorem endK_small {sp : List Am} (hs : ∀ x ∈ sp, Am.small 4 x) (ps tp : List (Int × Int)) (gi ke : List Int) (k : Nat) : ∀ m : Nat, Am.small (4 * m) (endK ps tp gi ke sp k m) := by
  intro m
  induction m with
  | zero => exact small_zero (by omega)
  | succ m ih =>
    unfold endK
    split
    · refine small_mono (small_add ih (m := 4) ?_) (by omega)
      unfold tm
      refine small_tn _ ?_
      rw [List.getD_eq_getElem?_getD]
      cases e : sp[(pvs gi (hb m)).toNat]? with
      | none => exact small_zero (by decide)
      | some x => exact hs x (List.mem_of_getElem? e)
    · exact small_mono ih (by omega)
theorem endL_small {sp : List Am} (hs : ∀ x ∈ sp, Am.small 4 x) {n : Int} (hn : n ≤ 7) (ps tp : List (Int × Int)) (gi ke : List Int) : ∀ x ∈ endL n ps tp gi ke sp, Am.small 1000000 x := by
  intro x hx
  obtain ⟨k, _, rfl⟩ := endL_mem.mp hx
  refine small_mono (endK_small hs ps tp gi ke k _) ?_
  have : 2 ^ n.toNat ≤ 2 ^ 7 := Nat.pow_le_pow_right (by decide) (by omega)
  omega
end K50
end
section
set_option Elab.async false
set_option linter.all false
set_option maxRecDepth 100000
set_option maxHeartbeats 4000000
namespace K50
open PySem PySem.Spec L2
open PyProof.Rows (envOfC)
def stN (b : Bool) : Str := if b then "quarter" else "pair"
theorem stN_ok (b : Bool) : PyData.strOk (stN b) = true := by cases b <;> decide +kernel
def dS (l : List (Bool × List Int)) : List PyData := l.map fun p => .tuple (.str (stN p.1) :: dInts p.2)
theorem lay_dS : ∀ l, PyData.canLayAll0 (dS l) = true
  | [] => rfl
  | n :: ns => by
    show (PyData.canLay0 (.tuple (.str (stN n.1) :: dInts n.2)) && PyData.canLayAll0 (dS ns)) = true
    rw [lay_dS ns, PyData.canLay0]
    show (PyData.canLay0 (.str (stN n.1)) && PyData.canLayAll0 (dInts n.2) && true) = true
    rw [lay_ints n.2, PyData.canLay0, stN_ok]; rfl
theorem dep_dS : ∀ l, PyData.depthAll (dS l) ≤ 1
  | [] => by decide
  | n :: ns => by
    show max (PyData.depth (.tuple (.str (stN n.1) :: dInts n.2))) (PyData.depthAll (dS ns)) ≤ 1
    have := dep_dS ns
    rw [PyData.depth]
    show max (max (PyData.depth (.str (stN n.1))) (PyData.depthAll (dInts n.2)) + 1) _ ≤ 1
    rw [dep_ints n.2, PyData.depth]
    omega
theorem sh_dS {l : List (Bool × List Int)} : SeqAt.shaped (.list (dS l)) = true := by
  unfold SeqAt.shaped
  rw [PyData.canLay0, lay_dS, PyData.depth]
  have := dep_dS l
  rw [decide_eq_true (by omega)]; rfl
theorem eqv_dS_nil {l : List (Bool × List Int)} : PyData.eqv (.list (dS l)) (.list (dInts [])) = decide (l = []) := by
  rw [PyData.eqv]
  cases l <;> rfl
theorem dp_steps {K : PySem.W.Frag} {H : Hp} {N : Nt} : ∀ {xs : List V}, (∀ x ∈ xs, ∃ s, x = V.ref s ∧ StepAt H s N) → ∃ l, DpAll K H xs (dS l) ∧ (l = [] ↔ xs = [])
  | [], _ => ⟨[], .nil, by simp⟩
  | x :: xs, h => by
    obtain ⟨l, h1, _⟩ := dp_steps (xs := xs) fun y hy => h y (List.mem_cons_of_mem _ hy)
    obtain ⟨s, rfl, hs⟩ := h x (List.mem_cons_self ..)
    rcases hs with ⟨i, hi, _⟩ | ⟨i, j, hi, _⟩
    · exact ⟨(true, [i]) :: l, .cons (.tup (SqT.of hi) (.cons (.str _) (.cons (.int i) .nil))) h1, by simp⟩
    · exact ⟨(false, [i, j]) :: l, .cons (.tup (SqT.of hi) (.cons (.str _) (.cons (.int i) (.cons (.int j) .nil)))) h1, by simp⟩
section
variable {w : World} {K : PySem.W.Frag} {mg : Str → Option Value} {base : Heap}
theorem rawOk_of {N : Nt} (ok : N.Ok) (lg : N.gi.length ≤ 2) (lk : N.ke.length ≤ 2) : RawOk N.sz N.ed N.gi N.ke N.tu :=
  ⟨ok.n1, ok.n7, ok.ed, ok.edN, ok.gi, ok.giN, lg, ok.ke, ok.keN, lk, by rw [← ok.lo]; exact ok.tu, ok.tv⟩
theorem tu_len {N : Nt} (ok : N.Ok) : N.tu.length < 64 := by
  have h := len7 ok.n7 ok.tN fun x hx => by
    obtain ⟨p, hp, rfl⟩ := List.mem_map.mp hx
    exact ok.tuK hp
  rw [List.length_map] at h
  omega
def sp_law_goes_right (K : PySem.W.Frag) : Sp := fun vs H Q _ => ∃ (f c t : Addr) (b n : Int) (ps : List (Int × Int)) (gi ke : List Int) (tp : List (Int × Int)), vs = [.ref f, .ref t] ∧ Fer H f c b ∧ b + 200 < 1000000 ∧ RawAt H t n ps gi ke tp ∧ RawOk n ps gi ke tp ∧
  ∀ H', Kp (fun a => a = f) H H' → Fer H' f c (b + 200) → Q (.bl true) H'
theorem sc_law_goes_right : FnScope ["_law_ferry_here", "_law_net", "_law_spread_here", "_law_told", "_law_due", "_law_odd", "_law_whole", "_law_turn_here", "_law_steps_here", "_law_step"] ["_law_ferry_here", "_law_net"] (defScope s_law_goes_right) := ⟨rfl, rfl, rfl, by decide +kernel, rfl, by decide +kernel, by decide +kernel⟩
theorem c_law_goes_right (T : TX K mg) : C8.Cal P w K mg base 13 "_law_goes_right" (sp_law_goes_right K) [] := by
  refine mkCal (k := 12) T.g_law_goes_right T.d_law_goes_right (fun _ _ _ _ _ _ us hl => match us, hl with | [_, _], _ => rfl) sc_law_goes_right (fun vs H Q E h => ?_) (fun cdv A outer s H vs Q E hr h => ?_)
  · obtain ⟨f, c, t, b, n, ps, gi, ke, tp, rfl, _⟩ := h; rfl
  · obtain ⟨f, c, t, b, n, ps, gi, ke, tp, rfl, hf, hb, hraw, rok, k⟩ := h
    have ⟨sa, ga, ka, ta, xs, ts, ht, hs, hP, hg, hk, hta, hT⟩ := hraw
    refine ⟨_, (pss_cons (ps_par (i := 2) (j := 3) rfl sc_law_goes_right.nd rfl rfl (by decide) rfl rfl (pa_cons (C8.pe_c (c_law_spread T) hr (by decide) rfl (pa_cons (pv 0) (pa_cons (pe_callB call_len_seq (by rfl) T.f_len (by decide +kernel) (pa_cons (pe_ix ix_tup (pv 1) pe_int (fun _ _ => rfl)) pa_nil)) pa_nil))) (pa_cons (C8.pe_c (c_law_made T) hr (by decide) rfl (pa_cons (pv 1) pa_nil)) pa_nil)) (by rfl))
      (pss_cons (ps_par (i := 4) (j := 5) rfl sc_law_goes_right.nd rfl rfl (by decide) rfl rfl (pa_cons (C8.pe_c (c_law_end T) hr (by decide) rfl (pa_cons (pv 1) (pa_cons (pv 2) pa_nil))) (pa_cons (C8.pe_c (c_odd_in T) hr (by decide) rfl (pa_cons (pv 3) pa_nil)) pa_nil)) (by rfl))
      (pss_cons (ps_set (i := 6) sc_law_goes_right.nd rfl (Or.inl rfl) (pe_fld (C8.pe_c (c_lesser T) hr (by decide) rfl (pa_cons (pv 3) pa_nil)) rfl))
      (pss_cons (ps_if (PW.pt (pw_or (pt_not (pt_val (C8.pe_c (c_law_are_alike T) hr (by decide) rfl (pa_cons (pv 4) (pa_cons (C8.pe_c (c_law_end T) hr (by decide) rfl (pa_cons (C8.pe_c (c_law_parts T) hr (by decide) rfl (pa_cons (pv 6) pa_nil)) (pa_cons (pv 2) pa_nil))) pa_nil))))) (pw_or1 (pt_cmpR op_ne (C8.pe_c (c_odd_in T) hr (by decide) rfl (pa_cons (pv 6) pa_nil)) (pv 5) (nomark _))))) (pss_one (ps_ret pe_bl)) pss_nil)
      (pss_cons (ps_for PassesOwn.never rfl (pi_range1 (by rfl) T.f_range (pa_cons pe_int pa_nil)) (pg_name (i := 7) sc_law_goes_right.nd rfl (Or.inl rfl)) (pss_cons (ps_set (i := 8) sc_law_goes_right.nd rfl (Or.inl rfl) (C8.pe_c (c_law_steps T) hr (by decide) rfl (pa_cons (C8.pe_c (c_law_parts T) hr (by decide) rfl (pa_cons (pv 3) pa_nil)) pa_nil)))
      (pss_one (ps_if (pt_cmpR (op_neD hr.units) (pv 8) (pe_lst pa_nil) (nomark _)) (pss_cons (ps_set (i := 9) sc_law_goes_right.nd rfl (Or.inl rfl) (C8.pe_c (c_law_pick T) hr (by decide) rfl (pa_cons (pv 0) (pa_cons (pv 8) pa_nil))))
      (pss_cons (ps_set (i := 3) sc_law_goes_right.nd rfl (Or.inl rfl) (pe_ifExp (pt_cmpR op_eq (pe_ix ix_tup (pv 9) pe_int (fun _ _ => rfl)) pe_str (nomark _)) (C8.pe_c (c_quarter T) hr (by decide) rfl (pa_cons (pv 3) (pa_cons (pe_ix ix_tup (pv 9) pe_int (fun _ _ => rfl)) pa_nil))) (C8.pe_c (c_pair T) hr (by decide) rfl (pa_cons (pv 3) (pa_cons (pe_ix ix_tup (pv 9) pe_int (fun _ _ => rfl)) (pa_cons (pe_ix ix_tup (pv 9) pe_int (fun _ _ => rfl)) pa_nil))))))
      (pss_one (ps_if (PW.pt (pw_or (pt_not (pt_val (C8.pe_c (c_law_are_alike T) hr (by decide) rfl (pa_cons (pv 4) (pa_cons (C8.pe_c (c_law_end T) hr (by decide) rfl (pa_cons (C8.pe_c (c_law_parts T) hr (by decide) rfl (pa_cons (pv 3) pa_nil)) (pa_cons (pv 2) pa_nil))) pa_nil))))) (pw_or1 (pt_cmpR op_ne (C8.pe_c (c_odd_in T) hr (by decide) rfl (pa_cons (pv 3) pa_nil)) (pv 5) (nomark _))))) (pss_one (ps_ret pe_bl)) pss_nil)))) pss_nil))))
      (pss_one (ps_ret pe_bl))))))), ?_⟩
    have gl : ((gi.map V.int).length : Int) = gi.length := by rw [List.length_map]
    have lg := rok.lg
    refine ⟨_, rfl, _, rfl, t, _, _, _, rfl, rfl, SqT.of ht, rfl, ga, _, rfl, .inl (SqL.of hg), f, c, ((gi.map V.int).length : Int), b, rfl, hf, by omega, by omega, by omega, fun sl svs sp H1 e1 hf1 hsl hsp hspl hs4 hslf => ?_⟩
    have hraw1 := hraw.monoF hf e1
    refine ⟨_, rfl, t, n, ps, gi, ke, tp, rfl, hraw1, rok, fun x N H2 e2 hN ok made => ?_⟩
    have hraw2 := hraw1.mono0 e2
    refine ⟨_, _, rfl, ?_⟩
    have hspl' : sp.length = 2 ^ gi.length := by rw [hspl, gl]; rfl
    refine ⟨_, rfl, _, rfl, t, sl, n, ps, gi, ke, tp, svs, sp, rfl, hraw2, rok, e2.get0 hsl, hsp.mono e2.tp, hspl', fun dl dvs H3 e3 hdl hdv => ?_⟩
    refine ⟨_, rfl, x, N, rfl, hN.mono e3, tu_len ok, fun H4 e4 => ⟨_, _, rfl, ?_⟩⟩
    have e34 := e3.trans e4
    have hN4 := hN.mono e34
    refine ⟨_, rfl, x, N, rfl, hN4, ok, fun y dy v1 t1 y1 pn N2 H5 e5 hy hN2 ok2 rch => ?_⟩
    refine ⟨y, _, dy, _, _, rfl, hy, T.c_Lesser, T.n_Lesser_net, lk_net, ?_⟩
    have hgN : N.gi.length ≤ 2 := by rw [made.gi]; exact rok.lg
    have hkN : N.ke.length ≤ 2 := by rw [made.ke]; exact rok.lk
    have E2 := rch.ends
    have ok2r := rawOk_of ok2 (by rw [E2.gl]; exact hgN) (by rw [E2.kl]; exact hkN)
    have hd0 : endL n ps tp gi ke sp = endL N.sz N.ed N.tu N.gi N.ke sp := (endL_raw made sp).symm
    rw [hd0] at hdv
    have dlen : (endL N.sz N.ed N.tu N.gi N.ke sp).length < 1000 := by
      rw [endL_len]
      have : 2 ^ N.ke.length ≤ 2 ^ 2 := Nat.pow_le_pow_right (by decide) hkN
      omega
    have dsm := endL_small hs4 ok.n7 N.ed N.tu N.gi N.ke
    have splN : sp.length = 2 ^ N.gi.length := by rw [hspl', made.gi]
    refine ⟨_, rfl, _, rfl, pn, N2, rfl, hN2, fun t2 H6 e6 hraw6 => ?_⟩
    have e46 := (e34.trans e5).trans e6
    refine ⟨_, rfl, t2, sl, N2.sz, N2.ed, N2.gi, N2.ke, N2.tu, svs, sp, rfl, hraw6, ok2r, (e2.trans e46).get0 hsl, hsp.mono (e2.trans e46).tp, by rw [splN, E2.gl], fun el evs H7 e7 hel hev => ?_⟩
    have e57 := (e4.trans e5).trans (e6.trans e7)
    refine ⟨dl, el, dvs, evs, _, _, rfl, e57.get0 hdl, hdv.mono e57.tp, hel, hev, dlen, dsm, E2.alike sp, fun H8 e8 => ?_⟩
    have e48 := (e5.trans e6).trans (e7.trans e8)
    have od2 := E2.od
    refine ⟨_, rfl, iteF ⟨_, rfl, pn, N2, rfl, hN2.mono ((e6.trans e7).trans e8), tu_len ok2, fun H9 e9 => ?_⟩⟩
    refine ⟨_, rfl, rfl, _, rfl, iteNeF (by rw [od2]) ?_⟩
    have nf : ∀ {H' : Hp} {x' : Addr} {N' : Nt} {b' : Int}, NetAt K H' x' N' → Fer H' f c b' → ¬ x' = f := fun h g z => by
      obtain ⟨_, _, _, _, _, _, _, _, _, hp⟩ := h
      obtain ⟨_, _, _, hff, _⟩ := g
      have := hp.o
      rw [z, hff] at this; cases this
    have e29 := (e2.trans e34).trans (e48.trans e9)
    have e39 := e4.trans (e48.trans e9)
    have E19 : Kp (fun a => a = f) H H9 := e1.trans e29.weak
    have hf9 := hf1.mono e29
    have hdl9 := e39.get0 hdl
    have hdv9 := hdv.mono e39.tp
    have hsl9 := e29.get0 hsl
    have hsp9 := hsp.mono e29.tp
    have hN9 := hN4.mono (e48.trans e9)
    have ddl : ¬ dl = f := hf9.ne hdl9 fun c1 t1 r1 z => by
      have l3 := hdv9.length
      rw [z, endL_len] at l3
      have : N.ke.length = 0 ∨ N.ke.length = 1 ∨ N.ke.length = 2 := by omega
      rcases this with q | q | q <;> rw [q] at l3 <;> cases l3
    refine ⟨3, rfl, by decide, by decide, ?_⟩
    refine for_it (walk_range (lo := 0) (n := 3)) (fun i σ H' => ∃ (x' : Addr) (N' : Nt) (o7 o8 o9 : Option V), σ = [some (.ref f), some (.ref t), some (.ref sl), some (.ref x'), some (.ref dl), some (.int (odds N.tu)), some (.ref pn), o7, o8, o9] ∧ Kp (fun a => a = f) H9 H' ∧ Fer H' f c (b + 100 + (i : Int)) ∧ NetAt K H' x' N' ∧ N'.Ok ∧ EndOf N N')
      ⟨x, N, _, _, _, rfl, Kp.refl, hf9.more (by omega), hN9, ok, EndOf.refl⟩ (fun _ _ _ _ _ => trivial) ?_ ?_
    · rintro i z σ _ Ha hi ⟨x', N', o7, o8, o9, rfl, Ea, hfa, hNa, oka, E3⟩ ⟨rfl, hz⟩
      refine ⟨_, rfl, x', N', rfl, hNa, fun t3 Hb eb hraw3 => ?_⟩
      refine ⟨t3, N', rfl, hraw3, oka, fun ls xs' Hc ec hls hxs hxl => ?_⟩
      refine ⟨_, rfl, by show 0 ≤ sizeLine; decide, fun g hg => ?_⟩
      have ed := Kp.new (F := N0) (o := .lst []) hg
      have hg2 : (upd Hc g (.lst [])) g = some (.lst (([] : List Int).map V.int)) := upd_same
      generalize upd Hc g (.lst []) = Hd at ed hg2 ⊢
      have hxd : ∀ x ∈ xs', ∃ s, x = V.ref s ∧ StepAt Hd s N' := fun x hx => let ⟨s, q, h⟩ := hxs x hx; ⟨s, q, h.mono ed.tp⟩
      obtain ⟨sd, hsd, hsd0⟩ := dp_steps (K := K) hxd
      refine ⟨_, _, .lst (SqL.of (ed.get0 hls)) hsd, dp_list (SqL.of hg2), sh_dS, sh_list, ?_⟩
      rw [eqv_dS_nil]
      refine ⟨_, rfl, ?_⟩
      have ead := (eb.trans ec).trans ed
      have hfd := hfa.mono ead
      by_cases hx0 : xs' = []
      · rw [decide_eq_true (hsd0.mpr hx0)]
        exact iteF ⟨x', N', _, _, _, rfl, Ea.trans ead.weak, hfd.more (by omega), hNa.mono ead, oka, E3⟩
      rw [decide_eq_false fun q => hx0 (hsd0.mp q)]
      have xl : 1 ≤ xs'.length := Nat.pos_of_ne_zero fun z => hx0 (List.length_eq_zero_iff.mp z)
      refine iteT ⟨_, rfl, _, rfl, f, c, ls, xs', _, rfl, hfd, by omega, ed.get0 hls, hfd.ne (ed.get0 hls) (fun c1 t1 r1 z => ?_), xl, by omega, fun j xv He hj ee hfe => ?_⟩
      · obtain ⟨s, q, _⟩ := hxs (.int t1) (by rw [z]; simp)
        cases q
      obtain ⟨s1, rfl, st1⟩ := hxd _ (List.mem_of_getElem? hj)
      have hNe := (hNa.mono ead).monoF ee (nf (hNa.mono ead) hfd)
      rcases st1.mono ee.tp with ⟨i1, ht1, p0, p1, hq⟩ | ⟨i1, j1, ht1, p0, p1, p2, p3, hq⟩
      · refine ⟨_, rfl, s1, _, _, _, rfl, rfl, SqT.of ht1, rfl, rfl, _, rfl, ?_⟩
        refine iteT ⟨_, rfl, _, rfl, s1, _, _, _, rfl, rfl, SqT.of ht1, rfl, x', i1, N', rfl, hNe, oka, p0, p1, hq, fun x2 N3 Hf ef hN3 ok3 st3 => ?_⟩
        have E4 := E3.trans (st3.ends oka)
        have Eaf := (Ea.trans ead.weak).trans (ee.trans ef.weak)
        refine ⟨_, rfl, _, rfl, x2, N3, rfl, hN3, fun t5 Hg eg hraw5 => ?_⟩
        have Eag := Eaf.trans eg.weak
        refine ⟨_, rfl, t5, sl, N3.sz, N3.ed, N3.gi, N3.ke, N3.tu, svs, sp, rfl, hraw5, rawOk_of ok3 (by rw [E4.gl]; exact hgN) (by rw [E4.kl]; exact hkN), Eag.get hslf hsl9, hsp9.mono Eag.tp, by rw [splN, E4.gl], fun el2 evs2 Hh eh hel2 hev2 => ?_⟩
        have Eah := Eag.trans eh.weak
        refine ⟨dl, el2, dvs, evs2, _, _, rfl, Eah.get ddl hdl9, hdv9.mono Eah.tp, hel2, hev2, dlen, dsm, E4.alike sp, fun Hi ei => ?_⟩
        have efi := (eg.trans eh).trans ei
        refine ⟨_, rfl, iteF ⟨_, rfl, x2, N3, rfl, hN3.mono efi, tu_len ok3, fun Hj ej => ?_⟩⟩
        refine ⟨_, rfl, rfl, _, rfl, iteNeF (by rw [E4.od]) ?_⟩
        exact ⟨x2, N3, _, _, _, rfl, Eaf.trans (efi.trans ej).weak, (hfe.mono ((ef.trans efi).trans ej)).more (by omega), hN3.mono (efi.trans ej), ok3, E4⟩
      · refine ⟨_, rfl, s1, _, _, _, rfl, rfl, SqT.of ht1, rfl, rfl, _, rfl, ?_⟩
        refine iteF ⟨_, rfl, _, rfl, s1, _, _, _, rfl, rfl, SqT.of ht1, rfl, _, rfl, s1, _, _, _, rfl, rfl, SqT.of ht1, rfl, x', i1, j1, N', rfl, hNe, oka, p0, p1, p2, p3, hq, fun x2 N3 Hf ef hN3 ok3 st3 => ?_⟩
        have E4 := E3.trans (st3.ends oka)
        have Eaf := (Ea.trans ead.weak).trans (ee.trans ef.weak)
        refine ⟨_, rfl, _, rfl, x2, N3, rfl, hN3, fun t5 Hg eg hraw5 => ?_⟩
        have Eag := Eaf.trans eg.weak
        refine ⟨_, rfl, t5, sl, N3.sz, N3.ed, N3.gi, N3.ke, N3.tu, svs, sp, rfl, hraw5, rawOk_of ok3 (by rw [E4.gl]; exact hgN) (by rw [E4.kl]; exact hkN), Eag.get hslf hsl9, hsp9.mono Eag.tp, by rw [splN, E4.gl], fun el2 evs2 Hh eh hel2 hev2 => ?_⟩
        have Eah := Eag.trans eh.weak
        refine ⟨dl, el2, dvs, evs2, _, _, rfl, Eah.get ddl hdl9, hdv9.mono Eah.tp, hel2, hev2, dlen, dsm, E4.alike sp, fun Hi ei => ?_⟩
        have efi := (eg.trans eh).trans ei
        refine ⟨_, rfl, iteF ⟨_, rfl, x2, N3, rfl, hN3.mono efi, tu_len ok3, fun Hj ej => ?_⟩⟩
        refine ⟨_, rfl, rfl, _, rfl, iteNeF (by rw [E4.od]) ?_⟩
        exact ⟨x2, N3, _, _, _, rfl, Eaf.trans (efi.trans ej).weak, (hfe.mono ((ef.trans efi).trans ej)).more (by omega), hN3.mono (efi.trans ej), ok3, E4⟩
    · rintro σ Ha ⟨x', N', o7, o8, o9, rfl, Ea, hfa, hNa, oka, E3⟩
      exact k _ (E19.trans Ea) (hfa.more (by show b + 100 + ((3 : Nat) : Int) ≤ b + 200; omega))
def sp_law (K : PySem.W.Frag) : Sp := fun vs H Q _ => ∃ (a : Addr) (ns : List Int), vs = [.ref a] ∧ SqL K H a (ns.map V.int) ∧ ∀ H', Q (.bl true) H'
theorem sc_law : FnScope ["_law_script", "_law_ferry_here", "_law_turn_here"] ["_law_script"] (defScope s_law) := ⟨rfl, rfl, rfl, by decide +kernel, rfl, by decide +kernel, by decide +kernel⟩
theorem c_law (T : TX K mg) : C8.Cal P w K mg base 14 "law" (sp_law K) [] := by
  refine mkCal (k := 13) T.g_law T.d_law (fun _ _ _ _ _ _ us hl => match us, hl with | [_], _ => rfl) sc_law (fun vs H Q E h => ?_) (fun cdv A outer s H vs Q E hr h => ?_)
  · obtain ⟨a, ns, rfl, _⟩ := h; rfl
  · obtain ⟨a, ns, rfl, ha, k⟩ := h
    refine ⟨_, (pss_cons (ps_set (i := 1) sc_law.nd rfl (Or.inl rfl) (C8.pe_c (c_law_ferry T) hr (by decide) rfl (pa_cons (pv 0) pa_nil)))
      (pss_cons (ps_for PassesOwn.never rfl (pi_range1 (by rfl) T.f_range (pa_cons pe_int pa_nil)) (pg_name (i := 2) sc_law.nd rfl (Or.inl rfl)) (pss_one (ps_if (pt_not (pt_val (C8.pe_c (c_law_goes_right T) hr (by decide) rfl (pa_cons (pv 1) (pa_cons (C8.pe_c (c_law_drawn T) hr (by decide) rfl (pa_cons (pv 1) (pa_cons (pe_op op_sub pe_int (pv 2)) pa_nil))) pa_nil))))) (pss_one (ps_ret pe_bl)) pss_nil)))
      (pss_one (ps_ret pe_bl)))), ?_⟩
    refine ⟨_, rfl, a, ns, rfl, ha, fun f c H1 e1 hf1 => ?_⟩
    refine ⟨3, rfl, by decide, by decide, ?_⟩
    refine for_it (walk_range (lo := 0) (n := 3)) (fun i σ H' => ∃ (o2 : Option V), σ = [some (.ref a), some (.ref f), o2] ∧ Fer H' f c (500 * (i : Int))) ⟨_, rfl, hf1.more (by omega)⟩ (fun _ _ _ _ _ => trivial) ?_ ?_
    · rintro i z σ _ H2 hi ⟨o2, rfl, hf2⟩ ⟨rfl, hz⟩
      have hz : z = .int (0 + (i : Int)) := hz
      subst hz
      refine ⟨_, rfl, _, rfl, _, rfl, _, _, rfl, rfl, f, c, 7 - (0 + (i : Int)), _, rfl, hf2, by omega, by omega, by omega, fun t n ps gi ke tp H3 e3 hf3 hraw rok => ?_⟩
      refine ⟨f, c, t, _, n, ps, gi, ke, tp, rfl, hf3, by omega, hraw, rok, fun H4 e4 hf4 => ?_⟩
      exact ⟨_, rfl, iteF ⟨_, rfl, hf4.more (by omega)⟩⟩
    · rintro σ H2 ⟨o2, rfl, hf2⟩
      exact k H2
end
end K50
end
section
set_option Elab.async false
set_option linter.all false
set_option maxRecDepth 100000
set_option maxHeartbeats 4000000
namespace K50
open PySem PySem.Spec L2
open PyProof.Rows (envOfC)
section
variable {w : World} {K : PySem.W.Frag} {mg : Str → Option Value}
theorem f_law (T : TX K mg) : ∃ fd, FnP K "law" s_law (He.ga K "law") fd ∧ ∀ base, FnOk P w K mg base CX0 14 (He.ga K "law") fd ["_law_script"] (sp_law K) := by
  obtain ⟨fd, F⟩ := T.d_law
  refine ⟨fd, F, fun base => F.ok sc_law (fun vs H Q E h => ?_) (fun cdv A outer s H vs Q E hr h => ?_)⟩
  · obtain ⟨a, ns, rfl, _⟩ := h; rfl
  · obtain ⟨a, ns, rfl, ha, k⟩ := h
    suffices hh : ∃ t, PSs (cxOf CX0 P w K mg base ["_law_script", "_law_ferry_here", "_law_turn_here"] "law" (defScope s_law) (He.ga K "law") cdv A outer s H E).nox (defBody s_law) t ∧ t { nx := fun _ H' => Q .non H', rt := Q } (L2.start ["_law_script", "_law_ferry_here", "_law_turn_here"] [.ref a]) H by
      obtain ⟨t, ht, hq⟩ := hh
      exact ⟨t, ht.nox, hq⟩
    refine ⟨_, (pss_cons (ps_set (i := 1) sc_law.nd rfl (Or.inl rfl) (C8.pe_c (c_law_ferry T) hr (by decide) rfl (pa_cons (pv 0) pa_nil)))
      (pss_cons (ps_for PassesOwn.never rfl (pi_range1 (by rfl) T.f_range (pa_cons pe_int pa_nil)) (pg_name (i := 2) sc_law.nd rfl (Or.inl rfl)) (pss_one (ps_if (pt_not (pt_val (C8.pe_c (c_law_goes_right T) hr (by decide) rfl (pa_cons (pv 1) (pa_cons (C8.pe_c (c_law_drawn T) hr (by decide) rfl (pa_cons (pv 1) (pa_cons (pe_op op_sub pe_int (pv 2)) pa_nil))) pa_nil))))) (pss_one (ps_ret pe_bl)) pss_nil)))
      (pss_one (ps_ret pe_bl)))), ?_⟩
    refine ⟨_, rfl, a, ns, rfl, ha, fun f c H1 e1 hf1 => ?_⟩
    refine ⟨3, rfl, by decide, by decide, ?_⟩
    refine for_it (walk_range (lo := 0) (n := 3)) (fun i σ H' => ∃ (o2 : Option V), σ = [some (.ref a), some (.ref f), o2] ∧ Fer H' f c (500 * (i : Int))) ⟨_, rfl, hf1.more (by omega)⟩ (fun _ _ _ _ _ => trivial) ?_ ?_
    · rintro i z σ _ H2 hi ⟨o2, rfl, hf2⟩ ⟨rfl, hz⟩
      have hz : z = .int (0 + (i : Int)) := hz
      subst hz
      refine ⟨_, rfl, _, rfl, _, rfl, _, _, rfl, rfl, f, c, 7 - (0 + (i : Int)), _, rfl, hf2, by omega, by omega, by omega, fun t n ps gi ke tp H3 e3 hf3 hraw rok => ?_⟩
      refine ⟨f, c, t, _, n, ps, gi, ke, tp, rfl, hf3, by omega, hraw, rok, fun H4 e4 hf4 => ?_⟩
      exact ⟨_, rfl, iteF ⟨_, rfl, hf4.more (by omega)⟩⟩
    · rintro σ H2 ⟨o2, rfl, hf2⟩
      exact k H2
end
end K50
end
set_option Elab.async false
set_option linter.all false
set_option maxRecDepth 100000
set_option maxHeartbeats 0
namespace K50
open PySem PySem.Spec PyProof.Rows L2
theorem run (w : World) : HandSHeadRun.RunEq R qv hk ob 8000 lo w := PySem.W.byRow2 "special-get-raises" run_false run_true w
abbrev dLaw : DefRec := HandSHeadRun.topDef R.prog 83
end K50
open PySem PySem.W PySem.Calls PyProof.Rows
theorem PySem.Challenge.cw_lookmade_k50_whole_ends_before_and_behin_holds : PySem.Challenge.rw_lookmade_k50_whole_ends_before_and_behin.Holds := by
  w_on; o_law
  refine HandSHeadRun.head_any (r := OpenLaw.row PySem.Challenge.rw_lookmade_k50_whole_ends_before_and_behin) (q := view (OpenLaw.row PySem.Challenge.rw_lookmade_k50_whole_ends_before_and_behin).prog [83]) (H := K50.hk) (ob := K50.ob) (M := 8000) (loose := K50.lo) (d := HandSHeadRun.topDef (OpenLaw.row PySem.Challenge.rw_lookmade_k50_whole_ends_before_and_behin).prog 83) (kwd := []) K50.ob_eq
    (by kernel_rfl) (fun s => by kernel_rfl) K50.run (by kernel_rfl) (by kernel_rfl) (by kernel_rfl) (by rfl) (by first | assumption | decide +kernel) (by decide +kernel) ⟨rfl, rfl, rfl, rfl, rfl, by decide +kernel⟩ ?hw ?hc
  case hw => w_witness2
  case hc =>
    refine L2.walk_ofE (l := PySem.Challenge.rw_lookmade_k50_whole_ends_before_and_behin) (n := 63) (k := 14) (x := "_law_script") (CX := L2.CX0) rfl (by decide) (by kernel_rfl) ⟨rfl, by decide, by decide⟩ ?F (fun _ _ _ _ z => z)
    intro w mg fa h Y G hmg0
    obtain ⟨K, KX, c⟩ := Y
    have hmg : mg ("law" : PySem.Str) = some (.ref fa) := by
      have e : (HandSHeadRun.topDef (OpenLaw.row PySem.Challenge.rw_lookmade_k50_whole_ends_before_and_behin).prog 83).name = ("law" : PySem.Str) := by kernel_rfl
      rw [← e]
      exact hmg0
    have T : K50.TX K mg := ⟨c, h, KX, G⟩
    obtain ⟨fd, F, hF⟩ := K50.f_law (w := w) T
    have e := T.g_law.symm.trans hmg
    cases e
    refine ⟨K, fd, K50.sp_law K, KX, fun s u => F.bindsA (ps := ["_law_script"]) (fun _ _ _ _ _ _ us hl => match us, hl with | [_], _ => rfl) s [u] rfl, fun H a ns hn ho hs => ⟨a, ns, rfl, hs, fun _ => rfl⟩, fun base _ _ => hF base⟩
