import PyProof.Rows.All
import Wide.All
import OpenK.AllK
import Wide.FinOn
import KE.KStateDown
import KE.KMathG
import HandS.ForMost
import HandS.Defaults
import HandS.MakeKwOnly
import HandS.Property
import HandS.Gcd
import HandS.Wide
import HandS.Style
import HandS.Exc
import HandS.ExcInit
import HandS.TryOnly
import HandS.Evl
import HandS.HeadHook2
import PySem.Challenge.RW_neverlate_k84_whole_dominating_tables_ke
import KE.KExcSuper
import HandS.Head0
import HandS.Head1
import HandS.Head2
import HandS.Head3
import HandS.HeadEnd
import KE.GoesMore
import KE.KTupSum
import KE.DataMinMax
import HandS.SortKw
import HandS.Steps
import KE.SortData
import HandS.WordsExc
-- part W0
section
set_option Elab.async false
set_option linter.all false
set_option maxRecDepth 100000
set_option maxHeartbeats 4000000
namespace NL
open PySem PySem.Spec PyProof.Rows L2
open He (ga ma)
def top (i : Nat) : Stmt := PySem.Challenge.pw_neverlate_k84_whole_dominating_tables_ke.main.body.getD i (.Pass ⟨0, 0, 0, 0⟩)
abbrev s_make_ratio : Stmt := top 11
abbrev s_compare_ratios : Stmt := top 12
abbrev s_supply_of_first : Stmt := top 14
abbrev s_supply : Stmt := top 15
abbrev s_least_supply : Stmt := top 16
abbrev s_common_length : Stmt := top 18
abbrev s_first_shortage : Stmt := top 19
abbrev s_dominates : Stmt := top 20
abbrev s_rows : Stmt := top 22
abbrev s_own_work : Stmt := top 23
abbrev s_best_continuation : Stmt := top 24
abbrev s_demands : Stmt := top 25
abbrev s_system_demands : Stmt := top 26
abbrev s_heaviest : Stmt := top 27
abbrev s_best_step : Stmt := top 28
abbrev s_circuits : Stmt := top 30
abbrev s_extend_path : Stmt := top 31
abbrev s_circuit_mean : Stmt := top 32
abbrev s_best_circuit : Stmt := top 33
abbrev s_share : Stmt := top 34
abbrev s_way_weight : Stmt := top 36
abbrev s_weights : Stmt := top 37
abbrev s_improve : Stmt := top 38
abbrev s_linear_bound : Stmt := top 39
abbrev s_system_bound : Stmt := top 41
abbrev s_decisive_horizon : Stmt := top 42
abbrev s_shift : Stmt := top 44
abbrev s_greatest_deadline : Stmt := top 46
abbrev s_greatest_distance : Stmt := top 47
abbrev s_row_growth : Stmt := top 48
abbrev s_come_round : Stmt := top 49
abbrev s_rounds : Stmt := top 50
abbrev s_M_init : Stmt := inClass (top 52) 0
abbrev s_first_overfull : Stmt := top 53
abbrev s_is_decided : Stmt := top 54
abbrev s_first_miss : Stmt := top 55
abbrev s_is_name : Stmt := top 67
abbrev s_are_kinds : Stmt := top 68
abbrev s_are_ways : Stmt := top 69
abbrev s_is_table : Stmt := top 70
abbrev s_T_init : Stmt := inClass (top 71) 0
abbrev s_T_longest_distance : Stmt := inClass (top 71) 1
abbrev s_T_latest_deadline : Stmt := inClass (top 71) 2
abbrev s_T_kind_number : Stmt := inClass (top 71) 3
abbrev s_T_cost : Stmt := inClass (top 71) 4
abbrev s_T_deadline : Stmt := inClass (top 71) 5
abbrev s_T_ways_from : Stmt := inClass (top 71) 6
abbrev s_S_init : Stmt := inClass (top 72) 0
abbrev s_law_row : Stmt := top 74
abbrev s_law_numbers : Stmt := top 75
abbrev s_law_kinds : Stmt := top 76
abbrev s_law_ways : Stmt := top 77
abbrev s_law_course : Stmt := top 78
abbrev s_law_told : Stmt := top 79
abbrev s_law_jobs : Stmt := top 80
abbrev s_law_in_time : Stmt := top 81
abbrev s_law : Stmt := top 82
structure Df where
  at_ : PySem.W.Frag → Addr
  name : Str
  qual : Str
  st : Stmt
/-- the getter of a property -/
def pgAt (K : PySem.W.Frag) (C : Addr) (f : Str) : Addr := match PySem.W.findIn K (.ref C) f with
  | some (some (.ref p)) => (match PySem.W.recIn K p "property" with
    | some (.ref g :: _) => g
    | _ => 0)
  | _ => 0
def d_make_ratio : Df := ⟨fun K => ga K "make_ratio", "make_ratio", "make_ratio", s_make_ratio⟩
def d_compare_ratios : Df := ⟨fun K => ga K "compare_ratios", "compare_ratios", "compare_ratios", s_compare_ratios⟩
def d_supply_of_first : Df := ⟨fun K => ga K "supply_of_first", "supply_of_first", "supply_of_first", s_supply_of_first⟩
def d_supply : Df := ⟨fun K => ga K "supply", "supply", "supply", s_supply⟩
def d_least_supply : Df := ⟨fun K => ga K "least_supply", "least_supply", "least_supply", s_least_supply⟩
def d_common_length : Df := ⟨fun K => ga K "common_length", "common_length", "common_length", s_common_length⟩
def d_first_shortage : Df := ⟨fun K => ga K "first_shortage", "first_shortage", "first_shortage", s_first_shortage⟩
def d_dominates : Df := ⟨fun K => ga K "dominates", "dominates", "dominates", s_dominates⟩
def d_rows : Df := ⟨fun K => ga K "rows", "rows", "rows", s_rows⟩
def d_own_work : Df := ⟨fun K => ga K "own_work", "own_work", "own_work", s_own_work⟩
def d_best_continuation : Df := ⟨fun K => ga K "best_continuation", "best_continuation", "best_continuation", s_best_continuation⟩
def d_demands : Df := ⟨fun K => ga K "demands", "demands", "demands", s_demands⟩
def d_system_demands : Df := ⟨fun K => ga K "system_demands", "system_demands", "system_demands", s_system_demands⟩
def d_heaviest : Df := ⟨fun K => ga K "heaviest", "heaviest", "heaviest", s_heaviest⟩
def d_best_step : Df := ⟨fun K => ga K "best_step", "best_step", "best_step", s_best_step⟩
def d_circuits : Df := ⟨fun K => ga K "circuits", "circuits", "circuits", s_circuits⟩
def d_extend_path : Df := ⟨fun K => ga K "extend_path", "extend_path", "extend_path", s_extend_path⟩
def d_circuit_mean : Df := ⟨fun K => ga K "circuit_mean", "circuit_mean", "circuit_mean", s_circuit_mean⟩
def d_best_circuit : Df := ⟨fun K => ga K "best_circuit", "best_circuit", "best_circuit", s_best_circuit⟩
def d_share : Df := ⟨fun K => ga K "share", "share", "share", s_share⟩
def d_way_weight : Df := ⟨fun K => ga K "way_weight", "way_weight", "way_weight", s_way_weight⟩
def d_weights : Df := ⟨fun K => ga K "weights", "weights", "weights", s_weights⟩
def d_improve : Df := ⟨fun K => ga K "improve", "improve", "improve", s_improve⟩
def d_linear_bound : Df := ⟨fun K => ga K "linear_bound", "linear_bound", "linear_bound", s_linear_bound⟩
def d_system_bound : Df := ⟨fun K => ga K "system_bound", "system_bound", "system_bound", s_system_bound⟩
def d_decisive_horizon : Df := ⟨fun K => ga K "decisive_horizon", "decisive_horizon", "decisive_horizon", s_decisive_horizon⟩
def d_shift : Df := ⟨fun K => ga K "shift", "shift", "shift", s_shift⟩
def d_greatest_deadline : Df := ⟨fun K => ga K "greatest_deadline", "greatest_deadline", "greatest_deadline", s_greatest_deadline⟩
def d_greatest_distance : Df := ⟨fun K => ga K "greatest_distance", "greatest_distance", "greatest_distance", s_greatest_distance⟩
def d_row_growth : Df := ⟨fun K => ga K "row_growth", "row_growth", "row_growth", s_row_growth⟩
def d_come_round : Df := ⟨fun K => ga K "come_round", "come_round", "come_round", s_come_round⟩
def d_rounds : Df := ⟨fun K => ga K "rounds", "rounds", "rounds", s_rounds⟩
def d_M_init : Df := ⟨fun K => ma K (ga K "Miss") "__init__", "__init__", "Miss.__init__", s_M_init⟩
def d_first_overfull : Df := ⟨fun K => ga K "first_overfull", "first_overfull", "first_overfull", s_first_overfull⟩
def d_is_decided : Df := ⟨fun K => ga K "is_decided", "is_decided", "is_decided", s_is_decided⟩
def d_first_miss : Df := ⟨fun K => ga K "first_miss", "first_miss", "first_miss", s_first_miss⟩
def d_is_name : Df := ⟨fun K => ga K "is_name", "is_name", "is_name", s_is_name⟩
def d_are_kinds : Df := ⟨fun K => ga K "are_kinds", "are_kinds", "are_kinds", s_are_kinds⟩
def d_are_ways : Df := ⟨fun K => ga K "are_ways", "are_ways", "are_ways", s_are_ways⟩
def d_is_table : Df := ⟨fun K => ga K "is_table", "is_table", "is_table", s_is_table⟩
def d_T_init : Df := ⟨fun K => ma K (ga K "Task") "__init__", "__init__", "Task.__init__", s_T_init⟩
def d_T_longest_distance : Df := ⟨fun K => pgAt K (ga K "Task") "longest_distance", "longest_distance", "Task.longest_distance", s_T_longest_distance⟩
def d_T_latest_deadline : Df := ⟨fun K => pgAt K (ga K "Task") "latest_deadline", "latest_deadline", "Task.latest_deadline", s_T_latest_deadline⟩
def d_T_kind_number : Df := ⟨fun K => ma K (ga K "Task") "kind_number", "kind_number", "Task.kind_number", s_T_kind_number⟩
def d_T_cost : Df := ⟨fun K => ma K (ga K "Task") "cost", "cost", "Task.cost", s_T_cost⟩
def d_T_deadline : Df := ⟨fun K => ma K (ga K "Task") "deadline", "deadline", "Task.deadline", s_T_deadline⟩
def d_T_ways_from : Df := ⟨fun K => ma K (ga K "Task") "ways_from", "ways_from", "Task.ways_from", s_T_ways_from⟩
def d_S_init : Df := ⟨fun K => ma K (ga K "System") "__init__", "__init__", "System.__init__", s_S_init⟩
def d_law_row : Df := ⟨fun K => ga K "_law_row", "_law_row", "_law_row", s_law_row⟩
def d_law_numbers : Df := ⟨fun K => ga K "_law_numbers", "_law_numbers", "_law_numbers", s_law_numbers⟩
def d_law_kinds : Df := ⟨fun K => ga K "_law_kinds", "_law_kinds", "_law_kinds", s_law_kinds⟩
def d_law_ways : Df := ⟨fun K => ga K "_law_ways", "_law_ways", "_law_ways", s_law_ways⟩
def d_law_course : Df := ⟨fun K => ga K "_law_course", "_law_course", "_law_course", s_law_course⟩
def d_law_told : Df := ⟨fun K => ga K "_law_told", "_law_told", "_law_told", s_law_told⟩
def d_law_jobs : Df := ⟨fun K => ga K "_law_jobs", "_law_jobs", "_law_jobs", s_law_jobs⟩
def d_law_in_time : Df := ⟨fun K => ga K "_law_in_time", "_law_in_time", "_law_in_time", s_law_in_time⟩
def d_law : Df := ⟨fun K => ga K "law", "law", "law", s_law⟩
def fns : List Df := [d_make_ratio, d_compare_ratios, d_supply_of_first, d_supply, d_least_supply, d_common_length, d_first_shortage, d_dominates, d_rows, d_own_work, d_best_continuation, d_demands, d_system_demands, d_heaviest, d_best_step, d_circuits, d_extend_path, d_circuit_mean, d_best_circuit, d_share, d_way_weight, d_weights, d_improve, d_linear_bound, d_system_bound, d_decisive_horizon, d_shift, d_greatest_deadline, d_greatest_distance, d_row_growth, d_come_round, d_rounds, d_M_init, d_first_overfull, d_is_decided, d_first_miss, d_is_name, d_are_kinds, d_are_ways, d_is_table, d_T_init, d_T_longest_distance, d_T_latest_deadline, d_T_kind_number, d_T_cost, d_T_deadline, d_T_ways_from, d_S_init, d_law_row, d_law_numbers, d_law_kinds, d_law_ways, d_law_course, d_law_told, d_law_jobs, d_law_in_time, d_law]
def glos0 : List Str := ["NeverlateError", "InvalidRatio", "InvalidTask", "InvalidTable", "InvalidSystem", "UnknownName", "Undecided", "make_ratio", "compare_ratios", "supply_of_first", "supply", "least_supply", "common_length", "first_shortage", "dominates", "rows", "own_work", "best_continuation", "demands", "system_demands", "heaviest", "best_step", "circuits", "extend_path", "circuit_mean", "best_circuit", "share", "way_weight", "weights", "improve"]
def glos1 : List Str := ["linear_bound", "system_bound", "decisive_horizon", "shift", "greatest_deadline", "greatest_distance", "row_growth", "come_round", "rounds", "Miss", "first_overfull", "is_decided", "first_miss", "is_name", "are_kinds", "are_ways", "is_table", "Task", "System", "_law_row", "_law_numbers", "_law_kinds", "_law_ways", "_law_course", "_law_told", "_law_jobs", "_law_in_time", "law"]
def glos : List Str := glos0 ++ glos1
def frees : List Str := ["len", "range", "sum", "min", "max", "enumerate", "divmod", "all", "list", "tuple", "int", "sorted", "abs", "super"]
def intsL : List (Str × Int) := [("MOST_NAME_CHARS", 12), ("MOST_KINDS", 8), ("MOST_WAYS", 16), ("MOST_COST", 1000), ("MOST_DEADLINE", 1000), ("MOST_DISTANCE", 1000), ("MOST_TASKS", 6), ("MOST_SLOTS", 1001), ("MOST_CAPACITY", 1000000)]
structure Tx (K : PySem.W.Frag) (mg : Str → Option Value) : Prop where
  d : ∀ {i : Nat} {x : Df}, fns[i]? = some x → ∃ fd, FunD K x.name x.qual (defArgs x.st) (defBody x.st) (defScope x.st) [] [] (x.at_ K) fd
  g : ∀ {i : Nat} {x : Str}, glos[i]? = some x → mg x = some (.ref (ga K x))
  fr : ∀ {i : Nat} {x : Str}, frees[i]? = some x → mg x = none
  int : ∀ {i : Nat} {p : Str × Int}, intsL[i]? = some p → ∃ t, mg p.1 = some (.int p.2 t)
  nc : ∃ t, mg "NAME_CHARS" = some (.str "abcdefghijklmnopqrstuvwxyz0123456789" t)
  gcd : mg "gcd" = some (.builtin "math.gcd")
  lcm : mg "lcm" = some (.builtin "math.lcm")
  cT : Cls K (ga K "Task")
  cS : Cls K (ga K "System")
  cM : Cls K (ga K "Miss")
  mkT : Mk K (ga K "Task") (ma K (ga K "Task") "__init__")
  mkS : Mk K (ga K "System") (ma K (ga K "System") "__init__")
  mkM : Mk K (ga K "Miss") (ma K (ga K "Miss") "__init__")
  mT1 : Meth K (ga K "Task") "kind_number" (ma K (ga K "Task") "kind_number")
  mT2 : Meth K (ga K "Task") "cost" (ma K (ga K "Task") "cost")
  mT3 : Meth K (ga K "Task") "deadline" (ma K (ga K "Task") "deadline")
  mT4 : Meth K (ga K "Task") "ways_from" (ma K (ga K "Task") "ways_from")
  nT1 : NoAttr K (ga K "Task") "name"
  nT2 : NoAttr K (ga K "Task") "kinds"
  nT3 : NoAttr K (ga K "Task") "ways"
  nS1 : NoAttr K (ga K "System") "tasks"
  nS2 : NoAttr K (ga K "System") "table"
  nM1 : NoAttr K (ga K "Miss") "instant"
  nM2 : NoAttr K (ga K "Miss") "start"
  nM3 : NoAttr K (ga K "Miss") "releases"
  p1 : ∃ p, PropOf K (ga K "Task") "longest_distance" p (pgAt K (ga K "Task") "longest_distance")
  p2 : ∃ p, PropOf K (ga K "Task") "latest_deadline" p (pgAt K (ga K "Task") "latest_deadline")
section
variable {K : PySem.W.Frag} {mg : Str → Option Value}
theorem Tx.f_make_ratio (T : Tx K mg) : ∃ fd, FunD K "make_ratio" "make_ratio" (defArgs s_make_ratio) (defBody s_make_ratio) (defScope s_make_ratio) [] [] (d_make_ratio.at_ K) fd := T.d (i := 0) (x := d_make_ratio) rfl
theorem Tx.f_compare_ratios (T : Tx K mg) : ∃ fd, FunD K "compare_ratios" "compare_ratios" (defArgs s_compare_ratios) (defBody s_compare_ratios) (defScope s_compare_ratios) [] [] (d_compare_ratios.at_ K) fd := T.d (i := 1) (x := d_compare_ratios) rfl
theorem Tx.f_supply_of_first (T : Tx K mg) : ∃ fd, FunD K "supply_of_first" "supply_of_first" (defArgs s_supply_of_first) (defBody s_supply_of_first) (defScope s_supply_of_first) [] [] (d_supply_of_first.at_ K) fd := T.d (i := 2) (x := d_supply_of_first) rfl
theorem Tx.f_supply (T : Tx K mg) : ∃ fd, FunD K "supply" "supply" (defArgs s_supply) (defBody s_supply) (defScope s_supply) [] [] (d_supply.at_ K) fd := T.d (i := 3) (x := d_supply) rfl
theorem Tx.f_least_supply (T : Tx K mg) : ∃ fd, FunD K "least_supply" "least_supply" (defArgs s_least_supply) (defBody s_least_supply) (defScope s_least_supply) [] [] (d_least_supply.at_ K) fd := T.d (i := 4) (x := d_least_supply) rfl
theorem Tx.f_common_length (T : Tx K mg) : ∃ fd, FunD K "common_length" "common_length" (defArgs s_common_length) (defBody s_common_length) (defScope s_common_length) [] [] (d_common_length.at_ K) fd := T.d (i := 5) (x := d_common_length) rfl
theorem Tx.f_first_shortage (T : Tx K mg) : ∃ fd, FunD K "first_shortage" "first_shortage" (defArgs s_first_shortage) (defBody s_first_shortage) (defScope s_first_shortage) [] [] (d_first_shortage.at_ K) fd := T.d (i := 6) (x := d_first_shortage) rfl
theorem Tx.f_dominates (T : Tx K mg) : ∃ fd, FunD K "dominates" "dominates" (defArgs s_dominates) (defBody s_dominates) (defScope s_dominates) [] [] (d_dominates.at_ K) fd := T.d (i := 7) (x := d_dominates) rfl
theorem Tx.f_rows (T : Tx K mg) : ∃ fd, FunD K "rows" "rows" (defArgs s_rows) (defBody s_rows) (defScope s_rows) [] [] (d_rows.at_ K) fd := T.d (i := 8) (x := d_rows) rfl
theorem Tx.f_own_work (T : Tx K mg) : ∃ fd, FunD K "own_work" "own_work" (defArgs s_own_work) (defBody s_own_work) (defScope s_own_work) [] [] (d_own_work.at_ K) fd := T.d (i := 9) (x := d_own_work) rfl
theorem Tx.f_best_continuation (T : Tx K mg) : ∃ fd, FunD K "best_continuation" "best_continuation" (defArgs s_best_continuation) (defBody s_best_continuation) (defScope s_best_continuation) [] [] (d_best_continuation.at_ K) fd := T.d (i := 10) (x := d_best_continuation) rfl
theorem Tx.f_demands (T : Tx K mg) : ∃ fd, FunD K "demands" "demands" (defArgs s_demands) (defBody s_demands) (defScope s_demands) [] [] (d_demands.at_ K) fd := T.d (i := 11) (x := d_demands) rfl
theorem Tx.f_system_demands (T : Tx K mg) : ∃ fd, FunD K "system_demands" "system_demands" (defArgs s_system_demands) (defBody s_system_demands) (defScope s_system_demands) [] [] (d_system_demands.at_ K) fd := T.d (i := 12) (x := d_system_demands) rfl
theorem Tx.f_heaviest (T : Tx K mg) : ∃ fd, FunD K "heaviest" "heaviest" (defArgs s_heaviest) (defBody s_heaviest) (defScope s_heaviest) [] [] (d_heaviest.at_ K) fd := T.d (i := 13) (x := d_heaviest) rfl
theorem Tx.f_best_step (T : Tx K mg) : ∃ fd, FunD K "best_step" "best_step" (defArgs s_best_step) (defBody s_best_step) (defScope s_best_step) [] [] (d_best_step.at_ K) fd := T.d (i := 14) (x := d_best_step) rfl
theorem Tx.f_circuits (T : Tx K mg) : ∃ fd, FunD K "circuits" "circuits" (defArgs s_circuits) (defBody s_circuits) (defScope s_circuits) [] [] (d_circuits.at_ K) fd := T.d (i := 15) (x := d_circuits) rfl
theorem Tx.f_extend_path (T : Tx K mg) : ∃ fd, FunD K "extend_path" "extend_path" (defArgs s_extend_path) (defBody s_extend_path) (defScope s_extend_path) [] [] (d_extend_path.at_ K) fd := T.d (i := 16) (x := d_extend_path) rfl
theorem Tx.f_circuit_mean (T : Tx K mg) : ∃ fd, FunD K "circuit_mean" "circuit_mean" (defArgs s_circuit_mean) (defBody s_circuit_mean) (defScope s_circuit_mean) [] [] (d_circuit_mean.at_ K) fd := T.d (i := 17) (x := d_circuit_mean) rfl
theorem Tx.f_best_circuit (T : Tx K mg) : ∃ fd, FunD K "best_circuit" "best_circuit" (defArgs s_best_circuit) (defBody s_best_circuit) (defScope s_best_circuit) [] [] (d_best_circuit.at_ K) fd := T.d (i := 18) (x := d_best_circuit) rfl
theorem Tx.f_share (T : Tx K mg) : ∃ fd, FunD K "share" "share" (defArgs s_share) (defBody s_share) (defScope s_share) [] [] (d_share.at_ K) fd := T.d (i := 19) (x := d_share) rfl
theorem Tx.f_way_weight (T : Tx K mg) : ∃ fd, FunD K "way_weight" "way_weight" (defArgs s_way_weight) (defBody s_way_weight) (defScope s_way_weight) [] [] (d_way_weight.at_ K) fd := T.d (i := 20) (x := d_way_weight) rfl
theorem Tx.f_weights (T : Tx K mg) : ∃ fd, FunD K "weights" "weights" (defArgs s_weights) (defBody s_weights) (defScope s_weights) [] [] (d_weights.at_ K) fd := T.d (i := 21) (x := d_weights) rfl
theorem Tx.f_improve (T : Tx K mg) : ∃ fd, FunD K "improve" "improve" (defArgs s_improve) (defBody s_improve) (defScope s_improve) [] [] (d_improve.at_ K) fd := T.d (i := 22) (x := d_improve) rfl
theorem Tx.f_linear_bound (T : Tx K mg) : ∃ fd, FunD K "linear_bound" "linear_bound" (defArgs s_linear_bound) (defBody s_linear_bound) (defScope s_linear_bound) [] [] (d_linear_bound.at_ K) fd := T.d (i := 23) (x := d_linear_bound) rfl
theorem Tx.f_system_bound (T : Tx K mg) : ∃ fd, FunD K "system_bound" "system_bound" (defArgs s_system_bound) (defBody s_system_bound) (defScope s_system_bound) [] [] (d_system_bound.at_ K) fd := T.d (i := 24) (x := d_system_bound) rfl
theorem Tx.f_decisive_horizon (T : Tx K mg) : ∃ fd, FunD K "decisive_horizon" "decisive_horizon" (defArgs s_decisive_horizon) (defBody s_decisive_horizon) (defScope s_decisive_horizon) [] [] (d_decisive_horizon.at_ K) fd := T.d (i := 25) (x := d_decisive_horizon) rfl
theorem Tx.f_shift (T : Tx K mg) : ∃ fd, FunD K "shift" "shift" (defArgs s_shift) (defBody s_shift) (defScope s_shift) [] [] (d_shift.at_ K) fd := T.d (i := 26) (x := d_shift) rfl
theorem Tx.f_greatest_deadline (T : Tx K mg) : ∃ fd, FunD K "greatest_deadline" "greatest_deadline" (defArgs s_greatest_deadline) (defBody s_greatest_deadline) (defScope s_greatest_deadline) [] [] (d_greatest_deadline.at_ K) fd := T.d (i := 27) (x := d_greatest_deadline) rfl
theorem Tx.f_greatest_distance (T : Tx K mg) : ∃ fd, FunD K "greatest_distance" "greatest_distance" (defArgs s_greatest_distance) (defBody s_greatest_distance) (defScope s_greatest_distance) [] [] (d_greatest_distance.at_ K) fd := T.d (i := 28) (x := d_greatest_distance) rfl
theorem Tx.f_row_growth (T : Tx K mg) : ∃ fd, FunD K "row_growth" "row_growth" (defArgs s_row_growth) (defBody s_row_growth) (defScope s_row_growth) [] [] (d_row_growth.at_ K) fd := T.d (i := 29) (x := d_row_growth) rfl
theorem Tx.f_come_round (T : Tx K mg) : ∃ fd, FunD K "come_round" "come_round" (defArgs s_come_round) (defBody s_come_round) (defScope s_come_round) [] [] (d_come_round.at_ K) fd := T.d (i := 30) (x := d_come_round) rfl
theorem Tx.f_rounds (T : Tx K mg) : ∃ fd, FunD K "rounds" "rounds" (defArgs s_rounds) (defBody s_rounds) (defScope s_rounds) [] [] (d_rounds.at_ K) fd := T.d (i := 31) (x := d_rounds) rfl
theorem Tx.f_M_init (T : Tx K mg) : ∃ fd, FunD K "__init__" "Miss.__init__" (defArgs s_M_init) (defBody s_M_init) (defScope s_M_init) [] [] (d_M_init.at_ K) fd := T.d (i := 32) (x := d_M_init) rfl
theorem Tx.f_first_overfull (T : Tx K mg) : ∃ fd, FunD K "first_overfull" "first_overfull" (defArgs s_first_overfull) (defBody s_first_overfull) (defScope s_first_overfull) [] [] (d_first_overfull.at_ K) fd := T.d (i := 33) (x := d_first_overfull) rfl
theorem Tx.f_is_decided (T : Tx K mg) : ∃ fd, FunD K "is_decided" "is_decided" (defArgs s_is_decided) (defBody s_is_decided) (defScope s_is_decided) [] [] (d_is_decided.at_ K) fd := T.d (i := 34) (x := d_is_decided) rfl
theorem Tx.f_first_miss (T : Tx K mg) : ∃ fd, FunD K "first_miss" "first_miss" (defArgs s_first_miss) (defBody s_first_miss) (defScope s_first_miss) [] [] (d_first_miss.at_ K) fd := T.d (i := 35) (x := d_first_miss) rfl
theorem Tx.f_is_name (T : Tx K mg) : ∃ fd, FunD K "is_name" "is_name" (defArgs s_is_name) (defBody s_is_name) (defScope s_is_name) [] [] (d_is_name.at_ K) fd := T.d (i := 36) (x := d_is_name) rfl
theorem Tx.f_are_kinds (T : Tx K mg) : ∃ fd, FunD K "are_kinds" "are_kinds" (defArgs s_are_kinds) (defBody s_are_kinds) (defScope s_are_kinds) [] [] (d_are_kinds.at_ K) fd := T.d (i := 37) (x := d_are_kinds) rfl
theorem Tx.f_are_ways (T : Tx K mg) : ∃ fd, FunD K "are_ways" "are_ways" (defArgs s_are_ways) (defBody s_are_ways) (defScope s_are_ways) [] [] (d_are_ways.at_ K) fd := T.d (i := 38) (x := d_are_ways) rfl
theorem Tx.f_is_table (T : Tx K mg) : ∃ fd, FunD K "is_table" "is_table" (defArgs s_is_table) (defBody s_is_table) (defScope s_is_table) [] [] (d_is_table.at_ K) fd := T.d (i := 39) (x := d_is_table) rfl
theorem Tx.f_T_init (T : Tx K mg) : ∃ fd, FunD K "__init__" "Task.__init__" (defArgs s_T_init) (defBody s_T_init) (defScope s_T_init) [] [] (d_T_init.at_ K) fd := T.d (i := 40) (x := d_T_init) rfl
theorem Tx.f_T_longest_distance (T : Tx K mg) : ∃ fd, FunD K "longest_distance" "Task.longest_distance" (defArgs s_T_longest_distance) (defBody s_T_longest_distance) (defScope s_T_longest_distance) [] [] (d_T_longest_distance.at_ K) fd := T.d (i := 41) (x := d_T_longest_distance) rfl
theorem Tx.f_T_latest_deadline (T : Tx K mg) : ∃ fd, FunD K "latest_deadline" "Task.latest_deadline" (defArgs s_T_latest_deadline) (defBody s_T_latest_deadline) (defScope s_T_latest_deadline) [] [] (d_T_latest_deadline.at_ K) fd := T.d (i := 42) (x := d_T_latest_deadline) rfl
theorem Tx.f_T_kind_number (T : Tx K mg) : ∃ fd, FunD K "kind_number" "Task.kind_number" (defArgs s_T_kind_number) (defBody s_T_kind_number) (defScope s_T_kind_number) [] [] (d_T_kind_number.at_ K) fd := T.d (i := 43) (x := d_T_kind_number) rfl
theorem Tx.f_T_cost (T : Tx K mg) : ∃ fd, FunD K "cost" "Task.cost" (defArgs s_T_cost) (defBody s_T_cost) (defScope s_T_cost) [] [] (d_T_cost.at_ K) fd := T.d (i := 44) (x := d_T_cost) rfl
theorem Tx.f_T_deadline (T : Tx K mg) : ∃ fd, FunD K "deadline" "Task.deadline" (defArgs s_T_deadline) (defBody s_T_deadline) (defScope s_T_deadline) [] [] (d_T_deadline.at_ K) fd := T.d (i := 45) (x := d_T_deadline) rfl
theorem Tx.f_T_ways_from (T : Tx K mg) : ∃ fd, FunD K "ways_from" "Task.ways_from" (defArgs s_T_ways_from) (defBody s_T_ways_from) (defScope s_T_ways_from) [] [] (d_T_ways_from.at_ K) fd := T.d (i := 46) (x := d_T_ways_from) rfl
theorem Tx.f_S_init (T : Tx K mg) : ∃ fd, FunD K "__init__" "System.__init__" (defArgs s_S_init) (defBody s_S_init) (defScope s_S_init) [] [] (d_S_init.at_ K) fd := T.d (i := 47) (x := d_S_init) rfl
theorem Tx.f_law_row (T : Tx K mg) : ∃ fd, FunD K "_law_row" "_law_row" (defArgs s_law_row) (defBody s_law_row) (defScope s_law_row) [] [] (d_law_row.at_ K) fd := T.d (i := 48) (x := d_law_row) rfl
theorem Tx.f_law_numbers (T : Tx K mg) : ∃ fd, FunD K "_law_numbers" "_law_numbers" (defArgs s_law_numbers) (defBody s_law_numbers) (defScope s_law_numbers) [] [] (d_law_numbers.at_ K) fd := T.d (i := 49) (x := d_law_numbers) rfl
theorem Tx.f_law_kinds (T : Tx K mg) : ∃ fd, FunD K "_law_kinds" "_law_kinds" (defArgs s_law_kinds) (defBody s_law_kinds) (defScope s_law_kinds) [] [] (d_law_kinds.at_ K) fd := T.d (i := 50) (x := d_law_kinds) rfl
theorem Tx.f_law_ways (T : Tx K mg) : ∃ fd, FunD K "_law_ways" "_law_ways" (defArgs s_law_ways) (defBody s_law_ways) (defScope s_law_ways) [] [] (d_law_ways.at_ K) fd := T.d (i := 51) (x := d_law_ways) rfl
theorem Tx.f_law_course (T : Tx K mg) : ∃ fd, FunD K "_law_course" "_law_course" (defArgs s_law_course) (defBody s_law_course) (defScope s_law_course) [] [] (d_law_course.at_ K) fd := T.d (i := 52) (x := d_law_course) rfl
theorem Tx.f_law_told (T : Tx K mg) : ∃ fd, FunD K "_law_told" "_law_told" (defArgs s_law_told) (defBody s_law_told) (defScope s_law_told) [] [] (d_law_told.at_ K) fd := T.d (i := 53) (x := d_law_told) rfl
theorem Tx.f_law_jobs (T : Tx K mg) : ∃ fd, FunD K "_law_jobs" "_law_jobs" (defArgs s_law_jobs) (defBody s_law_jobs) (defScope s_law_jobs) [] [] (d_law_jobs.at_ K) fd := T.d (i := 54) (x := d_law_jobs) rfl
theorem Tx.f_law_in_time (T : Tx K mg) : ∃ fd, FunD K "_law_in_time" "_law_in_time" (defArgs s_law_in_time) (defBody s_law_in_time) (defScope s_law_in_time) [] [] (d_law_in_time.at_ K) fd := T.d (i := 55) (x := d_law_in_time) rfl
theorem Tx.f_law (T : Tx K mg) : ∃ fd, FunD K "law" "law" (defArgs s_law) (defBody s_law) (defScope s_law) [] [] (d_law.at_ K) fd := T.d (i := 56) (x := d_law) rfl
theorem Tx.g_NeverlateError (T : Tx K mg) : mg "NeverlateError" = some (.ref (ga K "NeverlateError")) := T.g (i := 0) rfl
theorem Tx.g_InvalidRatio (T : Tx K mg) : mg "InvalidRatio" = some (.ref (ga K "InvalidRatio")) := T.g (i := 1) rfl
theorem Tx.g_InvalidTask (T : Tx K mg) : mg "InvalidTask" = some (.ref (ga K "InvalidTask")) := T.g (i := 2) rfl
theorem Tx.g_InvalidTable (T : Tx K mg) : mg "InvalidTable" = some (.ref (ga K "InvalidTable")) := T.g (i := 3) rfl
theorem Tx.g_InvalidSystem (T : Tx K mg) : mg "InvalidSystem" = some (.ref (ga K "InvalidSystem")) := T.g (i := 4) rfl
theorem Tx.g_UnknownName (T : Tx K mg) : mg "UnknownName" = some (.ref (ga K "UnknownName")) := T.g (i := 5) rfl
theorem Tx.g_Undecided (T : Tx K mg) : mg "Undecided" = some (.ref (ga K "Undecided")) := T.g (i := 6) rfl
theorem Tx.g_make_ratio (T : Tx K mg) : mg "make_ratio" = some (.ref (ga K "make_ratio")) := T.g (i := 7) rfl
theorem Tx.g_compare_ratios (T : Tx K mg) : mg "compare_ratios" = some (.ref (ga K "compare_ratios")) := T.g (i := 8) rfl
theorem Tx.g_supply_of_first (T : Tx K mg) : mg "supply_of_first" = some (.ref (ga K "supply_of_first")) := T.g (i := 9) rfl
theorem Tx.g_supply (T : Tx K mg) : mg "supply" = some (.ref (ga K "supply")) := T.g (i := 10) rfl
theorem Tx.g_least_supply (T : Tx K mg) : mg "least_supply" = some (.ref (ga K "least_supply")) := T.g (i := 11) rfl
theorem Tx.g_common_length (T : Tx K mg) : mg "common_length" = some (.ref (ga K "common_length")) := T.g (i := 12) rfl
theorem Tx.g_first_shortage (T : Tx K mg) : mg "first_shortage" = some (.ref (ga K "first_shortage")) := T.g (i := 13) rfl
theorem Tx.g_dominates (T : Tx K mg) : mg "dominates" = some (.ref (ga K "dominates")) := T.g (i := 14) rfl
theorem Tx.g_rows (T : Tx K mg) : mg "rows" = some (.ref (ga K "rows")) := T.g (i := 15) rfl
theorem Tx.g_own_work (T : Tx K mg) : mg "own_work" = some (.ref (ga K "own_work")) := T.g (i := 16) rfl
theorem Tx.g_best_continuation (T : Tx K mg) : mg "best_continuation" = some (.ref (ga K "best_continuation")) := T.g (i := 17) rfl
theorem Tx.g_demands (T : Tx K mg) : mg "demands" = some (.ref (ga K "demands")) := T.g (i := 18) rfl
theorem Tx.g_system_demands (T : Tx K mg) : mg "system_demands" = some (.ref (ga K "system_demands")) := T.g (i := 19) rfl
theorem Tx.g_heaviest (T : Tx K mg) : mg "heaviest" = some (.ref (ga K "heaviest")) := T.g (i := 20) rfl
theorem Tx.g_best_step (T : Tx K mg) : mg "best_step" = some (.ref (ga K "best_step")) := T.g (i := 21) rfl
theorem Tx.g_circuits (T : Tx K mg) : mg "circuits" = some (.ref (ga K "circuits")) := T.g (i := 22) rfl
theorem Tx.g_extend_path (T : Tx K mg) : mg "extend_path" = some (.ref (ga K "extend_path")) := T.g (i := 23) rfl
theorem Tx.g_circuit_mean (T : Tx K mg) : mg "circuit_mean" = some (.ref (ga K "circuit_mean")) := T.g (i := 24) rfl
theorem Tx.g_best_circuit (T : Tx K mg) : mg "best_circuit" = some (.ref (ga K "best_circuit")) := T.g (i := 25) rfl
theorem Tx.g_share (T : Tx K mg) : mg "share" = some (.ref (ga K "share")) := T.g (i := 26) rfl
theorem Tx.g_way_weight (T : Tx K mg) : mg "way_weight" = some (.ref (ga K "way_weight")) := T.g (i := 27) rfl
theorem Tx.g_weights (T : Tx K mg) : mg "weights" = some (.ref (ga K "weights")) := T.g (i := 28) rfl
theorem Tx.g_improve (T : Tx K mg) : mg "improve" = some (.ref (ga K "improve")) := T.g (i := 29) rfl
theorem Tx.g_linear_bound (T : Tx K mg) : mg "linear_bound" = some (.ref (ga K "linear_bound")) := T.g (i := 30) rfl
theorem Tx.g_system_bound (T : Tx K mg) : mg "system_bound" = some (.ref (ga K "system_bound")) := T.g (i := 31) rfl
theorem Tx.g_decisive_horizon (T : Tx K mg) : mg "decisive_horizon" = some (.ref (ga K "decisive_horizon")) := T.g (i := 32) rfl
theorem Tx.g_shift (T : Tx K mg) : mg "shift" = some (.ref (ga K "shift")) := T.g (i := 33) rfl
theorem Tx.g_greatest_deadline (T : Tx K mg) : mg "greatest_deadline" = some (.ref (ga K "greatest_deadline")) := T.g (i := 34) rfl
theorem Tx.g_greatest_distance (T : Tx K mg) : mg "greatest_distance" = some (.ref (ga K "greatest_distance")) := T.g (i := 35) rfl
theorem Tx.g_row_growth (T : Tx K mg) : mg "row_growth" = some (.ref (ga K "row_growth")) := T.g (i := 36) rfl
theorem Tx.g_come_round (T : Tx K mg) : mg "come_round" = some (.ref (ga K "come_round")) := T.g (i := 37) rfl
theorem Tx.g_rounds (T : Tx K mg) : mg "rounds" = some (.ref (ga K "rounds")) := T.g (i := 38) rfl
theorem Tx.g_Miss (T : Tx K mg) : mg "Miss" = some (.ref (ga K "Miss")) := T.g (i := 39) rfl
theorem Tx.g_first_overfull (T : Tx K mg) : mg "first_overfull" = some (.ref (ga K "first_overfull")) := T.g (i := 40) rfl
theorem Tx.g_is_decided (T : Tx K mg) : mg "is_decided" = some (.ref (ga K "is_decided")) := T.g (i := 41) rfl
theorem Tx.g_first_miss (T : Tx K mg) : mg "first_miss" = some (.ref (ga K "first_miss")) := T.g (i := 42) rfl
theorem Tx.g_is_name (T : Tx K mg) : mg "is_name" = some (.ref (ga K "is_name")) := T.g (i := 43) rfl
theorem Tx.g_are_kinds (T : Tx K mg) : mg "are_kinds" = some (.ref (ga K "are_kinds")) := T.g (i := 44) rfl
theorem Tx.g_are_ways (T : Tx K mg) : mg "are_ways" = some (.ref (ga K "are_ways")) := T.g (i := 45) rfl
theorem Tx.g_is_table (T : Tx K mg) : mg "is_table" = some (.ref (ga K "is_table")) := T.g (i := 46) rfl
theorem Tx.g_Task (T : Tx K mg) : mg "Task" = some (.ref (ga K "Task")) := T.g (i := 47) rfl
theorem Tx.g_System (T : Tx K mg) : mg "System" = some (.ref (ga K "System")) := T.g (i := 48) rfl
theorem Tx.g_law_row (T : Tx K mg) : mg "_law_row" = some (.ref (ga K "_law_row")) := T.g (i := 49) rfl
theorem Tx.g_law_numbers (T : Tx K mg) : mg "_law_numbers" = some (.ref (ga K "_law_numbers")) := T.g (i := 50) rfl
theorem Tx.g_law_kinds (T : Tx K mg) : mg "_law_kinds" = some (.ref (ga K "_law_kinds")) := T.g (i := 51) rfl
theorem Tx.g_law_ways (T : Tx K mg) : mg "_law_ways" = some (.ref (ga K "_law_ways")) := T.g (i := 52) rfl
theorem Tx.g_law_course (T : Tx K mg) : mg "_law_course" = some (.ref (ga K "_law_course")) := T.g (i := 53) rfl
theorem Tx.g_law_told (T : Tx K mg) : mg "_law_told" = some (.ref (ga K "_law_told")) := T.g (i := 54) rfl
theorem Tx.g_law_jobs (T : Tx K mg) : mg "_law_jobs" = some (.ref (ga K "_law_jobs")) := T.g (i := 55) rfl
theorem Tx.g_law_in_time (T : Tx K mg) : mg "_law_in_time" = some (.ref (ga K "_law_in_time")) := T.g (i := 56) rfl
theorem Tx.g_law (T : Tx K mg) : mg "law" = some (.ref (ga K "law")) := T.g (i := 57) rfl
theorem Tx.b_len (T : Tx K mg) : mg "len" = none := T.fr (i := 0) rfl
theorem Tx.b_range (T : Tx K mg) : mg "range" = none := T.fr (i := 1) rfl
theorem Tx.b_sum (T : Tx K mg) : mg "sum" = none := T.fr (i := 2) rfl
theorem Tx.b_min (T : Tx K mg) : mg "min" = none := T.fr (i := 3) rfl
theorem Tx.b_max (T : Tx K mg) : mg "max" = none := T.fr (i := 4) rfl
theorem Tx.b_enumerate (T : Tx K mg) : mg "enumerate" = none := T.fr (i := 5) rfl
theorem Tx.b_divmod (T : Tx K mg) : mg "divmod" = none := T.fr (i := 6) rfl
theorem Tx.b_all (T : Tx K mg) : mg "all" = none := T.fr (i := 7) rfl
theorem Tx.b_list (T : Tx K mg) : mg "list" = none := T.fr (i := 8) rfl
theorem Tx.b_tuple (T : Tx K mg) : mg "tuple" = none := T.fr (i := 9) rfl
theorem Tx.b_int (T : Tx K mg) : mg "int" = none := T.fr (i := 10) rfl
theorem Tx.b_sorted (T : Tx K mg) : mg "sorted" = none := T.fr (i := 11) rfl
theorem Tx.b_abs (T : Tx K mg) : mg "abs" = none := T.fr (i := 12) rfl
theorem Tx.b_super (T : Tx K mg) : mg "super" = none := T.fr (i := 13) rfl
theorem Tx.i_MOST_NAME_CHARS (T : Tx K mg) : ∃ t, mg "MOST_NAME_CHARS" = some (.int 12 t) := T.int (i := 0) (p := ("MOST_NAME_CHARS", 12)) rfl
theorem Tx.i_MOST_KINDS (T : Tx K mg) : ∃ t, mg "MOST_KINDS" = some (.int 8 t) := T.int (i := 1) (p := ("MOST_KINDS", 8)) rfl
theorem Tx.i_MOST_WAYS (T : Tx K mg) : ∃ t, mg "MOST_WAYS" = some (.int 16 t) := T.int (i := 2) (p := ("MOST_WAYS", 16)) rfl
theorem Tx.i_MOST_COST (T : Tx K mg) : ∃ t, mg "MOST_COST" = some (.int 1000 t) := T.int (i := 3) (p := ("MOST_COST", 1000)) rfl
theorem Tx.i_MOST_DEADLINE (T : Tx K mg) : ∃ t, mg "MOST_DEADLINE" = some (.int 1000 t) := T.int (i := 4) (p := ("MOST_DEADLINE", 1000)) rfl
theorem Tx.i_MOST_DISTANCE (T : Tx K mg) : ∃ t, mg "MOST_DISTANCE" = some (.int 1000 t) := T.int (i := 5) (p := ("MOST_DISTANCE", 1000)) rfl
theorem Tx.i_MOST_TASKS (T : Tx K mg) : ∃ t, mg "MOST_TASKS" = some (.int 6 t) := T.int (i := 6) (p := ("MOST_TASKS", 6)) rfl
theorem Tx.i_MOST_SLOTS (T : Tx K mg) : ∃ t, mg "MOST_SLOTS" = some (.int 1001 t) := T.int (i := 7) (p := ("MOST_SLOTS", 1001)) rfl
theorem Tx.i_MOST_CAPACITY (T : Tx K mg) : ∃ t, mg "MOST_CAPACITY" = some (.int 1000000 t) := T.int (i := 8) (p := ("MOST_CAPACITY", 1000000)) rfl
end
end NL
end
-- part E1
section
set_option Elab.async false
set_option linter.all false
set_option maxRecDepth 100000
set_option maxHeartbeats 4000000
namespace NL
open PySem PySem.W PySem.Calls PyProof.Rows PySem.HandSPX
open He (ga ma)
/-! ### Undecided -/
abbrev s_U_init : Stmt := L2.inClass (top 9) 0
abbrev aU (K : Frag) : Addr := ga K "Undecided"
abbrev iU (K : Frag) : Addr := ma K (ga K "Undecided") "__init__"
/-- what the written part says of Undecided and of its __init__ -/
structure UTx (P : Program) (K : Frag) (mg : Str → Option Value) : Prop where
  gC : mg "Undecided" = some (.ref (aU K))
  sup : mg "super" = none
  cls : ∃ nm q N bs bm sn sub ab col dd k0 k1 k2 k3 k5, K.lookup (aU K) = some (excClassObj nm q (aU K) N bs bm true sn sub ab col dd k0 k1 k2 k3 k5 "ValueError.__new__") ∧ refsVE bm = true
  sa : findIn K (.ref (aU K)) "__setattr__" = some (some (.builtin "object.__setattr__"))
  ga : findIn K (.ref (aU K)) "__getattribute__" = some (some (.builtin "BaseException.__getattribute__"))
  gg : findIn K (.ref (aU K)) "__getattr__" = some none
  noN : findIn K (.ref (aU K)) "horizon" = some none
  iC : findIn K (.ref (aU K)) "__init__" = some (some (.ref (iU K)))
  tC : typeIn K (.ref (iU K)) = some (.type "function")
  kC : keepIn K (.ref (aU K)) = true
  exC : subIn K (.ref (aU K)) (.type "BaseException") = some true
  tyC : typeIn K (.ref (aU K)) = some (.type "type")
  hdC : hasDictIn K (aU K) = true
  te : exmOne K (.ref (aU K)) (.ref (aU K)) = some true
  opq : nsIn K cStatics "thirdparty.any" = some none
  supI : ks_superIn K (aU K) (aU K) "__init__" = some (some (.builtin "ValueError.__init__"))
  subV : subIn K (.ref (aU K)) (.type "ValueError") = some true
  mroC : mroIn K (aU K) (.ref (aU K)) = some true
  htop : (P.main.scope.names.lookup ("super" : Str)).isSome = false
  fn : ∃ (oc : Value) (od : Option Addr) (kV doc pm : Value) (an : Option Addr) (cda cc : Addr) (ct : Value) (osl : Array (Option Value)) (ccl cl : Value) (cdd cld : Option Addr) (vs : Array Value) (ccs csl : Array (Option Value)) (file : Str) (tf : Tok),
    K.lookup (iU K) = some ⟨oc, od, .func (ksFn "__init__" "Undecided.__init__" (L2.defArgs s_U_init) (L2.defBody s_U_init) (L2.defScope s_U_init) .none kV doc pm an (.ref cda) ct cc), osl⟩ ∧ codeIn K (.ref cda) "Undecided.__init__" = true ∧
    K.lookup cda = some ⟨ccl, cdd, .fields vs, ccs⟩ ∧ vs[2]? = some (.str file tf) ∧ ((P.main.file : Str) == file) = true ∧ K.lookup cc = some ⟨cl, cld, .cell (some (.ref (aU K))), csl⟩
theorem one_size (v : Value) : [v].length ≤ sizeLine := by
  rw [sizeLine_eq]
  exact (by decide : 1 ≤ 16777216)
theorem ldC {M : Model} {s : Shared} {env : Env} {m : Str → Option Value} {x : Str} {pos : Pos} {v : Value} {Q : Value → Shared → Prop} {A : Around} {E : Value → Shared → Prop} (hn : s.heap.Ns env.locals m) (hv : m x = some v) (h : Q v s)
    (hk : env.scope.kind = .function) (hl : env.kindOf x = some .local) (hd : (x == ("__debug__" : Str)) = false := by decide) :
    wpAny M A (eval (.Name x pos) env) Q E s := wpAny_Name (wpAny_loadName_local hk hl hn hv h) hd
theorem kept_but {K : Frag} {h h' : Heap} {x : Addr} (X : K.In h) (hx : K.lookup x = none) (k : ∀ b o, b ≠ x → h.get? b = some o → h'.get? b = some o) : K.In h' := fun a o e =>
  k a o (fun z => by rw [z, hx] at e; cases e) (X a o e)
/-- what __init__ leaves of a fresh exception at x -/
structure InitEnd (h h' : Heap) (x C dx : Addr) (v : Value) : Prop where
  keep : ∀ b o, b ≠ x → h.get? b = some o → h'.get? b = some o
  obj : ∃ t1 : Addr, h'.get? x = some { cls := .ref C, dict := some dx, data := .fields #[.ref t1, .none, .none, .none, .bool false, .none] }
  dbig : h.objs.size ≤ dx
  dne : dx ≠ x
  ns : h'.Ns1 dx (fun y => if y = "horizon" then some v else none)
/-- a made Undecided -/
structure OwnMade (h h' : Heap) (e C d : Addr) (v : Value) : Prop where
  keep : ∀ b o, h.get? b = some o → h'.get? b = some o
  new : h.objs.size ≤ e
  obj : ∃ oe vs, h'.get? e = some oe ∧ oe.cls = .ref C ∧ oe.dict = some d ∧ oe.data = .fields vs ∧ vs[1]? = some .none
  dbig : h.objs.size ≤ d
  dne : d ≠ e
  ns : h'.Ns1 d (fun y => if y = "horizon" then some v else none)
section
variable {prog : Program} {w : World} {A : Around} {E : Value → Shared → Prop} {R : Result → Shared → Prop} {s : Shared} {K : Frag} {mg mb : Str → Option Value}
/-- the bound ValueError.__init__ called -/
theorem call_bound {u x t0 : Addr} {rest : List Value} {Q : Value → Shared → Prop} (T : UTx prog K mg) (X : K.In s.heap) (hu : s.heap.get? u = some (kxs_mw "ValueError.__init__" x)) (he : s.heap.get? x = some (excO (aU K) t0)) (hz : rest.length ≤ sizeLine)
    (h : ∀ h' t1, (∀ b o, b ≠ x → s.heap.get? b = some o → h'.get? b = some o) → h'.get? x = some (excO (aU K) t1) → Q .none { s with heap := h' }) : wpAny (model prog w) A (call (.ref u) rest) Q E s := by
  obtain ⟨nm, q, N, bs, bm, sn, sub, ab, col, dd, k0, k1, k2, k3, k5, hC, hbm⟩ := T.cls
  have FB := F.excBase_ValueError
  obtain ⟨hh, g, d, tk, os⟩ := s
  refine wpAny_call (codeAny_of_tree ?_)
  show wpAny _ A.in1 (callAny (.ref u) ⟨rest, []⟩) _ _ _
  simp only [callAny]
  refine wpAny_bind (wpAny_load hu ?_)
  simp only [kxs_mw, show (Value.type "method-wrapper" == Value.type "method" || Value.type "method-wrapper" == Value.type "builtin_function_or_method" || Value.type "method-wrapper" == Value.type "method-wrapper") = true by decide, if_true]
  refine KFB.if_so (by decide) ?_
  refine wpAny_bind (check_bound_init FB.toExcCallFacts (X _ _ hC) he rfl ?_)
  refine wpAny_bind (wpAny_pure (wpAny_pure ?_))
  refine ⟨plainId_quiet FB.init.plain _, codeAny_builtin FB.initEntry ?_⟩
  exact exc_init_tree (cls := .ref (aU K)) (t0 := t0) (dv := none) (c2 := .none) (c3 := .none) (b4 := .bool false) he hz fun h' k e' t' => h h' _ k e'
theorem und_init (T : UTx prog K mg) {x t0 : Addr} {v : Value} (X : K.In s.heap) (G : s.heap.Ns mainGlobals mg) (B : s.heap.Ns builtinsNs mb) (hsb : mb "super" = some (.type "super")) (hlim : s.heap.NoLimit) (hx : s.heap.get? x = some (excO (aU K) t0)) (hnx : K.lookup x = none) (hroom : A.depth < recursionLimit)
    (hq : ∀ h' tk dx, InitEnd s.heap h' x (aU K) dx v → R (.ok (.ret .none)) { s with heap := h', toks := tk }) :
    codeAny (model prog w) A (.call (.ref (iU K)) ⟨[.ref x, v], []⟩) R s := by
  obtain ⟨oc, od, kV, doc, pm, an, cda, cc, ct, osl, ccl, cl, cdd, cld, vs, ccs, csl, file, tf, ho, hcd, hcode, hvs, hfile, hcell⟩ := T.fn
  obtain ⟨nm, q, N, bs, bm, sn, sub, ab, col, dd, k0, k1, k2, k3, k5, hC, hbm⟩ := T.cls
  have hcl : clsIn K (aU K) = some { name := nm, bases := bs, mro := .ref (aU K) :: bm, ns := N, qualname := q, hasDict := true, slotNames := sn, subclasses := sub, abstract := ab, collection := col, hasDel := false } := by unfold clsIn; rw [hC] <;> rfl
  have hxC : x ≠ aU K := fun z => by rw [z, hC] at hnx; cases hnx
  refine ks_codeAny_call_defAt (fd := ksFn "__init__" "Undecided.__init__" (L2.defArgs s_U_init) (L2.defBody s_U_init) (L2.defScope s_U_init) .none kV doc pm an (.ref cda) ct cc) (body := L2.defBody s_U_init) (binds := [("self", .ref x), ("horizon", v)]) hroom (X _ _ ho) rfl hlim (codeRec_of X hcd) rfl (BindsTo.of_eq (by first | rfl | with_unfolding_all rfl)) (show ∀ y ∈ (L2.defScope s_U_init).names, y.2 ≠ .cell by decide +kernel) (by first | (intro y hy; rcases List.mem_cons.mp hy with e | e; (subst e; rfl); (rcases List.mem_cons.mp e with e | e; (subst e; rfl); cases e))) (fun h₀ hns hk₀ => ?_) rfl rfl rfl
  have hxL : s.heap.objs.size ≠ x := Nat.ne_of_gt (Heap.lt_size hx)
  have X₁ : K.In h₀ := X.keeps hk₀
  have hx₁ := hk₀ _ _ hx
  have G₁ := G.keeps hk₀
  have B₁ := B.keeps hk₀
  obtain ⟨hh, g, d, tk, os⟩ := s
  refine ks_wpAt_execs_cons (ks_wpAt_Expr_any (ks_wpAt_MethodCall ?_))
  obtain ⟨oD, hD1, hD2⟩ : ∃ oD, h₀.get? (aU K) = some oD ∧ ∃ cdD, oD.data = .cls cdD := ⟨_, X₁ _ _ hC, _, rfl⟩
  obtain ⟨cdD, hD2⟩ := hD2
  refine ks_wpAt_super_base (env := ksEnv "Undecided.__init__" (L2.defScope s_U_init) hh.objs.size (iU K) (.ref cda) cc) rfl rfl (by decide) rfl (X₁ _ _ ho) rfl rfl rfl (X₁ _ _ hcode) rfl hvs hfile T.htop ?_
  refine ks_loadName_global rfl rfl (loadGlobal_builtin (env := ksEnv "Undecided.__init__" (L2.defScope s_U_init) hh.objs.size (iU K) (.ref cda) cc) G₁ T.sup B₁ hsb ⟨rfl, ?_⟩)
  refine wpAny_loadName_free rfl rfl rfl ⟨_, X₁ _ _ hcell, rfl⟩ ?_
  refine wpAny_loadName_local rfl rfl hns rfl ?_
  refine ks_wpAny_isType_cls hD1 hD2 ⟨rfl, ?_⟩
  refine ks_wpAny_call_super hD1 hD2 hx₁ rfl (fun c e => by cases e) (looks_mroIn X₁ T.mroC) (fun h₂ e₂ k₂ => ?_)
  have X₂ : K.In h₂ := X₁.keeps k₂
  have hx₂ := k₂ _ _ hx₁
  have I₂ : InstAt h₂ x (excO (aU K) t0) (aU K) none := ⟨hx₂, rfl, rfl, trivial⟩
  have hm := T.supI
  unfold ks_superIn at hm
  rw [hcl] at hm
  refine kxs_getMethod kxs_ValueError e₂ (looks_opaque X₂ T.opq) (l₀ := .ref (aU K) :: bm) (fun A Q E s k q => wpAny_bind ((looks_clsIn X₂ hcl) A _ E s k (wpAny_pure q))) rfl X₂ hm (I₂.type.andThen (looks_subIn X₂ T.subV)) hxC (by decide) ?_
  have hu₃ : (h₂.push (kxs_mw "ValueError.__init__" x)).get? h₂.objs.size = some (kxs_mw "ValueError.__init__" x) := Heap.get?_push_size _ rfl
  have k₃ : ∀ b o, h₂.get? b = some o → (h₂.push (kxs_mw "ValueError.__init__" x)).get? b = some o := fun b o e => Heap.get?_push_of_some _ e
  generalize h₂.push (kxs_mw "ValueError.__init__" x) = h₃ at hu₃ k₃ ⊢
  refine kxs_callWith (i := "ValueError.__init__") (x := x) (by rfl) ?_
  refine evalArgs_plain ?_
  refine Calls.spliced_cons (Calls.Constant_str (k := 0) (pos := ⟨24, 25, 24, 36⟩) ?_)
  refine Calls.spliced_nil ?_
  refine ⟨hu₃, ?_⟩
  refine call_bound T (X₂.keeps k₃) hu₃ (k₃ _ _ hx₂) (one_size _) fun h₄ t1 k₄ hx₄ => ?_
  have k04 : ∀ b o, b ≠ x → h₀.get? b = some o → h₄.get? b = some o := fun b o hb e => k₄ b o hb (k₃ _ _ (k₂ _ _ e))
  have X₄ : K.In h₄ := kept_but X₁ hnx k04
  have hns4 : h₄.Ns hh.objs.size (fun y => ([("self", Value.ref x), ("horizon", v)] : List (Str × Value)).reverse.lookup y) := by
    obtain ⟨oL, es, ep, hL, r⟩ := hns
    exact ⟨oL, es, ep, k04 _ _ hxL hL, r⟩
  -- self.horizon = horizon
  refine wpAt_of_wpAny ?_
  refine wpAny_execs_cons (plainObj_wpAny_Assign_Attribute ?_)
  refine ldC (v := v) hns4 (by first | rfl | with_unfolding_all rfl | kernel_rfl) (ldC (v := .ref x) hns4 (by first | rfl | with_unfolding_all rfl | kernel_rfl) ?_ rfl rfl) rfl rfl
  refine set_plain X₄ (ox := excO (aU K) t1) (od := none) ⟨hx₄, rfl, rfl, trivial⟩ T.sa ?_
  refine exc_osa X₄ hx₄ hcl (show refsVE (.ref (aU K) :: bm) = true from hbm) rfl T.noN (fun h₅ tk₅ dx k₅ dn dne hx₅ hn₅ => ?_)
  have z : hh.objs.size < h₄.objs.size := hns4.lt
  exact wpAny_execs_nil (hq h₅ tk₅ dx ⟨fun b o hb e => k₅ b o hb (k04 b o hb (hk₀ b o e)), ⟨t1, hx₅⟩, Nat.le_of_lt (Nat.lt_of_lt_of_le z dn), dne, hn₅⟩)
end
end NL
end
-- part Z2
section
set_option Elab.async false
set_option linter.all false
set_option maxRecDepth 100000
set_option maxHeartbeats 0
namespace NL
open PySem PySem.Spec PyProof.Rows L2
open He (ga ma eqO ba frG asD frG_in eqO_ok)
/-! ### what the head tells: own defs by a path, and a Bool of facts -/
abbrev FnZ : Type := Option (Str × Str × Arguments × FuncBody × Scope × Addr × List Str × Addr)
def fnZ (K : PySem.W.Frag) (a : Addr) : FnZ := match K.lookup a with
  | some ⟨_, _, .func fd, _⟩ => some (fd.name, fd.qualname, fd.params, fd.body, fd.scope, fd.globals, fd.closure.map (·.1), fd.builtins)
  | _ => none
def Df.val (d : Df) : FnZ := some (d.name, d.qual, defArgs d.st, .stmts (defBody d.st), defScope d.st, mainGlobals, [], builtinsNs)
def isNone : Value → Bool
  | .none => true
  | _ => false
def Df.ok (K : PySem.W.Frag) (d : Df) : Bool := PySem.W.keepIn K (.ref (d.at_ K)) && (match K.lookup (d.at_ K) with
  | some ⟨_, _, .func fd, _⟩ => PySem.W.codeIn K fd.code d.qual && isNone fd.defaults
  | _ => false)
theorem Df.funD {K : PySem.W.Frag} {d : Df} (e : fnZ K (d.at_ K) = d.val) (c : d.ok K = true) : ∃ fd, FunD K d.name d.qual (defArgs d.st) (defBody d.st) (defScope d.st) [] [] (d.at_ K) fd := by
  obtain ⟨kp, c2⟩ := ba c
  unfold fnZ at e
  cases q : K.lookup (d.at_ K) with
  | none =>
    rw [q] at c2
    cases c2
  | some o =>
    obtain ⟨oc, od, dt, osl⟩ := o
    rw [q] at c2 e
    cases dt with
    | func fd =>
      obtain ⟨n1, n2, n3, n4, n5, n6, n7, n8, n9, n10, n11, n12, n13, n14, n15⟩ := fd
      have e2 : (some (n1, n2, n3, n4, n5, n6, n7.map (·.1), n15) : FnZ) = some (d.name, d.qual, defArgs d.st, .stmts (defBody d.st), defScope d.st, mainGlobals, [], builtinsNs) := e
      simp only [Option.some.injEq, Prod.mk.injEq, List.map_eq_nil_iff] at e2
      obtain ⟨h1, h2, h3, h4, h5, h6, h7, h8⟩ := e2
      subst h1 h2 h3 h4 h5 h6 h7 h8
      have c3 : (PySem.W.codeIn K n13 d.qual && isNone n8) = true := c2
      obtain ⟨k1, k2⟩ := ba c3
      have k3 : n8 = .none := by
        cases n8 with
        | none => rfl
        | _ => cases k2
      exact ⟨_, ⟨oc, od, n8, n9, n10, n11, n12, n13, n14, osl, rfl, q, k1, .inl ⟨rfl, k3⟩, .inl rfl⟩, kp⟩
    | _ => cases c2
def propB (K : PySem.W.Frag) (C : Addr) (f : Str) : Bool := match PySem.W.findIn K (.ref C) f with
  | some (some (.ref p)) => eqO (PySem.W.specialIn K (.ref p) "__get__") (some (some (.builtin "property.__get__"))) && (decide (PySem.W.takesIn K (.ref p) = some true) && (match PySem.W.recIn K p "property" with
    | some (.ref _ :: _) => true
    | _ => false))
  | _ => false
theorem propB_ok {K : PySem.W.Frag} {C : Addr} {f : Str} (h : propB K C f = true) : ∃ p, PropOf K C f p (pgAt K C f) := by
  unfold propB at h
  unfold pgAt
  split at h
  · rename_i p q
    try rw [q]
    obtain ⟨h1, h2⟩ := ba h
    obtain ⟨h3, h4⟩ := ba h2
    split at h4
    · rename_i g r e
      exact ⟨p, q, eqO_ok h1, of_decide_eq_true h3, r, by first | exact e | simp only [e]⟩
    · cases h4
  · cases h
def intB (K : PySem.W.Frag) (p : Str × Int) : Bool := (He.Fa.int p.1 p.2).ok K
/-! ### Undecided -/
def fileZ : Str := (PySem.Challenge.pw_neverlate_k84_whole_dominating_tables_ke.main.file : Str)
def clsUB (K : PySem.W.Frag) : Bool := match K.lookup (aU K) with
  | some ⟨c, _, .cls cd, sl⟩ => decide (c = .type "type") && ((match cd.mro with
      | .ref C' :: bm => decide (C' = aU K) && PySem.HandSPX.refsVE bm
      | _ => false) && (cd.hasDict && (!cd.hasDel && (match sl.toList with
      | [_, _, _, _, some v, _] => decide (v = .builtin "ValueError.__new__")
      | _ => false))))
  | _ => false
def cellUB (K : PySem.W.Frag) : List (Str × Addr) → Bool
  | [(_, cc)] => (match K.lookup cc with
    | some ⟨_, _, .cell (some v), _⟩ => decide (v = .ref (aU K))
    | _ => false)
  | _ => false
def codeUB (K : PySem.W.Frag) : Value → Bool
  | .ref cda => PySem.W.codeIn K (.ref cda) "Undecided.__init__" && (match K.lookup cda with
    | some ⟨_, _, .fields vs, _⟩ => (match vs[2]? with
      | some (Value.str f _) => decide (f = fileZ)
      | _ => false)
    | _ => false)
  | _ => false
def fnUB (K : PySem.W.Frag) : Bool := match K.lookup (iU K) with
  | some ⟨_, _, .func fd, _⟩ => cellUB K fd.closure && (isNone fd.defaults && codeUB K fd.code)
  | _ => false
def valU : FnZ := some ("__init__", "Undecided.__init__", defArgs s_U_init, .stmts (defBody s_U_init), defScope s_U_init, mainGlobals, ["__class__"], builtinsNs)
def undB (K : PySem.W.Frag) : Bool :=
  clsUB K && (fnUB K && (eqO (PySem.W.findIn K (.ref (aU K)) "__setattr__") (some (some (.builtin "object.__setattr__"))) && (eqO (PySem.W.findIn K (.ref (aU K)) "__getattribute__") (some (some (.builtin "BaseException.__getattribute__"))) &&
  (eqO (PySem.W.findIn K (.ref (aU K)) "__getattr__") (some none) && (eqO (PySem.W.findIn K (.ref (aU K)) "horizon") (some none) && (eqO (PySem.W.findIn K (.ref (aU K)) "__init__") (some (some (.ref (iU K)))) &&
  (decide (PySem.W.typeIn K (.ref (iU K)) = some (.type "function")) && (PySem.W.keepIn K (.ref (aU K)) && (decide (PySem.W.subIn K (.ref (aU K)) (.type "BaseException") = some true) && (decide (PySem.W.typeIn K (.ref (aU K)) = some (.type "type")) &&
  (PySem.W.hasDictIn K (aU K) && (decide (PySem.W.exmOne K (.ref (aU K)) (.ref (aU K)) = some true) && (eqO (PySem.W.nsIn K cStatics "thirdparty.any") (some none) && (eqO (PySem.W.ks_superIn K (aU K) (aU K) "__init__") (some (some (.builtin "ValueError.__init__"))) &&
  (decide (PySem.W.subIn K (.ref (aU K)) (.type "ValueError") = some true) && decide (PySem.W.mroIn K (aU K) (.ref (aU K)) = some true))))))))))))))))
/-- all that the walk leans on -/
def facts (K : PySem.W.Frag) : Bool :=
  undB K && ((fns.all fun d => d.ok K) && ((glos.all fun x => (He.Fa.glo x).ok K) && ((frees.all fun x => (He.Fa.free x).ok K) && ((intsL.all fun p => intB K p) &&
  ((He.Fa.str "NAME_CHARS" "abcdefghijklmnopqrstuvwxyz0123456789").ok K && (eqO (PySem.W.nsIn K mainGlobals "gcd") (some (some (.builtin "math.gcd"))) && (eqO (PySem.W.nsIn K mainGlobals "lcm") (some (some (.builtin "math.lcm"))) &&
  (([("Task" : Str), "System", "Miss"].all fun x => (He.Fa.cls x).ok K && (He.Fa.mkr x).ok K) && ((([("kind_number" : Str), "cost", "deadline", "ways_from"].all fun m => (He.Fa.meth "Task" m).ok K)) &&
  (([(("Task" : Str), ("name" : Str)), ("Task", "kinds"), ("Task", "ways"), ("System", "tasks"), ("System", "table"), ("Miss", "instant"), ("Miss", "start"), ("Miss", "releases")].all fun p => (He.Fa.noat p.1 p.2).ok K) &&
  (propB K (ga K "Task") "longest_distance" && propB K (ga K "Task") "latest_deadline")))))))))))
abbrev AlZ : Type := Bool × List FnZ
def obsZ (K : PySem.W.Frag) : AlZ := (facts K, fnZ K (iU K) :: fns.map fun d => fnZ K (d.at_ K))
def valZ : AlZ := (true, valU :: fns.map Df.val)
def obsZG (n : Nat) (g : Addr → Option Obj) : AlZ := obsZ (frG g (cStatics :: asD g n))
def hookZ (n : Nat) : PySem.W.Hook where
  α := AlZ
  obs := fun s => obsZG n s.heap.get?
  val := fun _ => valZ
  says := fun _ h => ∃ K : PySem.W.Frag, K.In h ∧ obsZ K = valZ
  of := fun _ _ e => ⟨_, frG_in, e⟩
  keeps := fun _ _ _ ⟨K, hK, c⟩ k => ⟨K, PySem.W.Frag.In.keeps hK k, c⟩
def obZ (s : PySem.W.SharedT) : AlZ := obsZG 8 (HandSHeadRun.getT s)
theorem obZ_eq (s : PySem.W.SharedT) : obZ s = (hookZ 8).obs s.abs := by
  have e : HandSHeadRun.getT s = s.abs.heap.get? := funext (HandSHeadRun.getT_eq s)
  unfold obZ
  rw [e]
  rfl
end NL
end
-- part Z3
section
set_option Elab.async false
set_option linter.all false
set_option maxRecDepth 100000
set_option maxHeartbeats 0
namespace NL
open PySem PySem.W PySem.Calls PyProof.Rows
abbrev RR : OpenRow := OpenLaw.row PySem.Challenge.rw_neverlate_k84_whole_dominating_tables_ke
abbrev qv : Program := view RR.prog [0, 82]
def names0 : List PySem.Str := ["gcd", "lcm", "_wall", "NeverlateError", "InvalidRatio", "InvalidTask", "InvalidTable", "InvalidSystem", "UnknownName", "Undecided", "make_ratio", "compare_ratios", "supply_of_first", "supply", "least_supply", "common_length", "first_shortage", "dominates", "rows", "own_work", "best_continuation", "demands", "system_demands", "heaviest", "best_step", "circuits", "extend_path", "circuit_mean", "best_circuit", "share"]
def names1 : List PySem.Str := ["way_weight", "weights", "improve", "linear_bound", "system_bound", "decisive_horizon", "shift", "greatest_deadline", "greatest_distance", "row_growth", "come_round", "rounds", "Miss", "first_overfull", "is_decided", "first_miss", "NAME_CHARS", "MOST_NAME_CHARS", "MOST_KINDS", "MOST_WAYS", "MOST_COST", "MOST_DEADLINE", "MOST_DISTANCE", "MOST_TASKS", "MOST_SLOTS", "MOST_CAPACITY", "is_name", "are_kinds", "are_ways", "is_table"]
def names2 : List PySem.Str := ["Task", "System", "_law_row", "_law_numbers", "_law_kinds", "_law_ways", "_law_course", "_law_told", "_law_jobs", "_law_in_time"]
def names : List PySem.Str := names0 ++ names1 ++ names2
theorem run (w : World) : HandSHeadRun.RunEqI RR qv (hookZ 8) obZ 6000 names w := by
  unfold HandSHeadRun.RunEqI
  kernel_rfl
end NL
end
-- part M1
section
/-! M1: tasks, the numbers of a task (rows), demand, work of a course. Plain Lean. -/
namespace NL

/-- kinds: (cost, deadline); ways: (source, target, distance) by kind numbers -/
structure Tk where
  kinds : List (Int × Nat)
  ways : List (Nat × Nat × Nat)

def Tk.n (t : Tk) : Nat := t.kinds.length
def Tk.cost (t : Tk) (k : Nat) : Int := (t.kinds.getD k (0, 0)).1
def Tk.dl (t : Tk) (k : Nat) : Nat := (t.kinds.getD k (0, 0)).2

structure Tk.Ok (t : Tk) : Prop where
  n1 : 1 ≤ t.n
  n3 : t.n ≤ 3
  w4 : t.ways.length ≤ 4
  kc : ∀ k ∈ t.kinds, 1 ≤ k.1 ∧ k.1 ≤ 960
  kd : ∀ k ∈ t.kinds, 1 ≤ k.2 ∧ k.2 ≤ 9
  wy : ∀ w ∈ t.ways, w.1 < t.n ∧ w.2.1 < t.n ∧ 1 ≤ w.2.2 ∧ w.2.2 ≤ 6

theorem Tk.Ok.cost {t : Tk} (h : t.Ok) {k : Nat} (hk : k < t.n) : 1 ≤ t.cost k ∧ t.cost k ≤ 960 := by
  unfold Tk.cost
  rw [List.getD_eq_getElem?_getD, List.getElem?_eq_getElem hk]
  exact h.kc _ (List.getElem_mem _)
theorem Tk.Ok.dl {t : Tk} (h : t.Ok) {k : Nat} (hk : k < t.n) : 1 ≤ t.dl k ∧ t.dl k ≤ 9 := by
  unfold Tk.dl
  rw [List.getD_eq_getElem?_getD, List.getElem?_eq_getElem hk]
  exact h.kd _ (List.getElem_mem _)

/-- item of a table of rows -/
def at2 (f : List (List Int)) (n k : Nat) : Int := (f.getD n []).getD k 0

/-- the best continuation, as the program folds it -/
def bestF (t : Tk) (k size : Nat) (found : List (List Int)) : Int :=
  (t.ways.filter fun w => decide (w.1 = k)).foldl (fun b w => if w.2.2 ≤ size then (if at2 found (size - w.2.2) w.2.1 > b then at2 found (size - w.2.2) w.2.1 else b) else b) 0
def ownW (t : Tk) (k size : Nat) : Int := if t.dl k ≤ size then t.cost k else 0
def rowF (t : Tk) (size : Nat) (found : List (List Int)) : List Int := (List.range t.n).map fun k => ownW t k size + bestF t k size found
def rowsF (t : Tk) : Nat → List (List Int)
  | 0 => []
  | n + 1 => rowsF t n ++ [rowF t n (rowsF t n)]

theorem rowsF_len (t : Tk) : ∀ n, (rowsF t n).length = n
  | 0 => rfl
  | n + 1 => by rw [rowsF, List.length_append, rowsF_len t n]; rfl
theorem rowsF_get (t : Tk) : ∀ {m n : Nat}, n < m → (rowsF t m)[n]? = some (rowF t n (rowsF t n))
  | 0, n, h => by omega
  | m + 1, n, h => by
    rw [rowsF]
    by_cases e : n = m
    · subst e
      rw [List.getElem?_append_right (by rw [rowsF_len]; omega), rowsF_len, Nat.sub_self]; rfl
    · rw [List.getElem?_append_left (by rw [rowsF_len]; omega)]
      exact rowsF_get t (by omega)
/-- the number of kind k for length n -/
def num (t : Tk) (n k : Nat) : Int := at2 (rowsF t (n + 1)) n k
theorem at2_rows (t : Tk) {m n k : Nat} (h : n < m) : at2 (rowsF t m) n k = num t n k := by
  unfold num at2
  rw [List.getD_eq_getElem?_getD (l := rowsF t m), List.getD_eq_getElem?_getD (l := rowsF t (n + 1)), rowsF_get t h, rowsF_get t (Nat.lt_succ_self n)]
theorem rowF_len (t : Tk) (n : Nat) (f : List (List Int)) : (rowF t n f).length = t.n := by simp [rowF]
theorem rowF_get (t : Tk) {n k : Nat} (f : List (List Int)) (h : k < t.n) : (rowF t n f)[k]? = some (ownW t k n + bestF t k n f) := by
  unfold rowF
  rw [List.getElem?_map, List.getElem?_range h]; rfl
theorem num_eq (t : Tk) {n k : Nat} (h : k < t.n) : num t n k = ownW t k n + bestF t k n (rowsF t n) := by
  unfold num at2
  rw [List.getD_eq_getElem?_getD (l := rowsF t (n + 1)), rowsF_get t (Nat.lt_succ_self n)]
  show (rowF t n (rowsF t n)).getD k 0 = _
  rw [List.getD_eq_getElem?_getD, rowF_get t _ h]; rfl
theorem row_eq (t : Tk) (n : Nat) : rowF t n (rowsF t n) = (List.range t.n).map (num t n) := by
  unfold rowF
  apply List.map_congr_left
  intro k hk
  exact (num_eq t (List.mem_range.mp hk)).symm
theorem rowsF_eq (t : Tk) (m : Nat) : rowsF t m = (List.range m).map fun n => (List.range t.n).map (num t n) := by
  apply List.ext_getElem?
  intro i
  by_cases h : i < m
  · rw [rowsF_get t h, row_eq, List.getElem?_map, List.getElem?_range h]; rfl
  · rw [List.getElem?_eq_none (by rw [rowsF_len]; omega), List.getElem?_eq_none (by simp; omega)]

/-! ### the fold is a greatest -/
theorem foldmax {α : Type} (p : α → Bool) (g : α → Int) : ∀ (l : List α) (b0 : Int),
    b0 ≤ l.foldl (fun b w => if p w = true then (if g w > b then g w else b) else b) b0 ∧
    (∀ w ∈ l, p w = true → g w ≤ l.foldl (fun b w => if p w = true then (if g w > b then g w else b) else b) b0) ∧
    (l.foldl (fun b w => if p w = true then (if g w > b then g w else b) else b) b0 = b0 ∨ ∃ w ∈ l, p w = true ∧ l.foldl (fun b w => if p w = true then (if g w > b then g w else b) else b) b0 = g w)
  | [], b0 => ⟨Int.le_refl _, fun _ h => (by cases h), .inl rfl⟩
  | a :: l, b0 => by
    simp only [List.foldl_cons]
    obtain ⟨h1, h2, h3⟩ := foldmax p g l (if p a = true then (if g a > b0 then g a else b0) else b0)
    refine ⟨?_, fun w hw hp => ?_, ?_⟩
    · refine Int.le_trans ?_ h1
      split
      · split <;> omega
      · omega
    · rcases List.mem_cons.mp hw with e | e
      · subst e
        refine Int.le_trans ?_ h1
        rw [if_pos hp]
        split <;> omega
      · exact h2 w e hp
    · rcases h3 with h3 | ⟨w, hw, hp, e⟩
      · rw [h3]
        split
        · rename_i hp
          split
          · exact .inr ⟨a, List.mem_cons_self, hp, rfl⟩
          · exact .inl rfl
        · exact .inl rfl
      · exact .inr ⟨w, List.mem_cons_of_mem _ hw, hp, e⟩

theorem best_spec (t : Tk) (k n : Nat) (h : t.Ok) :
    0 ≤ bestF t k n (rowsF t n) ∧
    (∀ w ∈ t.ways, w.1 = k → w.2.2 ≤ n → num t (n - w.2.2) w.2.1 ≤ bestF t k n (rowsF t n)) ∧
    (bestF t k n (rowsF t n) = 0 ∨ ∃ w ∈ t.ways, w.1 = k ∧ w.2.2 ≤ n ∧ bestF t k n (rowsF t n) = num t (n - w.2.2) w.2.1) := by
  have key := foldmax (fun w : Nat × Nat × Nat => decide (w.2.2 ≤ n)) (fun w => at2 (rowsF t n) (n - w.2.2) w.2.1) (t.ways.filter fun w => decide (w.1 = k)) 0
  have e : (t.ways.filter fun w => decide (w.1 = k)).foldl (fun b (w : Nat × Nat × Nat) => if decide (w.2.2 ≤ n) = true then (if at2 (rowsF t n) (n - w.2.2) w.2.1 > b then at2 (rowsF t n) (n - w.2.2) w.2.1 else b) else b) 0 = bestF t k n (rowsF t n) := by
    unfold bestF
    simp only [decide_eq_true_eq]
  rw [e] at key
  obtain ⟨h1, h2, h3⟩ := key
  refine ⟨h1, fun w hw hk hn => ?_, ?_⟩
  · have := h2 w (List.mem_filter.mpr ⟨hw, decide_eq_true hk⟩) (decide_eq_true hn)
    have d1 := (h.wy w hw).2.2.1
    rw [at2_rows t (by omega)] at this
    exact this
  · rcases h3 with h3 | ⟨w, hw, hp, e⟩
    · exact .inl h3
    · obtain ⟨hm, hk⟩ := List.mem_filter.mp hw
      have d1 := (h.wy w hm).2.2.1
      have hn := of_decide_eq_true hp
      exact .inr ⟨w, hm, of_decide_eq_true hk, hn, by rw [e, at2_rows t (by omega)]⟩

theorem num_ge (t : Tk) (h : t.Ok) {w : Nat × Nat × Nat} (hw : w ∈ t.ways) {n : Nat} (hn : w.2.2 ≤ n) : ownW t w.1 n + num t (n - w.2.2) w.2.1 ≤ num t n w.1 := by
  rw [num_eq t (n := n) (h.wy w hw).1]
  have := (best_spec t w.1 n h).2.1 w hw rfl hn
  omega
theorem own_nonneg (t : Tk) (h : t.Ok) {k n : Nat} (hk : k < t.n) : 0 ≤ ownW t k n := by
  unfold ownW
  have := h.cost hk
  split <;> omega
theorem num_own (t : Tk) (h : t.Ok) {k n : Nat} (hk : k < t.n) : ownW t k n ≤ num t n k := by
  rw [num_eq t hk]
  have := (best_spec t k n h).1
  omega
theorem num_nonneg (t : Tk) (h : t.Ok) {k n : Nat} (hk : k < t.n) : 0 ≤ num t n k := Int.le_trans (own_nonneg t h hk) (num_own t h hk)
theorem num_cases (t : Tk) (h : t.Ok) {k n : Nat} (hk : k < t.n) :
    num t n k = ownW t k n ∨ ∃ w ∈ t.ways, w.1 = k ∧ w.2.2 ≤ n ∧ num t n k = ownW t k n + num t (n - w.2.2) w.2.1 := by
  rw [num_eq t hk]
  rcases (best_spec t k n h).2.2 with e | ⟨w, hw, h1, h2, e⟩
  · left; omega
  · right; exact ⟨w, hw, h1, h2, by rw [e]⟩
theorem own_mono (t : Tk) (h : t.Ok) {k n m : Nat} (hk : k < t.n) (hm : n ≤ m) : ownW t k n ≤ ownW t k m := by
  unfold ownW
  have := h.cost hk
  split
  · rw [if_pos (by omega)]; exact Int.le_refl _
  · split <;> omega
theorem num_mono (t : Tk) (h : t.Ok) : ∀ (n : Nat) {m k : Nat}, k < t.n → n ≤ m → num t n k ≤ num t m k := by
  intro n
  induction n using Nat.strongRecOn with
  | _ n ih =>
    intro m k hk hm
    have o := own_mono t h hk hm
    rcases num_cases t h (n := n) hk with e | ⟨w, hw, h1, h2, e⟩
    · rw [e]
      exact Int.le_trans o (num_own t h hk)
    · obtain ⟨_, ht, hd, _⟩ := h.wy w hw
      have i := @ih (n - w.2.2) (by omega) (m - w.2.2) w.2.1 ht (by omega)
      have g := num_ge t h hw (n := m) (by omega)
      rw [h1] at g
      omega

/-- the demand of a length -/
def dem (t : Tk) (n : Nat) : Int := ((List.range t.n).map (num t n)).foldl (fun a b => if b > a then b else a) 0
theorem foldM : ∀ (l : List Int) (a0 : Int), a0 ≤ l.foldl (fun a b => if b > a then b else a) a0 ∧ (∀ x ∈ l, x ≤ l.foldl (fun a b => if b > a then b else a) a0) ∧
    (l.foldl (fun a b => if b > a then b else a) a0 = a0 ∨ l.foldl (fun a b => if b > a then b else a) a0 ∈ l)
  | [], a0 => ⟨Int.le_refl _, fun _ h => (by cases h), .inl rfl⟩
  | b :: l, a0 => by
    obtain ⟨h1, h2, h3⟩ := foldM l (if b > a0 then b else a0)
    simp only [List.foldl_cons]
    refine ⟨?_, fun x hx => ?_, ?_⟩
    · refine Int.le_trans ?_ h1; split <;> omega
    · rcases List.mem_cons.mp hx with e | e
      · subst e; refine Int.le_trans ?_ h1; split <;> omega
      · exact h2 x e
    · rcases h3 with h3 | h3
      · rw [h3]; split
        · exact .inr List.mem_cons_self
        · exact .inl rfl
      · exact .inr (List.mem_cons_of_mem _ h3)
theorem dem_ge (t : Tk) {n k : Nat} (hk : k < t.n) : num t n k ≤ dem t n :=
  (foldM _ 0).2.1 _ (List.mem_map_of_mem (List.mem_range.mpr hk))
theorem dem_nonneg (t : Tk) (n : Nat) : 0 ≤ dem t n := (foldM _ 0).1
/-- any greatest of the row is the demand -/
theorem dem_of (t : Tk) (h : t.Ok) {n : Nat} {M : Int} (hm : M ∈ (List.range t.n).map (num t n)) (hb : ∀ x ∈ (List.range t.n).map (num t n), x ≤ M) : M = dem t n := by
  obtain ⟨k, hk, rfl⟩ := List.mem_map.mp hm
  have g := dem_ge t (n := n) (List.mem_range.mp hk)
  rcases (foldM ((List.range t.n).map (num t n)) 0).2.2 with e | e
  · have : dem t n = 0 := e
    have := num_nonneg t h (n := n) (List.mem_range.mp hk)
    omega
  · have := hb _ e
    have e2 : dem t n = ((List.range t.n).map (num t n)).foldl (fun a b => if b > a then b else a) 0 := rfl
    omega
theorem dem_cases (t : Tk) (n : Nat) : dem t n = 0 ∨ ∃ k, k < t.n ∧ dem t n = num t n k := by
  rcases (foldM ((List.range t.n).map (num t n)) 0).2.2 with e | e
  · exact .inl e
  · obtain ⟨k, hk, e2⟩ := List.mem_map.mp e
    exact .inr ⟨k, List.mem_range.mp hk, e2.symm⟩
theorem dem_mono (t : Tk) (h : t.Ok) {n m : Nat} (hm : n ≤ m) : dem t n ≤ dem t m := by
  rcases dem_cases t n with e | ⟨k, hk, e⟩
  · rw [e]; exact dem_nonneg t m
  · rw [e]; exact Int.le_trans (num_mono t h n hk hm) (dem_ge t hk)

/-! ### courses -/
/-- each release follows the one before it; all kinds are the task's -/
def Legal (t : Tk) : List (Nat × Nat) → Prop
  | [] => True
  | [r] => r.2 < t.n
  | r :: r' :: c => r.2 < t.n ∧ (∃ w ∈ t.ways, w.1 = r.2 ∧ w.2.1 = r'.2 ∧ r.1 + w.2.2 ≤ r'.1) ∧ Legal t (r' :: c)
/-- the work of the jobs released at s or later, due at e or earlier -/
def work (t : Tk) (c : List (Nat × Nat)) (s e : Nat) : Int := (c.map fun r => if s ≤ r.1 ∧ r.1 + t.dl r.2 ≤ e then t.cost r.2 else 0).sum
theorem legal_hd {t : Tk} {r : Nat × Nat} {c : List (Nat × Nat)} (h : Legal t (r :: c)) : r.2 < t.n := by
  cases c with
  | nil => exact h
  | cons a c => exact h.1
theorem legal_tl {t : Tk} {r : Nat × Nat} {c : List (Nat × Nat)} (h : Legal t (r :: c)) : Legal t c := by
  cases c with
  | nil => trivial
  | cons a c => exact h.2.2
theorem legal_le {t : Tk} : ∀ {r : Nat × Nat} {c : List (Nat × Nat)}, Legal t (r :: c) → ∀ x ∈ r :: c, r.1 ≤ x.1
  | r, [], _, x, hx => by
    rcases List.mem_cons.mp hx with e | e
    · subst e; exact Nat.le_refl _
    · cases e
  | r, a :: c, h, x, hx => by
    rcases List.mem_cons.mp hx with e | e
    · subst e; exact Nat.le_refl _
    · obtain ⟨w, _, _, _, hd⟩ := h.2.1
      have := legal_le h.2.2 x e
      omega
theorem work_zero (t : Tk) {s e : Nat} : ∀ (c : List (Nat × Nat)), (∀ x ∈ c, e < x.1) → work t c s e = 0
  | [], _ => rfl
  | r :: c, h => by
    unfold work
    rw [List.map_cons, List.sum_cons]
    have h1 := h r List.mem_cons_self
    rw [if_neg (by omega)]
    have := work_zero t (s := s) c (fun x hx => h x (List.mem_cons_of_mem _ hx))
    unfold work at this
    omega
theorem work_num (t : Tk) (h : t.Ok) {s e : Nat} : ∀ (c : List (Nat × Nat)) (r : Nat × Nat), Legal t (r :: c) → s ≤ r.1 → r.1 ≤ e → work t (r :: c) s e ≤ num t (e - r.1) r.2
  | [], r, hl, hs, he => by
    have hk := legal_hd hl
    refine Int.le_trans ?_ (num_own t h hk)
    unfold work ownW
    simp only [List.map_cons, List.map_nil, List.sum_cons, List.sum_nil]
    by_cases d : t.dl r.2 ≤ e - r.1
    · rw [if_pos (by omega), if_pos d]; omega
    · rw [if_neg (by omega), if_neg d]; omega
  | a :: c, r, hl, hs, he => by
    have hk := legal_hd hl
    obtain ⟨w, hw, e1, e2, hd⟩ := hl.2.1
    have own : (if s ≤ r.1 ∧ r.1 + t.dl r.2 ≤ e then t.cost r.2 else 0) ≤ ownW t r.2 (e - r.1) := by
      unfold ownW
      by_cases d : t.dl r.2 ≤ e - r.1
      · rw [if_pos (by omega), if_pos d]; omega
      · rw [if_neg (by omega), if_neg d]; omega
    have split : work t (r :: a :: c) s e = (if s ≤ r.1 ∧ r.1 + t.dl r.2 ≤ e then t.cost r.2 else 0) + work t (a :: c) s e := by
      unfold work
      rw [List.map_cons, List.sum_cons]
    rw [split]
    by_cases ha : a.1 ≤ e
    · have i := work_num t h (s := s) c a hl.2.2 (by omega) ha
      have g := num_ge t h hw (n := e - r.1) (by omega)
      have wy := h.wy w hw
      have m := num_mono t h (e - a.1) (m := e - r.1 - w.2.2) (k := w.2.1) wy.2.1 (by omega)
      rw [e1] at g
      rw [← e2] at i
      omega
    · have z := work_zero t (s := s) (e := e) (a :: c) (fun x hx => by have := legal_le hl.2.2 x hx; omega)
      rw [z]
      have := num_own t h (n := e - r.1) hk
      omega
theorem work_dem (t : Tk) (h : t.Ok) {s e : Nat} : ∀ (c : List (Nat × Nat)), Legal t c → work t c s e ≤ dem t (e - s)
  | [], _ => dem_nonneg t _
  | r :: c, hl => by
    by_cases hs : s ≤ r.1
    · by_cases he : r.1 ≤ e
      · have := work_num t h c r hl hs he
        refine Int.le_trans this (Int.le_trans (dem_ge t (legal_hd hl)) (dem_mono t h (by omega)))
      · rw [work_zero t (r :: c) fun x hx => by have := legal_le hl x hx; omega]
        exact dem_nonneg t _
    · have i := work_dem t h (s := s) (e := e) c (legal_tl hl)
      unfold work at i ⊢
      rw [List.map_cons, List.sum_cons, if_neg (by omega)]
      omega
end NL
end
-- part M2
section
/-! M2: supply, tables. Plain Lean. -/
namespace NL

def cap (T : List Int) (t : Nat) : Int := T.getD (t % T.length) 0
def supF (T : List Int) : Nat → Int
  | 0 => 0
  | n + 1 => supF T n + cap T n
/-- the supply from s to e -/
def sup (T : List Int) (s e : Nat) : Int := if e ≤ s then 0 else supF T e - supF T s

theorem cap_add (T : List Int) (t j : Nat) : cap T (t + j * T.length) = cap T t := by
  unfold cap; rw [Nat.add_mul_mod_self_right]
theorem supF_take (T : List Int) : ∀ n, n ≤ T.length → supF T n = (T.take n).sum
  | 0, _ => by simp [supF]
  | n + 1, h => by
    rw [supF, supF_take T n (by omega), List.take_add_one, List.sum_append]
    unfold cap
    rw [Nat.mod_eq_of_lt (by omega), List.getD_eq_getElem?_getD, List.getElem?_eq_getElem (by omega)]
    simp
theorem supF_len (T : List Int) : supF T T.length = T.sum := by
  rw [supF_take T _ (Nat.le_refl _), List.take_length]
theorem supF_add (T : List Int) (m : Nat) : ∀ n, supF T (m * T.length + n) = supF T (m * T.length) + supF T n
  | 0 => by simp [supF]
  | n + 1 => by
    rw [← Nat.add_assoc, supF, supF_add T m n, supF, Nat.add_comm (m * T.length) n, cap_add]
    omega
theorem supF_mul (T : List Int) : ∀ m : Nat, supF T (m * T.length) = (m : Int) * T.sum
  | 0 => by simp [supF]
  | m + 1 => by
    rw [Nat.add_mul, Nat.one_mul, supF_add, supF_mul T m, supF_len]
    rw [Int.natCast_add, Int.add_mul]; simp
/-- what the program reckons -/
theorem supF_eq (T : List Int) (n : Nat) (h : 0 < T.length) : ((n / T.length : Nat) : Int) * T.sum + (T.take (n % T.length)).sum = supF T n := by
  have e : n = (n / T.length) * T.length + n % T.length := by
    rw [Nat.mul_comm]; exact (Nat.div_add_mod n T.length).symm
  rw [← supF_take T _ (Nat.le_of_lt (Nat.mod_lt _ h)), ← supF_mul, ← supF_add, ← e]
theorem cap_nonneg {T : List Int} (h : ∀ x ∈ T, 0 ≤ x) (t : Nat) : 0 ≤ cap T t := by
  unfold cap
  rw [List.getD_eq_getElem?_getD]
  cases e : T[t % T.length]? with
  | none => exact Int.le_refl 0
  | some x => exact h x (List.mem_of_getElem? e)
theorem supF_mono {T : List Int} (h : ∀ x ∈ T, 0 ≤ x) {m : Nat} : ∀ {n}, m ≤ n → supF T m ≤ supF T n
  | 0, hm => by have : m = 0 := by omega
                subst this; exact Int.le_refl _
  | n + 1, hm => by
    by_cases e : m = n + 1
    · subst e; exact Int.le_refl _
    · have := supF_mono h (m := m) (n := n) (by omega)
      have := cap_nonneg h n
      rw [supF]; omega
theorem supF_nonneg {T : List Int} (h : ∀ x ∈ T, 0 ≤ x) (n : Nat) : 0 ≤ supF T n := supF_mono h (m := 0) (Nat.zero_le n)
theorem sup_len (T : List Int) (s n : Nat) : sup T s (s + n) = supF T (s + n) - supF T s := by
  unfold sup
  split
  · have : n = 0 := by omega
    subst this; simp
  · rfl
theorem sup_nonneg {T : List Int} (h : ∀ x ∈ T, 0 ≤ x) (s e : Nat) : 0 ≤ sup T s e := by
  unfold sup
  split
  · exact Int.le_refl _
  · have := supF_mono h (m := s) (n := e) (by omega); omega
theorem sup_succ (T : List Int) (s n : Nat) : sup T s (s + (n + 1)) = sup T s (s + n) + cap T (s + n) := by
  rw [sup_len, sup_len, ← Nat.add_assoc, supF]; omega
/-- a window a whole table later -/
theorem sup_shift (T : List Int) (m s : Nat) : ∀ n, sup T (s + m * T.length) (s + m * T.length + n) = sup T s (s + n)
  | 0 => by rw [sup_len, sup_len]; simp
  | n + 1 => by
    rw [sup_succ, sup_succ, sup_shift T m s n]
    have e : s + m * T.length + n = (s + n) + m * T.length := by omega
    rw [e, cap_add]
theorem sup_add (T : List Int) (s : Nat) : ∀ (m n : Nat), sup T s (s + (m + n)) = sup T s (s + m) + sup T (s + m) (s + m + n) := by
  intro m n
  rw [sup_len, sup_len, sup_len, ← Nat.add_assoc]; omega
/-- q table lengths give q times the sum, whatever the start -/
theorem sup_rounds (T : List Int) (s : Nat) : ∀ q : Nat, sup T s (s + q * T.length) = (q : Int) * T.sum
  | 0 => by rw [sup_len]; simp
  | q + 1 => by
    have one : sup T s (s + T.length) = T.sum := by
      induction s with
      | zero => rw [sup_len]; simp [supF, supF_len]
      | succ s ih =>
        have a := sup_succ T (s + 1) (T.length - 1)
        by_cases z : T.length = 0
        · have z2 : T = [] := List.eq_nil_of_length_eq_zero z
          subst z2; rw [sup_len]; simp
        · rw [sup_len] at ih ⊢
          have e1 : s + 1 + T.length = (s + T.length) + 1 := by omega
          rw [e1, supF, supF]
          have := cap_add T s 1
          rw [Nat.one_mul] at this
          omega
    have e : (q + 1) * T.length = T.length + q * T.length := by rw [Nat.add_mul, Nat.one_mul, Nat.add_comm]
    rw [e, sup_add, one]
    have i := sup_rounds T (s + T.length) q
    rw [i, Int.natCast_add, Int.add_mul]; simp; omega
/-- slot by slot at least: windows too -/
theorem sup_dom {T S : List Int} {by' : Nat} (h : ∀ t, cap T (t + by') ≤ cap S t) (s : Nat) : ∀ n, sup T (s + by') (s + by' + n) ≤ sup S s (s + n)
  | 0 => by rw [sup_len, sup_len]; simp
  | n + 1 => by
    rw [sup_succ, sup_succ]
    have i := sup_dom h s n
    have c := h (s + n)
    have e : s + by' + n = s + n + by' := by omega
    rw [e] at i ⊢
    omega

/-! ### the second table of the law -/
theorem cap_rot {T : List Int} {b m : Nat} (hb : b < T.length) (hm : 0 < m) {S : List Int} (hS : S.length = m * T.length)
    (h : ∀ i, i < S.length → ∃ d : Int, 0 ≤ d ∧ S.getD i 0 = ((T.drop b ++ T.take b).getD (i % T.length) 0) + d) (t : Nat) : cap T (t + b) ≤ cap S t := by
  have hp : 0 < T.length := by omega
  have hSp : 0 < S.length := by rw [hS]; exact Nat.mul_pos hm hp
  obtain ⟨d, hd, e⟩ := h (t % S.length) (Nat.mod_lt _ hSp)
  unfold cap
  rw [e]
  have e1 : t % S.length % T.length = t % T.length := by
    rw [hS, Nat.mod_mul_left_mod]
  rw [e1]
  have hr : t % T.length < T.length := Nat.mod_lt _ hp
  have e2 : (T.drop b ++ T.take b).getD (t % T.length) 0 = T.getD ((t + b) % T.length) 0 := by
    have e3 : (t + b) % T.length = (t % T.length + b) % T.length := by simp [Nat.add_mod]
    rw [e3]
    generalize t % T.length = r at hr
    rw [List.getD_eq_getElem?_getD, List.getD_eq_getElem?_getD]
    by_cases c : r < T.length - b
    · rw [List.getElem?_append_left (by rw [List.length_drop]; exact c), List.getElem?_drop, Nat.mod_eq_of_lt (by omega), Nat.add_comm]
    · rw [List.getElem?_append_right (by rw [List.length_drop]; omega), List.length_drop, List.getElem?_take, if_pos (by omega)]
      have e4 : r + b = (r - (T.length - b)) + T.length := by omega
      rw [e4, Nat.add_mod_right, Nat.mod_eq_of_lt (by omega)]
  rw [e2]; omega

/-! ### the demand of the system, overfull windows -/
def sysDem (ts : List Tk) (n : Nat) : Int := (ts.map fun t => dem t n).sum
def Never (ts : List Tk) (T : List Int) : Prop := ∀ s n : Nat, sysDem ts n ≤ sup T s (s + n)
theorem never_dom {ts : List Tk} {T S : List Int} {b : Nat} (h : Never ts T) (hd : ∀ t, cap T (t + b) ≤ cap S t) : Never ts S := fun s n =>
  Int.le_trans (h (s + b) n) (sup_dom hd s n)
/-- least supplies: the law's first question -/
def leastF (T : List Int) (n : Nat) : Int := (List.range (T.length - 1)).foldl (fun a i => if sup T (i + 1) (i + 1 + n) < a then sup T (i + 1) (i + 1 + n) else a) (sup T 0 n)
theorem foldmin {α : Type} (g : α → Int) : ∀ (l : List α) (a0 : Int), l.foldl (fun a i => if g i < a then g i else a) a0 ≤ a0 ∧ (∀ i ∈ l, l.foldl (fun a i => if g i < a then g i else a) a0 ≤ g i) ∧
    (l.foldl (fun a i => if g i < a then g i else a) a0 = a0 ∨ ∃ i ∈ l, l.foldl (fun a i => if g i < a then g i else a) a0 = g i)
  | [], a0 => ⟨Int.le_refl _, fun _ h => (by cases h), .inl rfl⟩
  | b :: l, a0 => by
    obtain ⟨h1, h2, h3⟩ := foldmin g l (if g b < a0 then g b else a0)
    simp only [List.foldl_cons]
    refine ⟨?_, fun x hx => ?_, ?_⟩
    · refine Int.le_trans h1 ?_; split <;> omega
    · rcases List.mem_cons.mp hx with e | e
      · subst e; refine Int.le_trans h1 ?_; split <;> omega
      · exact h2 x e
    · rcases h3 with h3 | ⟨i, hi, h3⟩
      · rw [h3]; split
        · exact .inr ⟨b, List.mem_cons_self, rfl⟩
        · exact .inl rfl
      · exact .inr ⟨i, List.mem_cons_of_mem _ hi, h3⟩
theorem least_le (T : List Int) (n s : Nat) (hT : 0 < T.length) : leastF T n ≤ sup T s (s + n) := by
  obtain ⟨h1, h2, _⟩ := foldmin (fun i => sup T (i + 1) (i + 1 + n)) (List.range (T.length - 1)) (sup T 0 n)
  have e : s = s % T.length + s / T.length * T.length := by
    have := Nat.mod_add_div s T.length
    rw [Nat.mul_comm] at this; exact this.symm
  rw [e, sup_shift]
  have hr : s % T.length < T.length := Nat.mod_lt _ hT
  unfold leastF
  cases hs : s % T.length with
  | zero => rw [Nat.zero_add]; exact h1
  | succ i => exact h2 i (List.mem_range.mpr (by omega))
theorem least_is (T : List Int) (n : Nat) : ∃ s, leastF T n = sup T s (s + n) := by
  obtain ⟨_, _, h3⟩ := foldmin (fun i => sup T (i + 1) (i + 1 + n)) (List.range (T.length - 1)) (sup T 0 n)
  rcases h3 with h3 | ⟨i, _, h3⟩
  · exact ⟨0, by rw [Nat.zero_add]; exact h3⟩
  · exact ⟨i + 1, h3⟩
theorem least_dom {T S : List Int} {b : Nat} (hT : 0 < T.length) (hd : ∀ t, cap T (t + b) ≤ cap S t) (n : Nat) : ¬ leastF S n < leastF T n := by
  obtain ⟨s, e⟩ := least_is S n
  have h1 := least_le T n (s + b) hT
  have h2 := sup_dom hd s n
  omega
end NL
end
-- part M3
section
/-! M3: earliest deadline first keeps all, where no window has more work than supply. Plain Lean. -/
namespace NL

/-- a job: due, release, cost -/
abbrev Job := Nat × Nat × Int
def jb (js : List Job) (k : Nat) : Job := js.getD k (0, 0, 0)
def gl (l : List Int) (k : Nat) : Int := l.getD k 0
theorem gl_set (l : List Int) {k : Nat} (v : Int) (h : k < l.length) (i : Nat) : gl (l.set k v) i = if i = k then v else gl l i := by
  unfold gl
  rw [List.getD_eq_getElem?_getD, List.getD_eq_getElem?_getD, List.getElem?_set]
  by_cases e : i = k
  · subst e; rw [if_pos rfl, if_pos rfl, if_pos h]; rfl
  · rw [if_neg (Ne.symm e), if_neg e]

/-- one job gets what is left of the slot -/
def srv (js : List Job) (slot : Nat) (st : List Int × Int) (k : Nat) : List Int × Int :=
  if (jb js k).2.1 ≤ slot then
    (st.1.set k (gl st.1 k - (if gl st.1 k < st.2 then gl st.1 k else st.2)), st.2 - (if gl st.1 k < st.2 then gl st.1 k else st.2))
  else st
def srvTo (js : List Job) (slot : Nat) (st : List Int × Int) (i : Nat) : List Int × Int := (List.range i).foldl (srv js slot) st
theorem srvTo_succ (js : List Job) (slot : Nat) (st : List Int × Int) (i : Nat) : srvTo js slot st (i + 1) = srv js slot (srvTo js slot st i) i := by
  unfold srvTo; rw [List.range_succ, List.foldl_append]; rfl

def sumTo (f : Nat → Int) : Nat → Int
  | 0 => 0
  | n + 1 => sumTo f n + f n
theorem sumTo_congr {f g : Nat → Int} : ∀ {n}, (∀ k, k < n → f k = g k) → sumTo f n = sumTo g n
  | 0, _ => rfl
  | n + 1, h => by rw [sumTo, sumTo, sumTo_congr fun k hk => h k (by omega), h n (by omega)]
theorem sumTo_add {f g : Nat → Int} : ∀ n, sumTo (fun k => f k + g k) n = sumTo f n + sumTo g n
  | 0 => rfl
  | n + 1 => by rw [sumTo, sumTo, sumTo, sumTo_add n]; omega
theorem sumTo_le {f g : Nat → Int} : ∀ {n}, (∀ k, k < n → f k ≤ g k) → sumTo f n ≤ sumTo g n
  | 0, _ => Int.le_refl _
  | n + 1, h => by rw [sumTo, sumTo]; have := sumTo_le (n := n) fun k hk => h k (by omega); have := h n (by omega); omega
theorem sumTo_zero : ∀ n, sumTo (fun _ => 0) n = 0
  | 0 => rfl
  | n + 1 => by rw [sumTo, sumTo_zero n]; rfl
theorem sumTo_cut {f : Nat → Int} {m : Nat} : ∀ {n}, m ≤ n → (∀ k, m ≤ k → k < n → f k = 0) → sumTo f n = sumTo f m
  | 0, h, _ => by have : m = 0 := by omega
                  subst this; rfl
  | n + 1, h, z => by
    by_cases e : m = n + 1
    · subst e; rfl
    · rw [sumTo, sumTo_cut (m := m) (n := n) (by omega) (fun k h1 h2 => z k h1 (by omega)), z n (by omega) (by omega)]; omega
theorem sumTo_nn {f : Nat → Int} {n} (h : ∀ k, k < n → 0 ≤ f k) : 0 ≤ sumTo f n := by
  have := sumTo_le (f := fun _ => 0) (g := f) (n := n) h
  rw [sumTo_zero] at this
  exact this
/-- one place differs -/
theorem sumTo_lt {f g : Nat → Int} {n k : Nat} (hk : k < n) (h : ∀ i, i < n → f i ≤ g i) (hlt : f k < g k) : sumTo f n < sumTo g n := by
  induction n with
  | zero => omega
  | succ n ih =>
    rw [sumTo, sumTo]
    have l := sumTo_le (n := n) fun i hi => h i (by omega)
    have := h n (by omega)
    by_cases e : k = n
    · subst e; omega
    · have := ih (by omega) fun i hi => h i (by omega)
      omega

/-- what the turn of a slot does -/
structure Srv (js : List Job) (slot : Nat) (l0 : List Int) (u0 : Int) (i : Nat) (l : List Int) (u : Int) : Prop where
  len : l.length = l0.length
  un : 0 ≤ u
  lo : ∀ k, 0 ≤ gl l k
  le : ∀ k, gl l k ≤ gl l0 k
  same : ∀ k, i ≤ k → gl l k = gl l0 k
  sum : u0 - u = sumTo (fun k => gl l0 k - gl l k) i
  full : 0 < u → ∀ k, k < i → (jb js k).2.1 ≤ slot → gl l k = 0
theorem srv_ok {js : List Job} {slot : Nat} {l0 : List Int} {u0 : Int} (h0 : ∀ k, 0 ≤ gl l0 k) (hu : 0 ≤ u0) : ∀ i, i ≤ l0.length → Srv js slot l0 u0 i (srvTo js slot (l0, u0) i).1 (srvTo js slot (l0, u0) i).2
  | 0, _ => ⟨rfl, hu, h0, fun _ => Int.le_refl _, fun _ _ => rfl, by show u0 - u0 = 0; omega, fun _ k hk => by omega⟩
  | i + 1, hi => by
    have S := srv_ok (js := js) (slot := slot) h0 hu i (by omega)
    rw [srvTo_succ]
    generalize srvTo js slot (l0, u0) i = st at S
    obtain ⟨l, u⟩ := st
    simp only at S
    unfold srv
    simp only
    by_cases hr : (jb js i).2.1 ≤ slot
    · rw [if_pos hr]
      simp only
      have hil : i < l.length := by rw [S.len]; omega
      have a1 := S.lo i
      have a2 := S.same i (Nat.le_refl _)
      have a3 := S.un
      generalize hd : (if gl l i < u then gl l i else u) = d
      have d0 : 0 ≤ d := by rw [← hd]; split <;> omega
      have d1 : d ≤ gl l i := by rw [← hd]; split <;> omega
      have d2 : d ≤ u := by rw [← hd]; split <;> omega
      have d3 : d < u → gl l i - d = 0 := by rw [← hd]; split <;> omega
      refine ⟨by rw [List.length_set]; exact S.len, by omega, fun k => ?_, fun k => ?_, fun k hk => ?_, ?_, fun hu k hk hk2 => ?_⟩
      · rw [gl_set _ _ hil]
        have := S.lo k
        split <;> omega
      · rw [gl_set _ _ hil]
        have := S.le k
        split
        · rename_i e; subst e; omega
        · omega
      · rw [gl_set _ _ hil, if_neg (by omega)]; exact S.same k (by omega)
      · rw [sumTo]
        have e : sumTo (fun k => gl l0 k - gl (l.set i (gl l i - d)) k) i = sumTo (fun k => gl l0 k - gl l k) i := sumTo_congr fun k hk => by
          rw [gl_set _ _ hil, if_neg (by omega)]
        rw [e, ← S.sum, gl_set _ _ hil, if_pos rfl]
        omega
      · rw [gl_set _ _ hil]
        split
        · exact d3 (by omega)
        · exact S.full (by omega) k (by omega) hk2
    · rw [if_neg hr]
      refine ⟨S.len, S.un, S.lo, S.le, fun k hk => S.same k (by omega), ?_, fun hu k hk hk2 => ?_⟩
      · simp only
        rw [sumTo, ← S.sum, S.same i (Nat.le_refl _)]; omega
      · by_cases e : k = i
        · subst e; exact absurd hk2 hr
        · exact S.full hu k (by omega) hk2
/-- later turns leave the earlier jobs -/
theorem srv_keep {js : List Job} {slot : Nat} {st : List Int × Int} {i : Nat} : ∀ {j}, i ≤ j → j ≤ st.1.length → ∀ k, k < i → gl (srvTo js slot st j).1 k = gl (srvTo js slot st i).1 k
  | 0, h, _, k, hk => by omega
  | j + 1, h, hj, k, hk => by
    by_cases e : i = j + 1
    · subst e; rfl
    · have ih := srv_keep (js := js) (slot := slot) (st := st) (i := i) (j := j) (by omega) (by omega) k hk
      rw [srvTo_succ]
      have hl : ∀ j, (srvTo js slot st j).1.length = st.1.length := by
        intro j
        induction j with
        | zero => rfl
        | succ j ih =>
          rw [srvTo_succ]; unfold srv
          split
          · simp only [List.length_set]; exact ih
          · exact ih
      unfold srv
      split
      · simp only
        rw [gl_set _ _ (by rw [hl]; omega), if_neg (by omega)]
        exact ih
      · exact ih

/-- work of the jobs within a window -/
def jwork (js : List Job) (s d : Nat) : Int := sumTo (fun k => if s ≤ (jb js k).2.1 ∧ (jb js k).1 ≤ d then (jb js k).2.2 else 0) js.length
structure Jobs (js : List Job) (T : List Int) : Prop where
  srt : ∀ i k, i ≤ k → k < js.length → (jb js i).1 ≤ (jb js k).1
  pos : ∀ k, k < js.length → (jb js k).2.1 < (jb js k).1 ∧ 0 ≤ (jb js k).2.2
  fits : ∀ s n, jwork js s (s + n) ≤ sup T s (s + n)
  cap : ∀ x ∈ T, 0 ≤ x

/-- what holds at the instant t -/
structure EInv (js : List Job) (T : List Int) (t : Nat) (l : List Int) : Prop where
  len : l.length = js.length
  lo : ∀ k, 0 ≤ gl l k
  hi : ∀ k, k < js.length → gl l k ≤ (jb js k).2.2
  win : ∀ d : Nat, ∃ s, s ≤ t ∧ (∀ k, k < js.length → (jb js k).1 ≤ d → (jb js k).2.1 < s → gl l k = 0) ∧
    sup T s t ≤ sumTo (fun k => if s ≤ (jb js k).2.1 ∧ (jb js k).1 ≤ d then (jb js k).2.2 - gl l k else 0) js.length

theorem einv_start {js : List Job} {T : List Int} (J : Jobs js T) : EInv js T 0 (js.map (·.2.2)) := by
  have g : ∀ k, k < js.length → gl (js.map (·.2.2)) k = (jb js k).2.2 := fun k hk => by
    unfold gl jb
    rw [List.getD_eq_getElem?_getD, List.getD_eq_getElem?_getD, List.getElem?_map, List.getElem?_eq_getElem hk]; rfl
  refine ⟨by simp, fun k => ?_, fun k hk => by rw [g k hk]; exact Int.le_refl _, fun d => ⟨0, Nat.le_refl _, fun k _ _ h => by omega, ?_⟩⟩
  · by_cases hk : k < js.length
    · rw [g k hk]; exact (J.pos k hk).2
    · unfold gl
      rw [List.getD_eq_getElem?_getD, List.getElem?_eq_none (by simp; omega)]; exact Int.le_refl _
  · have : sup T 0 0 = 0 := by unfold sup; rfl
    rw [this]
    refine sumTo_nn fun k hk => ?_
    rw [g k hk]
    split <;> omega

/-- how many jobs are due by d: they stand first -/
def cnt (js : List Job) (d : Nat) : Nat → Nat
  | 0 => 0
  | n + 1 => if (jb js n).1 ≤ d then n + 1 else cnt js d n
theorem cnt_le (js : List Job) (d : Nat) : ∀ n, cnt js d n ≤ n
  | 0 => Nat.le_refl _
  | n + 1 => by unfold cnt; split
                · exact Nat.le_refl _
                · have := cnt_le js d n; omega
theorem cnt_hi {js : List Job} {d : Nat} : ∀ {n k}, cnt js d n ≤ k → k < n → d < (jb js k).1
  | 0, k, _, h => by omega
  | n + 1, k, h, hk => by
    unfold cnt at h
    split at h
    · omega
    · by_cases e : k = n
      · subst e; omega
      · exact cnt_hi h (by omega)
theorem cnt_lo {js : List Job} {d : Nat} (srt : ∀ i k, i ≤ k → k < js.length → (jb js i).1 ≤ (jb js k).1) : ∀ {n k}, n ≤ js.length → k < cnt js d n → (jb js k).1 ≤ d
  | 0, k, _, h => by unfold cnt at h; omega
  | n + 1, k, hn, h => by
    unfold cnt at h
    split at h
    · rename_i e
      have := srt k n (by omega) (by omega)
      omega
    · exact cnt_lo srt (by omega) h

theorem einv_step {js : List Job} {T : List Int} (J : Jobs js T) {t : Nat} {l : List Int} (I : EInv js T t l) : EInv js T (t + 1) (srvTo js t (l, cap T t) js.length).1 := by
  have hc := cap_nonneg J.cap t
  have S := srv_ok (js := js) (slot := t) (u0 := cap T t) I.lo hc js.length (by rw [I.len]; exact Nat.le_refl _)
  refine ⟨by rw [S.len]; exact I.len, S.lo, fun k hk => Int.le_trans (S.le k) (I.hi k hk), fun d => ?_⟩
  have m1 := cnt_le js d js.length
  have M := srv_ok (js := js) (slot := t) (u0 := cap T t) I.lo hc (cnt js d js.length) (by rw [I.len]; exact m1)
  have keep : ∀ k, k < cnt js d js.length → gl (srvTo js t (l, cap T t) js.length).1 k = gl (srvTo js t (l, cap T t) (cnt js d js.length)).1 k :=
    srv_keep (st := (l, cap T t)) m1 (by rw [I.len]; exact Nat.le_refl _)
  have low : ∀ k, k < js.length → (jb js k).1 ≤ d → k < cnt js d js.length := fun k hk hd => by
    by_cases h : cnt js d js.length ≤ k
    · have := cnt_hi h hk; omega
    · omega
  by_cases hu : 0 < (srvTo js t (l, cap T t) (cnt js d js.length)).2
  · refine ⟨t + 1, Nat.le_refl _, fun k hk hd hs => ?_, ?_⟩
    · rw [keep k (low k hk hd)]
      exact M.full hu k (low k hk hd) (by omega)
    · have : sup T (t + 1) (t + 1) = 0 := by unfold sup; rw [if_pos (Nat.le_refl _)]
      rw [this]
      refine sumTo_nn fun k hk => ?_
      have a := I.hi k hk
      have b := S.le k
      split <;> omega
  · have u0 : (srvTo js t (l, cap T t) (cnt js d js.length)).2 = 0 := by have := M.un; omega
    obtain ⟨s, hs, hz, hsum⟩ := I.win d
    refine ⟨s, by omega, fun k hk hd hr => ?_, ?_⟩
    · have a := S.lo k
      have b := S.le k
      have c := hz k hk hd hr
      omega
    · have e1 : sup T s (t + 1) = sup T s t + cap T t := by
        have := sup_succ T s (t - s)
        have e2 : s + (t - s + 1) = t + 1 := by omega
        have e3 : s + (t - s) = t := by omega
        rw [e2, e3] at this
        exact this
      have e2 : sumTo (fun k => if s ≤ (jb js k).2.1 ∧ (jb js k).1 ≤ d then (jb js k).2.2 - gl (srvTo js t (l, cap T t) js.length).1 k else 0) js.length
          = sumTo (fun k => if s ≤ (jb js k).2.1 ∧ (jb js k).1 ≤ d then (jb js k).2.2 - gl l k else 0) js.length
          + sumTo (fun k => if s ≤ (jb js k).2.1 ∧ (jb js k).1 ≤ d then gl l k - gl (srvTo js t (l, cap T t) js.length).1 k else 0) js.length := by
        rw [← sumTo_add]
        refine sumTo_congr fun k hk => ?_
        split <;> omega
      have e3 : sumTo (fun k => if s ≤ (jb js k).2.1 ∧ (jb js k).1 ≤ d then gl l k - gl (srvTo js t (l, cap T t) js.length).1 k else 0) js.length = cap T t := by
        rw [sumTo_cut m1 fun k h1 h2 => by
          have := cnt_hi h1 h2
          rw [if_neg (by omega)]]
        have e4 := M.sum
        rw [u0] at e4
        refine Eq.trans (sumTo_congr fun k hk => ?_) (e4.symm.trans (Int.sub_zero _))
        have hd := cnt_lo J.srt (Nat.le_refl _) hk
        rw [keep k hk]
        split
        · rfl
        · rename_i hn
          have z := hz k (by omega) hd (by omega)
          have a := M.lo k
          have b := M.le k
          omega
      rw [e1, e2, e3]
      omega

/-- no job is late -/
theorem einv_end {js : List Job} {T : List Int} (J : Jobs js T) {t : Nat} {l : List Int} (I : EInv js T t l) {k : Nat} (hk : k < js.length) (hd : (jb js k).1 ≤ t) : ¬ 0 < gl l k := fun hl => by
  obtain ⟨s, hs, hz, hsum⟩ := I.win (jb js k).1
  have p := J.pos k hk
  have hr : s ≤ (jb js k).2.1 := by
    by_cases h : (jb js k).2.1 < s
    · have := hz k hk (Nat.le_refl _) h; omega
    · omega
  have lt : sumTo (fun i => if s ≤ (jb js i).2.1 ∧ (jb js i).1 ≤ (jb js k).1 then (jb js i).2.2 - gl l i else 0) js.length < jwork js s (jb js k).1 := by
    unfold jwork
    refine sumTo_lt hk (fun i hi => ?_) ?_
    · have := I.lo i
      split <;> omega
    · rw [if_pos ⟨hr, Nat.le_refl _⟩, if_pos ⟨hr, Nat.le_refl _⟩]; omega
  have f := J.fits s ((jb js k).1 - s)
  have e : s + ((jb js k).1 - s) = (jb js k).1 := by omega
  rw [e] at f
  have mono : sup T s (jb js k).1 ≤ sup T s t := by
    have a := sup_len T s ((jb js k).1 - s)
    have b := sup_len T s (t - s)
    have e2 : s + (t - s) = t := by omega
    rw [e] at a
    rw [e2] at b
    have c := supF_mono J.cap hd
    omega
  omega
end NL
end
-- part M4
section
/-! M4: circuits are complete; weights are a certificate. Plain Lean. -/
namespace NL

def Tk.m (t : Tk) : Nat := t.ways.length
def Tk.src (t : Tk) (i : Nat) : Nat := (t.ways.getD i (0, 0, 0)).1
def Tk.tgt (t : Tk) (i : Nat) : Nat := (t.ways.getD i (0, 0, 0)).2.1
def Tk.dst (t : Tk) (i : Nat) : Nat := (t.ways.getD i (0, 0, 0)).2.2
theorem Tk.Ok.way {t : Tk} (h : t.Ok) {i : Nat} (hi : i < t.m) : t.src i < t.n ∧ t.tgt i < t.n ∧ 1 ≤ t.dst i ∧ t.dst i ≤ 6 := by
  unfold Tk.src Tk.tgt Tk.dst
  rw [List.getD_eq_getElem?_getD, List.getElem?_eq_getElem (show i < t.ways.length from hi)]
  exact h.wy _ (List.getElem_mem _)
theorem way_mem {t : Tk} {i : Nat} (hi : i < t.m) : (t.src i, t.tgt i, t.dst i) ∈ t.ways := by
  have e : (t.src i, t.tgt i, t.dst i) = t.ways[i]'hi := by
    unfold Tk.src Tk.tgt Tk.dst
    rw [List.getD_eq_getElem?_getD, List.getElem?_eq_getElem (show i < t.ways.length from hi)]; rfl
  rw [e]; exact List.getElem_mem _
theorem mem_way {t : Tk} {w : Nat × Nat × Nat} (hw : w ∈ t.ways) : ∃ i, i < t.m ∧ w = (t.src i, t.tgt i, t.dst i) := by
  obtain ⟨i, hi, e⟩ := List.mem_iff_getElem.mp hw
  refine ⟨i, hi, ?_⟩
  unfold Tk.src Tk.tgt Tk.dst
  rw [List.getD_eq_getElem?_getD, List.getElem?_eq_getElem hi]
  exact e.symm

/-! ### the program's search -/
def ext (t : Tk) : Nat → Nat → Nat → List Nat → List Nat → List (List Nat)
  | 0, _, _, _, _ => []
  | f + 1, start, last, path, visited => (List.range t.m).flatMap fun i =>
      if t.src i ≠ last then []
      else if t.tgt i = start then [path ++ [i]]
      else if start < t.tgt i ∧ t.tgt i ∉ visited then ext t f start (t.tgt i) (path ++ [i]) (visited ++ [t.tgt i])
      else []
def circ (t : Tk) : List (List Nat) := (List.range t.n).flatMap fun s => ext t t.n s s [] [s]

def Chain (t : Tk) : Nat → List Nat → Nat → Prop
  | a, [], b => a = b
  | a, i :: q, b => i < t.m ∧ t.src i = a ∧ Chain t (t.tgt i) q b
theorem chain_app {t : Tk} : ∀ {a b c : Nat} {p q : List Nat}, Chain t a p b → Chain t b q c → Chain t a (p ++ q) c
  | a, b, c, [], q, h, g => by have : a = b := h
                               subst this; exact g
  | a, b, c, i :: p, q, h, g => ⟨h.1, h.2.1, chain_app h.2.2 g⟩
theorem chain_split {t : Tk} : ∀ {a c : Nat} {p q : List Nat}, Chain t a (p ++ q) c → ∃ b, Chain t a p b ∧ Chain t b q c
  | a, c, [], q, h => ⟨a, rfl, h⟩
  | a, c, i :: p, q, h => by
    obtain ⟨b, h1, h2⟩ := chain_split (p := p) h.2.2
    exact ⟨b, ⟨h.1, h.2.1, h1⟩, h2⟩
theorem chain_lt {t : Tk} : ∀ {a b : Nat} {p : List Nat}, Chain t a p b → ∀ i ∈ p, i < t.m
  | _, _, [], _, i, hi => by cases hi
  | _, _, j :: p, h, i, hi => by
    rcases List.mem_cons.mp hi with e | e
    · subst e; exact h.1
    · exact chain_lt h.2.2 i e
theorem chain_inj {t : Tk} : ∀ {a b c : Nat} {p : List Nat}, Chain t a p b → Chain t a p c → b = c
  | a, b, c, [], h, g => by have h1 : a = b := h
                            have h2 : a = c := g
                            omega
  | a, b, c, i :: p, h, g => chain_inj h.2.2 g.2.2

/-- what is found is a chain back to the start -/
theorem ext_sound (t : Tk) : ∀ (f start last : Nat) (path visited c : List Nat), c ∈ ext t f start last path visited →
    ∃ q, c = path ++ q ∧ q ≠ [] ∧ q.length ≤ f ∧ Chain t last q start
  | 0, _, _, _, _, c, h => by cases h
  | f + 1, start, last, path, visited, c, h => by
    unfold ext at h
    obtain ⟨i, hi, h⟩ := List.mem_flatMap.mp h
    have hi := List.mem_range.mp hi
    split at h
    · cases h
    · rename_i hs
      have hs : t.src i = last := Decidable.not_not.mp hs
      split at h
      · rename_i ht
        have := List.mem_singleton.mp h
        exact ⟨[i], this, by simp, by simp, hi, hs, ht⟩
      · split at h
        · obtain ⟨q, e, hq, hl, hc⟩ := ext_sound t f start (t.tgt i) _ _ c h
          exact ⟨i :: q, by rw [e, List.append_assoc]; rfl, by simp, by simp; omega, hi, hs, hc⟩
        · cases h
/-- every simple way back through later kinds is found -/
theorem ext_complete (t : Tk) : ∀ (f start last : Nat) (path visited q : List Nat), q ≠ [] → q.length ≤ f → Chain t last q start →
    (∀ i ∈ q.tail, start < t.src i ∧ t.src i ∉ visited) → (q.tail.map t.src).Nodup → path ++ q ∈ ext t f start last path visited
  | 0, _, _, _, _, q, hq, hl, _, _, _ => by
    cases q with
    | nil => exact absurd rfl hq
    | cons _ _ => simp at hl
  | f + 1, start, last, path, visited, [], hq, _, _, _, _ => absurd rfl hq
  | f + 1, start, last, path, visited, [i], _, _, hc, _, _ => by
    unfold ext
    refine List.mem_flatMap.mpr ⟨i, List.mem_range.mpr hc.1, ?_⟩
    have e : t.tgt i = start := hc.2.2
    rw [if_neg (by rw [hc.2.1]; simp), if_pos e]
    exact List.mem_singleton.mpr rfl
  | f + 1, start, last, path, visited, i :: j :: q, _, hl, hc, hv, hn => by
    unfold ext
    refine List.mem_flatMap.mpr ⟨i, List.mem_range.mpr hc.1, ?_⟩
    have e : t.src j = t.tgt i := hc.2.2.2.1
    have hj := hv j (by simp)
    rw [e] at hj
    rw [if_neg (by rw [hc.2.1]; simp), if_neg (by omega), if_pos hj]
    have key := ext_complete t f start (t.tgt i) (path ++ [i]) (visited ++ [t.tgt i]) (j :: q) (by simp) (by simp at hl ⊢; omega) hc.2.2 (fun k hk => ?_) ?_
    · rw [List.append_assoc] at key; exact key
    · have hk' : k ∈ q := hk
      have a := hv k (by simp [hk'])
      refine ⟨a.1, fun hm => ?_⟩
      rcases List.mem_append.mp hm with hm | hm
      · exact a.2 hm
      · have ek : t.src k = t.tgt i := List.mem_singleton.mp hm
        have hn' : (t.src j :: q.map t.src).Nodup := by simpa using hn
        rw [e] at hn'
        exact (List.nodup_cons.mp hn').1 (List.mem_map.mpr ⟨k, hk', ek⟩)
    · have hn' : (t.src j :: q.map t.src).Nodup := by simpa using hn
      exact (List.nodup_cons.mp hn').2
theorem ext_len (t : Tk) : ∀ (f start last : Nat) (path visited : List Nat), (ext t f start last path visited).length ≤ (t.m + 1) ^ f
  | 0, _, _, _, _ => by simp [ext]
  | f + 1, start, last, path, visited => by
    unfold ext
    have hp : 1 ≤ (t.m + 1) ^ f := Nat.pow_pos (by omega)
    have key : ∀ l : List Nat, (l.flatMap fun i =>
      if t.src i ≠ last then []
      else if t.tgt i = start then [path ++ [i]]
      else if start < t.tgt i ∧ t.tgt i ∉ visited then ext t f start (t.tgt i) (path ++ [i]) (visited ++ [t.tgt i])
      else []).length ≤ l.length * (t.m + 1) ^ f := by
      intro l
      induction l with
      | nil => simp
      | cons a l ih =>
        rw [List.flatMap_cons, List.length_append, List.length_cons, Nat.add_mul, Nat.one_mul]
        have : (if t.src a ≠ last then []
          else if t.tgt a = start then [path ++ [a]]
          else if start < t.tgt a ∧ t.tgt a ∉ visited then ext t f start (t.tgt a) (path ++ [a]) (visited ++ [t.tgt a])
          else []).length ≤ (t.m + 1) ^ f := by
          split
          · simp
          · split
            · simpa using hp
            · split
              · exact ext_len t f _ _ _ _
              · simp
        omega
    have := key (List.range t.m)
    rw [List.length_range] at this
    refine Nat.le_trans this ?_
    rw [Nat.pow_succ, Nat.mul_comm]
    exact Nat.mul_le_mul_left _ (by omega)
end NL
end
-- part M5
section
/-! M5: no circuit is above the share; the weights are a certificate; the linear bound. Plain Lean. -/
namespace NL

def costs (t : Tk) (q : List Nat) : Int := (q.map fun i => t.cost (t.src i)).sum
def dists (t : Tk) (q : List Nat) : Int := (q.map fun i => (t.dst i : Int)).sum
def wt (t : Tk) (top bot : Int) (i : Nat) : Int := t.cost (t.src i) * bot - (t.dst i : Int) * top
def wsum (t : Tk) (top bot : Int) (q : List Nat) : Int := (q.map (wt t top bot)).sum
theorem costs_app (t : Tk) (p q : List Nat) : costs t (p ++ q) = costs t p + costs t q := by unfold costs; rw [List.map_append, List.sum_append]
theorem dists_app (t : Tk) (p q : List Nat) : dists t (p ++ q) = dists t p + dists t q := by unfold dists; rw [List.map_append, List.sum_append]
theorem wsum_app (t : Tk) (top bot : Int) (p q : List Nat) : wsum t top bot (p ++ q) = wsum t top bot p + wsum t top bot q := by unfold wsum; rw [List.map_append, List.sum_append]
theorem wsum_cons (t : Tk) (top bot : Int) (i : Nat) (q : List Nat) : wsum t top bot (i :: q) = wt t top bot i + wsum t top bot q := by unfold wsum; rw [List.map_cons, List.sum_cons]
theorem wsum_eq (t : Tk) (top bot : Int) : ∀ q, wsum t top bot q = costs t q * bot - dists t q * top
  | [] => by simp [wsum, costs, dists]
  | i :: q => by
    rw [wsum_cons, wsum_eq t top bot q]
    have e1 : costs t (i :: q) = t.cost (t.src i) + costs t q := by unfold costs; rw [List.map_cons, List.sum_cons]
    have e2 : dists t (i :: q) = (t.dst i : Int) + dists t q := by unfold dists; rw [List.map_cons, List.sum_cons]
    rw [e1, e2, Int.add_mul, Int.add_mul]
    unfold wt
    omega

theorem nodup_len : ∀ (n : Nat) (l : List Nat), l.Nodup → (∀ x ∈ l, x < n) → l.length ≤ n
  | 0, l, _, h => by
    cases l with
    | nil => exact Nat.le_refl _
    | cons a l => have := h a List.mem_cons_self; omega
  | n + 1, l, hn, h => by
    by_cases hm : n ∈ l
    · have i := nodup_len n (l.erase n) (hn.erase n) (fun x hx => by
        have h1 := h x (List.mem_of_mem_erase hx)
        have h2 : x ≠ n := fun e => by
          subst e
          exact ((List.Nodup.mem_erase_iff hn).mp hx).1 rfl
        omega)
      have e := List.length_erase_of_mem hm
      have := List.length_pos_of_mem hm
      omega
    · have i := nodup_len n l hn (fun x hx => by
        have h1 := h x hx
        have h2 : x ≠ n := fun e => hm (e ▸ hx)
        omega)
      omega

theorem min_mem (f : Nat → Nat) : ∀ (l : List Nat), l ≠ [] → ∃ i ∈ l, ∀ j ∈ l, f i ≤ f j
  | [], h => absurd rfl h
  | [a], _ => ⟨a, List.mem_cons_self, fun j hj => by
    rcases List.mem_cons.mp hj with e | e
    · subst e; exact Nat.le_refl _
    · cases e⟩
  | a :: b :: l, _ => by
    obtain ⟨i, hi, h⟩ := min_mem f (b :: l) (by simp)
    by_cases c : f a ≤ f i
    · exact ⟨a, List.mem_cons_self, fun j hj => by
        rcases List.mem_cons.mp hj with e | e
        · subst e; exact Nat.le_refl _
        · exact Nat.le_trans c (h j e)⟩
    · exact ⟨i, List.mem_cons_of_mem _ hi, fun j hj => by
        rcases List.mem_cons.mp hj with e | e
        · subst e; omega
        · exact h j e⟩

/-- a simple circuit stands in the list, turned -/
theorem circ_has (t : Tk) (h : t.Ok) {v : Nat} {c : List Nat} (hc : Chain t v c v) (hne : c ≠ []) (hn : (c.map t.src).Nodup) : ∃ c' ∈ circ t, costs t c' = costs t c ∧ dists t c' = dists t c := by
  obtain ⟨i, hi, hmin⟩ := min_mem t.src c hne
  obtain ⟨a, b, rfl⟩ := List.append_of_mem hi
  obtain ⟨u, h1, h2⟩ := chain_split hc
  have hu : t.src i = u := h2.2.1
  have him := h2.1
  have hch : Chain t u ((i :: b) ++ a) u := chain_app h2 h1
  have hp : (((i :: b) ++ a).map t.src).Nodup := ((List.perm_append_comm (l₁ := a) (l₂ := i :: b)).map t.src).nodup_iff.mp hn
  have hlt : ∀ k ∈ (i :: b) ++ a, k < t.m := chain_lt hch
  have hlen : ((i :: b) ++ a).length ≤ t.n := by
    have := nodup_len t.n (((i :: b) ++ a).map t.src) hp (fun x hx => by
      obtain ⟨k, hk, rfl⟩ := List.mem_map.mp hx
      exact (h.way (hlt k hk)).1)
    rwa [List.length_map] at this
  have hp2 : (t.src i :: (b ++ a).map t.src).Nodup := by simpa using hp
  obtain ⟨hp3, hp4⟩ := List.nodup_cons.mp hp2
  refine ⟨(i :: b) ++ a, ?_, by rw [costs_app, costs_app]; omega, by rw [dists_app, dists_app]; omega⟩
  unfold circ
  refine List.mem_flatMap.mpr ⟨t.src i, List.mem_range.mpr (h.way him).1, ?_⟩
  have key := ext_complete t t.n (t.src i) (t.src i) [] [t.src i] ((i :: b) ++ a) (by simp) hlen (by rw [hu]; exact hch) (fun k hk => ?_) hp4
  · simpa using key
  · have hk' : k ∈ b ++ a := hk
    have ne : t.src k ≠ t.src i := fun e => hp3 (List.mem_map.mpr ⟨k, hk', e⟩)
    have le := hmin k (by
      rcases List.mem_append.mp hk' with z | z
      · exact List.mem_append_right _ (List.mem_cons_of_mem _ z)
      · exact List.mem_append_left _ z)
    exact ⟨by omega, by simpa using ne⟩
/-- a way that comes twice to a kind -/
theorem rep (f : Nat → Nat) : ∀ q : List Nat, ¬ (q.map f).Nodup → ∃ x i c j y, q = x ++ ((i :: c) ++ (j :: y)) ∧ f i = f j ∧ ((i :: c).map f).Nodup
  | [], h => absurd (by simp) h
  | a :: r, h => by
    by_cases hr : (r.map f).Nodup
    · have ha : f a ∈ r.map f := by
        by_cases hm : f a ∈ r.map f
        · exact hm
        · exact absurd (by rw [List.map_cons]; exact List.nodup_cons.mpr ⟨hm, hr⟩) h
      obtain ⟨j, hj, e⟩ := List.mem_map.mp ha
      obtain ⟨c, y, rfl⟩ := List.append_of_mem hj
      refine ⟨[], a, c, j, y, rfl, e.symm, ?_⟩
      rw [List.map_append, List.map_cons] at hr
      obtain ⟨n1, n2, n3⟩ := List.nodup_append.mp hr
      rw [List.map_cons]
      exact List.nodup_cons.mpr ⟨fun hm => n3 _ hm _ List.mem_cons_self e.symm, n1⟩
    · obtain ⟨x, i, c, j, y, rfl, e1, e2⟩ := rep f r hr
      exact ⟨a :: x, i, c, j, y, rfl, e1, e2⟩

section
variable {t : Tk} {top bot : Int}
/-- no simple circuit has a weight above nought -/
def NoPos (t : Tk) (top bot : Int) : Prop := ∀ v c, Chain t v c v → c ≠ [] → (c.map t.src).Nodup → wsum t top bot c ≤ 0
theorem nopos_of (h : t.Ok) (hs : ∀ c ∈ circ t, costs t c * bot ≤ top * dists t c) : NoPos t top bot := fun v c h1 h2 h3 => by
  obtain ⟨c', hc, e1, e2⟩ := circ_has t h h1 h2 h3
  have := hs c' hc
  rw [wsum_eq, ← e1, ← e2, Int.mul_comm (dists t c')]
  omega
theorem shorten (h : t.Ok) (np : NoPos t top bot) : ∀ (k : Nat) (q : List Nat) (a b : Nat), q.length ≤ k → Chain t a q b → ∃ q', Chain t a q' b ∧ q'.length ≤ t.n ∧ wsum t top bot q ≤ wsum t top bot q' := by
  intro k
  induction k using Nat.strongRecOn with
  | _ k ih =>
    intro q a b hk hc
    by_cases hl : q.length ≤ t.n
    · exact ⟨q, hc, hl, Int.le_refl _⟩
    · have hlt := chain_lt hc
      have nn : ¬ (q.map t.src).Nodup := fun hn => by
        have := nodup_len t.n (q.map t.src) hn (fun x hx => by
          obtain ⟨i, hi, rfl⟩ := List.mem_map.mp hx
          exact (h.way (hlt i hi)).1)
        rw [List.length_map] at this
        exact hl this
      obtain ⟨x, i, c, j, y, rfl, e1, e2⟩ := rep t.src q nn
      obtain ⟨u, c1, c2⟩ := chain_split hc
      obtain ⟨v, c3, c4⟩ := chain_split c2
      have eu : t.src i = u := c3.2.1
      have ev : t.src j = v := c4.2.1
      have euv : v = u := by rw [← eu, ← ev, e1]
      rw [euv] at c3 c4
      have z := np u (i :: c) c3 (by simp) e2
      have l1 : (x ++ ((i :: c) ++ (j :: y))).length = x.length + (c.length + 1) + (y.length + 1) := by simp; omega
      obtain ⟨q', d1, d2, d3⟩ := ih (x ++ (j :: y)).length (by rw [List.length_append, List.length_cons]; omega) (x ++ (j :: y)) a b (Nat.le_refl _) (chain_app c1 c4)
      refine ⟨q', d1, d2, ?_⟩
      rw [wsum_app, wsum_app]
      rw [wsum_app] at d3
      omega

/-! ### the weights, as the program improves them -/
def imprS (t : Tk) (top bot : Int) (cur : List Int) (bt : List Int) (i : Nat) : List Int :=
  bt.set (t.src i) (if wt t top bot i + gl cur (t.tgt i) > gl bt (t.src i) then wt t top bot i + gl cur (t.tgt i) else gl bt (t.src i))
def imprTo (t : Tk) (top bot : Int) (cur : List Int) (i : Nat) : List Int := (List.range i).foldl (imprS t top bot cur) (List.replicate t.n 0)
def imprF (t : Tk) (top bot : Int) (cur : List Int) : List Int := imprTo t top bot cur t.m
theorem imprTo_succ (cur : List Int) (i : Nat) : imprTo t top bot cur (i + 1) = imprS t top bot cur (imprTo t top bot cur i) i := by
  unfold imprTo; rw [List.range_succ, List.foldl_append]; rfl
def weiF (t : Tk) (top bot : Int) : Nat → List Int
  | 0 => List.replicate t.n 0
  | i + 1 => imprF t top bot (weiF t top bot i)
theorem gl_rep (n s : Nat) : gl (List.replicate n 0) s = 0 := by
  unfold gl
  rw [List.getD_eq_getElem?_getD, List.getElem?_replicate]
  split <;> rfl
theorem impr_ok (h : t.Ok) (cur : List Int) : ∀ i, i ≤ t.m → (imprTo t top bot cur i).length = t.n ∧ ∀ s, s < t.n →
    0 ≤ gl (imprTo t top bot cur i) s ∧ (∀ k, k < i → t.src k = s → wt t top bot k + gl cur (t.tgt k) ≤ gl (imprTo t top bot cur i) s) ∧
    (gl (imprTo t top bot cur i) s = 0 ∨ ∃ k, k < i ∧ t.src k = s ∧ gl (imprTo t top bot cur i) s = wt t top bot k + gl cur (t.tgt k))
  | 0, _ => ⟨by simp [imprTo], fun s _ => ⟨by show 0 ≤ gl (List.replicate t.n 0) s; rw [gl_rep]; exact Int.le_refl _, fun k hk => by omega, .inl (gl_rep _ _)⟩⟩
  | i + 1, hi => by
    obtain ⟨l, ih⟩ := impr_ok h cur i (by omega)
    rw [imprTo_succ]
    generalize imprTo t top bot cur i = bt at l ih
    have hs := (h.way (i := i) (by omega)).1
    unfold imprS
    refine ⟨by rw [List.length_set]; exact l, fun s hsn => ?_⟩
    rw [gl_set _ _ (by rw [l]; exact hs)]
    obtain ⟨a1, a2, a3⟩ := ih s hsn
    by_cases e : s = t.src i
    · subst e
      rw [if_pos rfl]
      refine ⟨by split <;> omega, fun k hk hk2 => ?_, ?_⟩
      · by_cases e2 : k = i
        · subst e2; split <;> omega
        · have := a2 k (by omega) hk2
          split <;> omega
      · split
        · exact .inr ⟨i, by omega, rfl, rfl⟩
        · rcases a3 with a3 | ⟨k, k1, k2, k3⟩
          · exact .inl a3
          · exact .inr ⟨k, by omega, k2, k3⟩
    · rw [if_neg e]
      refine ⟨a1, fun k hk hk2 => ?_, ?_⟩
      · by_cases e2 : k = i
        · subst e2; exact absurd hk2.symm e
        · exact a2 k (by omega) hk2
      · rcases a3 with a3 | ⟨k, k1, k2, k3⟩
        · exact .inl a3
        · exact .inr ⟨k, by omega, k2, k3⟩
theorem wei_len (h : t.Ok) : ∀ i, (weiF t top bot i).length = t.n
  | 0 => by simp [weiF]
  | i + 1 => (impr_ok h _ t.m (Nat.le_refl _)).1
theorem wei_nn (h : t.Ok) : ∀ i s, s < t.n → 0 ≤ gl (weiF t top bot i) s
  | 0, s, _ => by unfold weiF; rw [gl_rep]; exact Int.le_refl _
  | i + 1, s, hs => ((impr_ok h _ t.m (Nat.le_refl _)).2 s hs).1
theorem wei_up (h : t.Ok) : ∀ (i : Nat) (a b : Nat) (q : List Nat), Chain t a q b → q.length ≤ i → a < t.n → wsum t top bot q ≤ gl (weiF t top bot i) a
  | i, a, b, [], _, _, ha => wei_nn h i a ha
  | 0, a, b, k :: q, _, hl, _ => by simp at hl
  | i + 1, a, b, k :: q, hc, hl, ha => by
    have w := h.way hc.1
    have ih := wei_up h i (t.tgt k) b q hc.2.2 (by simp at hl; omega) w.2.1
    have z := ((impr_ok (top := top) (bot := bot) h (weiF t top bot i) t.m (Nat.le_refl _)).2 a ha).2.1 k hc.1 hc.2.1
    rw [wsum_cons]
    show _ ≤ gl (imprTo t top bot (weiF t top bot i) t.m) a
    omega
theorem wei_down (h : t.Ok) : ∀ (i a : Nat), a < t.n → ∃ q b, Chain t a q b ∧ q.length ≤ i ∧ gl (weiF t top bot i) a = wsum t top bot q
  | 0, a, _ => ⟨[], a, rfl, Nat.le_refl _, by unfold weiF; rw [gl_rep]; rfl⟩
  | i + 1, a, ha => by
    rcases ((impr_ok (top := top) (bot := bot) h (weiF t top bot i) t.m (Nat.le_refl _)).2 a ha).2.2 with e | ⟨k, hk, hs, e⟩
    · exact ⟨[], a, rfl, Nat.zero_le _, e⟩
    · obtain ⟨q, b, c1, c2, c3⟩ := wei_down h i (t.tgt k) (h.way hk).2.1
      refine ⟨k :: q, b, ⟨hk, hs, c1⟩, by simp; omega, ?_⟩
      rw [wsum_cons, ← c3]
      exact e
/-- the weights are a certificate -/
theorem wei_cert (h : t.Ok) (np : NoPos t top bot) {k : Nat} (hk : k < t.m) : wt t top bot k + gl (weiF t top bot t.n) (t.tgt k) ≤ gl (weiF t top bot t.n) (t.src k) := by
  have w := h.way hk
  obtain ⟨q, b, c1, _, c3⟩ := wei_down (top := top) (bot := bot) h t.n (t.tgt k) w.2.1
  obtain ⟨q', d1, d2, d3⟩ := shorten h np (k :: q).length (k :: q) (t.src k) b (Nat.le_refl _) ⟨hk, rfl, c1⟩
  have u := wei_up (top := top) (bot := bot) h t.n (t.src k) b q' d1 d2 w.1
  rw [wsum_cons] at d3
  omega

/-! ### the linear bound -/
theorem lin_num (h : t.Ok) (h0 : 0 ≤ top) (h1 : 1 ≤ bot) {w : Nat → Int} (cert : ∀ k, k < t.m → wt t top bot k + w (t.tgt k) ≤ w (t.src k)) {Z : Int} (hZ : ∀ k, k < t.n → bot * t.cost k - top * (t.dl k : Int) - w k ≤ Z) :
    ∀ (n k : Nat), k < t.n → 0 < num t n k → bot * num t n k ≤ top * (n : Int) + w k + Z := by
  intro n
  induction n using Nat.strongRecOn with
  | _ n ih =>
    intro k hk hp
    have hown : ownW t k n ≤ t.cost k := by
      unfold ownW
      have := h.cost hk
      split <;> omega
    have ownc : 0 < ownW t k n → ownW t k n = t.cost k ∧ t.dl k ≤ n := fun z => by
      unfold ownW at z ⊢
      split
      · rename_i d; exact ⟨rfl, d⟩
      · rename_i d; rw [if_neg d] at z; omega
    have base : 0 < ownW t k n → bot * ownW t k n ≤ top * (n : Int) + w k + Z := fun z => by
      obtain ⟨e, d⟩ := ownc z
      rw [e]
      have a := hZ k hk
      have b : top * (t.dl k : Int) ≤ top * (n : Int) := Int.mul_le_mul_of_nonneg_left (by omega) h0
      omega
    rcases num_cases t h (n := n) hk with e | ⟨wy, hw, e1, e2, e⟩
    · rw [e] at hp ⊢
      exact base hp
    · obtain ⟨i, hi, rfl⟩ := mem_way hw
      simp only at e1 e2 e
      have wi := h.way hi
      by_cases z : 0 < num t (n - t.dst i) (t.tgt i)
      · have b := ih (n - t.dst i) (by omega) (t.tgt i) wi.2.1 z
        have c := cert i hi
        rw [e1] at c
        unfold wt at c
        rw [e1] at c
        rw [e, Int.mul_add]
        have d : bot * ownW t k n ≤ bot * t.cost k := Int.mul_le_mul_of_nonneg_left hown (by omega)
        have f : ((n - t.dst i : Nat) : Int) = (n : Int) - (t.dst i : Int) := by omega
        rw [f, Int.mul_sub] at b
        rw [Int.mul_comm (t.cost k), Int.mul_comm ((t.dst i : Nat) : Int)] at c
        omega
      · have nn := num_nonneg t h (n := n - t.dst i) wi.2.1
        have z0 : num t (n - t.dst i) (t.tgt i) = 0 := by omega
        rw [e, z0, Int.add_zero] at hp ⊢
        exact base hp
theorem lin_dem (h : t.Ok) (h0 : 0 ≤ top) (h1 : 1 ≤ bot) {w : Nat → Int} (cert : ∀ k, k < t.m → wt t top bot k + w (t.tgt k) ≤ w (t.src k)) {g x : Int} (hg : ∀ k, k < t.n → w k ≤ g) (hx : 0 ≤ x)
    (hxk : ∀ k, k < t.n → g - w k + bot * t.cost k - top * (t.dl k : Int) ≤ x) (n : Nat) : bot * dem t n ≤ top * (n : Int) + x := by
  have nn : 0 ≤ top * (n : Int) := Int.mul_nonneg h0 (by omega)
  rcases dem_cases t n with e | ⟨k, hk, e⟩
  · rw [e]; omega
  · rw [e]
    by_cases z : 0 < num t n k
    · have a := lin_num h h0 h1 cert (Z := x - g) (fun k hk => by have := hxk k hk; omega) n k hk z
      have := hg k hk
      omega
    · have := num_nonneg t h (n := n) hk
      have z0 : num t n k = 0 := by omega
      rw [z0]; omega
end
end NL
end
-- part M6
section
/-! M6: what decides: the decisive horizon, the rows that come round. Plain Lean. -/
namespace NL

/-- no window that ends by h is overfull -/
def NoOver (ts : List Tk) (T : List Int) (h : Nat) : Prop := ∀ e s, 1 ≤ e → e ≤ h → s < min e T.length → sysDem ts (e - s) ≤ sup T s e
theorem num_zero (t : Tk) (h : t.Ok) {k : Nat} (hk : k < t.n) : num t 0 k = 0 := by
  have o : ownW t k 0 = 0 := by
    unfold ownW
    have := (h.dl hk).1
    rw [if_neg (by omega)]
  rcases num_cases t h (n := 0) hk with e | ⟨w, hw, _, e, _⟩
  · rw [e, o]
  · have := (h.wy w hw).2.2.1
    omega
theorem dem_zero (t : Tk) (h : t.Ok) : dem t 0 = 0 := by
  rcases dem_cases t 0 with e | ⟨k, hk, e⟩
  · exact e
  · rw [e, num_zero t h hk]
theorem sysDem_zero : ∀ {ts : List Tk}, (∀ t ∈ ts, t.Ok) → sysDem ts 0 = 0
  | [], _ => rfl
  | t :: ts, h => by
    have := sysDem_zero (ts := ts) fun x hx => h x (List.mem_cons_of_mem _ hx)
    unfold sysDem at this ⊢
    rw [List.map_cons, List.sum_cons, this, dem_zero t (h t List.mem_cons_self)]
    rfl
theorem sysDem_nn (ts : List Tk) (n : Nat) : 0 ≤ sysDem ts n := by
  induction ts with
  | nil => exact Int.le_refl _
  | cons t ts ih =>
    unfold sysDem at ih ⊢
    rw [List.map_cons, List.sum_cons]
    have := dem_nonneg t n
    omega
/-- windows from the first table's length are enough -/
theorem never_of {ts : List Tk} {T : List Int} (hT : 0 < T.length) (h : ∀ s n, s < T.length → sysDem ts n ≤ sup T s (s + n)) : Never ts T := fun s n => by
  have e : s = s % T.length + s / T.length * T.length := by
    have := Nat.mod_add_div s T.length
    rw [Nat.mul_comm] at this; exact this.symm
  rw [e, sup_shift]
  exact h _ n (Nat.mod_lt _ hT)
theorem noover_at {ts : List Tk} {T : List Int} {h : Nat} (ok : ∀ t ∈ ts, t.Ok) (no : NoOver ts T h) {s n : Nat} (hs : s < T.length) (hn : s + n ≤ h) : sysDem ts n ≤ sup T s (s + n) := by
  by_cases z : n = 0
  · subst z
    rw [sysDem_zero ok, sup_len]
    simp
  · have := no (s + n) s (by omega) hn (by omega)
    have e : s + n - s = n := by omega
    rwa [e] at this

theorem sup_low {T : List Int} (hT : 0 < T.length) (hc : ∀ x ∈ T, 0 ≤ x) (s n : Nat) : T.sum * ((n : Int) - ((T.length : Int) - 1)) ≤ (T.length : Int) * sup T s (s + n) := by
  have e : n = n / T.length * T.length + n % T.length := by
    have := Nat.div_add_mod n T.length
    rw [Nat.mul_comm] at this; exact this.symm
  have r := Nat.mod_lt n hT
  have a := sup_add T s (n / T.length * T.length) (n % T.length)
  rw [← e, sup_rounds] at a
  have b := sup_nonneg hc (s + n / T.length * T.length) (s + n / T.length * T.length + n % T.length)
  have C0 : 0 ≤ T.sum := by rw [← supF_len]; exact supF_nonneg hc _
  have p0 : (0 : Int) ≤ (T.length : Int) := by omega
  have c : (T.length : Int) * (((n / T.length : Nat) : Int) * T.sum) ≤ (T.length : Int) * sup T s (s + n) := Int.mul_le_mul_of_nonneg_left (by omega) p0
  have d : T.sum * ((n : Int) - ((T.length : Int) - 1)) ≤ T.sum * (((n / T.length : Nat) : Int) * (T.length : Int)) := by
    refine Int.mul_le_mul_of_nonneg_left ?_ C0
    have e2 : (n : Int) = ((n / T.length : Nat) : Int) * (T.length : Int) + ((n % T.length : Nat) : Int) := by
      have := congrArg (fun x : Nat => (x : Int)) e
      simpa using this
    omega
  have f : (T.length : Int) * (((n / T.length : Nat) : Int) * T.sum) = T.sum * (((n / T.length : Nat) : Int) * (T.length : Int)) := by
    rw [← Int.mul_assoc, Int.mul_comm _ T.sum, Int.mul_comm (T.length : Int)]
  omega

theorem decisive_never {ts : List Tk} {T : List Int} {h : Nat} {top extra bot : Int} (ok : ∀ t ∈ ts, t.Ok) (hT : 0 < T.length) (hc : ∀ x ∈ T, 0 ≤ x) (hb : 1 ≤ bot)
    (lin : ∀ n : Nat, bot * sysDem ts n ≤ top * (n : Int) + extra) (gain : 0 < T.sum * bot - top * (T.length : Int))
    (hd : (T.length : Int) - 1 + (if extra * (T.length : Int) + T.sum * bot * ((T.length : Int) - 1) - 1 > 0 then extra * (T.length : Int) + T.sum * bot * ((T.length : Int) - 1) - 1 else 0) / (T.sum * bot - top * (T.length : Int)) ≤ (h : Int))
    (no : NoOver ts T h) : Never ts T := by
  refine never_of hT fun s n hs => ?_
  by_cases hn : s + n ≤ h
  · exact noover_at ok no hs hn
  · by_cases over : sysDem ts n ≤ sup T s (s + n)
    · exact over
    · exfalso
      have low := sup_low hT hc s n
      have l := lin n
      generalize hP : (T.length : Int) = P at *
      have P1 : 1 ≤ P := by omega
      -- bot * P * (sup + 1) <= P * (top * n + extra)
      have a1 : bot * (sup T s (s + n) + 1) ≤ bot * sysDem ts n := Int.mul_le_mul_of_nonneg_left (by omega) (by omega)
      have a2 : P * (bot * (sup T s (s + n) + 1)) ≤ P * (top * (n : Int) + extra) := Int.mul_le_mul_of_nonneg_left (by omega) (by omega)
      have a3 : bot * (T.sum * ((n : Int) - (P - 1))) ≤ bot * (P * sup T s (s + n)) := Int.mul_le_mul_of_nonneg_left low (by omega)
      have e1 : P * (bot * (sup T s (s + n) + 1)) = bot * (P * sup T s (s + n)) + P * bot := by
        rw [Int.mul_add, Int.mul_add, Int.mul_one, ← Int.mul_assoc, ← Int.mul_assoc, Int.mul_comm P bot]
      have e2 : bot * (T.sum * ((n : Int) - (P - 1))) = (T.sum * bot) * (n : Int) - T.sum * bot * (P - 1) := by
        rw [← Int.mul_assoc, Int.mul_sub, Int.mul_comm bot T.sum]
      have e3 : P * (top * (n : Int) + extra) = (top * P) * (n : Int) + extra * P := by
        rw [Int.mul_add, ← Int.mul_assoc, Int.mul_comm P top, Int.mul_comm P extra]
      have e4 : (T.sum * bot - top * P) * (n : Int) = (T.sum * bot) * (n : Int) - (top * P) * (n : Int) := Int.sub_mul _ _ _
      have pb : 1 ≤ P * bot := by
        have := Int.mul_le_mul P1 hb (by omega) (by omega)
        omega
      generalize hg : T.sum * bot - top * P = gn at *
      generalize hl : extra * P + T.sum * bot * (P - 1) = loss at *
      have key : gn * (n : Int) ≤ loss - 1 := by omega
      have nn : 0 ≤ gn * (n : Int) := Int.mul_nonneg (by omega) (by omega)
      have q : (n : Int) ≤ (loss - 1) / gn := (Int.le_ediv_iff_mul_le gain).mpr (by rw [Int.mul_comm]; exact key)
      split at hd
      · omega
      · have z : loss - 1 = 0 := by omega
        rw [z, Int.zero_ediv] at q
        rw [Int.zero_ediv] at hd
        omega

/-! ### rows that come round -/
section
variable {t : Tk} {h P D E q : Nat} {g : Int}
theorem grow_num (ok : t.Ok) (hE : ∀ k, k < t.n → t.dl k ≤ E) (hD : ∀ k, k < t.m → t.dst k ≤ D) (hh : E + D + P + q ≤ h) (g0 : 0 ≤ g)
    (hg : ∀ j k, j < D → k < t.n → num t (h - P - j) k - num t (h - P - j - q) k ≤ g) : ∀ (n k : Nat), k < t.n → h - P - D < n → num t n k ≤ num t (n - q) k + g := by
  intro n
  induction n using Nat.strongRecOn with
  | _ n ih =>
    intro k hk hn
    by_cases c : n ≤ h - P
    · by_cases d0 : h - P - n < D
      · have := hg (h - P - n) k d0 hk
        have e : h - P - (h - P - n) = n := by omega
        rw [e] at this
        omega
      · omega
    · have own : ownW t k n = ownW t k (n - q) := by
        unfold ownW
        have := hE k hk
        rw [if_pos (by omega), if_pos (by omega)]
      rcases num_cases t ok (n := n) hk with e | ⟨w, hw, e1, e2, e⟩
      · rw [e, own]
        have := num_own t ok (n := n - q) hk
        omega
      · obtain ⟨i, hi, rfl⟩ := mem_way hw
        simp only at e1 e2 e
        have wi := ok.way hi
        have di := hD i hi
        have a := ih (n - t.dst i) (by omega) (t.tgt i) wi.2.1 (by omega)
        have b := num_ge t ok hw (n := n - q) (by simp only; omega)
        simp only [e1] at b
        have e3 : n - t.dst i - q = n - q - t.dst i := by omega
        rw [e3] at a
        rw [e, own]
        omega
theorem grow_dem (ok : t.Ok) (hE : ∀ k, k < t.n → t.dl k ≤ E) (hD : ∀ k, k < t.m → t.dst k ≤ D) (hh : E + D + P + q ≤ h) (g0 : 0 ≤ g)
    (hg : ∀ j k, j < D → k < t.n → num t (h - P - j) k - num t (h - P - j - q) k ≤ g) {n : Nat} (hn : h - P < n) : dem t n ≤ dem t (n - q) + g := by
  rcases dem_cases t n with e | ⟨k, hk, e⟩
  · have := dem_nonneg t (n - q)
    omega
  · rw [e]
    have a := grow_num ok hE hD hh g0 hg n k hk (by omega)
    have b := dem_ge t (n := n - q) hk
    omega
end
/-- what the growth of a task's rows says -/
def Grows (t : Tk) (h P D q : Nat) (g : Int) : Prop := 0 ≤ g ∧ ∀ j k, j < D → k < t.n → num t (h - P - j) k - num t (h - P - j - q) k ≤ g
theorem grow_sys {h P D E q : Nat} (hh : E + D + P + q ≤ h) {n : Nat} (hn : h - P < n) : ∀ (ts : List Tk) (gs : List Int), gs.length = ts.length → (∀ t ∈ ts, t.Ok) → (∀ t ∈ ts, ∀ k, k < t.n → t.dl k ≤ E) → (∀ t ∈ ts, ∀ k, k < t.m → t.dst k ≤ D) →
    (∀ (i : Nat) t g, ts[i]? = some t → gs[i]? = some g → Grows t h P D q g) → sysDem ts n ≤ sysDem ts (n - q) + gs.sum
  | [], gs, hl, _, _, _, _ => by
    have : gs = [] := List.eq_nil_of_length_eq_zero hl
    subst this
    simp [sysDem]
  | t :: ts, [], hl, _, _, _, _ => by simp at hl
  | t :: ts, g :: gs, hl, ok, hE, hD, hg => by
    have i := grow_sys hh hn ts gs (by simpa using hl) (fun x hx => ok x (List.mem_cons_of_mem _ hx)) (fun x hx => hE x (List.mem_cons_of_mem _ hx)) (fun x hx => hD x (List.mem_cons_of_mem _ hx)) (fun i x y a b => hg (i + 1) x y (by simpa using a) (by simpa using b))
    have z := hg 0 t g rfl rfl
    have a := grow_dem (ok t List.mem_cons_self) (hE t List.mem_cons_self) (hD t List.mem_cons_self) hh z.1 z.2 hn
    unfold sysDem at i ⊢
    simp only [List.map_cons, List.sum_cons]
    omega
theorem rounds_never {ts : List Tk} {T : List Int} {h D E q : Nat} {gs : List Int} (ok : ∀ t ∈ ts, t.Ok) (hT : 0 < T.length) (hq : 1 ≤ q) (hqm : q % T.length = 0)
    (hE : ∀ t ∈ ts, ∀ k, k < t.n → t.dl k ≤ E) (hD : ∀ t ∈ ts, ∀ k, k < t.m → t.dst k ≤ D) (hh : E + D + T.length + q ≤ h) (hl : gs.length = ts.length)
    (hg : ∀ (i : Nat) t g, ts[i]? = some t → gs[i]? = some g → Grows t h T.length D q g) (hs : gs.sum ≤ T.sum * ((q / T.length : Nat) : Int)) (no : NoOver ts T h) : Never ts T := by
  refine never_of hT fun s n hsl => ?_
  induction n using Nat.strongRecOn with
  | _ n ih =>
    by_cases hn : s + n ≤ h
    · exact noover_at ok no hsl hn
    · have a := grow_sys hh (n := n) (by omega) ts gs hl ok hE hD hg
      have b := ih (n - q) (by omega)
      have c := sup_add T s (n - q) q
      have e : n - q + q = n := by omega
      rw [e] at c
      have d : q = q / T.length * T.length := by
        have := Nat.div_add_mod q T.length
        rw [hqm, Nat.add_zero, Nat.mul_comm] at this; exact this.symm
      have f := sup_rounds T (s + (n - q)) (q / T.length)
      rw [← d] at f
      rw [c, f, Int.mul_comm]
      omega
/-- no tasks: never late -/
theorem never_nil {T : List Int} (hc : ∀ x ∈ T, 0 ≤ x) : Never [] T := fun s n => by
  show 0 ≤ _
  exact sup_nonneg hc _ _
end NL
end
-- part M7
section
namespace NL
theorem mul_swap3 (a b c : Int) : a * b * c = a * c * b := Int.mul_right_comm a b c
/-- the new greatest mean is above what the old one was above -/
theorem rat_up {c d x y x' y' : Int} (h : c * y ≤ x * d) (hy : 1 ≤ y) (hy' : 1 ≤ y') (hd : 0 ≤ d) (hlt : x * y' ≤ x' * y) : c * y' ≤ x' * d := by
  have a : c * y * y' ≤ x * d * y' := Int.mul_le_mul_of_nonneg_right h (by omega)
  have b : x * y' * d ≤ x' * y * d := Int.mul_le_mul_of_nonneg_right hlt hd
  have e1 : c * y * y' = c * y' * y := Int.mul_right_comm ..
  have e2 : x * d * y' = x * y' * d := Int.mul_right_comm ..
  have e3 : x' * y * d = x' * d * y := Int.mul_right_comm ..
  rw [e1, e2] at a
  rw [e3] at b
  exact Int.le_of_mul_le_mul_right (Int.le_trans a b) (by omega)
theorem rat_in {c d x y x' y' : Int} (h : x' * d = c * y') (hy' : 1 ≤ y') (hd : 0 ≤ d) (hle : x' * y ≤ x * y') : c * y ≤ x * d := by
  have b : x' * y * d ≤ x * y' * d := Int.mul_le_mul_of_nonneg_right hle hd
  have e1 : x' * y * d = x' * d * y := Int.mul_right_comm ..
  have e2 : x * y' * d = x * d * y' := Int.mul_right_comm ..
  have e3 : c * y' * y = c * y * y' := Int.mul_right_comm ..
  rw [e1, e2, h, e3] at b
  exact Int.le_of_mul_le_mul_right b (by omega)
theorem circ_facts (t : Tk) (ok : t.Ok) {c : List Nat} (h : c ∈ circ t) : c ≠ [] ∧ c.length ≤ 3 ∧ ∀ i ∈ c, i < t.m := by
  unfold circ at h
  obtain ⟨s, hs, h⟩ := List.mem_flatMap.mp h
  obtain ⟨q, e, h1, h2, h3⟩ := ext_sound t t.n s s [] [s] c h
  rw [List.nil_append] at e
  subst e
  have := ok.n3
  exact ⟨h1, by omega, chain_lt h3⟩
theorem costs_bd (t : Tk) (ok : t.Ok) : ∀ (c : List Nat), (∀ i ∈ c, i < t.m) → 0 ≤ costs t c ∧ costs t c ≤ 960 * (c.length : Int)
  | [], _ => by simp [costs]
  | i :: c, h => by
    obtain ⟨h1, h2⟩ := costs_bd t ok c fun j hj => h j (List.mem_cons_of_mem _ hj)
    have e : costs t (i :: c) = t.cost (t.src i) + costs t c := by unfold costs; rw [List.map_cons, List.sum_cons]
    have := ok.cost (ok.way (h i List.mem_cons_self)).1
    rw [e, List.length_cons]
    omega
theorem dists_bd (t : Tk) (ok : t.Ok) : ∀ (c : List Nat), (∀ i ∈ c, i < t.m) → (c.length : Int) ≤ dists t c ∧ dists t c ≤ 6 * (c.length : Int)
  | [], _ => by simp [dists]
  | i :: c, h => by
    obtain ⟨h1, h2⟩ := dists_bd t ok c fun j hj => h j (List.mem_cons_of_mem _ hj)
    have e : dists t (i :: c) = (t.dst i : Int) + dists t c := by unfold dists; rw [List.map_cons, List.sum_cons]
    have := (ok.way (h i List.mem_cons_self)).2.2
    rw [e, List.length_cons]
    omega
/-- q is a circuit of the greatest mean, or there is none -/
def BestC (t : Tk) (q : List Nat) : Prop := (q = [] ∧ ∀ c ∈ circ t, costs t c ≤ 0) ∨ (q ∈ circ t ∧ ∀ c ∈ circ t, costs t c * dists t q ≤ costs t q * dists t c)
theorem circ_len (t : Tk) (ok : t.Ok) : (circ t).length ≤ 375 := by
  unfold circ
  have key : ∀ l : List Nat, (l.flatMap fun s => ext t t.n s s [] [s]).length ≤ 125 * l.length := by
    intro l
    induction l with
    | nil => simp
    | cons a l ih =>
      rw [List.flatMap_cons, List.length_append, List.length_cons]
      have h1 := ext_len t t.n a a [] [a]
      have h2 : (t.m + 1) ^ t.n ≤ 125 := by
        have h3 : (t.m + 1) ^ t.n ≤ 5 ^ t.n := Nat.pow_le_pow_left (by have := ok.w4; have : t.m = t.ways.length := rfl; omega) _
        have h4 : 5 ^ t.n ≤ 5 ^ 3 := Nat.pow_le_pow_right (by decide) ok.n3
        omega
      omega
  have := key (List.range t.n)
  have := ok.n3
  rw [List.length_range] at *
  omega
end NL
end
-- part M8
section
namespace NL
/-- x / y is the greatest mean, in lowest terms -/
def ShareOk (t : Tk) (x y : Int) : Prop := 1 ≤ y ∧ y ≤ 18 ∧ 0 ≤ x ∧ x ≤ 2880 ∧ (∀ c ∈ circ t, costs t c * y ≤ x * dists t c) ∧ Nat.gcd x.natAbs y.natAbs = 1 ∧ ∃ c, BestC t c ∧ (c = [] ∧ x = 0 ∨ c ≠ [] ∧ x * dists t c = costs t c * y)
theorem circ_d (t : Tk) (ok : t.Ok) {c : List Nat} (h : c ∈ circ t) : 1 ≤ dists t c := by
  obtain ⟨h1, h2, h3⟩ := circ_facts t ok h
  have := (dists_bd t ok c h3).1
  cases c with
  | nil => exact absurd rfl h1
  | cons _ _ => simp at this; omega
theorem low_uniq {x y x' y' : Int} (e : x * y' = x' * y) (hx : 0 ≤ x) (hx' : 0 ≤ x') (hy : 1 ≤ y) (hy' : 1 ≤ y') (g : Nat.gcd x.natAbs y.natAbs = 1) (g' : Nat.gcd x'.natAbs y'.natAbs = 1) : x = x' ∧ y = y' := by
  obtain ⟨a, rfl⟩ := Int.eq_ofNat_of_zero_le hx
  obtain ⟨b, rfl⟩ := Int.eq_ofNat_of_zero_le hx'
  obtain ⟨c, rfl⟩ := Int.eq_ofNat_of_zero_le (show 0 ≤ y by omega)
  obtain ⟨d, rfl⟩ := Int.eq_ofNat_of_zero_le (show 0 ≤ y' by omega)
  rw [Int.natAbs_natCast, Int.natAbs_natCast] at g g'
  have e2 : a * d = b * c := by exact_mod_cast e
  have c1 : Nat.Coprime c a := (Nat.gcd_comm a c ▸ g : Nat.gcd c a = 1)
  have c2 : Nat.Coprime d b := (Nat.gcd_comm b d ▸ g' : Nat.gcd d b = 1)
  have d1 : c ∣ d := c1.dvd_of_dvd_mul_left (by rw [e2]; exact Nat.dvd_mul_left c b)
  have d2 : d ∣ c := c2.dvd_of_dvd_mul_left (by rw [← e2]; exact Nat.dvd_mul_left d a)
  have hcd : c = d := Nat.dvd_antisymm d1 d2
  subst hcd
  have : a = b := Nat.eq_of_mul_eq_mul_right (by omega) e2
  subst this
  exact ⟨rfl, rfl⟩
theorem share_uniq {t : Tk} (ok : t.Ok) {x y x' y' : Int} (h : ShareOk t x y) (h' : ShareOk t x' y') : x = x' ∧ y = y' := by
  obtain ⟨y1, _, x0, _, _, g, c, hb, hc⟩ := h
  obtain ⟨y1', _, x0', _, _, g', c', hb', hc'⟩ := h'
  refine low_uniq ?_ x0 x0' y1 y1' g g'
  have z : ∀ {c c' : List Nat} {x y : Int}, c = [] → BestC t c → BestC t c' → (c' ≠ [] ∧ x * dists t c' = costs t c' * y) → x = 0 := fun {c c' x y} e hb hb' hc' => by
    rcases hb with ⟨_, hb⟩ | ⟨hb, _⟩
    · rcases hb' with ⟨e', _⟩ | ⟨hm, _⟩
      · exact absurd e' hc'.1
      · have a := hb _ hm
        have b := (costs_bd t ok _ (circ_facts t ok hm).2.2).1
        have d := circ_d t ok hm
        have e0 : costs t c' = 0 := by omega
        have e1 := hc'.2
        rw [e0, Int.zero_mul] at e1
        rcases Int.mul_eq_zero.mp e1 with z | z
        · exact z
        · omega
    · exact absurd e (circ_facts t ok hb).1
  rcases hc with ⟨e, ex⟩ | ⟨n, ex⟩
  · rcases hc' with ⟨e', ex'⟩ | hc'
    · rw [ex, ex', Int.zero_mul, Int.zero_mul]
    · rw [ex, z e hb hb' hc', Int.zero_mul, Int.zero_mul]
  · rcases hc' with ⟨e', ex'⟩ | ⟨n', ex'⟩
    · rw [ex', z e' hb' hb ⟨n, ex⟩, Int.zero_mul, Int.zero_mul]
    · rcases hb with ⟨e, _⟩ | ⟨m, hb⟩
      · exact absurd e n
      · rcases hb' with ⟨e, _⟩ | ⟨m', hb'⟩
        · exact absurd e n'
        · have a := hb _ m'
          have b := hb' _ m
          have eq : costs t c' * dists t c = costs t c * dists t c' := by omega
          have d1 := circ_d t ok m
          have d2 := circ_d t ok m'
          generalize costs t c = C at *
          generalize costs t c' = C' at *
          generalize dists t c = D at *
          generalize dists t c' = D' at *
          have k : x * y' * (D * D') = x' * y * (D * D') := by
            have s1 : x * y' * (D * D') = (x * D) * (y' * D') := by
              rw [Int.mul_assoc, Int.mul_left_comm y' D D', ← Int.mul_assoc]
            have s2 : x' * y * (D * D') = (x' * D') * (y * D) := by
              rw [Int.mul_comm D D', Int.mul_assoc, Int.mul_left_comm y D' D, ← Int.mul_assoc]
            rw [s1, s2, ex, ex']
            have s3 : C * y * (y' * D') = (C * D') * (y * y') := by
              rw [Int.mul_comm y' D', Int.mul_assoc, Int.mul_left_comm y D' y', ← Int.mul_assoc]
            have s4 : C' * y' * (y * D) = (C' * D) * (y * y') := by
              rw [Int.mul_comm y D, Int.mul_assoc, Int.mul_left_comm y' D y, ← Int.mul_assoc, Int.mul_comm y' y]
            rw [s3, s4, eq]
          have pos : (0 : Int) < D * D' := Int.mul_pos (by omega) (by omega)
          exact Int.eq_of_mul_eq_mul_right (by omega) k
/-- a linear bound of a task -/
def LB (t : Tk) (x e y : Int) : Prop := 1 ≤ y ∧ y ≤ 18 ∧ 0 ≤ x ∧ ∀ n : Nat, y * dem t n ≤ x * (n : Int) + e
theorem lb_step {t : Tk} {x e y S X E D : Int} {n : Nat} (h : LB t x e y) (hS : y ∣ S) (S1 : 1 ≤ S) (b : S * D ≤ X * (n : Int) + E) : S * (D + dem t n) ≤ (X + x * (S / y)) * (n : Int) + (E + e * (S / y)) := by
  obtain ⟨y1, _, x0, h⟩ := h
  obtain ⟨k, rfl⟩ := hS
  rw [Int.mul_ediv_cancel_left _ (by omega)]
  have k0 : 0 ≤ k := by
    rcases Int.lt_or_le k 0 with z | z
    · have := Int.mul_neg_of_pos_of_neg (a := y) (by omega) z
      omega
    · exact z
  have a := Int.mul_le_mul_of_nonneg_right (h n) k0
  have e1 : y * dem t n * k = y * k * dem t n := Int.mul_right_comm ..
  have e2 : (x * (n : Int) + e) * k = x * k * (n : Int) + e * k := by rw [Int.add_mul, Int.mul_right_comm]
  rw [e1, e2] at a
  rw [Int.mul_add, Int.add_mul]
  omega
end NL
end
-- part W1
section
set_option Elab.async false
set_option linter.all false
set_option maxRecDepth 100000
set_option maxHeartbeats 4000000
namespace NL
open PySem PySem.Spec PyProof.Rows L2
open He (ga ma)
/-! ### steps of a reading, one at a time -/
section
variable {K : PySem.W.Frag} {σ : L2.St} {H : Hp} {Q : VK} {ta tb tc te : TE} {x y v : V} {D : Ends} {t u : TT} {t1 t2 tz : TS} {tr : TA} {QA : List V → Hp → Prop} {QB : Bool → Hp → Prop}
theorem r_var {i : Nat} (h : σ[i]? = some (some v)) (q : Q v H) : tVar i σ H Q := ⟨v, h, q⟩
theorem r_c (q : Q v H) : tC v σ H Q := q
theorem r_op {r : R2} (h : ta σ H fun x H1 => tb σ H1 fun y H2 => r x y H2 Q) : tOp r ta tb σ H Q := h
theorem r_un {r : V → Hp → VK → Prop} (h : ta σ H fun x H1 => r x H1 Q) : tUn r ta σ H Q := h
theorem r_I0 {g : Int → Int → V} {i j : Int} (q : Q (g i j) H) : rI0 g (.int i) (.int j) H Q := ⟨i, j, rfl, rfl, q⟩
theorem r_I {C : Int → Int → Prop} {g : Int → Int → V} {i j : Int} (c : C i j) (q : Q (g i j) H) : rI C g (.int i) (.int j) H Q := ⟨i, j, rfl, rfl, c, q⟩
theorem r_U {g : Int → V} {i : Int} (q : Q (g i) H) : rU g (.int i) H Q := ⟨i, rfl, q⟩
theorem r_eq (s : scal x y = true) (q : Q (.bl (decide (x = y))) H) : rEq x y H Q := ⟨s, q⟩
theorem r_ne (s : scal x y = true) (q : Q (.bl (!decide (x = y))) H) : rNe x y H Q := ⟨s, q⟩
theorem r_nil (q : QA [] H) : tNil σ H QA := q
theorem r_cons (h : te σ H fun x H1 => tr σ H1 fun xs H2 => QA (x :: xs) H2) : tCons te tr σ H QA := h
theorem r_cb {r : List V → Hp → VK → Prop} (h : tr σ H fun vs H1 => r vs H1 Q) : tCB r tr σ H Q := h
theorem r_call {sp : Sp} {dvs : List V} {E : XK} (h : tr σ H fun vs H1 => sp (vs ++ dvs) H1 Q E) : tCall sp dvs E tr σ H Q := h
theorem r_test (h : te σ H fun x H' => ∃ k, x = .bl k ∧ QB k H') : tTest te σ H QB := h
theorem r_B (h : te σ H fun x H' => ∃ k, x = .bl k ∧ QB k H') : tB te σ H QB := h
theorem r_bl {b : Bool} {P : Bool → Prop} (q : P b) : ∃ k, V.bl b = .bl k ∧ P k := ⟨b, rfl, q⟩
theorem r_not (h : t σ H fun c H1 => QB (!c) H1) : tNot t σ H QB := h
theorem r_and (h : t σ H fun c H1 => if c = true then u σ H1 QB else QB false H1) : tAnd t u σ H QB := h
theorem r_or (h : t σ H fun c H1 => if c = true then QB true H1 else u σ H1 QB) : tOr t u σ H QB := h
theorem r_notV (h : te σ H fun x H1 => ∃ c, x = .bl c ∧ Q (.bl (!c)) H1) : tNotV te σ H Q := h
theorem r_ixL {a : Addr} {xs : List V} {i : Int} (h : SqL K H a xs) (e : atI xs i = some v) (q : Q v H) : rIxL K (.ref a) (.int i) H Q := ⟨a, xs, i, v, rfl, rfl, h, e, q⟩
theorem r_ixT {a : Addr} {xs : List V} {i : Int} (h : SqT K H a xs) (e : atI xs i = some v) (q : Q v H) : rIxT K (.ref a) (.int i) H Q := ⟨a, xs, i, v, rfl, rfl, h, e, q⟩
theorem r_tup (h : tr σ H fun xs H1 => xs.length ≤ sizeLine ∧ ∀ p, H1 p = none → Q (.ref p) (upd H1 p (.tup xs))) : tTup tr σ H Q := h
theorem r_lst (h : tr σ H fun xs H1 => xs.length ≤ sizeLine ∧ ∀ p, H1 p = none → Q (.ref p) (upd H1 p (.lst xs))) : tLst tr σ H Q := h
theorem r_ite {b : Bool} {A B : Prop} (h1 : b = true → A) (h2 : b = false → B) : if b = true then A else B := by
  cases b with
  | true => exact h1 rfl
  | false => exact h2 rfl
-- statements
theorem r_seqN {i : Nat} (h : te σ H fun x H1 => tz D (σ.set i (some x)) H1) : tSeq (tAsg te (gName i)) tz D σ H := h
theorem r_asgN {i : Nat} (h : te σ H fun x H1 => D.nx (σ.set i (some x)) H1) : tAsg te (gName i) D σ H := h
theorem r_seqIf (h : t σ H fun b H1 => if b = true then t1 { D with nx := tz D } σ H1 else t2 { D with nx := tz D } σ H1) : tSeq (tIfS t t1 t2) tz D σ H := h
theorem r_if (h : t σ H fun b H1 => if b = true then t1 D σ H1 else t2 D σ H1) : tIfS t t1 t2 D σ H := h
theorem r_ret (h : te σ H D.rt) : tRet te D σ H := h
theorem r_retD {nx : L2.St → Hp → Prop} {rt : VK} {bk ct : L2.St → Hp → Prop} (h : te σ H rt) : tRet te { nx := nx, rt := rt, bk := bk, ct := ct } σ H := h
theorem r_drop (h : te σ H fun _ H1 => D.nx σ H1) : tDrop te D σ H := h
theorem r_seqDrop (h : te σ H fun _ H1 => tz D σ H1) : tSeq (tDrop te) tz D σ H := h
theorem r_next (h : D.nx σ H) : tNext D σ H := h
theorem r_seqAug {i : Nat} {f : Int → Int → Int} {a : Int} (e : σ[i]? = some (some (.int a))) (h : te σ H fun y H1 => ∃ b, y = .int b ∧ tz D (σ.set i (some (.int (f a b)))) H1) (m : ∀ Q Q' : VK, (∀ y H1, Q y H1 → Q' y H1) → te σ H Q → te σ H Q') : tSeq (tAug i te (ipI f)) tz D σ H := ⟨.int a, e, m _ _ (fun y H1 ⟨b, e1, q⟩ => ⟨a, b, rfl, e1, q⟩) h⟩
end
/-! ### heaps -/
theorem same_upd {H H1 : Hp} {p : Addr} {o : HO} (e : Same H H1) (h : H1 p = none) : Same H (upd H1 p o) := fun b x q => by
  rw [upd_ne (ne_of_none (e _ _ q) h)]
  exact e _ _ q
/-- an object that H does not know may change -/
theorem same_mut {H H1 : Hp} {p : Addr} {o : HO} (e : Same H H1) (h : H p = none) : Same H (upd H1 p o) := fun b x q => by
  rw [upd_ne (ne_of_none q h)]
  exact e _ _ q
theorem same_rd {H H' : Hp} {a : Addr} {u : HO} (e : Same H H') (h : Rd H a u) : Rd H' a u := by
  rcases h with h | ⟨o, h⟩
  · exact .inl (e a _ h)
  · exact .inr ⟨o, e a _ h⟩
theorem same_t {K : PySem.W.Frag} {H H' : Hp} {a : Addr} {xs : List V} (e : Same H H') (h : SqT K H a xs) : SqT K H' a xs := by
  rcases h with h | h
  · exact .inl (same_rd e h)
  · exact .inr h
/-- a list or a tuple -/
def Sq (K : PySem.W.Frag) (H : Hp) (a : Addr) (xs : List V) : Prop := SqL K H a xs ∨ SqT K H a xs
theorem Sq.up {K : PySem.W.Frag} {H H' : Hp} {a : Addr} {xs : List V} (h : Sq K H a xs) (e : Same H H') : Sq K H' a xs := h.elim (fun h => .inl (e.seq h)) fun h => .inr (same_t e h)

theorem Sq.lst {K : PySem.W.Frag} {H : Hp} {a : Addr} {xs : List V} (h : H a = some (.lst xs)) : Sq K H a xs := .inl (SqL.of h)
theorem Sq.tup {K : PySem.W.Frag} {H : Hp} {a : Addr} {xs : List V} (h : H a = some (.tup xs)) : Sq K H a xs := .inr (SqT.of h)
theorem cut_hi {α : Type} (f : α → V) (xs : List α) (j : Nat) : cutV (xs.map f) none (some (j : Int)) = (xs.take j).map f := by
  unfold cutV
  rw [HT.sIx_none, HT.sIx_nat, List.drop_zero, Nat.sub_zero, List.length_map, ← List.map_take]
  congr 1
  rw [← List.take_take, List.take_length] 
/-! ### rules of our own -/
section
variable {X : Cx}
theorem lcm_lt {a b : Int} (ha : a.natAbs < 2 ^ 16) (hb : b.natAbs < 2 ^ 16) : ((((Nat.lcm 1 a.natAbs).lcm b.natAbs : Nat) : Int)).natAbs.log2 < bitsLine := by
  have e : (Nat.lcm 1 a.natAbs).lcm b.natAbs ≤ a.natAbs * b.natAbs := by
    have h1 : Nat.lcm 1 a.natAbs = a.natAbs := by simp [Nat.lcm]
    rw [h1]
    by_cases z : a.natAbs * b.natAbs = 0
    · have : Nat.lcm a.natAbs b.natAbs = 0 := by
        unfold Nat.lcm
        rw [z]
        exact Nat.zero_div _
      omega
    · unfold Nat.lcm
      exact Nat.div_le_self _ _
  have l : a.natAbs * b.natAbs < 2 ^ 16 * 2 ^ 16 := Nat.mul_lt_mul_of_lt_of_lt ha hb
  have g : (Nat.lcm 1 a.natAbs).lcm b.natAbs < 2 ^ 32 := by omega
  rw [Int.natAbs_natCast]
  have : ((Nat.lcm 1 a.natAbs).lcm b.natAbs).log2 < 64 := by
    by_cases z : (Nat.lcm 1 a.natAbs).lcm b.natAbs = 0
    · rw [z]; decide
    · exact (Nat.log2_lt z).mpr (Nat.lt_of_lt_of_le g (by decide))
  exact Nat.lt_of_lt_of_le this (by decide)
theorem cr_lcm : CallR X (.builtin "math.lcm") (fun vs H Q => ∃ a b : Int, vs = [.int a, .int b] ∧ a.natAbs < 2 ^ 16 ∧ b.natAbs < 2 ^ 16 ∧ Q (.int ((Nat.lcm a.natAbs b.natAbs : Nat) : Int)) H) := by
  intro pins s σ H vs us Q I r h
  obtain ⟨a, b, rfl, ha, hb, q⟩ := h
  obtain ⟨t, u, rfl⟩ := Vals.int2 r
  have e : Nat.lcm 1 a.natAbs = a.natAbs := by simp [Nat.lcm]
  refine PySem.W.mg_lcm (Nat.lt_of_lt_of_le ha (by decide)) (Nat.lt_of_lt_of_le hb (by decide)) (lcm_lt ha hb) ?_
  rw [e]
  exact ⟨.int _, H, I.tok _, ⟨_, rfl⟩, q⟩
def rSumS (K : PySem.W.Frag) : List V → Hp → VK → Prop := fun vs H Q => ∃ (a : Addr) (ns : List Int), vs = [V.ref a] ∧ Sq K H a (ns.map V.int) ∧ Q (.int ns.sum) H
theorem cr_sumS (hc : X.calm = true) : CallR X (.builtin "sum") (rSumS X.K) := by
  intro pins s σ H vs us Q I r h
  obtain ⟨a, ns, rfl, hs, q⟩ := h
  rcases hs with hs | hs
  · exact cr_sum hc pins s σ H _ us Q I r ⟨a, ns, rfl, hs, q⟩
  · obtain ⟨its, rv, ht, _⟩ := I.tuple hs
    rw [Vals.ref1 r]
    have hi := rv.ints
    obtain ⟨xs, hx⟩ := hi.allInts.items
    have hn : numsOf its.toArray.toList = ns := by rw [show its.toArray.toList = its from rfl, hi.numsOf]
    have hl : s.heap.IsTuple a its.toArray := ht
    rw [hx] at hl hn
    rw [nums_intItems] at hn
    refine PySem.W.ktm_sumG (I.ok.hd hc) hl fun h' tk t' hk => ?_
    have z : EP X pins σ Q (.int ns.sum t') { s with heap := h', toks := tk } := ⟨.int _, H, I.kept hk, ⟨_, rfl⟩, q⟩
    rw [preSum_eq, List.take_of_length_le (by simp), hn]
    exact z
def rSlS (K : PySem.W.Frag) : V → Option Int → Option Int → Hp → VK → Prop := fun x lo hi H Q => rSlL K x lo hi H Q ∨ rSlT K x lo hi H Q
theorem sl_seq : SlR X (rSlS X.K) := sl_list.or sl_tup
/-- xs[j] in xs[j] op= e -/
def rGetL (K : PySem.W.Frag) : V → V → Hp → VK → Prop := fun o i H Q => ∃ p xs j v, o = .ref p ∧ i = .int ((j : Nat) : Int) ∧ SqL K H p xs ∧ xs[j]? = some v ∧ Q v H
theorem get_list : PGet X (rGetL X.K) := by
  intro pins s σ H o i ov iv Q I ro ri h
  obtain ⟨p, xs, j, v, rfl, rfl, hs, hv, q⟩ := h
  cases ro
  obtain ⟨t, rfl⟩ := ri
  obtain ⟨its, r, pl, hz⟩ := I.list hs
  obtain ⟨w, ew, rw'⟩ := r.get hv
  have hl := r.length
  have hn := line63
  have hj := (List.getElem?_eq_some_iff.mp hv).1
  exact wpAny_getItem_list pl.isList (by omega) (by omega) (x := w) (by simpa using ew) ⟨v, H, I, rw', q⟩
end
/-! ### built-ins under names -/
section
variable {X : Cx}
def rLenQ (K : PySem.W.Frag) : List V → Hp → VK → Prop := fun xs H Q => ∃ p ys, xs = [.ref p] ∧ (SqL K H p ys ∨ SqT K H p ys) ∧ Q (.int ys.length) H
theorem call_lenQ : CallR X (.builtin "len") (rLenQ X.K) := call_len_seq
def rLenS : List V → Hp → VK → Prop := fun xs H Q => ∃ z, xs = [.str z] ∧ z.length ≤ sizeLine ∧ Q (.int z.length) H
theorem call_lenS : CallR X (.builtin "len") rLenS := call_len_str
def rDivmod : List V → Hp → VK → Prop := fun xs H Q => ∃ i j, xs = [.int i, .int j] ∧ CDiv i j ∧ ∀ p, H p = none → Q (.ref p) (upd H p (.tup [.int (i / j), .int (i % j)]))
theorem call_divmodQ : CallR X (.builtin "divmod") rDivmod := call_divmod
def rMax2 : List V → Hp → VK → Prop := fun xs H Q => ∃ i j, xs = [.int i, .int j] ∧ Q (.int (if j > i then j else i)) H
theorem call_max2Q (hc : X.calm = true) : CallR X (.builtin "max") rMax2 := call_max2 hc
def rMin2 : List V → Hp → VK → Prop := fun xs H Q => ∃ i j, xs = [.int i, .int j] ∧ Q (.int (if j < i then j else i)) H
theorem call_min2Q (hc : X.calm = true) : CallR X (.builtin "min") rMin2 := call_min2 hc
def rAbs : List V → Hp → VK → Prop := fun xs H Q => ∃ i, xs = [.int i] ∧ Q (.int (if i < 0 then -i else i)) H
theorem call_absQ : CallR X (.builtin "abs") rAbs := call_abs
def rInt1 : List V → Hp → VK → Prop := fun xs H Q => (∃ i, xs = [.int i] ∧ Q (.int i) H) ∨ ∃ k, xs = [.bl k] ∧ Q (.int (if k then 1 else 0)) H
theorem call_int1Q : CallR X (.type "int") rInt1 := call_int1
def rListQ (K : PySem.W.Frag) : List V → Hp → VK → Prop := fun xs H Q => ∃ p ys, xs = [.ref p] ∧ (SqL K H p ys ∨ SqT K H p ys) ∧ ∀ l, H l = none → Q (.ref l) (upd H l (.lst ys))
theorem call_listQ : CallR X (.type "list") (rListQ X.K) := call_list_of
def rTupleQ (K : PySem.W.Frag) : List V → Hp → VK → Prop := fun xs H Q => ∃ p ys, xs = [.ref p] ∧ ((SqL K H p ys ∧ ∀ l, H l = none → Q (.ref l) (upd H l (.tup ys))) ∨ (SqT K H p ys ∧ Q (.ref p) H))
theorem call_tupleQ : CallR X (.type "tuple") (rTupleQ X.K) := call_tuple_of
def rIsN : R2 := fun x y H Q => y = .non ∧ Q (.bl (decide (x = .non))) H
def rNotN : R2 := fun x y H Q => y = .non ∧ Q (.bl (!decide (x = .non))) H
theorem op_isNQ : OpR X (compareOp .Is) rIsN := op_isN
theorem op_notNQ : OpR X (compareOp .IsNot) rNotN := op_notN
def rAddStr : R2 := fun x y H Q => ∃ i j, x = .str i ∧ y = .str j ∧ i.length + j.length ≤ sizeLine ∧ Q (.str (i ++ j)) H
theorem op_add_strQ : OpR X (binaryOp .Add) rAddStr := op_add_str
variable {K : PySem.W.Frag} {σ : L2.St} {H : Hp} {Q : VK} {te : TE} {tz : TS} {D : Ends} {g : TG}
theorem r_lenQ {a : Addr} {xs : List V} (h : Sq K H a xs) (q : Q (.int xs.length) H) : rLenQ K [.ref a] H Q := ⟨a, xs, rfl, h, q⟩
theorem r_lenS {z : Str} (h : z.length ≤ sizeLine) (q : Q (.int z.length) H) : rLenS [.str z] H Q := ⟨z, rfl, h, q⟩
theorem r_divmod {i j : Int} (c : CDiv i j) (q : ∀ p, H p = none → Q (.ref p) (upd H p (.tup [.int (i / j), .int (i % j)]))) : rDivmod [.int i, .int j] H Q := ⟨i, j, rfl, c, q⟩
theorem r_max2 {i j : Int} (q : Q (.int (if j > i then j else i)) H) : rMax2 [.int i, .int j] H Q := ⟨i, j, rfl, q⟩
theorem r_min2 {i j : Int} (q : Q (.int (if j < i then j else i)) H) : rMin2 [.int i, .int j] H Q := ⟨i, j, rfl, q⟩
theorem r_abs {i : Int} (q : Q (.int (if i < 0 then -i else i)) H) : rAbs [.int i] H Q := ⟨i, rfl, q⟩
theorem r_int1b {k : Bool} (q : Q (.int (if k then 1 else 0)) H) : rInt1 [.bl k] H Q := .inr ⟨k, rfl, q⟩
theorem r_listQ {a : Addr} {xs : List V} (h : Sq K H a xs) (q : ∀ l, H l = none → Q (.ref l) (upd H l (.lst xs))) : rListQ K [.ref a] H Q := ⟨a, xs, rfl, h, q⟩
theorem r_tupleL {a : Addr} {xs : List V} (h : SqL K H a xs) (q : ∀ l, H l = none → Q (.ref l) (upd H l (.tup xs))) : rTupleQ K [.ref a] H Q := ⟨a, xs, rfl, .inl ⟨h, q⟩⟩
theorem r_isN {x : V} (q : Q (.bl (decide (x = .non))) H) : rIsN x .non H Q := ⟨rfl, q⟩
theorem r_notN {x : V} (q : Q (.bl (!decide (x = .non))) H) : rNotN x .non H Q := ⟨rfl, q⟩
theorem r_notBl {a b : Bool} (q : Q (.bl (!decide (a = b))) H) : rNotB (.bl a) (.bl b) H Q := ⟨a, b, rfl, rfl, q⟩
theorem r_addStr {x y : Str} (h : x.length + y.length ≤ sizeLine) (q : Q (.str (x ++ y)) H) : rAddStr (.str x) (.str y) H Q := ⟨x, y, rfl, rfl, h, q⟩
theorem r_sum {a : Addr} {ns : List Int} (h : SqL K H a (ns.map V.int)) (q : Q (.int ns.sum) H) : rSum K [.ref a] H Q := ⟨a, ns, rfl, h, q⟩
theorem r_sumS {a : Addr} {ns : List Int} (h : Sq K H a (ns.map V.int)) (q : Q (.int ns.sum) H) : rSumS K [.ref a] H Q := ⟨a, ns, rfl, h, q⟩
theorem r_ixS {z : Str} {i : Int} {c : Nat} (hl : z.length ≤ sizeLine) (h : atI z.cps.toList i = some c) (q : Q (.str ⟨#[c]⟩) H) : rIxS (.str z) (.int i) H Q := ⟨z, i, c, rfl, rfl, hl, h, q⟩
theorem r_ixQ {a : Addr} {xs : List V} {i : Int} {v : V} (h : Sq K H a xs) (e : atI xs i = some v) (q : Q v H) : rIx K (.ref a) (.int i) H Q := h.elim (fun h => .inl ⟨a, xs, i, v, rfl, rfl, h, e, q⟩) fun h => .inr (.inl ⟨a, xs, i, v, rfl, rfl, h, e, q⟩)
/-- xs[:j] of a list or a tuple, not the whole -/
theorem r_slS {a : Addr} {xs : List V} {lo hi : Option Int} (h : Sq K H a xs) (c : ¬ (HT.sIx xs.length 0 lo = 0 ∧ HT.sIx xs.length xs.length hi = xs.length)) (q : ∀ p o, H p = none → (o = .lst (cutV xs lo hi) ∨ o = .tup (cutV xs lo hi)) → Q (.ref p) (upd H p o)) : rSlS K (.ref a) lo hi H Q :=
  h.elim (fun h => .inl ⟨a, xs, rfl, h, fun p hp => q p _ hp (.inl rfl)⟩) fun h => .inr ⟨a, xs, rfl, h, c, fun p hp => q p _ hp (.inr rfl)⟩
theorem r_slL {a : Addr} {xs : List V} {lo hi : Option Int} (h : SqL K H a xs) (q : ∀ p, H p = none → Q (.ref p) (upd H p (.lst (cutV xs lo hi)))) : rSlL K (.ref a) lo hi H Q := ⟨a, xs, rfl, h, q⟩
theorem r_fld {f : Str} {ta : TE} (h : ta σ H fun x H1 => ∃ a C dx fs v, x = .ref a ∧ H1 a = some (.ins C dx fs) ∧ Cls K C ∧ NoAttr K C f ∧ fs.lookup f = some v ∧ Q v H1) : tFld K ta f σ H Q := h
theorem r_sl {r : V → Option Int → Option Int → Hp → VK → Prop} {tl th : TO} (h : te σ H fun x H1 => tl σ H1 fun l H2 => th σ H2 fun u H3 => r x l u H3 Q) : tSl r te tl th σ H Q := h
theorem r_noPart {Q : Option Int → Hp → Prop} (q : Q none H) : tNoPart σ H Q := q
theorem r_part {Q : Option Int → Hp → Prop} (h : te σ H fun x H1 => ∃ i, x = .int i ∧ Q (some i) H1) : tPart te σ H Q := h
theorem r_xint {i : Int} {P : Int → Prop} (q : P i) : ∃ j, V.int i = .int j ∧ P j := ⟨i, rfl, q⟩
theorem r_tup2 {n i j : Nat} {p : Addr} {x y : V} {Q : L2.St → Hp → Prop} (hn : n = 2) (h : SqT K H p [x, y]) (q : Q ((σ.set i (some x)).set j (some y)) H) : gTup K n (gCons (gName i) (gCons (gName j) gNil)) (.ref p) σ H Q := ⟨p, _, rfl, h, hn.symm, x, _, rfl, y, _, rfl, rfl, q⟩
theorem r_tup3 {n i j k : Nat} {p : Addr} {x y z : V} {Q : L2.St → Hp → Prop} (hn : n = 3) (h : SqT K H p [x, y, z]) (q : Q (((σ.set i (some x)).set j (some y)).set k (some z)) H) : gTup K n (gCons (gName i) (gCons (gName j) (gCons (gName k) gNil))) (.ref p) σ H Q := ⟨p, _, rfl, h, hn.symm, x, _, rfl, y, _, rfl, z, _, rfl, rfl, q⟩
theorem r_seqA (h : te σ H fun x H1 => g x σ H1 fun σ' H' => tz D σ' H') : tSeq (tAsg te g) tz D σ H := h
theorem r_asgA (h : te σ H fun x H1 => g x σ H1 D.nx) : tAsg te g D σ H := h
theorem r_bm {r : V → List V → Hp → VK → Prop} {tr : TA} {T : String} (h : te σ H fun x H1 => tyV K T x H1 ∧ tr σ H1 fun xs H2 => r x xs H2 Q) : tBM K T r te tr σ H Q := h
theorem r_meth {C : Addr} {m : Str} {sp : Sp} {E : XK} {ta : TE} {t : TA} (h : ta σ H fun x H1 => ∃ a dx fs, x = .ref a ∧ H1 a = some (.ins C dx fs) ∧ fs.lookup m = none ∧ t σ H1 fun vs H2 => sp (x :: (vs ++ [])) H2 Q E) : tMeth C m sp [] E ta t σ H Q := h
theorem r_callN {n m : Nat} {sp : Sp} {gV : List V → List V → List V} {E : XK} {t tk : TA} (h : t σ H fun vs H1 => tk σ H1 fun zs H2 => vs.length = n ∧ zs.length = m ∧ sp (gV vs zs) H2 Q E) : tCallN n m sp gV E t tk σ H Q := h
theorem r_append {l : Addr} {xs : List V} {y : V} (h : H l = some (.lst xs)) (z : xs.length < sizeLine) (q : Q .non (upd H l (.lst (xs ++ [y])))) : rAppend (.ref l) [y] H Q := ⟨l, xs, y, rfl, rfl, h, z, q⟩
theorem ty_list {l : Addr} {xs : List V} {P : Prop} (h : H l = some (.lst xs)) (p : P) : tyV K "list" (.ref l) H ∧ P := ⟨.inl ⟨rfl, xs, SqL.of h⟩, p⟩
theorem r_setL {l : Addr} {xs : List V} {j : Nat} {v : V} {Q : Hp → Prop} (h : H l = some (.lst xs)) (hj : j < xs.length) (q : Q (upd H l (.lst (xs.set j v)))) : rSetL (.ref l) (.int (j : Int)) v H Q := ⟨l, xs, j, j, rfl, rfl, h, Evl.ixN_nat hj, q⟩
end
/-! ### loops -/
section
variable {K : PySem.W.Frag} {σ : L2.St} {H : Hp} {D : Ends} {g : TG} {tb tz : TS} {wi : TI}
/-- a loop from here: what follows it is D.nx -/
def Loop (g : TG) (tb : TS) (D : Ends) (σ : L2.St) (J : It) (H1 : Hp) : Prop := ∃ W : Nat → Nat → L2.St → Hp → Prop, (∃ m, W 0 m σ H1) ∧ ∀ i m σ H, W i m σ H →
  (J.stop i H ∧ D.nx σ H) ∨ (J.go i H ∧ ∃ N : L2.St → Hp → Prop, (∀ σ' H', N σ' H' → ∃ m', m' < m ∧ W (i + 1) m' σ' H') ∧ ∀ x H', J.yld i H x H' → g x σ H' fun σ2 H2 => tb { D with nx := N, ct := N, bk := D.nx } σ2 H2)
theorem r_seqFor (h : wi σ H fun J H1 => Loop g tb { D with nx := tz D } σ J H1) : tSeq (tFor wi g tb) tz D σ H := h
theorem r_for (h : wi σ H fun J H1 => Loop g tb D σ J H1) : tFor wi g tb D σ H := h
theorem r_rng1 {ta : TA} {R : It → Hp → Prop} (h : ta σ H fun vs H1 => ∃ j : Int, vs = [.int j] ∧ -(2 ^ 62) ≤ j ∧ j < 2 ^ 62 ∧ R (Itr 0 j.toNat) H1) : iRng1 ta σ H R := h
theorem r_rng2 {ta : TA} {R : It → Hp → Prop} (h : ta σ H fun vs H1 => ∃ i j : Int, vs = [.int i, .int j] ∧ (-(2 ^ 62) ≤ i ∧ i < 2 ^ 62 ∧ -(2 ^ 62) ≤ j ∧ j < 2 ^ 62) ∧ R (Itr i (j - i).toNat) H1) : iRng2 ta σ H R := h
theorem r_rng3 {ta : TA} {R : It → Hp → Prop} (h : ta σ H fun vs H1 => ∃ (i j c : Int) (n : Nat), vs = [.int i, .int j, .int c] ∧ RgC i j c n ∧ R (Itc i c n) H1) : iRng3 ta σ H R := h
theorem r_itL {te : TE} {R : It → Hp → Prop} (h : te σ H fun x H1 => ∃ a, x = .ref a ∧ (∃ xs, SqL K H1 a xs) ∧ R (Itl K a) H1) : iList K te σ H R := h
theorem r_itT {te : TE} {R : It → Hp → Prop} (h : te σ H fun x H1 => ∃ a, x = .ref a ∧ (∃ xs, SqT K H1 a xs) ∧ R (Itt K a) H1) : iTup K te σ H R := h
theorem loop_range {lo : Int} {n : Nat} (Pv : Nat → L2.St → Hp → Prop) (h0 : Pv 0 σ H) (hs : ∀ (i : Nat) σ H, i < n → Pv i σ H → g (.int (lo + (i : Int))) σ H fun σ2 H2 => tb { D with nx := Pv (i + 1), ct := Pv (i + 1), bk := D.nx } σ2 H2)
    (hd : ∀ σ H, Pv n σ H → D.nx σ H) : Loop g tb D σ (Itr lo n) H := for_range Pv h0 hs hd
theorem loop_rangeC {lo c : Int} {n : Nat} (Pv : Nat → L2.St → Hp → Prop) (h0 : Pv 0 σ H) (hs : ∀ (i : Nat) σ H, i < n → Pv i σ H → g (.int (lo + ((i : Nat) : Int) * c)) σ H fun σ2 H2 => tb { D with nx := Pv (i + 1), ct := Pv (i + 1), bk := D.nx } σ2 H2)
    (hd : ∀ σ H, Pv n σ H → D.nx σ H) : Loop g tb D σ (Itc lo c n) H := for_rangeC Pv h0 hs hd
theorem loop_list {a : Addr} {xs : List V} (Pv : Nat → L2.St → Hp → Prop) (h0 : Pv 0 σ H) (hl : ∀ i σ H, i ≤ xs.length → Pv i σ H → SqL K H a xs)
    (hs : ∀ (i : Nat) x σ H, xs[i]? = some x → Pv i σ H → g x σ H fun σ2 H2 => tb { D with nx := Pv (i + 1), ct := Pv (i + 1), bk := D.nx } σ2 H2) (hd : ∀ σ H, Pv xs.length σ H → D.nx σ H) : Loop g tb D σ (Itl K a) H := for_list Pv h0 hl hs hd
theorem loop_tup {a : Addr} {xs : List V} (Pv : Nat → L2.St → Hp → Prop) (h0 : Pv 0 σ H) (hl : ∀ i σ H, i ≤ xs.length → Pv i σ H → SqT K H a xs)
    (hs : ∀ (i : Nat) x σ H, xs[i]? = some x → Pv i σ H → g x σ H fun σ2 H2 => tb { D with nx := Pv (i + 1), ct := Pv (i + 1), bk := D.nx } σ2 H2) (hd : ∀ σ H, Pv xs.length σ H → D.nx σ H) : Loop g tb D σ (Itt K a) H := for_tup Pv h0 hl hs hd
/-- the target a name -/
theorem r_gN {i : Nat} {x : V} {Q : L2.St → Hp → Prop} (q : Q (σ.set i (some x)) H) : gName i x σ H Q := q
end
/-! ### comprehensions -/
section
variable {K : PySem.W.Frag} {σ : L2.St} {H : Hp} {g : TG} {wi : TI} {tt : TT} {te : TE} {vs : List Nat} {Q : VK} {Qd : Hp → Prop} {D : Addr}
def Lc (g : TG) (tt : TT) (te : TE) (vs : List Nat) (σ : L2.St) (Qd : Hp → Prop) (J : It) (H1 : Hp) (D : Addr) : Prop := ∃ W : Nat → Nat → Hp → Prop, (∃ m, W 0 m (upd H1 D (.lst []))) ∧ ∀ i m H, W i m H →
  (J.stop i H ∧ Qd H) ∨ (J.go i H ∧ ∃ Nx : Hp → Prop, (∀ H', Nx H' → ∃ m', m' < m ∧ W (i + 1) m' H') ∧ ∀ x H', J.yld i H x H' → g x (wipe σ vs) H' fun σ2 H2 => wipe σ2 vs = wipe σ vs ∧ tt σ2 H2 fun b H3 =>
    if b = true then te σ2 H3 fun y H4 => ∃ acc, H4 D = some (.lst acc) ∧ acc.length < sizeLine ∧ Nx (upd H4 D (.lst (acc ++ [y]))) else Nx H3)
theorem r_lc (h : wi σ H fun J H1 => ∀ D, H1 D = none → Lc g tt te vs σ (Q (.ref D)) J H1 D) : tLc wi g tt te vs σ H Q := h
theorem lc_L {a : Addr} {xs : List V} (Pv : Nat → Hp → Prop) (h0 : Pv 0 (upd H D (.lst []))) (hl : ∀ i H, i ≤ xs.length → Pv i H → SqL K H a xs)
    (hs : ∀ (i : Nat) x H, xs[i]? = some x → Pv i H → g x (wipe σ vs) H fun σ2 H2 => wipe σ2 vs = wipe σ vs ∧ tt σ2 H2 fun b H3 =>
      if b = true then te σ2 H3 fun y H4 => ∃ acc, H4 D = some (.lst acc) ∧ acc.length < sizeLine ∧ Pv (i + 1) (upd H4 D (.lst (acc ++ [y]))) else Pv (i + 1) H3) (hd : ∀ H, Pv xs.length H → Qd H) : Lc g tt te vs σ Qd (Itl K a) H D := lc_list Pv h0 hl hs hd
theorem lc_T {a : Addr} {xs : List V} (Pv : Nat → Hp → Prop) (h0 : Pv 0 (upd H D (.lst []))) (hl : ∀ i H, i ≤ xs.length → Pv i H → SqT K H a xs)
    (hs : ∀ (i : Nat) x H, xs[i]? = some x → Pv i H → g x (wipe σ vs) H fun σ2 H2 => wipe σ2 vs = wipe σ vs ∧ tt σ2 H2 fun b H3 =>
      if b = true then te σ2 H3 fun y H4 => ∃ acc, H4 D = some (.lst acc) ∧ acc.length < sizeLine ∧ Pv (i + 1) (upd H4 D (.lst (acc ++ [y]))) else Pv (i + 1) H3) (hd : ∀ H, Pv xs.length H → Qd H) : Lc g tt te vs σ Qd (Itt K a) H D := lc_tup Pv h0 hl hs hd
theorem lc_R {lo : Int} {n : Nat} (Pv : Nat → Hp → Prop) (h0 : Pv 0 (upd H D (.lst [])))
    (hs : ∀ (i : Nat) H, i < n → Pv i H → g (.int (lo + (i : Int))) (wipe σ vs) H fun σ2 H2 => wipe σ2 vs = wipe σ vs ∧ tt σ2 H2 fun b H3 =>
      if b = true then te σ2 H3 fun y H4 => ∃ acc, H4 D = some (.lst acc) ∧ acc.length < sizeLine ∧ Pv (i + 1) (upd H4 D (.lst (acc ++ [y]))) else Pv (i + 1) H3) (hd : ∀ H, Pv n H → Qd H) : Lc g tt te vs σ Qd (Itr lo n) H D := lc_range Pv h0 hs hd
theorem r_yes {QB : Bool → Hp → Prop} (q : QB true H) : tYes σ H QB := q
end
/-! ### the rules that speak of the written part, said of a K -/
section
variable {X : Cx} {K : PySem.W.Frag}
theorem k_ixT (h : X.K = K := by rfl) : IxR X (rIxT K) := h ▸ ix_tup
theorem k_ixL (h : X.K = K := by rfl) : IxR X (rIxL K) := h ▸ ix_list
theorem k_ixQ (h : X.K = K := by rfl) : IxR X (rIx K) := h ▸ ix_seq
theorem k_slL (h : X.K = K := by rfl) : SlR X (rSlL K) := h ▸ sl_list
theorem k_slT (h : X.K = K := by rfl) : SlR X (rSlT K) := h ▸ sl_tup
theorem k_slS (h : X.K = K := by rfl) : SlR X (rSlS K) := h ▸ sl_seq
theorem k_len (h : X.K = K := by rfl) : CallR X (.builtin "len") (rLenQ K) := h ▸ call_lenQ
theorem k_listQ (h : X.K = K := by rfl) : CallR X (.type "list") (rListQ K) := h ▸ call_listQ
theorem k_tupleQ (h : X.K = K := by rfl) : CallR X (.type "tuple") (rTupleQ K) := h ▸ call_tupleQ
theorem k_sum (hc : X.calm = true := by rfl) (h : X.K = K := by rfl) : CallR X (.builtin "sum") (rSum K) := h ▸ cr_sum hc
theorem k_sumS (hc : X.calm = true := by rfl) (h : X.K = K := by rfl) : CallR X (.builtin "sum") (rSumS K) := h ▸ cr_sumS hc
theorem k_max (hc : X.calm = true := by rfl) (h : X.K = K := by rfl) : CallR X (.builtin "max") (rMax K) := h ▸ cr_max hc
theorem k_all (hc : X.calm = true := by rfl) (h : X.K = K := by rfl) : CallR X (.builtin "all") (rAll K) := h ▸ cr_all hc
theorem k_in (h : X.K = K := by rfl) : OpR X (compareOp .In) (rIn K false) := h ▸ op_in_seq
theorem k_notIn (h : X.K = K := by rfl) : OpR X (compareOp .NotIn) (rIn K true) := h ▸ op_notIn_seq
theorem k_get (h : X.K = K := by rfl) : PGet X (rGetL K) := h ▸ get_list
theorem k_index (h : X.K = K := by rfl) : MtR X "list.index" (rIndex K) := h ▸ mt_index
variable {tg e o value : Expr} {es : List Expr} {te tl tv ta : TE} {t : TA} {f : Str} {pos pos' : Pos} {n kk : Nat} {tt : TGs}
theorem k_fld (he : PE X e ta) (hb : attributeBase e f X.env (eval e X.env) = eval e X.env) (h : X.K = K := by rfl) : PE X (.Attribute e f pos) (tFld K ta f) := h ▸ pe_fld he hb
theorem k_sfld (ha : PE X o ta) (hv : PE X value tv) (hs : swapsWith value (some (.Attribute o f pos')) pos.line X.env = pure false) (h : X.K = K := by rfl) : PS X (.Assign [.Attribute o f pos'] value pos) (sFld K ta tv f) := h ▸ ps_fld ha hv hs
theorem k_list {l : Expr} (hl : PE X l tl) (h : X.K = K := by rfl) : PI X tg l (iList K tl) := h ▸ pi_list hl
theorem k_tup {l : Expr} (hl : PE X l tl) (h : X.K = K := by rfl) : PI X tg l (iTup K tl) := h ▸ pi_tup hl
theorem k_tupG (hc : X.calm = true) (h : PGs X es tt) (hn : (assignEach es X.env).length = n := by rfl) (hst : (assignEach es X.env).findIdx? (·.1) = none := by rfl) (hK : X.K = K := by rfl) : PG X (.Tuple es kk pos) (gTup K n tt) := hK ▸ pg_tup hc h hn hst
theorem k_bm {T : String} {name : Str} {id : String} {r : V → List V → Hp → VK → Prop} {apos : Pos} (pa : PlainAttrs T) (slot : Slot T name id) (hty : typeOf (.builtin id) = pure (.type "method_descriptor")) (hm : MtR X id r) (ho : PE X o ta) (ha : PA X (e :: es) t)
    (hbase : attributeBase o name X.env (eval o X.env) = eval o X.env := by rfl)
    (hfew : ((backTo pos (starEach (e :: es) X.env)).all (fun x => !x.1) && (backToKw pos (keywordEach [] X.env)).all (fun x => x.1.isSome)
      && decide ((e :: es).length + ([] : List Keyword).length + (if ([] : List Keyword).isEmpty then 0 else 1) < 30)) = true := by rfl)
    (hline : (apos.endLine == pos.line) = true := by rfl) (hs : starEach (e :: es) X.env = (false, eval e X.env) :: starEach es X.env := by rfl)
    (hpl : (backTo pos (starEach es X.env)).any (·.1) = false := by rfl) (h : X.K = K := by rfl) : PE X (.Call (.Attribute o name apos) (e :: es) [] pos) (tBM K T r ta t) := h ▸ pe_bm pa slot hty hm ho ha hbase hfew hline hs hpl
end
section
variable {X : Cx}
/-! ### defs that keep a promise, by their names -/
def Has (P : Program) (w : World) (K : PySem.W.Frag) (mg : Str → Option Value) (base : Heap) (x : Str) (ps : List Str) (k : Nat) (sp : Sp) : Prop :=
  ∃ f fd, mg x = some (.ref f) ∧ FnOk P w K mg base CX0 k f fd ps sp ∧ PySem.W.keepIn K (.ref f) = true ∧ Binds K fd ps []
/-- with keywords: n values by place, those named ks behind them -/
def HasK (P : Program) (w : World) (K : PySem.W.Frag) (mg : Str → Option Value) (base : Heap) (x : Str) (ps : List Str) (n : Nat) (ks : List Str) (k : Nat) (sp : Sp) : Prop :=
  ∃ f fd, mg x = some (.ref f) ∧ FnOk P w K mg base CX0 k f fd ps sp ∧ PySem.W.keepIn K (.ref f) = true ∧ KBn K fd ps n ks (fun us ws => us ++ ws) (fun vs zs => vs ++ zs)
/-- a method -/
def HasM (P : Program) (w : World) (K : PySem.W.Frag) (mg : Str → Option Value) (base : Heap) (C : Addr) (m : Str) (ps : List Str) (k : Nat) (sp : Sp) : Prop :=
  ∃ f fd, Meth K C m f ∧ Cls K C ∧ FnOk P w K mg base CX0 k f fd ps sp ∧ Binds K fd ps []
/-- a property -/
def HasP (P : Program) (w : World) (K : PySem.W.Frag) (mg : Str → Option Value) (base : Heap) (C : Addr) (f : Str) (k : Nat) (sp : Sp) : Prop :=
  ∃ p g fd, PropOf K C f p g ∧ Cls K C ∧ FnOk P w K mg base CX0 k g fd ["self"] sp ∧ Binds K fd ["self"] []
section
variable {P : Program} {w : World} {K : PySem.W.Frag} {mg : Str → Option Value} {base : Heap} {x qual m : Str} {params : Arguments} {body : List Stmt} {scope : Scope} {f C : Addr} {fd : FuncData} {ps ks : List Str} {k j n : Nat} {sp : Sp}
theorem Has.mono (h : Has P w K mg base x ps j sp) (hj : j ≤ k) : Has P w K mg base x ps k sp := by
  obtain ⟨f, fd, h1, h2, h3, h4⟩ := h
  exact ⟨f, fd, h1, h2.mono hj, h3, h4⟩
theorem has_mk (F : FunD K x qual params body scope [] [] f fd) (g : mg x = some (.ref f)) (b : ∀ (kV doc pm : Value) (an : Option Addr) (cdv ct : Value) (us : List Value), us.length = ps.length → bindArgs (PySem.W.fnOf x qual params body scope .none kV doc pm an cdv ct) ⟨us, []⟩ = pure (ps.zip us))
    (ok : FnOk P w K mg base CX0 k f fd ps sp) : Has P w K mg base x ps k sp := ⟨f, fd, g, ok, F.kp, F.bindsN b⟩
theorem kbn_of (F : FunD K x qual params body scope [] [] f fd) (n : Nat) (ks : List Str) (h : ∀ (kV doc pm : Value) (an : Option Addr) (cdv ct : Value) (us ws : List Value), us.length = n → ws.length = ks.length → bindArgs (PySem.W.fnOf x qual params body scope .none kV doc pm an cdv ct) ⟨us, ks.zip ws⟩ = pure (ps.zip (us ++ ws))) :
    KBn K fd ps n ks (fun us ws => us ++ ws) (fun vs zs => vs ++ zs) := by
  obtain ⟨oc, od, dV, kV, doc, pm, an, cdv, ct, osl, rfl, lk, hcd, hD, hK⟩ := F.ex
  rcases hD with ⟨_, rfl⟩ | ⟨e, _⟩
  · exact ⟨fun s us ws _ l1 l2 => .of_eq (h kV doc pm an cdv ct us ws l1 l2), fun r1 r2 => r1.append r2⟩
  · exact absurd rfl e
theorem hask_mk (F : FunD K x qual params body scope [] [] f fd) (g : mg x = some (.ref f)) (h : ∀ (kV doc pm : Value) (an : Option Addr) (cdv ct : Value) (us ws : List Value), us.length = n → ws.length = ks.length → bindArgs (PySem.W.fnOf x qual params body scope .none kV doc pm an cdv ct) ⟨us, ks.zip ws⟩ = pure (ps.zip (us ++ ws)))
    (ok : FnOk P w K mg base CX0 k f fd ps sp) : HasK P w K mg base x ps n ks k sp := ⟨f, fd, g, ok, F.kp, kbn_of F n ks h⟩
theorem hasm_mk (F : FunD K x qual params body scope [] [] f fd) (hm : Meth K C m f) (c : Cls K C) (b : ∀ (kV doc pm : Value) (an : Option Addr) (cdv ct : Value) (us : List Value), us.length = ps.length → bindArgs (PySem.W.fnOf x qual params body scope .none kV doc pm an cdv ct) ⟨us, []⟩ = pure (ps.zip us))
    (ok : FnOk P w K mg base CX0 k f fd ps sp) : HasM P w K mg base C m ps k sp := ⟨f, fd, hm, c, ok, F.bindsN b⟩
theorem hasp_mk {pr : Str} {p : Addr} (F : FunD K x qual params body scope [] [] f fd) (hp : PropOf K C pr p f) (c : Cls K C) (b : ∀ (kV doc pm : Value) (an : Option Addr) (cdv ct : Value) (us : List Value), us.length = ["self"].length → bindArgs (PySem.W.fnOf x qual params body scope .none kV doc pm an cdv ct) ⟨us, []⟩ = pure ((["self"] : List Str).zip us))
    (ok : FnOk P w K mg base CX0 k f fd ["self"] sp) : HasP P w K mg base C pr k sp := ⟨p, f, fd, hp, c, ok, F.bindsN b⟩
end
section
variable {x m pr : Str} {p pos apos : Pos} {e o : Expr} {es : List Expr} {kws : List Keyword} {t tk : TA} {ta : TE} {ps ks : List Str} {k n : Nat} {sp : Sp} {C : Addr}
theorem pe_hc (h : Has X.prog X.w X.K X.mg X.base x ps k sp) (hr : Room k X.A) (hg : Gl X x) (ha : PA X (e :: es) t) (hdb : (x == ("__debug__" : Str)) = false := by decide) (he : starEach (e :: es) X.env = (false, eval e X.env) :: starEach es X.env := by rfl)
    (hpl : (backTo pos (starEach es X.env)).any (·.1) = false := by rfl) : PE X (.Call (.Name x p) (e :: es) [] pos) (tCall sp [] E0 t) := by
  obtain ⟨f, fd, h1, h2, h3, h4⟩ := h
  exact pe_call h2 hr hg h1 h3 h4 .nil pass0 ha hdb he hpl
theorem pe_hk (h : HasK X.prog X.w X.K X.mg X.base x ps n ks k sp) (hr : Room k X.A) (hg : Gl X x) (ha : PA X (e :: es) t) (hkw : PK X kws tk) (hall : (backToKw pos (keywordEach kws X.env)).all (·.1.isSome) = true := by rfl)
    (hks : (backToKw pos (keywordEach kws X.env)).filterMap (·.1) = ks := by rfl) (hdb : (x == ("__debug__" : Str)) = false := by decide) (he : starEach (e :: es) X.env = (false, eval e X.env) :: starEach es X.env := by rfl)
    (hpl : ((backTo pos (starEach (e :: es) X.env)).any (·.1) || (backToKw pos (keywordEach kws X.env)).any (·.1.isNone)) = false := by rfl) :
    PE X (.Call (.Name x p) (e :: es) kws pos) (tCallN n ks.length sp (fun vs zs => vs ++ zs) E0 t tk) := by
  obtain ⟨f, fd, h1, h2, h3, h4⟩ := h
  exact pe_callN h2 hr hg h1 h3 h4 pass0 ha hkw hall hks hdb he hpl
theorem pe_hm {pl : Sem Bool} (h : HasM X.prog X.w X.K X.mg X.base C m ps k sp) (hr : Room k X.A) (he : PE X o ta) (ha : PA X (e :: es) t)
    (hst : starEach (e :: es) X.env = (false, eval e X.env) :: starEach es X.env := by rfl) (hpl : (backTo pos (starEach es X.env)).any (·.1) = false := by rfl)
    (ht : eval (.Call (.Attribute o m apos) (e :: es) [] pos) X.env = (do
      let ov ← eval o X.env
      standAt apos.atName
      let (f, first) ← holding [ov] (getMethod ov m pl)
      callWith pos f first (backTo pos (starEach (e :: es) X.env)) (backToKw pos (keywordEach [] X.env))) := by rfl) :
    PE X (.Call (.Attribute o m apos) (e :: es) [] pos) (tMeth C m sp [] E0 ta t) := by
  obtain ⟨f, fd, h1, h2, h3, h4⟩ := h
  exact pe_meth he h2 h1 h3 hr h4 .nil pass0 ha hst hpl ht
theorem pe_hp (h : HasP X.prog X.w X.K X.mg X.base C pr k sp) (hr : Room (k + 1) X.A) (he : PE X e ta) (hab : attributeBase e pr X.env (eval e X.env) = eval e X.env) : PE X (.Attribute e pr pos) (tProp C sp [] E0 ta) := by
  obtain ⟨p, g, fd, h1, h2, h3, h4⟩ := h
  exact pe_prop he h2 h1 h3 hr h4 .nil pass0 hab
end
end
end NL
end
-- part W2
section
set_option Elab.async false
set_option linter.all false
set_option maxRecDepth 100000
set_option maxHeartbeats 4000000
namespace PySem
open Sem (wp)
open AutoSeq1 (wpAny_loadPart')
theorem nl_enumerate_newT (l : Addr) (items : Array Value) (n : Nat) (dct : Option Addr) (sl : Array (Option Value)) :
    Meets (Builtin.«enumerate.__new__» ⟨[.type "enumerate", .ref l], []⟩) (fun _ R s => s.heap.get? l = some { cls := .type "tuple", dict := dct, data := .seq items n, slots := sl } ∧
      R (.ok (.ret (.ref (s.heap.push { cls := .type "tuple_iterator", data := .fields #[.ref l, .int 0 0] }).objs.size)))
        { s with heap := (s.heap.push { cls := .type "tuple_iterator", data := .fields #[.ref l, .int 0 0] }).push { cls := .type "enumerate", data := .fields #[.none, .bool false, .ref s.heap.objs.size, rawInt 0, .none, .none] } }) :=
  .of_wp fun prog w A R s h => by
    obtain ⟨hp, g, d, tk, os⟩ := s
    obtain ⟨hl, h⟩ := h
    have hsub := sub_enumerate
    have hL : Heap.IsTuple (Shared.heap ⟨hp, g, d, tk, os⟩) l items := ⟨_, hl, rfl, n, rfl⟩
    wp_walk using wpAny_loadPart' hl
    refine wpAny_stack_any fun st => wpAny_pure ?_
    split
    · rename_i c _ _ _ _ _
      cases (c == Value.type "enumerate")
      · wp_walk using wpAny_loadPart' hl, wpAny_pyIter_tuple hL
        exact ⟨_, rfl, h⟩
      · wp_walk using wpAny_loadPart' hl, wpAny_pyIter_tuple hL
        exact ⟨_, rfl, h⟩
    · wp_walk using wpAny_loadPart' hl, wpAny_pyIter_tuple hL
      exact ⟨_, rfl, h⟩
theorem nl_call_enumerate {prog : Program} {w : World} {A : Around} {E : Value → Shared → Prop} {s : Shared} {l : Addr} {items : Array Value} {Q : Value → Shared → Prop} (hL : s.heap.IsTuple l items)
    (h : ∀ h', IsEnum h' (s.heap.objs.size + 1) s.heap.objs.size 0 .none → h'.IsTupleIter s.heap.objs.size l 0 → h'.objs.size = s.heap.objs.size + 2 →
      (∀ b o, s.heap.get? b = some o → h'.get? b = some o) → Q (.ref (s.heap.objs.size + 1)) { s with heap := h' }) :
    wpAny (model prog w) A (call (.type "enumerate") [.ref l]) Q E s := by
  obtain ⟨⟨c, dct, dt, sl⟩, hl, hc, n, hd⟩ := hL
  replace hc : c = .type "tuple" := hc
  replace hd : dt = .seq items n := hd
  subst hc hd
  refine callType_new F.called_enumerate (by decide) (F.typeCall_enumerate_1 _) (F.newCall_enumerate_1 _) (fun obj => F.args_object_init_2 obj _) F.entry_enumerate_new
    (nl_enumerate_newT l items n dct sl) ⟨hl, ?_⟩
  have hz : (s.heap.push { cls := .type "tuple_iterator", data := .fields #[.ref l, .int 0 0] }).objs.size = s.heap.objs.size + 1 := Heap.size_push ..
  show _ ∧ _
  rw [hz]
  have he : IsEnum ((s.heap.push { cls := .type "tuple_iterator", data := .fields #[.ref l, .int 0 0] }).push
      { cls := .type "enumerate", data := .fields #[.none, .bool false, .ref s.heap.objs.size, rawInt 0, .none, .none] }) (s.heap.objs.size + 1) s.heap.objs.size 0 .none := by
    have := Heap.get?_push_size (s.heap.push { cls := .type "tuple_iterator", data := .fields #[.ref l, .int 0 0] })
      (o := { cls := .type "enumerate", data := .fields #[.none, .bool false, .ref s.heap.objs.size, rawInt 0, .none, .none] }) rfl
    rw [hz] at this
    exact this
  refine ⟨⟨_, he, rfl⟩, h _ he ⟨_, Heap.get?_push_of_some _ (Heap.get?_push_size _ rfl), rfl, rfl⟩ (by rw [Heap.size_push, hz]) fun b o x => Heap.get?_push_of_some _ (Heap.get?_push_of_some _ x)⟩
end PySem
namespace NL
open PySem PySem.Spec PyProof.Rows L2
open He (ga ma)
/-! ### enumerate(tuple) -/
def IteT (K : PySem.W.Frag) (a : Addr) : It :=
  ⟨fun i H => ∃ (xs : List V) (x : V), SqT K H a xs ∧ xs[i]? = some x, fun i H v H' => ∃ T x, v = .ref T ∧ H T = none ∧ H' = upd H T (.tup [.int (i : Nat), x]) ∧ ∀ xs, SqT K H a xs → xs[i]? = some x, fun i H => ∃ xs : List V, SqT K H a xs ∧ xs.length ≤ i⟩
theorem turn_enumT {P : Program} {w : World} {K : PySem.W.Frag} {elts : List Expr} {kk : Nat} {tpos : Pos} (a e it : Addr) :
    Turn P w K (.Tuple elts kk tpos) (IteT K a) [e, it] e (fun i h => (∃ old, IsEnum h e it ((i : Nat) : Int) old) ∧ h.IsTupleIter it a i ∧ e ≠ it ∧ a ≠ it ∧ a ≠ e) where
  mem := by simp
  obj := fun i h st b hb => by
    obtain ⟨⟨old, he⟩, ⟨o, ho, hc, hd⟩, _⟩ := st
    have e' : b = e ∨ b = it := by simpa using hb
    rcases e' with z | z
    · rw [z]; exact ⟨_, he, fun v q => nomatch q⟩
    · rw [z]; exact ⟨o, ho, fun v q => by rw [hd] at q; cases q⟩
  keep := fun i h h' st k => let ⟨⟨old, he⟩, hi, hne⟩ := st; ⟨⟨old, k e (by simp) _ he⟩, hi.at fun o q => k it (by simp) o q, hne⟩
  item := by
    intro X hP hw hK hc i pins s σ H E I hf st hg
    subst hP hw hK
    obtain ⟨⟨old, he⟩, hit, hne, hai, hae⟩ := st
    obtain ⟨xs, x, hq, hx⟩ := hg
    obtain ⟨its, rv, p, hz⟩ := I.tuple hq
    obtain ⟨u, hu, ru⟩ := rv.get hx
    have hel : e < s.heap.objs.size := Heap.lt_size he
    have hil : it < s.heap.objs.size := by obtain ⟨_, q, _⟩ := hit; exact Heap.lt_size q
    have D := Draws.tuple (prog := X.prog) (w := X.w) (A := X.A.in1) (I.ok.hd hc) it a hai its.toArray
    have hlt : i < its.toArray.size := by simpa using (List.getElem?_eq_some_iff.mp hu).1
    refine wpAny_pyNext_enum_itemD D he ⟨hit, p⟩ hlt hne (by simp [hne, Ne.symm hae]) fun x' h' tk hP ho hst hT hsz hk => ?_
    have ex : x' = u := by
      have h1 : its.toArray[i]? = some x' := hP
      rw [List.getElem?_toArray, hu] at h1
      exact (Option.some.inj h1).symm
    subst ex
    refine ⟨_, rfl, wpAny_letOwnedTupleGo_enum (s := { s with heap := h', toks := tk + 1 }) ho fun h'' he' sb => ?_⟩
    have hT2 : h''.get? s.heap.objs.size = some { cls := .type "tuple", data := .seq #[.int i tk, x'] } := (sb.2 _ (Nat.ne_of_gt hel)).trans hT
    have new : ObjOk X.prog X.w (upd H s.heap.objs.size (.tup [.int (i : Nat), x])) h'' s.heap.objs.size (.tup [.int (i : Nat), x]) :=
      ⟨by show 2 ≤ sizeLine; decide, [.int i tk, x'], .cons ⟨_, rfl⟩ (.cons ru .nil), ⟨_, hT2, rfl, _, rfl⟩⟩
    have I1 : Inv X pins σ (upd H s.heap.objs.size (.tup [.int (i : Nat), x])) { s with heap := h'', toks := tk + 1 } :=
      I.turnedNew (ch := [e, it]) (fun b ob hb q => (sb.2 b (fun z => hb (by simp [z]))).trans (hk b ob (fun z => hb (by simp [z])) (fun z => hb (by simp [z])) q)) hf (Nat.le_refl _) new
    refine ⟨.ref s.heap.objs.size, _, I1, rfl, ⟨_, x, rfl, I.hok.fresh (Nat.le_refl _), rfl, fun ys hy => by rw [I.tuple_inj hy hq]; exact hx⟩, ⟨⟨x', ?_⟩, hst.1.at fun o q => (sb.2 it (Ne.symm hne)).trans q, hne, hai, hae⟩, fun b hb => ?_⟩
    · have e1 : ((i + 1 : Nat) : Int) = (i : Int) + 1 := by omega
      rw [e1]; exact he'
    · have hb' : b < s.heap.objs.size := by
        have e' : b = e ∨ b = it := by simpa using hb
        rcases e' with z | z
        · rw [z]; exact hel
        · rw [z]; exact hil
      rw [upd_ne (Nat.ne_of_lt hb')]
      exact (hf b hb).1
  done := by
    intro X hP hw hK hc i pins s σ H E I hf st hg
    subst hP hw hK
    obtain ⟨⟨old, he⟩, hit, hne, hai, hae⟩ := st
    obtain ⟨xs, hq, hx⟩ := hg
    obtain ⟨its, rv, p, hz⟩ := I.tuple hq
    obtain ⟨f0, f1, f2, f3, f4, f5⟩ := hf it (by simp)
    have hl := rv.length
    have hT : s.TypeIs (.ref e) "enumerate" := ⟨_, he, rfl⟩
    unfold pyNext
    refine wpAny_bind (wpAny_attempt (wpAny_callSpecial?_slot (name := Str.ofString "__next__") hT F.slot_enumerate_next
      (wpAny_call_entry F.slot_enumerate_next hT F.entry_enumerate_next ?_ (F.args_enumerate_next_1 _))))
    show wpAny _ _ (field (.ref e) 2 >>= _) _ _ _
    refine wpAny_bind (wpAny_field he rfl (x := .ref it) rfl ?_)
    refine wpAny_bind (wpAny_nextOf_tuple_end (A := X.A.in1) (I.ok.hd hc) hit p (by simp; omega) fun h' x he' hx' => ?_)
    obtain ⟨o, ho, hc⟩ := hx'
    refine wpAny_bind (wpAny_isInstance (T := "StopIteration") (b := true) ⟨o, ho, hc⟩ isSubtype_stop ?_)
    exact wpAny_pure ⟨rfl, I.turned (t' := s.toks) (fun b o hb q => he' b o hb q) f0 f1 f3 f4 f5⟩
  self := fun A i s Q E st h => let ⟨⟨_, he⟩, _⟩ := st; wpAny_pyIter_enum he h
def iEnumT (K : PySem.W.Frag) (ta : TA) : TI := fun σ H R => ta σ H fun vs H1 => ∃ a xs, vs = [.ref a] ∧ SqT K H1 a xs ∧ R (IteT K a) H1
theorem pi_enumT {X : Cx} {e : Expr} {ta : TA} {p pos tpos : Pos} {elts : List Expr} {kk : Nat} (hg : Gl X "enumerate") (hm : X.mg "enumerate" = none) (ha : PA X [e] ta) (hs : starEach [e] X.env = [(false, eval e X.env)] := by rfl) :
    PI X (.Tuple elts kk tpos) (.Call (.Name "enumerate" p) [e] [] pos) (iEnumT X.K ta) := by
  refine ⟨fun pins s σ H R I h => ?_⟩
  refine Call_ (ld_blt I hg hm boot_enumerate (PyProof.Rows.callWith_type1 (thn (ha.run pos pins s σ H _ I h) fun us s1 ⟨vs, H1, I1, r1, q1⟩ => ?_) hs rfl))
  obtain ⟨a, xs, ex, hq, q⟩ := q1
  subst ex
  cases r1 with
  | cons r rr =>
    cases rr
    cases r
    obtain ⟨its, rv, p', hz⟩ := I1.tuple hq
    have ha : a < s1.heap.objs.size := p'.lt
    refine nl_call_enumerate p' fun h' he hit hsz hk => wpAny_pyIter_enum he ?_
    have I2 : Inv X pins σ H1 { s1 with heap := h' } := I1.kept (t' := s1.toks) hk
    refine ⟨s1.heap.objs.size + 1, [s1.heap.objs.size + 1, s1.heap.objs.size], _, _, H1, rfl, I2, turn_enumT a (s1.heap.objs.size + 1) s1.heap.objs.size, ⟨⟨.none, he⟩, hit, Nat.succ_ne_self _, Nat.ne_of_lt ha, Nat.ne_of_lt (Nat.lt_succ_of_lt ha)⟩, fun b hb => ?_, q⟩
    have e' : b = s1.heap.objs.size + 1 ∨ b = s1.heap.objs.size := by simpa using hb
    have hle : s1.heap.objs.size ≤ b := by
      rcases e' with z | z
      · rw [z]; exact Nat.le_add_right _ _
      · rw [z]; exact Nat.le_refl _
    exact I1.fpOk hle (I1.hok.fresh hle)
section
variable {K : PySem.W.Frag} {σ : L2.St} {H : Hp} {D : Ends} {g : TG} {tb : TS}
theorem r_itE {ta : TA} {R : It → Hp → Prop} (h : ta σ H fun vs H1 => ∃ a xs, vs = [.ref a] ∧ SqT K H1 a xs ∧ R (IteT K a) H1) : iEnumT K ta σ H R := h
theorem r_itEL {ta : TA} {R : It → Hp → Prop} (h : ta σ H fun vs H1 => ∃ a xs, vs = [.ref a] ∧ SqL K H1 a xs ∧ R (Ite K a) H1) : iEnum K ta σ H R := h
theorem loop_enumT {a : Addr} {xs : List V} (Pv : Nat → L2.St → Hp → Prop) (h0 : Pv 0 σ H) (hl : ∀ i σ H, i ≤ xs.length → Pv i σ H → SqT K H a xs)
    (hs : ∀ (i : Nat) x T σ H, xs[i]? = some x → H T = none → Pv i σ H → g (.ref T) σ (upd H T (.tup [.int (i : Nat), x])) fun σ2 H2 => tb { D with nx := Pv (i + 1), ct := Pv (i + 1), bk := D.nx } σ2 H2) (hd : ∀ σ H, Pv xs.length σ H → D.nx σ H) : Loop g tb D σ (IteT K a) H := by
  refine ⟨fun i m σ H => m = xs.length - i ∧ i ≤ xs.length ∧ Pv i σ H, ⟨xs.length, by simp, Nat.zero_le _, h0⟩, ?_⟩
  rintro i m σ H ⟨rfl, hi, p⟩
  have q := hl i σ H hi p
  by_cases hlt : i < xs.length
  · refine .inr ⟨⟨xs, xs[i], q, by simp [hlt]⟩, Pv (i + 1), fun σ' H' p' => ⟨xs.length - (i + 1), by omega, rfl, hlt, p'⟩, fun x H' y => ?_⟩
    obtain ⟨T, v, rfl, hT, rfl, hv⟩ := y
    exact hs i v T σ H (hv xs q) hT p
  · have e : i = xs.length := by omega
    subst e
    exact .inl ⟨⟨xs, q, Nat.le_refl _⟩, hd σ H p⟩
theorem loop_enumL {a : Addr} {xs : List V} (Pv : Nat → L2.St → Hp → Prop) (h0 : Pv 0 σ H) (hl : ∀ i σ H, i ≤ xs.length → Pv i σ H → SqL K H a xs)
    (hs : ∀ (i : Nat) x T σ H, xs[i]? = some x → H T = none → Pv i σ H → g (.ref T) σ (upd H T (.tup [.int (i : Nat), x])) fun σ2 H2 => tb { D with nx := Pv (i + 1), ct := Pv (i + 1), bk := D.nx } σ2 H2) (hd : ∀ σ H, Pv xs.length σ H → D.nx σ H) : Loop g tb D σ (Ite K a) H := by
  refine ⟨fun i m σ H => m = xs.length - i ∧ i ≤ xs.length ∧ Pv i σ H, ⟨xs.length, by simp, Nat.zero_le _, h0⟩, ?_⟩
  rintro i m σ H ⟨rfl, hi, p⟩
  have q := hl i σ H hi p
  by_cases hlt : i < xs.length
  · refine .inr ⟨⟨xs, xs[i], q, by simp [hlt]⟩, Pv (i + 1), fun σ' H' p' => ⟨xs.length - (i + 1), by omega, rfl, hlt, p'⟩, fun x H' y => ?_⟩
    obtain ⟨T, v, rfl, hT, rfl, hv⟩ := y
    exact hs i v T σ H (hv xs q) hT p
  · have e : i = xs.length := by omega
    subst e
    exact .inl ⟨⟨xs, q, Nat.le_refl _⟩, hd σ H p⟩
end
end NL
end
-- part W3
section
set_option Elab.async false
set_option linter.all false
set_option maxRecDepth 100000
set_option maxHeartbeats 4000000
namespace NL
open PySem PySem.W PySem.Spec PyProof.Rows L2
open He (ga ma)
/-! ### max with default= -/
section
variable {X : Cx}
def rMaxDef (K : PySem.W.Frag) : List V → List V → Hp → VK → Prop := fun vs zs H Q => ∃ (a : Addr) (ns : List Int) (d : Int), vs = [V.ref a] ∧ zs = [V.int d] ∧ SqL K H a (ns.map V.int) ∧ (ns = [] → Q (.int d) H) ∧ ∀ m, m ∈ ns → (∀ y, y ∈ ns → y ≤ m) → Q (.int m) H
theorem cmp_ints {prog : Program} {w : World} {A : Around} {H : Heap} {its : List Value} {ns : List Int} (hi : IntsAre its ns) : CmpIn prog w A .Gt H (fun i v => its.toArray[i]? = some v) (fun i j => decide (ns.getD i 0 > ns.getD j 0)) := by
  intro i j vi vj s Q E hk h1 h2 hq
  have key : ∀ (i : Nat) v, its.toArray[i]? = some v → ∃ t, v = .int (ns.getD i 0) t := fun i v h => by
    have h : its[i]? = some v := by simpa using h
    obtain ⟨xs, e⟩ := hi.allInts.items
    have hn : numsOf (intItems xs).toList = ns := by rw [← e]; exact hi.numsOf
    rw [nums_intItems] at hn
    have h' : (intItems xs)[i]? = some v := by rw [← e]; simpa using h
    obtain ⟨t, rfl⟩ := intItems_at h'
    exact ⟨t, by rw [numAt_eq, hn]⟩
  obtain ⟨t, rfl⟩ := key i vi h1
  obtain ⟨u, rfl⟩ := key j vj h2
  exact CmpOf.ints_gt (P := fun i v => ∃ t, v = .int (ns.getD i 0) t) (fun i => ns.getD i 0) (fun i v h => h) i j _ _ s Q E ⟨t, rfl⟩ ⟨u, rfl⟩ hq
theorem cr_maxDef (hc : X.calm = true) : CallRK X (.builtin "max") [Str.ofString "default"] (rMaxDef X.K) := by
  intro pins s σ H vs zs us ws Q I r rz h
  obtain ⟨a, ns, d, rfl, rfl, hs, q0, q⟩ := h
  obtain ⟨its, rv, hl, _⟩ := I.list hs
  rw [Vals.ref1 r]
  obtain ⟨w1, rfl, e1⟩ := vals1 rz
  obtain ⟨td, rfl⟩ : ∃ t, w1 = Value.int d t := e1
  have hi := rv.ints
  have hln : its.length = ns.length := hi.length
  refine call_max_walkD (iter_listW (A := X.A.in1) (I.ok.hd hc) hl.isList fun s₂ e W st hfp hw hk => ?_)
  refine ⟨_, _, _, _, _, _, _, s.heap, (fun i j => decide (ns.getD i 0 > ns.getD j 0)), rfl, W, st, hfp, hw, hk, fun hz s' m => ?_, fun hp => ⟨cmp_ints hi, fun v s' hP m => ?_⟩⟩
  · obtain ⟨h', tk, rfl, hk'⟩ := moved_old e rfl m
    have : ns = [] := List.eq_nil_of_length_eq_zero (by simp at hz; rw [← hln, hz]; rfl)
    exact ⟨.int d, H, I.kept hk', ⟨_, rfl⟩, q0 this⟩
  · obtain ⟨h', tk, rfl, hk'⟩ := moved_old e rfl m
    have hsz : its.toArray.size = ns.length := by simpa using hln
    rw [hsz] at hP hp
    have hP' : its[argBest (fun i j => decide (ns.getD i 0 > ns.getD j 0)) (ns.length - 1)]? = some v := by simpa using hP
    obtain ⟨xs, ex⟩ := hi.allInts.items
    have hn : numsOf (intItems xs).toList = ns := by rw [← ex]; exact hi.numsOf
    rw [nums_intItems] at hn
    have h2 : (intItems xs)[argBest (fun i j => decide (ns.getD i 0 > ns.getD j 0)) (ns.length - 1)]? = some v := by rw [← ex]; simpa using hP'
    obtain ⟨t, rfl⟩ := intItems_at h2
    obtain ⟨b1, b2⟩ := argBest_gt (fun i => ns.getD i 0) (ns.length - 1)
    refine ⟨.int _, H, I.kept hk', ⟨_, rfl⟩, q _ ?_ fun y hy => ?_⟩
    · rw [numAt_eq, hn]
      exact PySem.getD_mem (by omega)
    · obtain ⟨j, hj, rfl⟩ := mem_getD hy
      rw [numAt_eq, hn]
      exact b2 j (by omega)
theorem k_maxDef {K : PySem.W.Frag} (hc : X.calm = true := by rfl) (h : X.K = K := by rfl) : CallRK X (.builtin "max") [Str.ofString "default"] (rMaxDef K) := h ▸ cr_maxDef hc
variable {K : PySem.W.Frag} {σ : L2.St} {H : Hp} {Q : VK}
theorem r_tt {A B : Prop} (q : A) : if true = true then A else B := q
theorem r_ff {A B : Prop} (q : B) : if false = true then A else B := q
variable {te to ti : TE} {tz : TS} {D : Ends} {tip : TIp}
theorem r_seqAug2 {i : Nat} {x : V} (e : σ[i]? = some (some x)) (h : te σ H fun y H1 => tip x y H1 fun z H2 => tz D (σ.set i (some z)) H2) : tSeq (tAug i te tip) tz D σ H := ⟨x, e, h⟩
theorem r_aug2 {i : Nat} {x : V} (e : σ[i]? = some (some x)) (h : te σ H fun y H1 => tip x y H1 fun z H2 => D.nx (σ.set i (some z)) H2) : tAug i te tip D σ H := ⟨x, e, h⟩
theorem r_ipI {f : Int → Int → Int} {i j : Int} (q : Q (.int (f i j)) H) : ipI f (.int i) (.int j) H Q := ⟨i, j, rfl, rfl, q⟩
theorem r_augS {tget : V → V → Hp → VK → Prop} {tset : TSet} (h : to σ H fun o H1 => ti σ H1 fun i H2 => tget o i H2 fun x H3 => te σ H3 fun y H4 => tip x y H4 fun z H5 => tset o i z H5 fun H6 => D.nx σ H6) : tAugS to ti te tget tip tset D σ H := h
theorem r_seqAugS {tget : V → V → Hp → VK → Prop} {tset : TSet} (h : to σ H fun o H1 => ti σ H1 fun i H2 => tget o i H2 fun x H3 => te σ H3 fun y H4 => tip x y H4 fun z H5 => tset o i z H5 fun H6 => tz D σ H6) : tSeq (tAugS to ti te tget tip tset) tz D σ H := h
theorem r_getL {p : Addr} {xs : List V} {j : Nat} {v : V} (h : SqL K H p xs) (e : xs[j]? = some v) (q : Q v H) : rGetL K (.ref p) (.int ((j : Nat) : Int)) H Q := ⟨p, xs, j, v, rfl, rfl, h, e, q⟩
theorem r_cont (h : D.ct σ H) : tCont D σ H := h
theorem r_brk (h : D.bk σ H) : tBreak D σ H := h
theorem r_while {c : TT} {tb : TS} (h : ∃ W : Nat → L2.St → Hp → Prop, (∃ m, W m σ H) ∧ ∀ m σ H, W m σ H →
  c σ H fun b H1 => if b = true then ∃ N : L2.St → Hp → Prop, (∀ σ' H', N σ' H' → ∃ m', m' < m ∧ W m' σ' H') ∧ tb { D with nx := N, ct := N, bk := D.nx } σ H1 else D.nx σ H1) : tWhile c tb D σ H := h
theorem r_seqWhile {c : TT} {tb : TS} (h : ∃ W : Nat → L2.St → Hp → Prop, (∃ m, W m σ H) ∧ ∀ m σ H, W m σ H →
  c σ H fun b H1 => if b = true then ∃ N : L2.St → Hp → Prop, (∀ σ' H', N σ' H' → ∃ m', m' < m ∧ W m' σ' H') ∧ tb { D with nx := N, ct := N, bk := tz D } σ H1 else tz D σ H1) : tSeq (tWhile c tb) tz D σ H := h
theorem int_index {l : List Int} {m : Int} (h : m ∈ l) : ∃ j, l[j]? = some m ∧ j < l.length ∧ ∀ (i : Nat) z, i < j → l[i]? = some z → z ≠ m := by
  induction l with
  | nil => cases h
  | cons a l ih =>
    by_cases e : a = m
    · subst e
      exact ⟨0, rfl, by simp, fun i z hi => by omega⟩
    · have h' : m ∈ l := by
        rcases List.mem_cons.mp h with z | z
        · exact absurd z.symm e
        · exact z
      obtain ⟨j, h1, h2, h3⟩ := ih h'
      refine ⟨j + 1, by simpa using h1, by simp; omega, fun i z hi hz => ?_⟩
      cases i with
      | zero => rw [List.getElem?_cons_zero] at hz; rw [← Option.some.inj hz]; exact e
      | succ i => exact h3 i z (by omega) (by simpa using hz)
theorem flat_ints (l : List Int) : (l.map V.int).all flatV = true := by
  rw [List.all_eq_true]
  intro x hx
  obtain ⟨i, _, rfl⟩ := List.mem_map.mp hx
  rfl
theorem r_index {a : Addr} {l : List Int} {m : Int} (h : SqL K H a (l.map V.int)) (hm : m ∈ l) (q : ∀ j, l[j]? = some m → j < l.length → Q (.int (j : Nat)) H) : rIndex K (.ref a) [.int m] H Q := by
  obtain ⟨j, h1, h2, h3⟩ := int_index hm
  refine ⟨a, _, _, j, V.int m, rfl, rfl, h, rfl, flat_ints l, by rw [List.getElem?_map, h1]; rfl, by simp [eqV], fun i z hi hz => ?_, q j h1 h2⟩
  rw [List.getElem?_map] at hz
  cases ez : l[i]? with
  | none => rw [ez] at hz; cases hz
  | some y =>
    rw [ez] at hz
    have e : z = V.int y := (Option.some.inj hz).symm
    subst e
    have := h3 i y hi ez
    simp [eqV, this]
theorem ty_sq {l : Addr} {xs : List V} {P : Prop} (h : SqL K H l xs) (p : P) : tyV K "list" (.ref l) H ∧ P := ⟨.inl ⟨rfl, xs, h⟩, p⟩
theorem r_isN1 (q : Q (.bl true) H) : rIsN .non .non H Q := ⟨rfl, q⟩
theorem r_isN2 {a : Addr} (q : Q (.bl false) H) : rIsN (.ref a) .non H Q := ⟨rfl, by rw [decide_eq_false (by intro z; cases z)]; exact q⟩
theorem r_isN3 {a : Int} (q : Q (.bl false) H) : rIsN (.int a) .non H Q := ⟨rfl, by rw [decide_eq_false (by intro z; cases z)]; exact q⟩
theorem r_notN1 (q : Q (.bl false) H) : rNotN .non .non H Q := ⟨rfl, q⟩
theorem r_notN2 {a : Addr} (q : Q (.bl true) H) : rNotN (.ref a) .non H Q := ⟨rfl, by rw [decide_eq_false (by intro z; cases z)]; exact q⟩
theorem r_notN3 {a : Int} (q : Q (.bl true) H) : rNotN (.int a) .non H Q := ⟨rfl, by rw [decide_eq_false (by intro z; cases z)]; exact q⟩
theorem r_gSub {tset : TSet} {v : V} {Q : L2.St → Hp → Prop} (h : to σ H fun o H1 => ti σ H1 fun i H2 => tset o i v H2 fun H3 => Q σ H3) : gSub to ti tset v σ H Q := h
theorem r_prop {C : Addr} {sp : Sp} {E : XK} {ta : TE} (h : ta σ H fun x H1 => ∃ a dx fs, x = .ref a ∧ H1 a = some (.ins C dx fs) ∧ sp [.ref a] H1 Q E) : tProp C sp [] E ta σ H Q := h
theorem r_ck {r : List V → List V → Hp → VK → Prop} {t tk : TA} (h : t σ H fun vs H1 => tk σ H1 fun zs H2 => r vs zs H2 Q) : tCKw r t tk σ H Q := h
theorem r_maxDef {a : Addr} {ns : List Int} {d : Int} (h : SqL K H a (ns.map V.int)) (q0 : ns = [] → Q (.int d) H) (q : ∀ m, m ∈ ns → (∀ y, y ∈ ns → y ≤ m) → Q (.int m) H) : rMaxDef K [.ref a] [.int d] H Q := ⟨a, ns, d, rfl, rfl, h, q0, q⟩
end
end NL
end
-- part W4
section
set_option Elab.async false
set_option linter.all false
set_option maxRecDepth 100000
set_option maxHeartbeats 4000000
namespace NL
open PySem PySem.W PySem.Spec PyProof.Rows L2
open He (ga ma)
section
variable {K : PySem.W.Frag} {σ : L2.St} {H : Hp} {Q : VK} {ta tb tc te : TE} {t tk : TA} {tz : TS} {D : Ends}
theorem lc_S {g : TG} {tt : TT} {vs : List Nat} {Qd : Hp → Prop} {D : Addr} {z : Str} (Pv : Nat → Hp → Prop) (h0 : Pv 0 (upd H D (.lst [])))
    (hs : ∀ (i : Nat) c H, z.cps[i]? = some c → Pv i H → g (.str ⟨#[c]⟩) (wipe σ vs) H fun σ2 H2 => wipe σ2 vs = wipe σ vs ∧ tt σ2 H2 fun b H3 =>
      if b = true then te σ2 H3 fun y H4 => ∃ acc, H4 D = some (.lst acc) ∧ acc.length < sizeLine ∧ Pv (i + 1) (upd H4 D (.lst (acc ++ [y]))) else Pv (i + 1) H3) (hd : ∀ H, Pv z.cps.size H → Qd H) : Lc g tt te vs σ Qd (Its z) H D := by
  refine ⟨fun i m H => m = z.cps.size - i ∧ i ≤ z.cps.size ∧ Pv i H, ⟨z.cps.size, by simp, Nat.zero_le _, h0⟩, ?_⟩
  rintro i m H ⟨rfl, hi, p⟩
  by_cases hlt : i < z.cps.size
  · refine .inr ⟨hlt, Pv (i + 1), fun H' p' => ⟨z.cps.size - (i + 1), by omega, rfl, hlt, p'⟩, fun x H' y => ?_⟩
    obtain ⟨e, c, ec, y⟩ := y
    subst e y
    exact hs i c _ ec p
  · have e : i = z.cps.size := by omega
    subst e
    exact .inl ⟨Nat.le_refl _, hd H p⟩
theorem r_itS {R : It → Hp → Prop} (h : te σ H fun v H1 => ∃ x, v = .str x ∧ R (Its x) H1) : iStr te σ H R := h
theorem r_chain {r r' : R2} (h : ta σ H fun x H1 => tb σ H1 fun y H2 => r x y H2 fun z H3 => ∃ k, z = .bl k ∧ (if k = true then tc σ H3 fun w' H4 => r' y w' H4 Q else Q (.bl false) H3)) : tChain r r' ta tb tc σ H Q := h
theorem r_inS {c : Nat} {z : Str} (q : Q (.bl (decide (c ∈ z.cps.toList))) H) : rInS (.str ⟨#[c]⟩) (.str z) H Q := ⟨c, z, rfl, rfl, q⟩
theorem r_mkK {C : Addr} {n m : Nat} {sp : Sp} {gV : List V → List V → List V} {E : XK} (h : t σ H fun vs H1 => tk σ H1 fun zs H2 => vs.length = n ∧ zs.length = m ∧ ∀ x dx, H2 x = none → H2 dx = none → dx ≠ x →
  sp (gV (.ref x :: vs) zs) (upd (upd H2 dx (.own x)) x (.ins C dx [])) (fun v H3 => v = .non ∧ Q (.ref x) H3) E) : tMakeK C n m sp gV E t tk σ H Q := h
theorem r_mk {C : Addr} {sp : Sp} {E : XK} (h : t σ H fun vs H1 => ∀ x dx, H1 x = none → H1 dx = none → dx ≠ x →
  sp (.ref x :: (vs ++ [])) (upd (upd H1 dx (.own x)) x (.ins C dx [])) (fun v H2 => v = .non ∧ Q (.ref x) H2) E) : tMake C sp [] E t σ H Q := h
theorem r_seqSfld {f : Str} {tv : TE} (h : tv σ H fun y H1 => ta σ H1 fun x H2 => ∃ a C dx fs, x = .ref a ∧ H2 a = some (.ins C dx fs) ∧ Cls K C ∧ NoAttr K C f ∧ fs.length < 1000 ∧ tz D σ (upd H2 a (.ins C dx (putF f y fs)))) : tSeq (sFld K ta tv f) tz D σ H := h
theorem r_sfld {f : Str} {tv : TE} (h : tv σ H fun y H1 => ta σ H1 fun x H2 => ∃ a C dx fs, x = .ref a ∧ H2 a = some (.ins C dx fs) ∧ Cls K C ∧ NoAttr K C f ∧ fs.length < 1000 ∧ D.nx σ (upd H2 a (.ins C dx (putF f y fs)))) : sFld K ta tv f D σ H := h
theorem r_nt {A B : Prop} (q : B) : if (!true) = true then A else B := q
theorem r_nf {A B : Prop} (q : A) : if (!false) = true then A else B := q
theorem r_in {a : Addr} {xs : List V} {x : V} {b : Bool} (h : SqL K H a xs ∨ SqT K H a xs) (fx : flatV x = true) (fs : xs.all flatV = true) (e : inV x xs = b) (q : Q (.bl b) H) : rIn K false x (.ref a) H Q := ⟨a, xs, rfl, h, fx, fs, by rw [e]; exact q⟩
theorem r_nin {a : Addr} {xs : List V} {x : V} {b : Bool} (h : SqL K H a xs ∨ SqT K H a xs) (fx : flatV x = true) (fs : xs.all flatV = true) (e : inV x xs = b) (q : Q (.bl (!b)) H) : rIn K true x (.ref a) H Q := ⟨a, xs, rfl, h, fx, fs, by rw [e]; exact q⟩
theorem r_ifExp {c : TT} (h : c σ H fun b H1 => if b = true then ta σ H1 Q else tb σ H1 Q) : tIf c ta tb σ H Q := h
end
/-- C(e, .., k = v, ..) keeps a promise -/
def HasMkK (P : Program) (w : World) (K : PySem.W.Frag) (mg : Str → Option Value) (base : Heap) (x : Str) (C : Addr) (ps : List Str) (n : Nat) (ks : List Str) (k : Nat) (sp : Sp) : Prop :=
  ∃ f fd, mg x = some (.ref C) ∧ Mk K C f ∧ FnOk P w K mg base CX0 k f fd ps sp ∧ KBn K fd ps (n + 1) ks (fun us ws => us ++ ws) (fun vs zs => vs ++ zs)
def HasMk (P : Program) (w : World) (K : PySem.W.Frag) (mg : Str → Option Value) (base : Heap) (x : Str) (C : Addr) (ps : List Str) (k : Nat) (sp : Sp) : Prop :=
  ∃ f fd, mg x = some (.ref C) ∧ Mk K C f ∧ FnOk P w K mg base CX0 k f fd ps sp ∧ Binds K fd ps []
section
variable {P : Program} {w : World} {K : PySem.W.Frag} {mg : Str → Option Value} {base : Heap} {x qual y : Str} {params : Arguments} {body : List Stmt} {scope : Scope} {f C : Addr} {fd : FuncData} {ps ks : List Str} {k n : Nat} {sp : Sp}
theorem hasmkk_mk (F : FunD K x qual params body scope [] [] f fd) (g : mg y = some (.ref C)) (M : Mk K C f) (h : ∀ (kV doc pm : Value) (an : Option Addr) (cdv ct : Value) (us ws : List Value), us.length = n + 1 → ws.length = ks.length → bindArgs (PySem.W.fnOf x qual params body scope .none kV doc pm an cdv ct) ⟨us, ks.zip ws⟩ = pure (ps.zip (us ++ ws)))
    (ok : FnOk P w K mg base CX0 k f fd ps sp) : HasMkK P w K mg base y C ps n ks k sp := ⟨f, fd, g, M, ok, kbn_of F (n + 1) ks h⟩
theorem hasmk_mk (F : FunD K x qual params body scope [] [] f fd) (g : mg y = some (.ref C)) (M : Mk K C f) (b : ∀ (kV doc pm : Value) (an : Option Addr) (cdv ct : Value) (us : List Value), us.length = ps.length → bindArgs (PySem.W.fnOf x qual params body scope .none kV doc pm an cdv ct) ⟨us, []⟩ = pure (ps.zip us))
    (ok : FnOk P w K mg base CX0 k f fd ps sp) : HasMk P w K mg base y C ps k sp := ⟨f, fd, g, M, ok, F.bindsN b⟩
end
section
variable {X : Cx} {x : Str} {p pos : Pos} {e : Expr} {es : List Expr} {kws : List Keyword} {t tk : TA} {ps ks : List Str} {k n : Nat} {sp : Sp} {C : Addr}
theorem k_globI {i : Int} {u : Tok} (hg : Gl X x) (hm : X.mg x = some (.int i u)) (hd : (x == ("__debug__" : Str)) = false := by decide) : PE X (.Name x p) (tC (.int i)) := pe_glob hg hm ⟨_, rfl⟩ hd
theorem k_globS {i : Str} {u : Tok} (hg : Gl X x) (hm : X.mg x = some (.str i u)) (hd : (x == ("__debug__" : Str)) = false := by decide) : PE X (.Name x p) (tC (.str i)) := pe_glob hg hm ⟨_, rfl⟩ hd
theorem pe_mkK (h : HasMkK X.prog X.w X.K X.mg X.base x C ps n ks k sp) (hr : Room (k + 1) X.A) (hg : Gl X x) (ha : PA X (e :: es) t) (hkw : PK X kws tk)
    (hall : (backToKw pos (keywordEach kws X.env)).all (·.1.isSome) = true := by rfl) (hks : (backToKw pos (keywordEach kws X.env)).filterMap (·.1) = ks := by rfl) (hdb : (x == ("__debug__" : Str)) = false := by decide)
    (he : starEach (e :: es) X.env = (false, eval e X.env) :: starEach es X.env := by rfl) (hpl : ((backTo pos (starEach (e :: es) X.env)).any (·.1) || (backToKw pos (keywordEach kws X.env)).any (·.1.isNone)) = false := by rfl) :
    PE X (.Call (.Name x p) (e :: es) kws pos) (tMakeK C n ks.length sp (fun vs zs => vs ++ zs) E0 t tk) := by
  obtain ⟨f, fd, h1, M, h2, h3⟩ := h
  exact pe_makeK M h2 hr hg h1 h3 pass0 ha hkw hall hks hdb he hpl
theorem pe_mk (h : HasMk X.prog X.w X.K X.mg X.base x C ps k sp) (hr : Room (k + 1) X.A) (hg : Gl X x) (ha : PA X (e :: es) t) (hdb : (x == ("__debug__" : Str)) = false := by decide)
    (he : starEach (e :: es) X.env = (false, eval e X.env) :: starEach es X.env := by rfl) (hpl : (backTo pos (starEach es X.env)).any (·.1) = false := by rfl) :
    PE X (.Call (.Name x p) (e :: es) [] pos) (tMake C sp [] E0 t) := by
  obtain ⟨f, fd, h1, M, h2, h3⟩ := h
  exact pe_make M h2 hr hg h1 h3 .nil pass0 ha hdb he hpl
end
end NL
end
-- part W5
section
set_option Elab.async false
set_option linter.all false
set_option maxRecDepth 100000
set_option maxHeartbeats 4000000
namespace NL
open PySem PySem.W PySem.Spec PyProof.Rows L2
open He (ga ma)
/-! ### sorted, of lists of three ints -/
abbrev JR := Addr × Int × Int × Int
def jL (b : JR) : List Int := [b.2.1, b.2.2.1, b.2.2.2]
def rSortedJ (K : PySem.W.Frag) : List V → Hp → VK → Prop := fun vs H Q => ∃ (a : Addr) (bs : List JR), vs = [V.ref a] ∧ SqL K H a (bs.map fun b => V.ref b.1) ∧ (∀ b ∈ bs, H b.1 = some (.lst ((jL b).map V.int))) ∧
  ∀ (bs' : List JR) (p : Addr), bs'.Perm bs → bs'.Pairwise (fun x y => x.2.1 ≤ y.2.1) → H p = none → Q (.ref p) (upd H p (.lst (bs'.map fun b => V.ref b.1)))
theorem each_refs : ∀ {bs : List JR} {us : List Value}, Vals (bs.map fun b => V.ref b.1) us → EachIs (fun v (b : JR) => v = Value.ref b.1) us bs
  | [], us, h => by cases h; exact .nil
  | b :: bs, us, h => by
    cases h with
    | cons h1 h2 => exact .cons h1 (each_refs h2)
theorem vals_refs : ∀ {bs : List JR} {us : List Value}, EachIs (fun v (b : JR) => v = Value.ref b.1) us bs → Vals (bs.map fun b => V.ref b.1) us
  | [], us, h => by cases h; exact .nil
  | b :: bs, us, h => by
    cases h with
    | cons h1 h2 => exact .cons h1 (vals_refs h2)
theorem each_imp {α β : Type} {R S : α → β → Prop} {bs0 : List β} (h : ∀ a b, b ∈ bs0 → R a b → S a b) : ∀ {as : List α} {bs : List β}, (∀ b ∈ bs, b ∈ bs0) → EachIs R as bs → EachIs S as bs
  | _, _, _, .nil => .nil
  | _, _, hb, .cons a b => .cons (h _ _ (hb _ List.mem_cons_self) a) (each_imp h (fun x hx => hb x (List.mem_cons_of_mem _ hx)) b)
theorem le_of_lists {x y : Int} {l m : List Int} (h : x :: l ≤ y :: m) : x ≤ y := by
  rcases Int.lt_or_le y x with z | z
  · have : y :: m < x :: l := List.cons_lt_cons_iff.mpr (.inl z)
    exact absurd this (List.not_lt.mpr h)
  · exact z
section
variable {X : Cx}
theorem cr_sortedJ (hu : X.A.units + 64 < cLine) : CallR X (.builtin "sorted") (rSortedJ X.K) := by
  intro pins s σ H vs us Q I r h
  obtain ⟨a, bs, rfl, hs, hb, q⟩ := h
  obtain ⟨its, rv, hl, hz⟩ := I.list hs
  rw [Vals.ref1 r]
  have hE := each_refs rv
  have hlen : bs.length ≤ sizeLine := by simpa using hz
  refine sorted_data (enc := fun b => PyData.list ((jL b).map .int)) (bs := bs) hl.isList hE (each_imp (bs0 := bs) (fun v b hbm e => ?_) (fun b hb => hb) hE) ?_ ?_ hlen (fun b _ => ?_) fun out h1 h2 => ?_
  · subst e
    refine Dp.reads I _ (V.ref b.1) _ ?_ rfl
    exact .lst (SqL.of (hb b hbm)) (.cons (.int _) (.cons (.int _) (.cons (.int _) .nil)))
  · intro d hd d' hd'
    obtain ⟨b, _, rfl⟩ := List.mem_map.mp hd
    obtain ⟨b', _, rfl⟩ := List.mem_map.mp hd'
    rfl
  · refine .inr fun d hd => ?_
    obtain ⟨b, _, rfl⟩ := List.mem_map.mp hd
    exact ⟨fun z => (by cases z), fun xs z => (by cases z)⟩
  · have e : (PyData.list ((jL b).map .int)).depth ≤ 2 := by
      simp [jL, PyData.depth, PyData.depthAll]
    omega
  · rw [dataLe_rows] at h2
    obtain ⟨ep, he'⟩ := PyProof.Rows.sortedAll_at s.heap its out.toArray
    have hp : (bs.mergeSort fun p q => decide (jL p ≤ jL q)).Perm bs := List.mergeSort_perm _ _
    have hv := vals_refs h2
    have hpw : (bs.mergeSort fun p q => decide (jL p ≤ jL q)).Pairwise (fun a b => decide (jL a ≤ jL b) = true) := List.pairwise_mergeSort (le := fun p q : JR => decide (jL p ≤ jL q)) (fun a b c h1 h2 => decide_eq_true (List.le_trans (of_decide_eq_true h1) (of_decide_eq_true h2))) (fun a b => by
      rcases List.le_total (jL a) (jL b) with z | z
      · rw [decide_eq_true z]; rfl
      · rw [decide_eq_true z, Bool.or_true]) bs
    exact ⟨.ref _, upd H (s.heap.objs.size + 1) (.lst _), I.laid (t' := s.toks) (fun _ _ => PyProof.Rows.sortedAll_old) (Nat.le_succ _) ⟨by rw [List.length_map, hp.length_eq]; exact hlen, out, ep, hv, he'⟩, rfl, q _ _ hp (hpw.imp fun h => le_of_lists (of_decide_eq_true h)) (I.hok.fresh (Nat.le_succ _))⟩
theorem k_sortedJ {K : PySem.W.Frag} (hu : X.A.units + 64 < cLine) (h : X.K = K := by rfl) : CallR X (.builtin "sorted") (rSortedJ K) := h ▸ cr_sortedJ hu
end
end NL
end
-- part E2
section
set_option Elab.async false
set_option linter.all false
set_option maxRecDepth 100000
set_option maxHeartbeats 4000000
namespace NL
section
open PySem PySem.W PySem.Calls PyProof.Rows PySem.HandSPX
open He (ga ma)
variable {prog : Program} {w : World} {A : Around} {E : Value → Shared → Prop} {R : Result → Shared → Prop} {s : Shared} {K : Frag} {mg mb : Str → Option Value}
theorem und_made (T : UTx prog K mg) {v : Value} (X : K.In s.heap) (G : s.heap.Ns mainGlobals mg) (B : s.heap.Ns builtinsNs mb) (hsb : mb "super" = some (.type "super")) (hlim : s.heap.NoLimit) (hroom : A.depth + 1 < recursionLimit)
    (hq : ∀ h' tk e d, OwnMade s.heap h' e (aU K) d v → R (.ok (.ret (.ref e))) { s with heap := h', toks := tk }) :
    codeAny (model prog w) A (.call (.ref (aU K)) ⟨[v], []⟩) R s := by
  obtain ⟨nm, q, N, bs, bm, sn, sub, ab, col, dd, k0, k1, k2, k3, k5, hC, hbm⟩ := T.cls
  obtain ⟨hp, g, dr, tk, os⟩ := s
  have k : ∀ b o, hp.get? b = some o → ((hp.push (kdv_tup [v])).push (excO (aU K) hp.objs.size)).get? b = some o := fun b o e => Heap.get?_push_of_some _ (Heap.get?_push_of_some _ e)
  have hget : ((hp.push (kdv_tup [v])).push (excO (aU K) hp.objs.size)).get? (hp.objs.size + 1) = some (excO (aU K) hp.objs.size) := by heap_get
  have hnx : K.lookup (hp.objs.size + 1) = none := by
    cases e : K.lookup (hp.objs.size + 1) with
    | none => rfl
    | some o =>
      have z : hp.get? (hp.objs.size + 1) = some o := X _ _ e
      exact absurd (Nat.lt_of_succ_lt (Heap.lt_size z)) (Nat.lt_irrefl _)
  refine call_own F.excBase_ValueError (fun X => refsVE_contains X bm hbm) (X _ _ hC) (looks_findIn X T.iC) (fun self => bind_fn X self T.tC) (one_size v) ?_
  refine und_init (s := ⟨(hp.push (kdv_tup [v])).push (excO (aU K) hp.objs.size), g, dr, tk, os⟩) T (X.keeps k) (G.keeps k) (B.keeps k) hsb (hlim.keeps k) hget hnx ?_ fun h' tk' dx ⟨k', ⟨t1, hx⟩, dn, dne, hns⟩ => ?_
  · show A.depth + 1 < recursionLimit
    exact hroom
  · have old : ∀ b o, hp.get? b = some o → h'.get? b = some o := fun b o e => k' b o (Nat.ne_of_lt (Nat.lt_succ_of_lt (Heap.lt_size e))) (k b o e)
    have z : hp.objs.size + 1 + 1 ≤ dx := by
      first
        | (simpa only [Heap.size_push] using dn)
        | exact dn
        | (have q := dn; rw [Heap.size_push, Heap.size_push] at q; exact q)
    exact ⟨rfl, hq h' tk' (hp.objs.size + 1) dx ⟨old, Nat.le_succ _, ⟨_, _, hx, rfl, rfl, rfl, rfl⟩, Nat.le_trans (Nat.le_trans (Nat.le_succ _) (Nat.le_succ _)) z, dne, hns⟩⟩
end
open PySem PySem.Spec PyProof.Rows L2
open He (ga ma)
theorem relO_hz {v : V} {v' : Value} (r : RelV v v') (f : Str) : RelO (List.lookup f [(("horizon" : Str), v)]) (if f = "horizon" then some v' else none) := by
  by_cases hw : f = "horizon"
  · subst hw
    rw [if_pos rfl]
    have q : List.lookup ("horizon" : Str) [(("horizon" : Str), v)] = some v := by simp [List.lookup]
    rw [q]
    exact r
  · rw [if_neg hw]
    have qw : (f == ("horizon" : Str)) = false := by simpa using hw
    have q2 : List.lookup f [(("horizon" : Str), v)] = none := by simp [List.lookup, qw]
    rw [q2]
    trivial
section
variable {X : Cx}
/-- Undecided(e) -/
def tMkU (C : Addr) (ta : TA) : L2.St → Hp → XK → Prop := fun σ H Q => ta σ H fun vs H1 => ∃ v, vs = [v] ∧ ∀ d, H1 d = none → Q (.ref C) (some d) (upd H1 d (.xd [(("horizon" : Str), v)]))
theorem pmk_und {a : Expr} {ta : TA} {p pos : Pos} {k : Nat} (T : UTx X.prog X.K X.mg) (hr : Room k X.A) (ha : PA X [a] ta) (hg : Gl X "Undecided" := by rfl)
    (he : starEach (a :: []) X.env = (false, eval a X.env) :: starEach [] X.env := by rfl) (hpl : (backTo pos (starEach [] X.env)).any (·.1) = false := by rfl) :
    PMk X (.Call (.Name "Undecided" p) [a] [] pos) (tMkU (aU X.K) ta) := by
  intro pins s σ H Q I h
  refine wpAny_Call_Name_kw (ld_glob I hg T.gC ?_)
  refine PySem.W.callWith_K (h₀ := X.base) I.ok.mod.kin T.kC (thn (ha.run pos pins s σ H _ I h) fun us s1 hh => ?_) he hpl
  obtain ⟨vs, H1, I1, r1, v, ev, q1⟩ := hh
  subst ev
  refine ⟨I1.kIn, ?_⟩
  cases r1 with
  | cons rv rn =>
    rename_i v' us'
    cases rn
    show wpAny _ _ (call (.ref (aU X.K)) [v']) _ _ _
    have hlim := I1.nolimit
    obtain ⟨mb, hb1, hb2⟩ := I1.ok.mod.blt
    have hsb : mb "super" = some (.type "super") := (hb2 "super" (by decide)).trans (by decide +kernel)
    have G1 := I1.ok.mod.glob.keeps I1.bk
    have B1 := hb1.keeps I1.bk
    obtain ⟨hp, g, dr, tk, os⟩ := s1
    refine wpAny_call (und_made T I1.kIn G1 B1 hsb hlim (by have := hr.dp; omega) fun h' tk' e d M => ?_)
    show MkP X pins σ Q (.ref e) ⟨h', g, dr, tk', os⟩
    obtain ⟨oe, fv, hoe, hc, hd, hdat, h1⟩ := M.obj
    have hns := M.ns
    obtain ⟨G', g1, g2⟩ := restrict h' fun b => decide (b ≠ e)
    have gk : ∀ b, b ≠ e → G'.get? b = h'.get? b := fun b hb => g1 b (decide_eq_true hb)
    have ge : G'.get? e = none := g2 e (by simp)
    have old : ∀ b o, hp.get? b = some o → G'.get? b = some o := fun b o q => (gk b (Nat.ne_of_lt (Nat.lt_of_lt_of_le (Heap.lt_size q) M.new))).trans (M.keep b o q)
    have ob : ObjOk X.prog X.w (upd H1 d (.xd [(("horizon" : Str), v)])) G' d (.xd [(("horizon" : Str), v)]) :=
      ⟨_, hns.at (fun o q => (gk d M.dne).trans q), fun f => relO_hz rv f⟩
    have J : Inv X pins σ (upd H1 d (.xd [(("horizon" : Str), v)])) ⟨G', g, dr, tk', os⟩ := I1.laid (t' := tk') old M.dbig ob
    refine ⟨e, oe, fv, ⟨G', g, dr, tk', os⟩, _, .ref (aU X.K), some d, rfl, J, fun b o q => ?_, ge, hoe, ⟨hc, hd⟩, hdat, h1, ?_, rfl, I1.bare, raises_own T.exC T.tyC, q1 d (I1.hok.fresh M.dbig)⟩
    · by_cases hb : b = e
      · have q' : G'.get? b = some o := q
        rw [hb, ge] at q'; cases q'
      · exact (gk b hb).symm.trans q
    · rw [upd_ne (Ne.symm M.dne)]
      exact I1.hok.fresh M.new
/-- raise Undecided(e) -/
def tRaiseU (C : Addr) (W : WX) (ta : TA) : TS := fun _ σ H => tMkU C ta σ H fun cls d H' => W cls d σ H'
theorem ps_raiseU {a : Expr} {ta : TA} {W : WX} {p pos pos2 : Pos} {k : Nat} (hc : X.calm = true) (T : UTx X.prog X.K X.mg) (hr : Room k X.A) (tk : Takes X W) (ha : PA X [a] ta) (hg : Gl X "Undecided" := by rfl)
    (he : starEach (a :: []) X.env = (false, eval a X.env) :: starEach [] X.env := by rfl) (hpl : (backTo pos (starEach [] X.env)).any (·.1) = false := by rfl) :
    PS X (.Raise (some (.Call (.Name "Undecided" p) [a] [] pos)) none pos2) (tRaiseU (aU X.K) W ta) := ps_raise hc tk (pmk_und T hr ha hg he hpl)
/-- e.horizon, e the exception that the suite holds (at a; its class cls, its dict d) -/
def tHz (C : Addr) (a : Addr) (cls : Value) (d : Option Addr) (te : TE) : TE := fun σ H Q => te σ H fun x H1 => x = .ref a ∧ cls = .ref C ∧ ∃ (dd : Addr) (v : V), d = some dd ∧ H1 dd = some (.xd [(("horizon" : Str), v)]) ∧ Q v H1
theorem pe_hz {a : Addr} {oe : Obj} {cls : Value} {d : Option Addr} {pn : List (Addr × Obj)} {e : Expr} {te : TE} {pos : Pos} (T : UTx X.prog X.K X.mg) (hz : Zc cls d oe) (hf : ∃ vs, oe.data = .fields vs) (he : PE (X.suite a ((a, oe) :: pn)) e te)
    (hb : attributeBase e "horizon" X.env (eval e X.env) = eval e X.env := by rfl) :
    PE (X.suite a ((a, oe) :: pn)) (.Attribute e "horizon" pos) (tHz (aU X.K) a cls d te) := by
  refine ⟨fun pins s σ H Q I h => ?_⟩
  refine attr_of hb (thn (he.run pins s σ H _ I h) fun u s1 hh => ?_)
  obtain ⟨x, H1, I1, rx, ex, ec, dd, v, ed, ea, q⟩ := hh
  subst ex
  obtain rfl : u = Value.ref a := rx
  subst ec
  subst ed
  obtain ⟨ha, _⟩ := I1.pin (a, oe) (List.mem_append_left _ List.mem_cons_self)
  obtain ⟨vs, hd⟩ := hf
  have hx : ObjOk X.prog X.w H1 s1.heap dd (.xd [(("horizon" : Str), v)]) := I1.hok dd _ ea
  obtain ⟨mA, hns, hr⟩ := hx
  obtain ⟨od, ho, hl⟩ := lookIn_ns hns
  have l : List.lookup ("horizon" : Str) [(("horizon" : Str), v)] = some v := by simp [List.lookup]
  obtain ⟨u, hu, ru⟩ := RelO.some_of (v := v) (o := mA "horizon") (by rw [← l]; exact hr "horizon")
  have J : PySem.W.InstAt s1.heap a oe (aU X.K) (some od) := ⟨ha, hz.1, by unfold PySem.W.notCls; rw [hd] <;> rfl, by rw [hz.2]; exact ho⟩
  exact HandSPX.exc_get I1.kIn J T.ga T.gg T.exC (PySem.W.findObj_own T.hdC T.noN rfl (by rw [hl, hu])) (handed_of ru) ⟨v, H1, I1.tok _, ru, q⟩
end
end NL
end
-- part W6
section
set_option Elab.async false
set_option linter.all false
set_option maxRecDepth 100000
set_option maxHeartbeats 4000000
namespace NL
open PySem PySem.Spec PyProof.Rows L2
open He (ga ma)
/-- a def with keywords that may let an exception out -/
def HasKX (P : Program) (w : World) (K : PySem.W.Frag) (mg : Str → Option Value) (base : Heap) (x : Str) (ps : List Str) (n : Nat) (ks : List Str) (k : Nat) (sp : Sp) : Prop :=
  ∃ f fd, mg x = some (.ref f) ∧ FnOk P w K mg base (L2.CX P w) k f fd ps sp ∧ PySem.W.keepIn K (.ref f) = true ∧ KBn K fd ps n ks (fun us ws => us ++ ws) (fun vs zs => vs ++ zs)
def tCallNS (n m : Nat) (sp : Sp) (gV : List V → List V → List V) (E : L2.St → XK) (t tk : TA) : TE := fun σ H Q => t σ H fun vs H1 => tk σ H1 fun zs H2 => vs.length = n ∧ zs.length = m ∧ sp (gV vs zs) H2 Q (E σ)
section
variable {X : Cx} {CX : CXT} {k n : Nat} {f C : Addr} {fd : FuncData} {ps ks : List Str} {sp : Sp} {E : L2.St → XK} {x : Str} {p pos : Pos} {e : Expr} {es : List Expr} {kws : List Keyword} {t tk : TA} {g : List Value → List Value → List Value} {gV : List V → List V → List V}
theorem run_fnNS {pins : List (Addr × Obj)} {σ : L2.St} {H : Hp} {s : Shared} {Q : VK} {us ws : List Value} {vs zs : List V} (F : FnOk X.prog X.w X.K X.mg X.base CX k f fd ps sp) (hr : Room k X.A) (hb : KBn X.K fd ps n ks g gV) (hx : PassesAt CX X σ (E σ))
    (I : Inv X pins σ H s) (r : Vals vs us) (rz : Vals zs ws) (l1 : vs.length = n) (l2 : zs.length = ks.length) (h : sp (gV vs zs) H Q (E σ)) : wpAny (model X.prog X.w) X.A (call (.ref f) us (ks.zip ws)) (EP X pins σ Q) X.xe s := by
  have r2 := hb.rel r rz
  refine wpAny_call (codeAny_mono (F.run X.A X.stack s H ⟨us, ks.zip ws⟩ (g us ws) (gV vs zs) Q (E σ) hr I.env0 (hb.to s us ws I.kIn (r.length.symm.trans l1) (rz.length.symm.trans l2)) r2 h) fun r s' hq => ?_)
  cases r with
  | error e => exact hx pins H s e s' I hq
  | ok fl =>
    cases fl with
    | ret u => exact I.after hq
    | next => exact False.elim hq
    | brk => exact False.elim hq
    | cont => exact False.elim hq
theorem pe_hkS {W : WX} (h : HasKX X.prog X.w X.K X.mg X.base x ps n ks k sp) (tkW : Takes X W) (hr : Room k X.A) (hg : Gl X x) (ha : PA X (e :: es) t) (hkw : PK X kws tk) (hall : (backToKw pos (keywordEach kws X.env)).all (·.1.isSome) = true := by rfl)
    (hks : (backToKw pos (keywordEach kws X.env)).filterMap (·.1) = ks := by rfl) (hdb : (x == ("__debug__" : Str)) = false := by decide) (he : starEach (e :: es) X.env = (false, eval e X.env) :: starEach es X.env := by rfl)
    (hpl : ((backTo pos (starEach (e :: es) X.env)).any (·.1) || (backToKw pos (keywordEach kws X.env)).any (·.1.isNone)) = false := by rfl) :
    PE X (.Call (.Name x p) (e :: es) kws pos) (tCallNS n ks.length sp (fun vs zs => vs ++ zs) (WE W) t tk) := by
  obtain ⟨f, fd, h1, h2, h3, h4⟩ := h
  refine ⟨fun pins s σ H Q I h => ?_⟩
  refine wpAny_Call_Name_kw (ld_glob I hg h1 ?_ hdb)
  refine PySem.W.callWith_KW (h₀ := X.base) I.ok.mod.kin h3 hall (thn (ha.run pos pins s σ H _ I h) fun us s1 ⟨vs, H1, I1, r, q⟩ => ?_) hpl he
  refine thn (hkw.run pos pins s1 σ H1 _ I1 q) fun ws s2 ⟨zs, H2, I2, rz, l1, l2, q2⟩ => ⟨I2.kIn, ?_⟩
  rw [hks]
  exact run_fnNS h2 hr h4 (passAt tkW σ) I2 r rz l1 l2 q2
end
/-- try: .. except C as n: .. -/
def tTryAs (K : PySem.W.Frag) (tb : WX → TS) (c : Value) (i : Nat) (ts : Addr → Value → Option Addr → TS) (Wout : WX) : TS := fun D σ H => tb (wAs K c i ts Wout D) D σ H
section
variable {X : Cx} {x n : Str} {c : Value} {i : Nat} {body suite : List Stmt} {b₀ : Stmt} {np pos pos' : Pos} {tb : WX → TS} {ts : Addr → Value → Option Addr → TS} {Wout : WX}
theorem ps_tryas {K : PySem.W.Frag} (hs : X.stack = X.env :: X.outer) (hf : X.env.frame = some X.env.locals) (hN : X.N.Nodup) (hi : X.N[i]? = some n) (hln : X.env.kindOf n = some .local) (hc : Names X x c) (tk : Takes X Wout)
    (hb : ∀ (W : WX) (pn : List (Addr × Obj)) (xe : Value → Shared → Prop), Takes (X.tr pn xe) W → PassesOwn (model X.prog X.w) X.A X.env xe → PSs (X.tr pn xe) body (tb W))
    (hsu : ∀ (a : Addr) (oe : Obj) (cls : Value) (d : Option Addr) (pn : List (Addr × Obj)), Zc cls d oe → (∃ vs, oe.data = .fields vs) → PSs (X.suite a ((a, oe) :: pn)) (b₀ :: suite) (ts a cls d)) (hK : X.K = K := by rfl) :
    PS X (.Try body [.ExceptHandler (some (.Name x np)) (some n) (b₀ :: suite) pos'] [] [] pos) (tTryAs K tb c i ts Wout) := hK ▸ ps_try_as hs hf hN hi hln hc tk hb hsu
end
section
variable {K : PySem.W.Frag} {σ : L2.St} {H : Hp} {Q : VK} {t tk : TA} {tz : TS} {D : Ends} {te : TE} {g : TG}
theorem r_callNS {n m : Nat} {sp : Sp} {gV : List V → List V → List V} {E : L2.St → XK} (h : t σ H fun vs H1 => tk σ H1 fun zs H2 => vs.length = n ∧ zs.length = m ∧ sp (gV vs zs) H2 Q (E σ)) : tCallNS n m sp gV E t tk σ H Q := h
theorem r_seqTry {tb : WX → TS} {c : Value} {i : Nat} {ts : Addr → Value → Option Addr → TS} {Wout : WX} (h : tb (wAs K c i ts Wout { D with nx := tz D }) { D with nx := tz D } σ H) : tSeq (tTryAs K tb c i ts Wout) tz D σ H := h
theorem r_hz {C a : Addr} {cls : Value} {d : Option Addr} (h : te σ H fun x H1 => x = .ref a ∧ cls = .ref C ∧ ∃ (dd : Addr) (v : V), d = some dd ∧ H1 dd = some (.xd [(("horizon" : Str), v)]) ∧ Q v H1) : tHz C a cls d te σ H Q := h
theorem r_andV {ta tb : TE} (h : ta σ H fun x H1 => ∃ c, x = .bl c ∧ if c = true then tb σ H1 Q else Q (.bl false) H1) : tAndV ta tb σ H Q := h
theorem r_raiseU {C : Addr} {W : WX} {ta : TA} (h : ta σ H fun vs H1 => ∃ v, vs = [v] ∧ ∀ d, H1 d = none → W (.ref C) (some d) σ (upd H1 d (.xd [(("horizon" : Str), v)]))) : tRaiseU C W ta D σ H := h
end
end NL
end
-- part A1
section
set_option Elab.async false
set_option linter.all false
set_option maxRecDepth 100000
set_option maxHeartbeats 4000000
namespace NL
open PySem PySem.Spec PyProof.Rows L2
open He (ga ma)
local macro_rules | `(tactic| walk_at "go1") => `(tactic| first
  | ((with_reducible refine' r_var ?hv ?_); (case hv => rfl))
  | with_reducible refine r_c ?_
  | with_reducible refine r_op ?_
  | with_reducible refine r_un ?_
  | with_reducible refine r_I0 ?_
  | with_reducible refine r_U ?_
  | ((with_reducible refine' r_ixT ?h1 ?h2 ?_); (case h1 => assumption); (case h2 => rfl))
  | ((with_reducible refine' r_ixL ?h1 ?h2 ?_); (case h1 => assumption); (case h2 => rfl))
  | with_reducible refine r_nil ?_
  | with_reducible refine r_cons ?_
  | with_reducible refine r_cb ?_
  | with_reducible refine r_call ?_
  | with_reducible refine r_test ?_
  | with_reducible refine r_B ?_
  | with_reducible refine r_not ?_
  | with_reducible refine r_and ?_
  | with_reducible refine r_or ?_
  | with_reducible refine r_tup ?_
  | with_reducible refine r_lst ?_
  | with_reducible refine r_bl ?_
  | with_reducible refine r_max2 ?_
  | with_reducible refine r_min2 ?_
  | with_reducible refine r_abs ?_
  | with_reducible refine r_int1b ?_
  | with_reducible refine r_isN ?_
  | with_reducible refine r_notN ?_
  | with_reducible refine r_notBl ?_
  | ((with_reducible refine r_eq ?h1 ?_); (case h1 => rfl))
  | ((with_reducible refine r_ne ?h1 ?_); (case h1 => rfl))
  | with_reducible refine r_fld ?_
  | with_reducible refine r_sl ?_
  | with_reducible refine r_noPart ?_
  | with_reducible refine r_part ?_
  | with_reducible refine r_xint ?_
  | with_reducible refine r_bm ?_
  | with_reducible refine r_meth ?_
  | with_reducible refine r_callN ?_
  | ((with_reducible refine' r_lenQ ?h1 ?_); (case h1 => first | assumption | exact Or.inl (by assumption) | exact Or.inr (by assumption)))
  | with_reducible refine r_seqN ?_
  | with_reducible refine r_asgN ?_
  | with_reducible refine r_seqIf ?_
  | with_reducible refine r_seqFor ?_
  | with_reducible refine r_for ?_
  | with_reducible refine r_rng1 ?_
  | with_reducible refine r_rng2 ?_
  | with_reducible refine r_rng3 ?_
  | with_reducible refine r_itL ?_
  | with_reducible refine r_itT ?_
  | with_reducible refine r_lc ?_
  | with_reducible refine r_yes ?_
  | with_reducible refine r_itE ?_
  | with_reducible refine r_itEL ?_
  | with_reducible refine r_gN ?_
  | with_reducible refine r_seqA ?_
  | with_reducible refine r_asgA ?_
  | with_reducible refine r_if ?_
  | with_reducible refine r_retD ?_
  | with_reducible refine r_ret ?_
  | with_reducible refine r_seqDrop ?_
  | with_reducible refine r_drop ?_
  | with_reducible refine r_next ?_)
local macro_rules | `(tactic| walk_at "go") => `(tactic| (repeat walk_at "go1"))

section
variable {P : Program} {w : World} {K : PySem.W.Frag} {mg : Str → Option Value} {base : Heap}
abbrev N_supply_of_first : List Str := ["table", "slots", "rounds", "rest"]
abbrev P_supply_of_first : List Str := ["table", "slots"]
theorem sc_supply_of_first : FnScope N_supply_of_first P_supply_of_first (defScope s_supply_of_first) := ⟨rfl, rfl, rfl, by decide +kernel, rfl, by decide +kernel, by decide +kernel⟩
def sp_supply_of_first (K : PySem.W.Frag) : Sp := fun vs H Q _ => ∃ (a : Addr) (tb : List Int) (n : Nat), vs = [.ref a, .int (n : Int)] ∧ Sq K H a (tb.map V.int) ∧ 0 < tb.length ∧ tb.length ≤ 1000 ∧ n < 2 ^ 60 ∧ ∀ H', Same H H' → Q (.int (supF tb n)) H'
theorem has_supply_of_first (T : Tx K mg) : Has P w K mg base "supply_of_first" P_supply_of_first 1 (sp_supply_of_first K) := by
  obtain ⟨fd, F⟩ := T.f_supply_of_first
  refine has_mk F T.g_supply_of_first (fun _ _ _ _ _ _ us hl => match us, hl with | [_, _], _ => rfl) (F.ok sc_supply_of_first (fun vs H Q E h => ?_) (fun cdv A outer s H vs Q E hr h => ?_))
  · obtain ⟨_, _, _, rfl, _⟩ := h; rfl
  · obtain ⟨a, tb, n, rfl, hs, h1, h2, h3, q⟩ := h
    refine ⟨_, PSs.nox (pss_cons (ps_asg (pe_callB call_divmodQ (by rfl) T.b_divmod (by decide +kernel) (pa_cons (pv 1) (pa_cons (pe_callB (k_len (K := K)) (by rfl) T.b_len PySem.boot_len (pa_cons (pv 0) pa_nil)) pa_nil))) (k_tupG (K := K) rfl (pgs_cons (pg_name (i := 2) sc_supply_of_first.nd rfl (.inl rfl)) (pgs_cons (pg_name (i := 3) sc_supply_of_first.nd rfl (.inl rfl)) pgs_nil))))
      (pss_one (ps_ret (pe_op op_add (pe_op op_mul (pv 2) (pe_callB (k_sumS (K := K)) (by rfl) T.b_sum (by decide +kernel) (pa_cons (pv 0) pa_nil))) (pe_callB (k_sumS (K := K)) (by rfl) T.b_sum (by decide +kernel) (pa_cons (pe_slice (k_slS (K := K)) (pv 0) po_none (po_some (pv 3))) pa_nil)))))), ?_⟩
    walk_at "go"
    refine r_divmod ⟨by rw [List.length_map]; omega, by rw [List.length_map]; omega⟩ fun p hp => ?_
    refine r_tup2 rfl (SqT.of upd_same) ?_
    have e1 := same_upd (o := .tup [V.int ((n : Int) / ((tb.map V.int).length : Int)), V.int ((n : Int) % ((tb.map V.int).length : Int))]) (Same.refl H) hp
    have hs1 := hs.up e1
    walk_at "go"
    have hq : 0 ≤ (n : Int) / ((tb.map V.int).length : Int) := Int.ediv_nonneg (by omega) (by omega)
    have hq2 : (n : Int) / ((tb.map V.int).length : Int) ≤ n := Int.ediv_le_self _ (by omega)
    refine r_sumS hs1 (r_I (.inl ⟨by omega, by omega⟩) ?_)
    walk_at "go"
    have er : (n : Int) % ((tb.map V.int).length : Int) = ((n % tb.length : Nat) : Int) := by rw [List.length_map]; rfl
    rw [er] at hs1 e1 ⊢
    have hr' : n % tb.length < tb.length := Nat.mod_lt _ h1
    refine r_slS hs1 (fun z => ?_) fun p2 o hp2 ho => ?_
    · have := z.2
      rw [HT.sIx_nat, List.length_map] at this
      omega
    · rw [cut_hi] at ho
      have e2 := same_upd (o := o) e1 hp2
      walk_at "go"
      refine r_sumS (ns := tb.take (n % tb.length)) (ho.elim (fun z => Sq.lst (by rw [z]; exact upd_same)) fun z => Sq.tup (by rw [z]; exact upd_same)) ?_
      walk_at "go"
      have key := supF_eq tb n h1
      have eq : (n : Int) / ((tb.map V.int).length : Int) = ((n / tb.length : Nat) : Int) := by rw [List.length_map]; rfl
      have z := q _ e2
      rw [eq] at z ⊢
      rw [key]
      exact z
abbrev N_supply : List Str := ["table", "start", "end"]
abbrev P_supply : List Str := ["table", "start", "end"]
theorem sc_supply : FnScope N_supply P_supply (defScope s_supply) := ⟨rfl, rfl, rfl, by decide +kernel, rfl, by decide +kernel, by decide +kernel⟩
def sp_supply (K : PySem.W.Frag) : Sp := fun vs H Q _ => ∃ (a : Addr) (tb : List Int) (n m : Nat), vs = [.ref a, .int (n : Int), .int (m : Int)] ∧ Sq K H a (tb.map V.int) ∧ 0 < tb.length ∧ tb.length ≤ 1000 ∧ n < 2 ^ 60 ∧ m < 2 ^ 60 ∧ ∀ H', Same H H' → Q (.int (sup tb n m)) H'
theorem has_supply (T : Tx K mg) : Has P w K mg base "supply" P_supply 2 (sp_supply K) := by
  have h_supply_of_first := has_supply_of_first (P := P) (w := w) (base := base) T
  obtain ⟨fd, F⟩ := T.f_supply
  refine has_mk F T.g_supply (fun _ _ _ _ _ _ us hl => match us, hl with | [_, _, _], _ => rfl) (F.ok sc_supply (fun vs H Q E h => ?_) (fun cdv A outer s H vs Q E hr h => ?_))
  · obtain ⟨_, _, _, _, rfl, _⟩ := h; rfl
  · obtain ⟨a, tb, n, m, rfl, hs, h1, h2, h3, h4, q⟩ := h
    refine ⟨_, PSs.nox (pss_cons (ps_if (pt_cmpR op_le (pv 2) (pv 1) (nomark _)) (pss_one (ps_ret pe_int)) pss_nil)
      (pss_one (ps_ret (pe_op op_sub (pe_hc h_supply_of_first (hr.mono (by decide)) (by rfl) (pa_cons (pv 0) (pa_cons (pv 2) pa_nil))) (pe_hc h_supply_of_first (hr.mono (by decide)) (by rfl) (pa_cons (pv 0) (pa_cons (pv 1) pa_nil))))))), ?_⟩
    walk_at "go"
    refine r_ite (fun c => ?_) (fun c => ?_)
    · walk_at "go"
      have e : sup tb n m = 0 := by
        unfold sup
        rw [if_pos (by have := of_decide_eq_true c; omega)]
      rw [← e]
      exact q _ (Same.refl H)
    · walk_at "go"
      refine ⟨a, tb, m, rfl, hs, h1, h2, h4, fun H1 e1 => ?_⟩
      walk_at "go"
      refine ⟨a, tb, n, rfl, hs.up e1, h1, h2, h3, fun H2 e2 => ?_⟩
      walk_at "go"
      have e : sup tb n m = supF tb m - supF tb n := by
        unfold sup
        rw [if_neg (by have := of_decide_eq_false c; omega)]
      rw [← e]
      exact q _ (e1.trans e2)
end
end NL
end
-- part A2
section
set_option Elab.async false
set_option linter.all false
set_option maxRecDepth 100000
set_option maxHeartbeats 4000000
namespace NL
open PySem PySem.Spec PyProof.Rows L2
open He (ga ma)
local macro_rules | `(tactic| walk_at "go1") => `(tactic| first
  | ((with_reducible refine' r_var ?hv ?_); (case hv => rfl))
  | with_reducible refine r_c ?_
  | with_reducible refine r_op ?_
  | with_reducible refine r_un ?_
  | with_reducible refine r_I0 ?_
  | with_reducible refine r_U ?_
  | ((with_reducible refine' r_ixT ?h1 ?h2 ?_); (case h1 => assumption); (case h2 => rfl))
  | ((with_reducible refine' r_ixL ?h1 ?h2 ?_); (case h1 => assumption); (case h2 => rfl))
  | with_reducible refine r_nil ?_
  | with_reducible refine r_cons ?_
  | with_reducible refine r_cb ?_
  | with_reducible refine r_call ?_
  | with_reducible refine r_test ?_
  | with_reducible refine r_B ?_
  | with_reducible refine r_not ?_
  | with_reducible refine r_and ?_
  | with_reducible refine r_or ?_
  | with_reducible refine r_tup ?_
  | with_reducible refine r_lst ?_
  | with_reducible refine r_bl ?_
  | with_reducible refine r_max2 ?_
  | with_reducible refine r_min2 ?_
  | with_reducible refine r_abs ?_
  | with_reducible refine r_int1b ?_
  | with_reducible refine r_isN ?_
  | with_reducible refine r_notN ?_
  | with_reducible refine r_notBl ?_
  | ((with_reducible refine r_eq ?h1 ?_); (case h1 => rfl))
  | ((with_reducible refine r_ne ?h1 ?_); (case h1 => rfl))
  | with_reducible refine r_fld ?_
  | with_reducible refine r_sl ?_
  | with_reducible refine r_noPart ?_
  | with_reducible refine r_part ?_
  | with_reducible refine r_xint ?_
  | with_reducible refine r_bm ?_
  | with_reducible refine r_meth ?_
  | with_reducible refine r_callN ?_
  | ((with_reducible refine' r_lenQ ?h1 ?_); (case h1 => first | assumption | exact Or.inl (by assumption) | exact Or.inr (by assumption)))
  | with_reducible refine r_seqN ?_
  | with_reducible refine r_asgN ?_
  | with_reducible refine r_seqIf ?_
  | with_reducible refine r_seqFor ?_
  | with_reducible refine r_for ?_
  | with_reducible refine r_rng1 ?_
  | with_reducible refine r_rng2 ?_
  | with_reducible refine r_rng3 ?_
  | with_reducible refine r_itL ?_
  | with_reducible refine r_itT ?_
  | with_reducible refine r_lc ?_
  | with_reducible refine r_yes ?_
  | with_reducible refine r_itE ?_
  | with_reducible refine r_itEL ?_
  | with_reducible refine r_gN ?_
  | with_reducible refine r_seqA ?_
  | with_reducible refine r_asgA ?_
  | with_reducible refine r_if ?_
  | with_reducible refine r_retD ?_
  | with_reducible refine r_ret ?_
  | with_reducible refine r_seqDrop ?_
  | with_reducible refine r_drop ?_
  | with_reducible refine r_next ?_)
local macro_rules | `(tactic| walk_at "go") => `(tactic| (repeat walk_at "go1"))

section
variable {P : Program} {w : World} {K : PySem.W.Frag} {mg : Str → Option Value} {base : Heap}
abbrev N_least_supply : List Str := ["table", "length", "least", "start"]
abbrev P_least_supply : List Str := ["table", "length"]
theorem sc_least_supply : FnScope N_least_supply P_least_supply (defScope s_least_supply) := ⟨rfl, rfl, rfl, by decide +kernel, rfl, by decide +kernel, by decide +kernel⟩
def sp_least_supply (K : PySem.W.Frag) : Sp := fun vs H Q _ => ∃ (a : Addr) (tb : List Int) (n : Nat), vs = [.ref a, .int (n : Int)] ∧ Sq K H a (tb.map V.int) ∧ 0 < tb.length ∧ tb.length ≤ 1000 ∧ n < 2 ^ 50 ∧ ∀ H', Same H H' → Q (.int (leastF tb n)) H'
/-- the least supply, so far -/
def leastTo (T : List Int) (n i : Nat) : Int := (List.range i).foldl (fun a i => if sup T (i + 1) (i + 1 + n) < a then sup T (i + 1) (i + 1 + n) else a) (sup T 0 n)
theorem leastTo_succ (T : List Int) (n i : Nat) : leastTo T n (i + 1) = if sup T (i + 1) (i + 1 + n) < leastTo T n i then sup T (i + 1) (i + 1 + n) else leastTo T n i := by
  unfold leastTo
  rw [List.range_succ, List.foldl_append]
  rfl
theorem has_least_supply (T : Tx K mg) : Has P w K mg base "least_supply" P_least_supply 3 (sp_least_supply K) := by
  have h_supply := has_supply (P := P) (w := w) (base := base) T
  obtain ⟨fd, F⟩ := T.f_least_supply
  refine has_mk F T.g_least_supply (fun _ _ _ _ _ _ us hl => match us, hl with | [_, _], _ => rfl) (F.ok sc_least_supply (fun vs H Q E h => ?_) (fun cdv A outer s H vs Q E hr h => ?_))
  · obtain ⟨_, _, _, rfl, _⟩ := h; rfl
  · obtain ⟨a, tb, n, rfl, hs, h1, h2, h3, q⟩ := h
    refine ⟨_, PSs.nox (pss_cons (ps_set (i := 2) sc_least_supply.nd rfl (.inl rfl) (pe_hc h_supply (hr.mono (by decide)) (by rfl) (pa_cons (pv 0) (pa_cons pe_int (pa_cons (pv 1) pa_nil)))))
      (pss_cons (ps_for PassesOwn.never rfl (pi_range2 rfl T.b_range (pa_cons pe_int (pa_cons (pe_callB (k_len (K := K)) (by rfl) T.b_len PySem.boot_len (pa_cons (pv 0) pa_nil)) pa_nil))) (pg_name (i := 3) sc_least_supply.nd rfl (.inl rfl)) (pss_one (ps_set (i := 2) sc_least_supply.nd rfl (.inl rfl) (pe_callB (call_min2Q rfl) (by rfl) T.b_min (by decide +kernel) (pa_cons (pv 2) (pa_cons (pe_hc h_supply (hr.mono (by decide)) (by rfl) (pa_cons (pv 0) (pa_cons (pv 3) (pa_cons (pe_op op_add (pv 3) (pv 1)) pa_nil)))) pa_nil))))))
      (pss_one (ps_ret (pv 2))))), ?_⟩
    walk_at "go"
    refine ⟨a, tb, 0, n, rfl, hs, h1, h2, by omega, by omega, fun H1 e1 => ?_⟩
    have hs1 := hs.up e1
    walk_at "go"
    refine ⟨1, _, rfl, ⟨by decide, by decide, by rw [List.length_map]; omega, by rw [List.length_map]; omega⟩, loop_range (fun i σ' H' => ∃ y, σ' = [some (.ref a), some (.int (n : Int)), some (.int (leastTo tb n i)), y] ∧ Same H H') ⟨_, rfl, e1⟩ ?_ ?_⟩
    · rintro i σ' H' hi ⟨y, rfl, e'⟩
      rw [List.length_map] at hi
      walk_at "go"
      have e0 : (1 : Int) + (i : Int) = ((i + 1 : Nat) : Int) := by omega
      rw [e0]
      refine ⟨a, tb, i + 1, i + 1 + n, rfl, hs.up e', h1, h2, by omega, by omega, fun H2 e2 => ?_⟩
      walk_at "go"
      refine ⟨some (.int ((i + 1 : Nat) : Int)), ?_, e'.trans e2⟩
      rw [leastTo_succ]
      rfl
    · rintro σ' H' ⟨y, rfl, e'⟩
      rw [List.length_map] at *
      have e0 : ((tb.length : Int) - 1).toNat = tb.length - 1 := by omega
      walk_at "go"
      rw [e0]
      exact q _ e'
abbrev N_common_length : List Str := ["one", "other"]
abbrev P_common_length : List Str := ["one", "other"]
theorem sc_common_length : FnScope N_common_length P_common_length (defScope s_common_length) := ⟨rfl, rfl, rfl, by decide +kernel, rfl, by decide +kernel, by decide +kernel⟩
def sp_common_length (K : PySem.W.Frag) : Sp := fun vs H Q _ => ∃ (a b : Addr) (ta tb : List Int), vs = [.ref a, .ref b] ∧ Sq K H a (ta.map V.int) ∧ Sq K H b (tb.map V.int) ∧ ta.length ≤ 1000 ∧ tb.length ≤ 1000 ∧ ∀ H', Same H H' → Q (.int ((Nat.lcm ta.length tb.length : Nat) : Int)) H'
theorem has_common_length (T : Tx K mg) : Has P w K mg base "common_length" P_common_length 1 (sp_common_length K) := by
  obtain ⟨fd, F⟩ := T.f_common_length
  refine has_mk F T.g_common_length (fun _ _ _ _ _ _ us hl => match us, hl with | [_, _], _ => rfl) (F.ok sc_common_length (fun vs H Q E h => ?_) (fun cdv A outer s H vs Q E hr h => ?_))
  · obtain ⟨_, _, _, _, rfl, _⟩ := h; rfl
  · obtain ⟨a, b, ta, tb, rfl, ha, hb, h1, h2, q⟩ := h
    refine ⟨_, PSs.nox (pss_one (ps_ret (pe_callBfun cr_lcm (by rfl) T.lcm (pa_cons (pe_callB (k_len (K := K)) (by rfl) T.b_len PySem.boot_len (pa_cons (pv 0) pa_nil)) (pa_cons (pe_callB (k_len (K := K)) (by rfl) T.b_len PySem.boot_len (pa_cons (pv 1) pa_nil)) pa_nil))))), ?_⟩
    walk_at "go"
    refine ⟨_, _, rfl, by rw [List.length_map]; omega, by rw [List.length_map]; omega, ?_⟩
    rw [List.length_map, List.length_map]
    exact q _ (Same.refl H)
abbrev N_first_shortage : List Str := ["one", "other", "length"]
abbrev P_first_shortage : List Str := ["one", "other"]
theorem sc_first_shortage : FnScope N_first_shortage P_first_shortage (defScope s_first_shortage) := ⟨rfl, rfl, rfl, by decide +kernel, rfl, by decide +kernel, by decide +kernel⟩
/-- told where the first table has nowhere less least supply -/
def sp_first_shortage (K : PySem.W.Frag) : Sp := fun vs H Q _ => ∃ (a b : Addr) (ta tb : List Int), vs = [.ref a, .ref b] ∧ Sq K H a (ta.map V.int) ∧ Sq K H b (tb.map V.int) ∧ (0 < ta.length ∧ ta.length ≤ 1000 ∧ 0 < tb.length ∧ tb.length ≤ 1000) ∧
  (∀ n, ¬ leastF ta n < leastF tb n) ∧ ∀ H', Same H H' → Q .non H'
theorem lcm_small {a b : Nat} (ha : a ≤ 1000) (hb : b ≤ 1000) : Nat.lcm a b ≤ 1000000 := by
  unfold Nat.lcm
  have h1 : a * b / a.gcd b ≤ a * b := Nat.div_le_self _ _
  have h2 : a * b ≤ 1000 * 1000 := Nat.mul_le_mul ha hb
  omega
theorem has_first_shortage (T : Tx K mg) : Has P w K mg base "first_shortage" P_first_shortage 4 (sp_first_shortage K) := by
  have h_common_length := has_common_length (P := P) (w := w) (base := base) T
  have h_least_supply := has_least_supply (P := P) (w := w) (base := base) T
  obtain ⟨fd, F⟩ := T.f_first_shortage
  refine has_mk F T.g_first_shortage (fun _ _ _ _ _ _ us hl => match us, hl with | [_, _], _ => rfl) (F.ok sc_first_shortage (fun vs H Q E h => ?_) (fun cdv A outer s H vs Q E hr h => ?_))
  · obtain ⟨_, _, _, _, rfl, _⟩ := h; rfl
  · obtain ⟨a, b, ta, tb, rfl, ha, hb, ⟨h1, h2, h3, h4⟩, hn, q⟩ := h
    refine ⟨_, PSs.nox (pss_cons (ps_for PassesOwn.never rfl (pi_range2 rfl T.b_range (pa_cons pe_int (pa_cons (pe_op op_add (pe_hc h_common_length (hr.mono (by decide)) (by rfl) (pa_cons (pv 0) (pa_cons (pv 1) pa_nil))) pe_int) pa_nil))) (pg_name (i := 2) sc_first_shortage.nd rfl (.inl rfl)) (pss_one (ps_if (pt_cmpR op_lt (pe_hc h_least_supply (hr.mono (by decide)) (by rfl) (pa_cons (pv 0) (pa_cons (pv 2) pa_nil))) (pe_hc h_least_supply (hr.mono (by decide)) (by rfl) (pa_cons (pv 1) (pa_cons (pv 2) pa_nil))) (nomark _)) (pss_one (ps_ret (pv 2))) pss_nil)))
      (pss_one (ps_ret pe_non))), ?_⟩
    walk_at "go"
    refine ⟨a, b, ta, tb, rfl, ha, hb, h2, h4, fun H1 e1 => ?_⟩
    walk_at "go"
    have hl := lcm_small h2 h4
    refine ⟨1, _, rfl, ⟨by decide, by decide, by omega, by omega⟩, loop_range (fun i σ' H' => ∃ y, σ' = [some (.ref a), some (.ref b), y] ∧ Same H H') ⟨_, rfl, e1⟩ ?_ ?_⟩
    · rintro i σ' H' hi ⟨y, rfl, e'⟩
      walk_at "go"
      have e0 : (1 : Int) + (i : Int) = ((i + 1 : Nat) : Int) := by omega
      rw [e0]
      refine ⟨a, ta, i + 1, rfl, ha.up e', h1, h2, by omega, fun H2 e2 => ?_⟩
      walk_at "go"
      refine ⟨b, tb, i + 1, rfl, hb.up (e'.trans e2), h3, h4, by omega, fun H3 e3 => ?_⟩
      walk_at "go"
      refine r_ite (fun c => absurd (of_decide_eq_true c) (hn _)) (fun c => ?_)
      walk_at "go"
      exact ⟨_, rfl, (e'.trans e2).trans e3⟩
    · rintro σ' H' ⟨y, rfl, e'⟩
      walk_at "go"
      exact q _ e'
abbrev N_dominates : List Str := ["one", "other"]
abbrev P_dominates : List Str := ["one", "other"]
theorem sc_dominates : FnScope N_dominates P_dominates (defScope s_dominates) := ⟨rfl, rfl, rfl, by decide +kernel, rfl, by decide +kernel, by decide +kernel⟩
def sp_dominates (K : PySem.W.Frag) : Sp := fun vs H Q _ => ∃ (a b : Addr) (ta tb : List Int), vs = [.ref a, .ref b] ∧ Sq K H a (ta.map V.int) ∧ Sq K H b (tb.map V.int) ∧ (0 < ta.length ∧ ta.length ≤ 1000 ∧ 0 < tb.length ∧ tb.length ≤ 1000) ∧
  (∀ n, ¬ leastF ta n < leastF tb n) ∧ ∀ H', Same H H' → Q (.bl true) H'
theorem has_dominates (T : Tx K mg) : Has P w K mg base "dominates" P_dominates 5 (sp_dominates K) := by
  have h_first_shortage := has_first_shortage (P := P) (w := w) (base := base) T
  obtain ⟨fd, F⟩ := T.f_dominates
  refine has_mk F T.g_dominates (fun _ _ _ _ _ _ us hl => match us, hl with | [_, _], _ => rfl) (F.ok sc_dominates (fun vs H Q E h => ?_) (fun cdv A outer s H vs Q E hr h => ?_))
  · obtain ⟨_, _, _, _, rfl, _⟩ := h; rfl
  · obtain ⟨a, b, ta, tb, rfl, ha, hb, h1, hn, q⟩ := h
    refine ⟨_, PSs.nox (pss_one (ps_ret (pe_cmpR op_isNQ (pe_hc h_first_shortage (hr.mono (by decide)) (by rfl) (pa_cons (pv 0) (pa_cons (pv 1) pa_nil))) pe_non (nomark _)))), ?_⟩
    walk_at "go"
    refine ⟨a, b, ta, tb, rfl, ha, hb, h1, hn, fun H1 e1 => ?_⟩
    walk_at "go"
    exact q _ e1
end
end NL
end
-- part A3
section
set_option Elab.async false
set_option linter.all false
set_option maxRecDepth 100000
set_option maxHeartbeats 4000000
namespace NL
open PySem PySem.Spec PyProof.Rows L2
open He (ga ma)
local macro_rules | `(tactic| walk_at "go1") => `(tactic| first
  | ((with_reducible refine' r_var ?hv ?_); (case hv => rfl))
  | with_reducible refine r_c ?_
  | with_reducible refine r_op ?_
  | with_reducible refine r_un ?_
  | with_reducible refine r_I0 ?_
  | with_reducible refine r_U ?_
  | ((with_reducible refine' r_ixT ?h1 ?h2 ?_); (case h1 => assumption); (case h2 => rfl))
  | ((with_reducible refine' r_ixL ?h1 ?h2 ?_); (case h1 => assumption); (case h2 => rfl))
  | with_reducible refine r_nil ?_
  | with_reducible refine r_cons ?_
  | with_reducible refine r_cb ?_
  | with_reducible refine r_call ?_
  | with_reducible refine r_test ?_
  | with_reducible refine r_B ?_
  | with_reducible refine r_not ?_
  | with_reducible refine r_and ?_
  | with_reducible refine r_or ?_
  | with_reducible refine r_tup ?_
  | with_reducible refine r_lst ?_
  | with_reducible refine r_bl ?_
  | with_reducible refine r_max2 ?_
  | with_reducible refine r_min2 ?_
  | with_reducible refine r_abs ?_
  | with_reducible refine r_int1b ?_
  | with_reducible refine r_isN ?_
  | with_reducible refine r_notN ?_
  | with_reducible refine r_notBl ?_
  | ((with_reducible refine r_eq ?h1 ?_); (case h1 => rfl))
  | ((with_reducible refine r_ne ?h1 ?_); (case h1 => rfl))
  | with_reducible refine r_fld ?_
  | with_reducible refine r_sl ?_
  | with_reducible refine r_noPart ?_
  | with_reducible refine r_part ?_
  | with_reducible refine r_xint ?_
  | with_reducible refine r_bm ?_
  | with_reducible refine r_meth ?_
  | with_reducible refine r_callN ?_
  | ((with_reducible refine' r_lenQ ?h1 ?_); (case h1 => first | assumption | exact Or.inl (by assumption) | exact Or.inr (by assumption)))
  | with_reducible refine r_seqN ?_
  | with_reducible refine r_asgN ?_
  | with_reducible refine r_seqIf ?_
  | with_reducible refine r_seqFor ?_
  | with_reducible refine r_for ?_
  | with_reducible refine r_rng1 ?_
  | with_reducible refine r_rng2 ?_
  | with_reducible refine r_rng3 ?_
  | with_reducible refine r_itL ?_
  | with_reducible refine r_itT ?_
  | with_reducible refine r_lc ?_
  | with_reducible refine r_yes ?_
  | with_reducible refine r_itE ?_
  | with_reducible refine r_itEL ?_
  | with_reducible refine r_gN ?_
  | with_reducible refine r_seqA ?_
  | with_reducible refine r_asgA ?_
  | with_reducible refine r_if ?_
  | with_reducible refine r_retD ?_
  | with_reducible refine r_ret ?_
  | with_reducible refine r_seqDrop ?_
  | with_reducible refine r_drop ?_
  | with_reducible refine r_next ?_)
local macro_rules | `(tactic| walk_at "go") => `(tactic| (repeat walk_at "go1"))

/-! ### tasks in the heap -/
def nm (i : Nat) : Str := ⟨#[97 + i]⟩
theorem nm_inj {i j : Nat} (h : nm i = nm j) : i = j := by
  have h2 := congrArg Str.cps h
  have h3 : (#[97 + i] : Array Nat) = #[97 + j] := h2
  have h4 := congrArg Array.toList h3
  have h5 : [97 + i] = [97 + j] := h4
  have h6 : 97 + i = 97 + j := by injection h5
  omega
theorem nm_dec (i j : Nat) : decide (V.str (nm i) = V.str (nm j)) = decide (i = j) := by
  by_cases e : i = j
  · subst e; rw [decide_eq_true rfl, decide_eq_true rfl]
  · rw [decide_eq_false e, decide_eq_false fun z => e (nm_inj (V.str.inj z))]
def KindsT (H : Hp) (vs : List V) (t : Tk) : Prop := vs.length = t.n ∧ ∀ (i : Nat) v, vs[i]? = some v → ∃ p, v = .ref p ∧ H p = some (.tup [.str (nm i), .int (t.cost i), .int ((t.dl i : Nat) : Int)])
def WaysT (H : Hp) (vs : List V) (t : Tk) : Prop := vs.length = t.m ∧ ∀ (i : Nat) v, vs[i]? = some v → ∃ p, v = .ref p ∧ H p = some (.tup [.str (nm (t.src i)), .str (nm (t.tgt i)), .int ((t.dst i : Nat) : Int)])
theorem KindsT.up {H H' : Hp} {vs : List V} {t : Tk} (h : KindsT H vs t) (e : Same H H') : KindsT H' vs t := ⟨h.1, fun i v q => let ⟨p, a, b⟩ := h.2 i v q; ⟨p, a, e _ _ b⟩⟩
theorem WaysT.up {H H' : Hp} {vs : List V} {t : Tk} (h : WaysT H vs t) (e : Same H H') : WaysT H' vs t := ⟨h.1, fun i v q => let ⟨p, a, b⟩ := h.2 i v q; ⟨p, a, e _ _ b⟩⟩
def fsT (z : Str) (kt wt : Addr) : List (Str × V) := [("name", .str z), ("kinds", .ref kt), ("ways", .ref wt)]
theorem ne_nk : (("kinds" : Str) == "name") = false := by decide +kernel
theorem ne_nw : (("ways" : Str) == "name") = false := by decide +kernel
theorem ne_kw : (("ways" : Str) == "kinds") = false := by decide +kernel
theorem lk_name (z : Str) (kt wt : Addr) : (fsT z kt wt).lookup ("name" : Str) = some (V.str z) := by unfold fsT; rw [List.lookup_cons, beq_self_eq_true]
theorem lk_kinds (z : Str) (kt wt : Addr) : (fsT z kt wt).lookup ("kinds" : Str) = some (V.ref kt) := by unfold fsT; rw [List.lookup_cons, ne_nk, List.lookup_cons, beq_self_eq_true]
theorem lk_ways (z : Str) (kt wt : Addr) : (fsT z kt wt).lookup ("ways" : Str) = some (V.ref wt) := by unfold fsT; rw [List.lookup_cons, ne_nw, List.lookup_cons, ne_kw, List.lookup_cons, beq_self_eq_true]
theorem lk_no (z : Str) (kt wt : Addr) {m : Str} (h1 : (m == ("name" : Str)) = false) (h2 : (m == ("kinds" : Str)) = false) (h3 : (m == ("ways" : Str)) = false) : (fsT z kt wt).lookup m = none := by unfold fsT; rw [List.lookup_cons, h1, List.lookup_cons, h2, List.lookup_cons, h3]; rfl
theorem lk_kn (z : Str) (kt wt : Addr) : (fsT z kt wt).lookup ("kind_number" : Str) = none := lk_no z kt wt (by decide +kernel) (by decide +kernel) (by decide +kernel)
theorem lk_co (z : Str) (kt wt : Addr) : (fsT z kt wt).lookup ("cost" : Str) = none := lk_no z kt wt (by decide +kernel) (by decide +kernel) (by decide +kernel)
theorem lk_wf (z : Str) (kt wt : Addr) : (fsT z kt wt).lookup ("ways_from" : Str) = none := lk_no z kt wt (by decide +kernel) (by decide +kernel) (by decide +kernel)
/-- at a stands the task t -/
structure TaskAt (K : PySem.W.Frag) (H : Hp) (a : Addr) (t : Tk) : Prop where
  ok : t.Ok
  ex : ∃ (dx kt wt : Addr) (z : Str) (kvs wvs : List V), H a = some (.ins (ga K "Task") dx (fsT z kt wt)) ∧ H kt = some (.tup kvs) ∧ H wt = some (.tup wvs) ∧ KindsT H kvs t ∧ WaysT H wvs t
theorem TaskAt.up {K : PySem.W.Frag} {H H' : Hp} {a : Addr} {t : Tk} (h : TaskAt K H a t) (e : Same H H') : TaskAt K H' a t := by
  obtain ⟨ok, dx, kt, wt, z, kvs, wvs, h1, h2, h3, h4, h5⟩ := h
  exact ⟨ok, dx, kt, wt, z, kvs, wvs, e _ _ h1, e _ _ h2, e _ _ h3, h4.up e, h5.up e⟩
section
variable {P : Program} {w : World} {K : PySem.W.Frag} {mg : Str → Option Value} {base : Heap}
theorem Tx.m_kind_number (T : Tx K mg) : Meth K (ga K "Task") "kind_number" (ma K (ga K "Task") "kind_number") := T.mT1
theorem Tx.m_cost (T : Tx K mg) : Meth K (ga K "Task") "cost" (ma K (ga K "Task") "cost") := T.mT2
theorem Tx.m_deadline (T : Tx K mg) : Meth K (ga K "Task") "deadline" (ma K (ga K "Task") "deadline") := T.mT3
theorem Tx.m_ways_from (T : Tx K mg) : Meth K (ga K "Task") "ways_from" (ma K (ga K "Task") "ways_from") := T.mT4
theorem Tx.pp_longest_distance (T : Tx K mg) : ∃ p, PropOf K (ga K "Task") "longest_distance" p (pgAt K (ga K "Task") "longest_distance") := T.p1
theorem Tx.pp_latest_deadline (T : Tx K mg) : ∃ p, PropOf K (ga K "Task") "latest_deadline" p (pgAt K (ga K "Task") "latest_deadline") := T.p2
theorem x_kinds {H : Hp} {a dx kt wt : Addr} {z : Str} {P : V → Prop} (T : Tx K mg) (h : H a = some (.ins (ga K "Task") dx (fsT z kt wt))) (q : P (.ref kt)) : ∃ a' C dx fs v, V.ref a = .ref a' ∧ H a' = some (.ins C dx fs) ∧ Cls K C ∧ NoAttr K C "kinds" ∧ fs.lookup ("kinds" : Str) = some v ∧ P v :=
  ⟨a, _, dx, _, _, rfl, h, T.cT, T.nT2, lk_kinds z kt wt, q⟩
theorem x_ways {H : Hp} {a dx kt wt : Addr} {z : Str} {P : V → Prop} (T : Tx K mg) (h : H a = some (.ins (ga K "Task") dx (fsT z kt wt))) (q : P (.ref wt)) : ∃ a' C dx fs v, V.ref a = .ref a' ∧ H a' = some (.ins C dx fs) ∧ Cls K C ∧ NoAttr K C "ways" ∧ fs.lookup ("ways" : Str) = some v ∧ P v :=
  ⟨a, _, dx, _, _, rfl, h, T.cT, T.nT3, lk_ways z kt wt, q⟩
theorem x_name {H : Hp} {a dx kt wt : Addr} {z : Str} {P : V → Prop} (T : Tx K mg) (h : H a = some (.ins (ga K "Task") dx (fsT z kt wt))) (q : P (.str z)) : ∃ a' C dx fs v, V.ref a = .ref a' ∧ H a' = some (.ins C dx fs) ∧ Cls K C ∧ NoAttr K C "name" ∧ fs.lookup ("name" : Str) = some v ∧ P v :=
  ⟨a, _, dx, _, _, rfl, h, T.cT, T.nT1, lk_name z kt wt, q⟩
abbrev N_T_kind_number : List Str := ["self", "kind_name", "number", "kind"]
abbrev P_T_kind_number : List Str := ["self", "kind_name"]
theorem sc_T_kind_number : FnScope N_T_kind_number P_T_kind_number (defScope s_T_kind_number) := ⟨rfl, rfl, rfl, by decide +kernel, rfl, by decide +kernel, by decide +kernel⟩
def sp_T_kind_number (K : PySem.W.Frag) : Sp := fun vs H Q _ => ∃ (a : Addr) (t : Tk) (k : Nat), vs = [.ref a, .str (nm k)] ∧ TaskAt K H a t ∧ k < t.n ∧ ∀ H', Same H H' → Q (.int (k : Int)) H'
theorem has_T_kind_number (T : Tx K mg) : HasM P w K mg base (ga K "Task") "kind_number" P_T_kind_number 1 (sp_T_kind_number K) := by
  obtain ⟨fd, F⟩ := T.f_T_kind_number
  refine hasm_mk F T.m_kind_number T.cT (fun _ _ _ _ _ _ us hl => match us, hl with | [_, _], _ => rfl) (F.ok sc_T_kind_number (fun vs H Q E h => ?_) (fun cdv A outer s H vs Q E hr h => ?_))
  · obtain ⟨_, _, _, rfl, _⟩ := h; rfl
  · obtain ⟨a, t, k, rfl, ht, hk, q⟩ := h
    refine ⟨_, PSs.nox (pss_cons (ps_for PassesOwn.never rfl (pi_enumT (by rfl) T.b_enumerate (pa_cons (k_fld (K := K) (pv 0) rfl) pa_nil)) (k_tupG (K := K) rfl (pgs_cons (pg_name (i := 2) sc_T_kind_number.nd rfl (.inl rfl)) (pgs_cons (pg_name (i := 3) sc_T_kind_number.nd rfl (.inl rfl)) pgs_nil))) (pss_one (ps_if (pt_cmpR op_eq (pe_ix (k_ixT (K := K)) (pv 3) pe_int (fun _ _ => rfl)) (pv 1) (nomark _)) (pss_one (ps_ret (pv 2))) pss_nil)))
      (pss_one ps_never)), ?_⟩
    obtain ⟨ok, dx, kt, wt, z, kvs, wvs, h1, h2, h3, h4, h5⟩ := ht
    walk_at "go"
    refine x_kinds T h1 ?_
    walk_at "go"
    refine ⟨kt, kvs, rfl, SqT.of h2, loop_enumT (fun i σ' H' => ∃ y1 y2, σ' = [some (.ref a), some (.str (nm k)), y1, y2] ∧ Same H H' ∧ i ≤ k) ⟨_, _, rfl, Same.refl H, Nat.zero_le _⟩ (fun i σ' H' _ ⟨_, _, _, e, _⟩ => SqT.of (e _ _ h2)) ?_ ?_⟩
    · rintro i x T' σ' H' hx hT ⟨y1, y2, rfl, e, hik⟩
      obtain ⟨p, rfl, hp⟩ := h4.2 i x hx
      have e2 := same_upd (o := .tup [V.int (i : Nat), V.ref p]) e hT
      have hp2 := SqT.of (K := K) (e2 _ _ hp)
      refine r_tup2 rfl (SqT.of upd_same) ?_
      walk_at "go"
      rw [nm_dec]
      refine r_ite (fun c => ?_) (fun c => ?_)
      · walk_at "go"
        have := of_decide_eq_true c
        subst this
        exact q _ e2
      · walk_at "go"
        have := of_decide_eq_false c
        exact ⟨_, _, rfl, e2, by omega⟩
    · rintro σ' H' ⟨y1, y2, rfl, e, hik⟩
      have := h4.1
      omega
abbrev N_T_cost : List Str := ["self", "kind_name"]
abbrev P_T_cost : List Str := ["self", "kind_name"]
theorem sc_T_cost : FnScope N_T_cost P_T_cost (defScope s_T_cost) := ⟨rfl, rfl, rfl, by decide +kernel, rfl, by decide +kernel, by decide +kernel⟩
def sp_T_cost (K : PySem.W.Frag) : Sp := fun vs H Q _ => ∃ (a : Addr) (t : Tk) (k : Nat), vs = [.ref a, .str (nm k)] ∧ TaskAt K H a t ∧ k < t.n ∧ ∀ H', Same H H' → Q (.int (t.cost k)) H'
theorem has_T_cost (T : Tx K mg) : HasM P w K mg base (ga K "Task") "cost" P_T_cost 2 (sp_T_cost K) := by
  have h_T_kind_number := has_T_kind_number (P := P) (w := w) (base := base) T
  obtain ⟨fd, F⟩ := T.f_T_cost
  refine hasm_mk F T.m_cost T.cT (fun _ _ _ _ _ _ us hl => match us, hl with | [_, _], _ => rfl) (F.ok sc_T_cost (fun vs H Q E h => ?_) (fun cdv A outer s H vs Q E hr h => ?_))
  · obtain ⟨_, _, _, rfl, _⟩ := h; rfl
  · obtain ⟨a, t, k, rfl, ht, hk, q⟩ := h
    refine ⟨_, PSs.nox (pss_one (ps_ret (pe_ix (k_ixT (K := K)) (pe_ix (k_ixT (K := K)) (k_fld (K := K) (pv 0) rfl) (pe_hm h_T_kind_number (hr.mono (by decide)) (pv 0) (pa_cons (pv 1) pa_nil)) (fun _ _ => rfl)) pe_int (fun _ _ => rfl)))), ?_⟩
    obtain ⟨ok, dx, kt, wt, z, kvs, wvs, h1, h2, h3, h4, h5⟩ := id ht
    walk_at "go"
    refine x_kinds T h1 ?_
    walk_at "go"
    refine ⟨a, dx, _, rfl, h1, lk_kn z kt wt, ?_⟩
    walk_at "go"
    refine ⟨a, t, k, rfl, ht, hk, fun H1 e1 => ?_⟩
    obtain ⟨v, hv⟩ : ∃ v, kvs[k]? = some v := ⟨kvs[k]'(by have := h4.1; omega), List.getElem?_eq_getElem _⟩
    obtain ⟨p, rfl, hp⟩ := h4.2 k v hv
    refine r_ixT (SqT.of (e1 _ _ h2)) (atI_nat hv) ?_
    have hp1 := SqT.of (K := K) (e1 _ _ hp)
    walk_at "go"
    exact q _ e1
abbrev N_T_ways_from : List Str := ["self", "kind_name", "way"]
abbrev P_T_ways_from : List Str := ["self", "kind_name"]
theorem sc_T_ways_from : FnScope N_T_ways_from P_T_ways_from (defScope s_T_ways_from) := ⟨rfl, rfl, rfl, by decide +kernel, rfl, by decide +kernel, by decide +kernel⟩
/-- the targets and distances of the ways ws -/
def FromT (H : Hp) (vs : List V) (ws : List (Nat × Nat × Nat)) : Prop := vs.length = ws.length ∧ ∀ (i : Nat) v, vs[i]? = some v → ∃ wy p, ws[i]? = some wy ∧ v = .ref p ∧ H p = some (.tup [.str (nm wy.2.1), .int ((wy.2.2 : Nat) : Int)])
theorem FromT.up {H H' : Hp} {vs : List V} {ws : List (Nat × Nat × Nat)} (h : FromT H vs ws) (e : Same H H') : FromT H' vs ws := ⟨h.1, fun i v q => let ⟨wy, p, a, b, c⟩ := h.2 i v q; ⟨wy, p, a, b, e _ _ c⟩⟩
theorem FromT.mut {H : Hp} {D : Addr} {o : HO} {xs vs : List V} {ws : List (Nat × Nat × Nat)} (h : FromT H vs ws) (hD : H D = some (.lst xs)) : FromT (upd H D o) vs ws := ⟨h.1, fun i v q => by
  obtain ⟨wy, p, a, b, c⟩ := h.2 i v q
  exact ⟨wy, p, a, b, by rw [upd_ne (ne_of c hD (by intro z; cases z))]; exact c⟩⟩
theorem FromT.snoc {H : Hp} {vs : List V} {ws : List (Nat × Nat × Nat)} {wy : Nat × Nat × Nat} {p : Addr} (h : FromT H vs ws) (hp : H p = some (.tup [.str (nm wy.2.1), .int ((wy.2.2 : Nat) : Int)])) : FromT H (vs ++ [.ref p]) (ws ++ [wy]) := by
  refine ⟨by rw [List.length_append, List.length_append, h.1]; rfl, fun i v q => ?_⟩
  by_cases hi : i < vs.length
  · rw [List.getElem?_append_left hi] at q
    obtain ⟨w2, p2, a, b, c⟩ := h.2 i v q
    exact ⟨w2, p2, by rw [List.getElem?_append_left (by rw [← h.1]; exact hi)]; exact a, b, c⟩
  · have hl : i = vs.length := by
      have := (List.getElem?_eq_some_iff.mp q).1
      rw [List.length_append, List.length_singleton] at this
      omega
    subst hl
    rw [List.getElem?_append_right (Nat.le_refl _), Nat.sub_self] at q
    have e : v = .ref p := (Option.some.inj q).symm
    exact ⟨wy, p, by rw [h.1, List.getElem?_append_right (Nat.le_refl _), Nat.sub_self]; rfl, e, hp⟩
def waysOf (t : Tk) (k : Nat) : List (Nat × Nat × Nat) := t.ways.filter fun w => decide (w.1 = k)
def sp_T_ways_from (K : PySem.W.Frag) : Sp := fun vs H Q _ => ∃ (a : Addr) (t : Tk) (k : Nat), vs = [.ref a, .str (nm k)] ∧ TaskAt K H a t ∧ k < t.n ∧ ∀ H' p us, Same H H' → H p = none → H' p = some (.lst us) → FromT H' us (waysOf t k) → Q (.ref p) H'
theorem ways_at {t : Tk} {i : Nat} (hi : i < t.m) : t.ways[i]? = some (t.src i, t.tgt i, t.dst i) := by
  have e : (t.src i, t.tgt i, t.dst i) = t.ways[i]'hi := by
    unfold Tk.src Tk.tgt Tk.dst
    rw [List.getD_eq_getElem?_getD, List.getElem?_eq_getElem (show i < t.ways.length from hi)]
    rfl
  rw [e]
  exact List.getElem?_eq_getElem _
theorem has_T_ways_from (T : Tx K mg) : HasM P w K mg base (ga K "Task") "ways_from" P_T_ways_from 2 (sp_T_ways_from K) := by
  have h_T_kind_number := has_T_kind_number (P := P) (w := w) (base := base) T
  obtain ⟨fd, F⟩ := T.f_T_ways_from
  refine hasm_mk F T.m_ways_from T.cT (fun _ _ _ _ _ _ us hl => match us, hl with | [_, _], _ => rfl) (F.ok sc_T_ways_from (fun vs H Q E h => ?_) (fun cdv A outer s H vs Q E hr h => ?_))
  · obtain ⟨_, _, _, rfl, _⟩ := h; rfl
  · obtain ⟨a, t, k, rfl, ht, hk, q⟩ := h
    refine ⟨_, PSs.nox (pss_cons (ps_expr (pe_hm h_T_kind_number (hr.mono (by decide)) (pv 0) (pa_cons (pv 1) pa_nil)))
      (pss_one (ps_ret (pe_lc (own := [("way", 2)]) rfl sc_T_ways_from.nd (k_tup (K := K) (k_fld (K := K) (pv 0) rfl)) (blkOk_by (own := [("way", 2)]) (N := N_T_ways_from) (sc := defScope s_T_ways_from) (by decide +kernel)) (fun _ _ _ _ _ => (pg_name (i := 2) sc_T_ways_from.nd rfl (.inl rfl))) (fun _ _ _ _ _ => (pts_one (pt_cmpR op_eq (pe_ix (k_ixT (K := K)) (pv 2) pe_int (fun _ _ => rfl)) (pv 1) (nomark _)))) (fun _ _ _ _ _ => (pe_tup (pa_cons (pe_ix (k_ixT (K := K)) (pv 2) pe_int (fun _ _ => rfl)) (pa_cons (pe_ix (k_ixT (K := K)) (pv 2) pe_int (fun _ _ => rfl)) pa_nil)))))))), ?_⟩
    walk_at "go"
    obtain ⟨ok, dx, kt, wt, z, kvs, wvs, h1, h2, h3, h4, h5⟩ := id ht
    refine ⟨a, dx, _, rfl, h1, lk_kn z kt wt, ?_⟩
    walk_at "go"
    refine ⟨a, t, k, rfl, ht, hk, fun H1 e1 => ?_⟩
    walk_at "go"
    refine x_ways T (e1 _ _ h1) ?_
    refine ⟨wt, rfl, ⟨_, SqT.of (e1 _ _ h3)⟩, fun D hD => lc_T (xs := wvs) (fun i H' => Same H H' ∧ ∃ us, H' D = some (.lst us) ∧ us.length ≤ i ∧ FromT H' us ((t.ways.take i).filter fun w => decide (w.1 = k))) ⟨same_upd e1 hD, [], upd_same, Nat.le_refl _, ⟨rfl, fun i v z => by simp at z⟩⟩ (fun i H' _ ⟨e, _⟩ => SqT.of (e _ _ h3)) ?_ ?_⟩
    · rintro i x H' hx ⟨e, us, hu, hl, hf⟩
      have him : i < t.m := by rw [← h5.1]; exact (List.getElem?_eq_some_iff.mp hx).1
      obtain ⟨p, rfl, hp⟩ := h5.2 i x hx
      have hp2 := SqT.of (K := K) (e _ _ hp)
      walk_at "go"
      refine ⟨rfl, ?_⟩
      walk_at "go"
      rw [nm_dec]
      have et : t.ways.take (i + 1) = t.ways.take i ++ [(t.src i, t.tgt i, t.dst i)] := by
        rw [List.take_add_one, ways_at him]
        rfl
      have hw4 := ok.w4
      refine r_ite (fun c => ?_) (fun c => ?_)
      · walk_at "go"
        refine ⟨by show 2 ≤ sizeLine; decide, fun p2 hn => ?_⟩
        have nD : D ≠ p2 := ne_of_none hu hn
        refine ⟨us, by rw [upd_ne nD]; exact hu, Nat.lt_of_lt_of_le (show us.length < 100 by have : t.m = t.ways.length := rfl; omega) (by decide), ?_, us ++ [.ref p2], upd_same, by rw [List.length_append]; simp; omega, ?_⟩
        · exact same_mut (same_upd e hn) (e1.free hD)
        · rw [et, List.filter_append]
          have ef : ([(t.src i, t.tgt i, t.dst i)] : List (Nat × Nat × Nat)).filter (fun w => decide (w.1 = k)) = [(t.src i, t.tgt i, t.dst i)] := by
            rw [List.filter_cons, if_pos c]
            rfl
          rw [ef]
          refine FromT.mut (xs := us) (FromT.snoc (hf.up (same_upd (Same.refl _) hn)) upd_same) ?_
          rw [upd_ne nD]
          exact hu
      · refine ⟨e, us, hu, by omega, ?_⟩
        rw [et, List.filter_append]
        have ef : ([(t.src i, t.tgt i, t.dst i)] : List (Nat × Nat × Nat)).filter (fun w => decide (w.1 = k)) = [] := by
          rw [List.filter_cons, if_neg (by rw [c]; exact Bool.false_ne_true)]
          rfl
        rw [ef, List.append_nil]
        exact hf
    · rintro H' ⟨e, us, hu, hl, hf⟩
      rw [h5.1, show t.m = t.ways.length from rfl, List.take_length] at hf
      exact q _ _ _ e (e1.free hD) hu hf
end
end NL
end
-- part A4
section
set_option Elab.async false
set_option linter.all false
set_option maxRecDepth 100000
set_option maxHeartbeats 4000000
namespace NL
open PySem PySem.Spec PyProof.Rows L2
open He (ga ma)
local macro_rules | `(tactic| walk_at "go1") => `(tactic| first
  | ((with_reducible refine' r_var ?hv ?_); (case hv => rfl))
  | with_reducible refine r_c ?_
  | with_reducible refine r_op ?_
  | with_reducible refine r_un ?_
  | with_reducible refine r_I0 ?_
  | with_reducible refine r_U ?_
  | ((with_reducible refine' r_ixT ?h1 ?h2 ?_); (case h1 => assumption); (case h2 => rfl))
  | ((with_reducible refine' r_ixL ?h1 ?h2 ?_); (case h1 => assumption); (case h2 => rfl))
  | with_reducible refine r_nil ?_
  | with_reducible refine r_cons ?_
  | with_reducible refine r_cb ?_
  | with_reducible refine r_call ?_
  | with_reducible refine r_ck ?_
  | with_reducible refine r_prop ?_
  | with_reducible refine r_gSub ?_
  | ((with_reducible refine' r_seqAug2 ?hv ?_); (case hv => rfl))
  | ((with_reducible refine' r_aug2 ?hv ?_); (case hv => rfl))
  | with_reducible refine r_ipI ?_
  | with_reducible refine r_seqAugS ?_
  | with_reducible refine r_augS ?_
  | with_reducible refine r_cont ?_
  | with_reducible refine r_brk ?_
  | with_reducible refine r_tt ?_
  | with_reducible refine r_ff ?_
  | with_reducible refine r_test ?_
  | with_reducible refine r_B ?_
  | with_reducible refine r_not ?_
  | with_reducible refine r_and ?_
  | with_reducible refine r_or ?_
  | with_reducible refine r_tup ?_
  | with_reducible refine r_lst ?_
  | with_reducible refine r_bl ?_
  | with_reducible refine r_max2 ?_
  | with_reducible refine r_min2 ?_
  | with_reducible refine r_abs ?_
  | with_reducible refine r_int1b ?_
  | with_reducible refine r_isN1 ?_
  | with_reducible refine r_isN2 ?_
  | with_reducible refine r_isN3 ?_
  | with_reducible refine r_notN1 ?_
  | with_reducible refine r_notN2 ?_
  | with_reducible refine r_notN3 ?_
  | with_reducible refine r_isN ?_
  | with_reducible refine r_notN ?_
  | with_reducible refine r_notBl ?_
  | ((with_reducible refine r_eq ?h1 ?_); (case h1 => rfl))
  | ((with_reducible refine r_ne ?h1 ?_); (case h1 => rfl))
  | with_reducible refine r_fld ?_
  | with_reducible refine r_sl ?_
  | with_reducible refine r_noPart ?_
  | with_reducible refine r_part ?_
  | with_reducible refine r_xint ?_
  | with_reducible refine r_bm ?_
  | with_reducible refine r_meth ?_
  | with_reducible refine r_callN ?_
  | ((with_reducible refine' r_lenQ ?h1 ?_); (case h1 => first | assumption | exact Or.inl (by assumption) | exact Or.inr (by assumption)))
  | with_reducible refine r_seqN ?_
  | with_reducible refine r_asgN ?_
  | with_reducible refine r_seqIf ?_
  | with_reducible refine r_seqFor ?_
  | with_reducible refine r_for ?_
  | with_reducible refine r_rng1 ?_
  | with_reducible refine r_rng2 ?_
  | with_reducible refine r_rng3 ?_
  | with_reducible refine r_itL ?_
  | with_reducible refine r_itT ?_
  | with_reducible refine r_lc ?_
  | with_reducible refine r_yes ?_
  | with_reducible refine r_itE ?_
  | with_reducible refine r_itEL ?_
  | with_reducible refine r_gN ?_
  | with_reducible refine r_seqA ?_
  | with_reducible refine r_asgA ?_
  | with_reducible refine r_if ?_
  | with_reducible refine r_retD ?_
  | with_reducible refine r_ret ?_
  | with_reducible refine r_seqDrop ?_
  | with_reducible refine r_drop ?_
  | with_reducible refine r_next ?_)
local macro_rules | `(tactic| walk_at "go") => `(tactic| (repeat walk_at "go1"))

/-! ### rows of numbers in the heap -/
def Rows (H : Hp) (a : Addr) (f : List (List Int)) : Prop := ∃ vs : List V, H a = some (.lst vs) ∧ vs.length = f.length ∧ ∀ (i : Nat) v, vs[i]? = some v → ∃ p, v = .ref p ∧ p ≠ a ∧ H p = some (.lst ((f.getD i []).map V.int))
theorem Rows.up {H H' : Hp} {a : Addr} {f : List (List Int)} (h : Rows H a f) (e : Same H H') : Rows H' a f := by
  obtain ⟨vs, h1, h2, h3⟩ := h
  exact ⟨vs, e _ _ h1, h2, fun i v q => let ⟨p, a, b, c⟩ := h3 i v q; ⟨p, a, b, e _ _ c⟩⟩
theorem Rows.at {H : Hp} {a : Addr} {f : List (List Int)} (h : Rows H a f) {i : Nat} (hi : i < f.length) : ∃ vs p, H a = some (.lst vs) ∧ vs[i]? = some (.ref p) ∧ H p = some (.lst ((f.getD i []).map V.int)) := by
  obtain ⟨vs, h1, h2, h3⟩ := h
  obtain ⟨p, e, _, hp⟩ := h3 i _ (List.getElem?_eq_getElem (by omega))
  refine ⟨vs, p, h1, ?_, hp⟩
  rw [← e]
  exact List.getElem?_eq_getElem _
theorem Rows.snoc {H : Hp} {a r : Addr} {vs : List V} {f : List (List Int)} {x : List Int} (h : Rows H a f) (ha : H a = some (.lst vs)) (hr : H r = some (.lst (x.map V.int))) (ne : r ≠ a) : Rows (upd H a (.lst (vs ++ [.ref r]))) a (f ++ [x]) := by
  obtain ⟨vs', h1, h2, h3⟩ := h
  have e : vs' = vs := by
    rw [ha] at h1
    exact (HO.lst.inj (Option.some.inj h1)).symm
  subst e
  refine ⟨_, upd_same, by rw [List.length_append, List.length_append, h2]; rfl, fun i v q => ?_⟩
  by_cases hi : i < vs'.length
  · rw [List.getElem?_append_left hi] at q
    obtain ⟨p, e, n, hp⟩ := h3 i v q
    refine ⟨p, e, n, ?_⟩
    rw [upd_ne n, List.getD_eq_getElem?_getD, List.getElem?_append_left (by rw [← h2]; exact hi), ← List.getD_eq_getElem?_getD]
    exact hp
  · have hl : i = vs'.length := by
      have := (List.getElem?_eq_some_iff.mp q).1
      rw [List.length_append, List.length_singleton] at this
      omega
    subst hl
    rw [List.getElem?_append_right (Nat.le_refl _), Nat.sub_self] at q
    refine ⟨r, (Option.some.inj q).symm, ne, ?_⟩
    rw [upd_ne ne, h2, List.getD_eq_getElem?_getD, List.getElem?_append_right (Nat.le_refl _), Nat.sub_self]
    exact hr
theorem ints_at {l : List Int} {i : Nat} (hi : i < l.length) : (l.map V.int)[i]? = some (V.int (l.getD i 0)) := by
  rw [List.getElem?_map, List.getD_eq_getElem?_getD, List.getElem?_eq_getElem hi]
  rfl
theorem snoc_map (f : Nat → Int) (i : Nat) : ((List.range i).map f).map V.int ++ [V.int (f i)] = ((List.range (i + 1)).map f).map V.int := by
  rw [List.range_succ, List.map_append, List.map_append]
  rfl
theorem app_int (l : List Int) (x : Int) : l.map V.int ++ [V.int x] = (l ++ [x]).map V.int := by simp
/-- at a stands the system of the tasks ts on the table tb -/
structure SysAt (K : PySem.W.Frag) (H : Hp) (a : Addr) (ts : List Tk) (tb : List Int) : Prop where
  n3 : ts.length ≤ 3
  l1 : 1 ≤ tb.length
  l8 : tb.length ≤ 8
  nn : ∀ x ∈ tb, 0 ≤ x ∧ x ≤ 1000
  ex : ∃ (dx tl tt : Addr) (tvs : List V), H a = some (.ins (ga K "System") dx [("tasks", .ref tl), ("table", .ref tt)]) ∧ H tl = some (.tup tvs) ∧ H tt = some (.tup (tb.map V.int)) ∧ tvs.length = ts.length ∧ ∀ (i : Nat) v, tvs[i]? = some v → ∃ p t, v = .ref p ∧ ts[i]? = some t ∧ TaskAt K H p t
theorem SysAt.up {K : PySem.W.Frag} {H H' : Hp} {a : Addr} {ts : List Tk} {tb : List Int} (h : SysAt K H a ts tb) (e : Same H H') : SysAt K H' a ts tb := by
  obtain ⟨n3, l1, l8, nn, dx, tl, tt, tvs, h1, h2, h3, h4, h5⟩ := h
  exact ⟨n3, l1, l8, nn, dx, tl, tt, tvs, e _ _ h1, e _ _ h2, e _ _ h3, h4, fun i v q => let ⟨p, t, a, b, c⟩ := h5 i v q; ⟨p, t, a, b, c.up e⟩⟩
theorem SysAt.allOk {K : PySem.W.Frag} {H : Hp} {a : Addr} {ts : List Tk} {tb : List Int} (h : SysAt K H a ts tb) : ∀ t ∈ ts, t.Ok := fun t ht => by
  obtain ⟨n3, l1, l8, nn, dx, tl, tt, tvs, h1, h2, h3, h4, h5⟩ := h
  obtain ⟨i, hi, rfl⟩ := List.mem_iff_getElem.mp ht
  obtain ⟨p, t', _, e, hp⟩ := h5 i _ (List.getElem?_eq_getElem (by omega))
  rw [List.getElem?_eq_getElem hi] at e
  rw [Option.some.inj e]
  exact hp.ok
section
variable {P : Program} {w : World} {K : PySem.W.Frag} {mg : Str → Option Value} {base : Heap}
theorem x_tasks {H : Hp} {a dx tl tt : Addr} {P : V → Prop} (T : Tx K mg) (h : H a = some (.ins (ga K "System") dx [("tasks", .ref tl), ("table", .ref tt)])) (q : P (.ref tl)) : ∃ a' C dx fs v, V.ref a = .ref a' ∧ H a' = some (.ins C dx fs) ∧ Cls K C ∧ NoAttr K C "tasks" ∧ fs.lookup ("tasks" : Str) = some v ∧ P v :=
  ⟨a, _, dx, _, _, rfl, h, T.cS, T.nS1, by rw [List.lookup_cons, beq_self_eq_true], q⟩
theorem x_table {H : Hp} {a dx tl tt : Addr} {P : V → Prop} (T : Tx K mg) (h : H a = some (.ins (ga K "System") dx [("tasks", .ref tl), ("table", .ref tt)])) (q : P (.ref tt)) : ∃ a' C dx fs v, V.ref a = .ref a' ∧ H a' = some (.ins C dx fs) ∧ Cls K C ∧ NoAttr K C "table" ∧ fs.lookup ("table" : Str) = some v ∧ P v :=
  ⟨a, _, dx, _, _, rfl, h, T.cS, T.nS2, by rw [List.lookup_cons, show (("table" : Str) == "tasks") = false by decide +kernel, List.lookup_cons, beq_self_eq_true], q⟩
/-! ### the properties -/
abbrev N_T_longest_distance : List Str := ["self", "way"]
abbrev P_T_longest_distance : List Str := ["self"]
theorem sc_T_longest_distance : FnScope N_T_longest_distance P_T_longest_distance (defScope s_T_longest_distance) := ⟨rfl, rfl, rfl, by decide +kernel, rfl, by decide +kernel, by decide +kernel⟩
def sp_T_longest_distance (K : PySem.W.Frag) : Sp := fun vs H Q _ => ∃ (a : Addr) (t : Tk), vs = [.ref a] ∧ TaskAt K H a t ∧ ∀ (d : Nat) H', Same H H' → d ≤ 6 → (∀ k, k < t.m → t.dst k ≤ d) → Q (.int (d : Int)) H'
theorem has_T_longest_distance (T : Tx K mg) : HasP P w K mg base (ga K "Task") "longest_distance" 1 (sp_T_longest_distance K) := by
  obtain ⟨fd, F⟩ := T.f_T_longest_distance
  obtain ⟨pr, hpr⟩ := T.pp_longest_distance
  refine hasp_mk F hpr T.cT (fun _ _ _ _ _ _ us hl => match us, hl with | [_], _ => rfl) (F.ok sc_T_longest_distance (fun vs H Q E h => ?_) (fun cdv A outer s H vs Q E hr h => ?_))
  · obtain ⟨_, _, rfl, _⟩ := h; rfl
  · obtain ⟨a, t, rfl, ht, q⟩ := h
    refine ⟨_, PSs.nox (pss_one (ps_ret (pe_callBK (k_maxDef (K := K)) (by rfl) T.b_max (by decide +kernel) (pa_cons (pe_lc (own := [("way", 1)]) rfl sc_T_longest_distance.nd (k_tup (K := K) (k_fld (K := K) (pv 0) rfl)) (blkOk_by (own := [("way", 1)]) (N := N_T_longest_distance) (sc := defScope s_T_longest_distance) (by decide +kernel)) (fun _ _ _ _ _ => (pg_name (i := 1) sc_T_longest_distance.nd rfl (.inl rfl))) (fun _ _ _ _ _ => pts_nil) (fun _ _ _ _ _ => (pe_ix (k_ixT (K := K)) (pv 1) pe_int (fun _ _ => rfl)))) pa_nil) (pk_cons pe_int pk_nil)))), ?_⟩
    obtain ⟨ok, dx, kt, wt, z, kvs, wvs, h1, h2, h3, h4, h5⟩ := ht
    walk_at "go"
    refine x_ways T h1 ?_
    refine ⟨wt, rfl, ⟨_, SqT.of h3⟩, fun D hD => lc_T (xs := wvs) (fun i H' => Same H H' ∧ H' D = some (.lst (((List.range i).map fun k => ((t.dst k : Nat) : Int)).map V.int))) ⟨same_upd (Same.refl _) hD, upd_same⟩ (fun i H' _ ⟨e, _⟩ => SqT.of (e _ _ h3)) ?_ ?_⟩
    · rintro i x H' hx ⟨e, hu⟩
      have him : i < t.m := by rw [← h5.1]; exact (List.getElem?_eq_some_iff.mp hx).1
      obtain ⟨p, rfl, hp⟩ := h5.2 i x hx
      have hp2 := SqT.of (K := K) (e _ _ hp)
      have := ok.w4
      have hm : t.m = t.ways.length := rfl
      walk_at "go"
      refine ⟨rfl, ?_⟩
      walk_at "go"
      refine ⟨_, hu, Nat.lt_of_lt_of_le (show _ < 100 by simp; omega) (by decide), same_mut e hD, ?_⟩
      rw [snoc_map]
      exact upd_same
    · rintro H' ⟨e, hu⟩
      rw [h5.1] at hu
      walk_at "go"
      refine r_maxDef (.of hu) (fun z => ?_) (fun m hm hb => ?_)
      · refine q 0 _ e (by decide) fun k hk => ?_
        have := congrArg List.length z
        simp at this
        omega
      · obtain ⟨k, hk, rfl⟩ := List.mem_map.mp hm
        have := List.mem_range.mp hk
        refine q (t.dst k) _ e (ok.way this).2.2.2 fun j hj => ?_
        have := hb _ (List.mem_map_of_mem (List.mem_range.mpr hj))
        omega
abbrev N_T_latest_deadline : List Str := ["self", "kind"]
abbrev P_T_latest_deadline : List Str := ["self"]
theorem sc_T_latest_deadline : FnScope N_T_latest_deadline P_T_latest_deadline (defScope s_T_latest_deadline) := ⟨rfl, rfl, rfl, by decide +kernel, rfl, by decide +kernel, by decide +kernel⟩
def sp_T_latest_deadline (K : PySem.W.Frag) : Sp := fun vs H Q _ => ∃ (a : Addr) (t : Tk), vs = [.ref a] ∧ TaskAt K H a t ∧ ∀ (d : Nat) H', Same H H' → d ≤ 9 → (∀ k, k < t.n → t.dl k ≤ d) → Q (.int (d : Int)) H'
theorem has_T_latest_deadline (T : Tx K mg) : HasP P w K mg base (ga K "Task") "latest_deadline" 1 (sp_T_latest_deadline K) := by
  obtain ⟨fd, F⟩ := T.f_T_latest_deadline
  obtain ⟨pr, hpr⟩ := T.pp_latest_deadline
  refine hasp_mk F hpr T.cT (fun _ _ _ _ _ _ us hl => match us, hl with | [_], _ => rfl) (F.ok sc_T_latest_deadline (fun vs H Q E h => ?_) (fun cdv A outer s H vs Q E hr h => ?_))
  · obtain ⟨_, _, rfl, _⟩ := h; rfl
  · obtain ⟨a, t, rfl, ht, q⟩ := h
    refine ⟨_, PSs.nox (pss_one (ps_ret (pe_callB (k_max (K := K)) (by rfl) T.b_max (by decide +kernel) (pa_cons (pe_lc (own := [("kind", 1)]) rfl sc_T_latest_deadline.nd (k_tup (K := K) (k_fld (K := K) (pv 0) rfl)) (blkOk_by (own := [("kind", 1)]) (N := N_T_latest_deadline) (sc := defScope s_T_latest_deadline) (by decide +kernel)) (fun _ _ _ _ _ => (pg_name (i := 1) sc_T_latest_deadline.nd rfl (.inl rfl))) (fun _ _ _ _ _ => pts_nil) (fun _ _ _ _ _ => (pe_ix (k_ixT (K := K)) (pv 1) pe_int (fun _ _ => rfl)))) pa_nil)))), ?_⟩
    obtain ⟨ok, dx, kt, wt, z, kvs, wvs, h1, h2, h3, h4, h5⟩ := ht
    walk_at "go"
    refine x_kinds T h1 ?_
    refine ⟨kt, rfl, ⟨_, SqT.of h2⟩, fun D hD => lc_T (xs := kvs) (fun i H' => Same H H' ∧ H' D = some (.lst (((List.range i).map fun k => ((t.dl k : Nat) : Int)).map V.int))) ⟨same_upd (Same.refl _) hD, upd_same⟩ (fun i H' _ ⟨e, _⟩ => SqT.of (e _ _ h2)) ?_ ?_⟩
    · rintro i x H' hx ⟨e, hu⟩
      have him : i < t.n := by rw [← h4.1]; exact (List.getElem?_eq_some_iff.mp hx).1
      obtain ⟨p, rfl, hp⟩ := h4.2 i x hx
      have hp2 := SqT.of (K := K) (e _ _ hp)
      have := ok.n3
      walk_at "go"
      refine ⟨rfl, ?_⟩
      walk_at "go"
      refine ⟨_, hu, Nat.lt_of_lt_of_le (show _ < 100 by simp; omega) (by decide), same_mut e hD, ?_⟩
      rw [snoc_map]
      exact upd_same
    · rintro H' ⟨e, hu⟩
      rw [h4.1] at hu
      walk_at "go"
      refine ⟨D, _, rfl, .of hu, by have := ok.n1; simp; omega, fun m hm hb => ?_⟩
      obtain ⟨k, hk, rfl⟩ := List.mem_map.mp hm
      have := List.mem_range.mp hk
      refine q (t.dl k) _ e (ok.dl this).2 fun j hj => ?_
      have := hb _ (List.mem_map_of_mem (List.mem_range.mpr hj))
      omega
/-! ### demand -/
abbrev N_own_work : List Str := ["kind", "size"]
abbrev P_own_work : List Str := ["kind", "size"]
theorem sc_own_work : FnScope N_own_work P_own_work (defScope s_own_work) := ⟨rfl, rfl, rfl, by decide +kernel, rfl, by decide +kernel, by decide +kernel⟩
def sp_own_work (K : PySem.W.Frag) : Sp := fun vs H Q _ => ∃ (a : Addr) (nm : V) (c d n : Int), vs = [.ref a, .int n] ∧ SqT K H a [nm, .int c, .int d] ∧ Q (.int (if d ≤ n then c else 0)) H
theorem has_own_work (T : Tx K mg) : Has P w K mg base "own_work" P_own_work 1 (sp_own_work K) := by
  obtain ⟨fd, F⟩ := T.f_own_work
  refine has_mk F T.g_own_work (fun _ _ _ _ _ _ us hl => match us, hl with | [_, _], _ => rfl) (F.ok sc_own_work (fun vs H Q E h => ?_) (fun cdv A outer s H vs Q E hr h => ?_))
  · obtain ⟨_, _, _, _, _, rfl, _⟩ := h; rfl
  · obtain ⟨a, nm, c, d, n, rfl, hs, q⟩ := h
    refine ⟨_, PSs.nox (pss_cons (ps_if (pt_cmpR op_le (pe_ix (k_ixT (K := K)) (pv 0) pe_int (fun _ _ => rfl)) (pv 1) (nomark _)) (pss_one (ps_ret (pe_ix (k_ixT (K := K)) (pv 0) pe_int (fun _ _ => rfl)))) pss_nil)
      (pss_one (ps_ret pe_int))), ?_⟩
    walk_at "go"
    refine r_ite (fun h1 => ?_) (fun h1 => ?_)
    · walk_at "go"
      rw [if_pos (of_decide_eq_true h1)] at q
      exact q
    · walk_at "go"
      rw [if_neg (of_decide_eq_false h1)] at q
      exact q
abbrev N_best_continuation : List Str := ["task", "name", "size", "found", "best", "target", "distance"]
abbrev P_best_continuation : List Str := ["task", "name", "size", "found"]
theorem sc_best_continuation : FnScope N_best_continuation P_best_continuation (defScope s_best_continuation) := ⟨rfl, rfl, rfl, by decide +kernel, rfl, by decide +kernel, by decide +kernel⟩
def sp_best_continuation (K : PySem.W.Frag) : Sp := fun vs H Q _ => ∃ (a : Addr) (t : Tk) (k n : Nat) (f : Addr) (g : List (List Int)), vs = [.ref a, .str (nm k), .int (n : Int), .ref f] ∧ TaskAt K H a t ∧ k < t.n ∧ Rows H f g ∧ n ≤ g.length ∧ (∀ i, i < g.length → (g.getD i []).length = t.n) ∧ ∀ H', Same H H' → Q (.int (bestF t k n g)) H'
def bestTo (t : Tk) (k size : Nat) (found : List (List Int)) (i : Nat) : Int :=
  ((waysOf t k).take i).foldl (fun b w => if w.2.2 ≤ size then (if at2 found (size - w.2.2) w.2.1 > b then at2 found (size - w.2.2) w.2.1 else b) else b) 0
theorem waysOf_mem {t : Tk} {k : Nat} {wy : Nat × Nat × Nat} (h : wy ∈ waysOf t k) : wy ∈ t.ways ∧ wy.1 = k := by
  unfold waysOf at h
  rw [List.mem_filter] at h
  exact ⟨h.1, of_decide_eq_true h.2⟩
theorem has_best_continuation (T : Tx K mg) : Has P w K mg base "best_continuation" P_best_continuation 3 (sp_best_continuation K) := by
  have h_T_kind_number := has_T_kind_number (P := P) (w := w) (base := base) T
  have h_T_ways_from := has_T_ways_from (P := P) (w := w) (base := base) T
  obtain ⟨fd, F⟩ := T.f_best_continuation
  refine has_mk F T.g_best_continuation (fun _ _ _ _ _ _ us hl => match us, hl with | [_, _, _, _], _ => rfl) (F.ok sc_best_continuation (fun vs H Q E h => ?_) (fun cdv A outer s H vs Q E hr h => ?_))
  · obtain ⟨_, _, _, _, _, _, rfl, _⟩ := h; rfl
  · obtain ⟨a, t, k, n, f, g, rfl, ht, hk, hf, hn, hg, q⟩ := h
    refine ⟨_, PSs.nox (pss_cons (ps_set (i := 4) sc_best_continuation.nd rfl (.inl rfl) pe_int)
      (pss_cons (ps_for PassesOwn.never rfl (k_list (K := K) (pe_hm h_T_ways_from (hr.mono (by decide)) (pv 0) (pa_cons (pv 1) pa_nil))) (k_tupG (K := K) (n := 2) rfl (pgs_cons (pg_name (i := 5) sc_best_continuation.nd rfl (.inl rfl)) (pgs_cons (pg_name (i := 6) sc_best_continuation.nd rfl (.inl rfl)) pgs_nil))) (pss_one (ps_if (pt_cmpR op_le (pv 6) (pv 2) (nomark _)) (pss_one (ps_set (i := 4) sc_best_continuation.nd rfl (.inl rfl) (pe_callB (call_max2Q rfl) (by rfl) T.b_max (by decide +kernel) (pa_cons (pv 4) (pa_cons (pe_ix (k_ixL (K := K)) (pe_ix (k_ixL (K := K)) (pv 3) (pe_op op_sub (pv 2) (pv 6)) (fun _ _ => rfl)) (pe_hm h_T_kind_number (hr.mono (by decide)) (pv 0) (pa_cons (pv 5) pa_nil)) (fun _ _ => rfl)) pa_nil))))) pss_nil)))
      (pss_one (ps_ret (pv 4))))), ?_⟩
    walk_at "go"
    obtain ⟨ok, dx, kt, wt, z, kvs, wvs, h1, h2, h3, h4, h5⟩ := id ht
    refine ⟨a, dx, _, rfl, h1, lk_wf z kt wt, ?_⟩
    walk_at "go"
    refine ⟨a, t, k, rfl, ht, hk, fun H1 p us e1 hp0 hp hu => ?_⟩
    refine ⟨p, rfl, ⟨us, SqL.of hp⟩, loop_list (fun i σ' H' => ∃ y1 y2, σ' = [some (.ref a), some (.str (nm k)), some (.int (n : Int)), some (.ref f), some (.int (bestTo t k n g i)), y1, y2] ∧ Same H1 H') ⟨_, _, rfl, Same.refl _⟩ (fun i σ' H' _ ⟨_, _, _, e⟩ => SqL.of (e _ _ hp)) ?_ ?_⟩
    · rintro i x σ' H' hx ⟨y1, y2, rfl, e⟩
      obtain ⟨wy, p2, hw, rfl, hp2⟩ := hu.2 i x hx
      have hm := waysOf_mem (List.mem_of_getElem? hw)
      have hwy := ok.wy _ hm.1
      refine r_tup2 rfl (SqT.of (e _ _ hp2)) ?_
      walk_at "go"
      have es : bestTo t k n g (i + 1) = if wy.2.2 ≤ n then (if at2 g (n - wy.2.2) wy.2.1 > bestTo t k n g i then at2 g (n - wy.2.2) wy.2.1 else bestTo t k n g i) else bestTo t k n g i := by
        unfold bestTo
        rw [List.take_add_one, hw, Option.toList_some, List.foldl_append]
        rfl
      refine r_ite (fun c => ?_) (fun c => ?_)
      · have c := of_decide_eq_true c
        have c' : wy.2.2 ≤ n := by omega
        walk_at "go"
        have e0 : (n : Int) - ((wy.2.2 : Nat) : Int) = ((n - wy.2.2 : Nat) : Int) := by omega
        rw [e0]
        obtain ⟨vs, pr, r1, r2, r3⟩ := hf.at (i := n - wy.2.2) (by omega)
        refine r_ixL (SqL.of (e _ _ (e1 _ _ r1))) (atI_nat r2) ?_
        walk_at "go"
        refine ⟨a, dx, _, rfl, e _ _ (e1 _ _ h1), lk_kn z kt wt, ?_⟩
        walk_at "go"
        refine ⟨a, t, wy.2.1, rfl, (ht.up e1).up e, hwy.2.1, fun H2 e2 => ?_⟩
        refine r_ixL (SqL.of (e2 _ _ (e _ _ (e1 _ _ r3)))) (atI_nat (ints_at (by rw [hg _ (by omega)]; exact hwy.2.1))) ?_
        walk_at "go"
        refine ⟨some (.str (nm wy.2.1)), some (.int ((wy.2.2 : Nat) : Int)), ?_, e.trans e2⟩
        rw [es, if_pos c']
        rfl
      · have c := of_decide_eq_false c
        have c' : ¬ wy.2.2 ≤ n := by omega
        walk_at "go"
        refine ⟨some (.str (nm wy.2.1)), some (.int ((wy.2.2 : Nat) : Int)), ?_, e⟩
        rw [es, if_neg c']
        rfl
    · rintro σ' H' ⟨y1, y2, rfl, e⟩
      walk_at "go"
      have eb : bestTo t k n g us.length = bestF t k n g := by
        unfold bestTo bestF
        rw [hu.1, List.take_length]
        rfl
      rw [eb]
      exact q _ (e1.trans e)
abbrev N_rows : List Str := ["task", "length", "found", "size", "row", "kind"]
abbrev P_rows : List Str := ["task", "length"]
theorem sc_rows : FnScope N_rows P_rows (defScope s_rows) := ⟨rfl, rfl, rfl, by decide +kernel, rfl, by decide +kernel, by decide +kernel⟩
def sp_rows (K : PySem.W.Frag) : Sp := fun vs H Q _ => ∃ (a : Addr) (t : Tk) (n : Nat), vs = [.ref a, .int (n : Int)] ∧ TaskAt K H a t ∧ n ≤ 1000 ∧ ∀ H' f, Same H H' → H f = none → Rows H' f (rowsF t (n + 1)) → Q (.ref f) H'
theorem rowsF_lens (t : Tk) {m i : Nat} (hi : i < (rowsF t m).length) : ((rowsF t m).getD i []).length = t.n := by
  rw [rowsF_len] at hi
  rw [List.getD_eq_getElem?_getD, rowsF_get t hi]
  exact rowF_len _ _ _
theorem rows_nil {H : Hp} {f : Addr} : Rows (upd H f (.lst [])) f (rowsF t 0) := ⟨[], upd_same, rfl, fun i v q => by simp at q⟩
theorem has_rows (T : Tx K mg) : Has P w K mg base "rows" P_rows 4 (sp_rows K) := by
  have h_best_continuation := has_best_continuation (P := P) (w := w) (base := base) T
  have h_own_work := has_own_work (P := P) (w := w) (base := base) T
  obtain ⟨fd, F⟩ := T.f_rows
  refine has_mk F T.g_rows (fun _ _ _ _ _ _ us hl => match us, hl with | [_, _], _ => rfl) (F.ok sc_rows (fun vs H Q E h => ?_) (fun cdv A outer s H vs Q E hr h => ?_))
  · obtain ⟨_, _, _, rfl, _⟩ := h; rfl
  · obtain ⟨a, t, n, rfl, ht, hn, q⟩ := h
    refine ⟨_, PSs.nox (pss_cons (ps_set (i := 2) sc_rows.nd rfl (.inl rfl) (pe_lst pa_nil))
      (pss_cons (ps_for PassesOwn.never rfl (pi_range1 rfl T.b_range (pa_cons (pe_op op_add (pv 1) pe_int) pa_nil)) (pg_name (i := 3) sc_rows.nd rfl (.inl rfl)) (pss_cons (ps_set (i := 4) sc_rows.nd rfl (.inl rfl) (pe_lst pa_nil))
      (pss_cons (ps_for PassesOwn.never rfl (k_tup (K := K) (k_fld (K := K) (pv 0) rfl)) (pg_name (i := 5) sc_rows.nd rfl (.inl rfl)) (pss_one (ps_expr (k_bm (K := K) PySem.F.plainAttrs_list PySem.F.slot_list_append PySem.F.type_list_append mt_append (pv 4) (pa_cons (pe_op op_add (pe_hc h_own_work (hr.mono (by decide)) (by rfl) (pa_cons (pv 5) (pa_cons (pv 3) pa_nil))) (pe_hc h_best_continuation (hr.mono (by decide)) (by rfl) (pa_cons (pv 0) (pa_cons (pe_ix (k_ixT (K := K)) (pv 5) pe_int (fun _ _ => rfl)) (pa_cons (pv 3) (pa_cons (pv 2) pa_nil)))))) pa_nil)))))
      (pss_one (ps_expr (k_bm (K := K) PySem.F.plainAttrs_list PySem.F.slot_list_append PySem.F.type_list_append mt_append (pv 2) (pa_cons (pv 4) pa_nil)))))))
      (pss_one (ps_ret (pv 2))))), ?_⟩
    walk_at "go"
    refine ⟨by decide, fun f hf0 => ?_⟩
    walk_at "go"
    refine ⟨_, rfl, by omega, by omega, ?_⟩
    rw [show ((n : Int) + 1).toNat = n + 1 by omega]
    refine loop_range (fun i σ' H' => ∃ y1 y2 y3, σ' = [some (.ref a), some (.int (n : Int)), some (.ref f), y1, y2, y3] ∧ Same H H' ∧ Rows H' f (rowsF t i)) ⟨_, _, _, rfl, same_upd (Same.refl H) hf0, rows_nil⟩ ?_ ?_
    · rintro i σ' H1 hi ⟨y1, y2, y3, rfl, e1, hr⟩
      have hrl := rowsF_len t i
      walk_at "go"
      rw [Int.zero_add]
      refine ⟨by decide, fun r hr0 => ?_⟩
      have ht1 := ht.up e1
      obtain ⟨ok, dx, kt, wt, z, kvs, wvs, h1, h2, h3, h4, h5⟩ := id ht1
      have eu := same_upd (o := .lst []) (Same.refl H1) hr0
      walk_at "go"
      refine x_kinds T (eu _ _ h1) ?_
      refine ⟨kt, rfl, ⟨_, SqT.of (eu _ _ h2)⟩, loop_tup (fun j σ' H' => ∃ y3, σ' = [some (.ref a), some (.int (n : Int)), some (.ref f), some (.int (i : Int)), some (.ref r), y3] ∧ Same H1 H' ∧ H' r = some (.lst (((List.range j).map fun k => ownW t k i + bestF t k i (rowsF t i)).map V.int))) ⟨_, rfl, eu, upd_same⟩ (fun i σ' H' _ ⟨_, _, e, _⟩ => SqT.of (e _ _ h2)) ?_ ?_⟩
      · rintro j x σ' H' hx ⟨y3, rfl, e, hrr⟩
        have hjn : j < t.n := by rw [← h4.1]; exact (List.getElem?_eq_some_iff.mp hx).1
        obtain ⟨p, rfl, hp⟩ := h4.2 j x hx
        have hp2 := SqT.of (K := K) (e _ _ hp)
        walk_at "go"
        refine ty_list hrr ?_
        walk_at "go"
        refine ⟨p, _, _, _, _, rfl, hp2, ?_⟩
        walk_at "go"
        refine ⟨a, t, j, i, f, rowsF t i, rfl, ht1.up e, hjn, hr.up e, by rw [hrl]; exact Nat.le_refl _, fun _ => rowsF_lens t, fun H2 e2 => ?_⟩
        walk_at "go"
        have hrr2 := e2 _ _ hrr
        have := ok.n3
        refine r_append hrr2 (Nat.lt_of_lt_of_le (show _ < 100 by simp; omega) (by decide)) ?_
        refine ⟨_, rfl, same_mut (e.trans e2) hr0, ?_⟩
        have eo : (if ((t.dl j : Nat) : Int) ≤ (i : Int) then t.cost j else 0) = ownW t j i := by
          unfold ownW
          by_cases c : t.dl j ≤ i
          · rw [if_pos c, if_pos (by omega)]
          · rw [if_neg c, if_neg (by omega)]
        rw [eo, snoc_map (fun k => ownW t k i + bestF t k i (rowsF t i))]
        exact upd_same
      · rintro σ' H' ⟨y3, rfl, e, hrr⟩
        rw [h4.1] at hrr
        obtain ⟨vs, hv, hl, hvv⟩ := hr
        have hv' := e _ _ hv
        have nrf : r ≠ f := fun z => by subst z; rw [hr0] at hv; cases hv
        walk_at "go"
        refine ty_list hv' ?_
        walk_at "go"
        refine r_append hv' (Nat.lt_of_lt_of_le (show _ < 2000 by omega) (by decide)) ?_
        refine ⟨_, _, _, rfl, same_mut (e1.trans e) hf0, ?_⟩
        exact Rows.snoc (Rows.up ⟨vs, hv, hl, hvv⟩ e) hv' hrr nrf
    · rintro σ' H' ⟨y1, y2, y3, rfl, e1, hr⟩
      walk_at "go"
      exact q _ _ e1 hf0 hr
end
end NL
end
-- part A5
section
set_option Elab.async false
set_option linter.all false
set_option maxRecDepth 100000
set_option maxHeartbeats 4000000
namespace NL
open PySem PySem.Spec PyProof.Rows L2
open He (ga ma)
local macro_rules | `(tactic| walk_at "go1") => `(tactic| first
  | ((with_reducible refine' r_var ?hv ?_); (case hv => rfl))
  | with_reducible refine r_c ?_
  | with_reducible refine r_op ?_
  | with_reducible refine r_un ?_
  | with_reducible refine r_I0 ?_
  | with_reducible refine r_U ?_
  | ((with_reducible refine' r_ixT ?h1 ?h2 ?_); (case h1 => assumption); (case h2 => rfl))
  | ((with_reducible refine' r_ixL ?h1 ?h2 ?_); (case h1 => assumption); (case h2 => rfl))
  | with_reducible refine r_nil ?_
  | with_reducible refine r_cons ?_
  | with_reducible refine r_cb ?_
  | with_reducible refine r_call ?_
  | with_reducible refine r_ck ?_
  | with_reducible refine r_prop ?_
  | with_reducible refine r_gSub ?_
  | ((with_reducible refine' r_seqAug2 ?hv ?_); (case hv => rfl))
  | ((with_reducible refine' r_aug2 ?hv ?_); (case hv => rfl))
  | with_reducible refine r_ipI ?_
  | with_reducible refine r_seqAugS ?_
  | with_reducible refine r_augS ?_
  | with_reducible refine r_cont ?_
  | with_reducible refine r_brk ?_
  | with_reducible refine r_tt ?_
  | with_reducible refine r_ff ?_
  | with_reducible refine r_test ?_
  | with_reducible refine r_B ?_
  | with_reducible refine r_not ?_
  | with_reducible refine r_and ?_
  | with_reducible refine r_or ?_
  | with_reducible refine r_tup ?_
  | with_reducible refine r_lst ?_
  | with_reducible refine r_bl ?_
  | with_reducible refine r_max2 ?_
  | with_reducible refine r_min2 ?_
  | with_reducible refine r_abs ?_
  | with_reducible refine r_int1b ?_
  | with_reducible refine r_isN1 ?_
  | with_reducible refine r_isN2 ?_
  | with_reducible refine r_isN3 ?_
  | with_reducible refine r_notN1 ?_
  | with_reducible refine r_notN2 ?_
  | with_reducible refine r_notN3 ?_
  | with_reducible refine r_isN ?_
  | with_reducible refine r_notN ?_
  | with_reducible refine r_notBl ?_
  | ((with_reducible refine r_eq ?h1 ?_); (case h1 => rfl))
  | ((with_reducible refine r_ne ?h1 ?_); (case h1 => rfl))
  | with_reducible refine r_fld ?_
  | with_reducible refine r_sl ?_
  | with_reducible refine r_noPart ?_
  | with_reducible refine r_part ?_
  | with_reducible refine r_xint ?_
  | with_reducible refine r_bm ?_
  | with_reducible refine r_meth ?_
  | with_reducible refine r_callN ?_
  | ((with_reducible refine' r_lenQ ?h1 ?_); (case h1 => first | assumption | exact Or.inl (by assumption) | exact Or.inr (by assumption)))
  | with_reducible refine r_seqN ?_
  | with_reducible refine r_asgN ?_
  | with_reducible refine r_seqIf ?_
  | with_reducible refine r_seqFor ?_
  | with_reducible refine r_for ?_
  | with_reducible refine r_rng1 ?_
  | with_reducible refine r_rng2 ?_
  | with_reducible refine r_rng3 ?_
  | with_reducible refine r_itL ?_
  | with_reducible refine r_itT ?_
  | with_reducible refine r_lc ?_
  | with_reducible refine r_yes ?_
  | with_reducible refine r_itE ?_
  | with_reducible refine r_itEL ?_
  | with_reducible refine r_gN ?_
  | with_reducible refine r_seqA ?_
  | with_reducible refine r_asgA ?_
  | with_reducible refine r_if ?_
  | with_reducible refine r_retD ?_
  | with_reducible refine r_ret ?_
  | with_reducible refine r_seqDrop ?_
  | with_reducible refine r_drop ?_
  | with_reducible refine r_next ?_)
local macro_rules | `(tactic| walk_at "go") => `(tactic| (repeat walk_at "go1"))

section
variable {P : Program} {w : World} {K : PySem.W.Frag} {mg : Str → Option Value} {base : Heap}
theorem rowsF_row (t : Tk) {m i : Nat} (h : i < m) : (rowsF t m).getD i [] = (List.range t.n).map (num t i) := by
  rw [List.getD_eq_getElem?_getD, rowsF_get t h, ← row_eq]
  rfl
abbrev N_demands : List Str := ["task", "length", "row"]
abbrev P_demands : List Str := ["task", "length"]
theorem sc_demands : FnScope N_demands P_demands (defScope s_demands) := ⟨rfl, rfl, rfl, by decide +kernel, rfl, by decide +kernel, by decide +kernel⟩
def sp_demands (K : PySem.W.Frag) : Sp := fun vs H Q _ => ∃ (a : Addr) (t : Tk) (n : Nat), vs = [.ref a, .int (n : Int)] ∧ TaskAt K H a t ∧ n ≤ 1000 ∧ ∀ H' p, Same H H' → H p = none → H' p = some (.lst (((List.range (n + 1)).map (dem t)).map V.int)) → Q (.ref p) H'
theorem has_demands (T : Tx K mg) : Has P w K mg base "demands" P_demands 5 (sp_demands K) := by
  have h_rows := has_rows (P := P) (w := w) (base := base) T
  obtain ⟨fd, F⟩ := T.f_demands
  refine has_mk F T.g_demands (fun _ _ _ _ _ _ us hl => match us, hl with | [_, _], _ => rfl) (F.ok sc_demands (fun vs H Q E h => ?_) (fun cdv A outer s H vs Q E hr h => ?_))
  · obtain ⟨_, _, _, rfl, _⟩ := h; rfl
  · obtain ⟨a, t, n, rfl, ht, hn, q⟩ := h
    refine ⟨_, PSs.nox (pss_one (ps_ret (pe_lc (own := [("row", 2)]) rfl sc_demands.nd (k_list (K := K) (pe_hc h_rows (hr.mono (by decide)) (by rfl) (pa_cons (pv 0) (pa_cons (pv 1) pa_nil)))) (blkOk_by (own := [("row", 2)]) (N := N_demands) (sc := defScope s_demands) (by decide +kernel)) (fun _ _ _ _ _ => (pg_name (i := 2) sc_demands.nd rfl (.inl rfl))) (fun _ _ _ _ _ => pts_nil) (fun _ _ _ _ _ => (pe_callB (k_max (K := K)) (by rfl) T.b_max (by decide +kernel) (pa_cons (pv 2) pa_nil)))))), ?_⟩
    have ok := ht.ok
    walk_at "go"
    refine ⟨a, t, n, rfl, ht, hn, fun H1 f e1 hf0 hf => ?_⟩
    obtain ⟨vs, hv, hl, hvv⟩ := hf
    rw [rowsF_len] at hl
    refine ⟨f, rfl, ⟨vs, SqL.of hv⟩, fun D hD => lc_L (xs := vs) (fun i H' => Same H1 H' ∧ H' D = some (.lst (((List.range i).map (dem t)).map V.int))) ⟨same_upd (Same.refl _) hD, upd_same⟩ (fun i H' _ ⟨e, _⟩ => SqL.of (e _ _ hv)) ?_ ?_⟩
    · rintro i x H' hx ⟨e, hu⟩
      have him : i < n + 1 := by rw [← hl]; exact (List.getElem?_eq_some_iff.mp hx).1
      obtain ⟨p, rfl, hne, hp⟩ := hvv i x hx
      rw [rowsF_row t him] at hp
      walk_at "go"
      refine ⟨rfl, ?_⟩
      walk_at "go"
      refine ⟨p, _, rfl, SqL.of (e _ _ hp), by have := ok.n1; simp; omega, fun m hm hb => ?_⟩
      refine ⟨_, hu, Nat.lt_of_lt_of_le (show _ < 2000 by simp; omega) (by decide), same_mut e hD, ?_⟩
      rw [dem_of t ok hm hb, snoc_map]
      exact upd_same
    · rintro H' ⟨e, hu⟩
      rw [hl] at hu
      exact q _ _ (e1.trans e) (e1.free hD) hu
abbrev N_system_demands : List Str := ["system", "length", "totals", "task", "size", "work", "_"]
abbrev P_system_demands : List Str := ["system", "length"]
theorem sc_system_demands : FnScope N_system_demands P_system_demands (defScope s_system_demands) := ⟨rfl, rfl, rfl, by decide +kernel, rfl, by decide +kernel, by decide +kernel⟩
def sp_system_demands (K : PySem.W.Frag) : Sp := fun vs H Q _ => ∃ (a : Addr) (ts : List Tk) (tb : List Int) (n : Nat), vs = [.ref a, .int (n : Int)] ∧ SysAt K H a ts tb ∧ n ≤ 1000 ∧ ∀ H' p, Same H H' → H p = none → H' p = some (.lst (((List.range (n + 1)).map (sysDem ts)).map V.int)) → Q (.ref p) H'
theorem sysDem_take {ts : List Tk} {i : Nat} {t : Tk} (h : ts[i]? = some t) (n : Nat) : sysDem (ts.take (i + 1)) n = sysDem (ts.take i) n + dem t n := by
  unfold sysDem
  rw [List.take_add_one, h, Option.toList_some, List.map_append, List.sum_append]
  simp
def partD (ts : List Tk) (t : Tk) (i j k : Nat) : Int := if k < j then sysDem (ts.take i) k + dem t k else sysDem (ts.take i) k
theorem range_set (f g : Nat → Int) (n j : Nat) (hj : j < n) (h : ∀ k, k ≠ j → g k = f k) : ((List.range n).map f).set j (g j) = (List.range n).map g := by
  apply List.ext_getElem
  · simp
  · intro i h1 h2
    rw [List.getElem_set]
    simp
    by_cases e : j = i
    · subst e; simp
    · rw [if_neg e, h i (fun z => e z.symm)]
theorem has_system_demands (T : Tx K mg) : Has P w K mg base "system_demands" P_system_demands 6 (sp_system_demands K) := by
  have h_demands := has_demands (P := P) (w := w) (base := base) T
  obtain ⟨fd, F⟩ := T.f_system_demands
  refine has_mk F T.g_system_demands (fun _ _ _ _ _ _ us hl => match us, hl with | [_, _], _ => rfl) (F.ok sc_system_demands (fun vs H Q E h => ?_) (fun cdv A outer s H vs Q E hr h => ?_))
  · obtain ⟨_, _, _, _, rfl, _⟩ := h; rfl
  · obtain ⟨a, ts, tb, n, rfl, hs, hn, q⟩ := h
    refine ⟨_, PSs.nox (pss_cons (ps_setLc (i := 2) (own := [("_", 6)]) rfl sc_system_demands.nd rfl rfl (sw_true rfl rfl rfl (by decide +kernel)) (pi_range1 rfl T.b_range (pa_cons (pe_op op_add (pv 1) pe_int) pa_nil)) (blkOk_by (own := [("_", 6)]) (N := N_system_demands) (sc := defScope s_system_demands) (by decide +kernel)) (fun _ _ _ _ _ => (pg_name (i := 6) sc_system_demands.nd rfl (.inl rfl))) (fun _ _ _ _ _ => pts_nil) (fun _ _ _ _ _ => pe_int))
      (pss_cons (ps_for PassesOwn.never rfl (k_tup (K := K) (k_fld (K := K) (pv 0) rfl)) (pg_name (i := 3) sc_system_demands.nd rfl (.inl rfl)) (pss_one (ps_for PassesOwn.never rfl (pi_enum (by rfl) T.b_enumerate (pa_cons (pe_hc h_demands (hr.mono (by decide)) (by rfl) (pa_cons (pv 3) (pa_cons (pv 1) pa_nil))) pa_nil)) (k_tupG (K := K) (n := 2) rfl (pgs_cons (pg_name (i := 4) sc_system_demands.nd rfl (.inl rfl)) (pgs_cons (pg_name (i := 5) sc_system_demands.nd rfl (.inl rfl)) pgs_nil))) (pss_one (ps_augS (pv 2) (pv 4) (k_get (K := K)) (pv 5) ip_add set_list)))))
      (pss_one (ps_ret (pv 2))))), ?_⟩
    walk_at "go"
    refine ⟨_, rfl, by omega, by omega, ?_⟩
    rw [show ((n : Int) + 1).toNat = n + 1 by omega]
    refine fun D hD => lc_R (fun i H' => Same H H' ∧ H' D = some (.lst (((List.range i).map (fun _ => (0 : Int))).map V.int))) ⟨same_upd (Same.refl _) hD, upd_same⟩ ?_ ?_
    · rintro i H' hi ⟨e, hu⟩
      walk_at "go"
      refine ⟨rfl, ?_⟩
      walk_at "go"
      refine ⟨_, hu, Nat.lt_of_lt_of_le (show _ < 2000 by simp; omega) (by decide), same_mut e hD, ?_⟩
      rw [snoc_map (fun _ => (0 : Int))]
      exact upd_same
    · rintro H1 ⟨e1, hu⟩
      walk_at "go"
      obtain ⟨n3, l1, l8, nn, dx, tl, tt, tvs, h1, h2, h3, h4, h5⟩ := id hs
      refine x_tasks T (e1 _ _ h1) ?_
      refine ⟨tl, rfl, ⟨tvs, SqT.of (e1 _ _ h2)⟩, loop_tup (fun i σ' H' => ∃ y1 y2 y3 y4, σ' = [some (.ref a), some (.int (n : Int)), some (.ref D), y1, y2, y3, y4] ∧ Same H H' ∧ H' D = some (.lst (((List.range (n + 1)).map (sysDem (ts.take i))).map V.int))) ⟨_, _, _, _, rfl, e1, hu⟩ (fun i σ' H' _ ⟨_, _, _, _, _, e, _⟩ => SqT.of (e _ _ h2)) ?_ ?_⟩
      · rintro i x σ' H' hx ⟨y1, y2, y3, y4, rfl, e, hd⟩
        obtain ⟨p, t, rfl, et, hp⟩ := h5 i x hx
        walk_at "go"
        refine ⟨p, t, n, rfl, hp.up e, hn, fun H2 d e2 hd0 hd2 => ?_⟩
        have nDd : D ≠ d := ne_of_none hd hd0
        refine ⟨d, _, rfl, SqL.of hd2, loop_enumL (fun j σ' H3 => ∃ y2 y3 y4, σ' = [some (.ref a), some (.int (n : Int)), some (.ref D), some (.ref p), y2, y3, y4] ∧ Same H H3 ∧ H3 d = some (.lst (((List.range (n + 1)).map (dem t)).map V.int)) ∧ H3 D = some (.lst (((List.range (n + 1)).map (partD ts t i j)).map V.int))) ⟨_, _, _, rfl, e.trans e2, hd2, ?_⟩ (fun i σ' H' _ ⟨_, _, _, _, _, e, _⟩ => SqL.of e) ?_ ?_⟩
        · have hz := e2 _ _ hd
          have ez : partD ts t i 0 = sysDem (ts.take i) := by
            funext k
            unfold partD
            rw [if_neg (Nat.not_lt_zero k)]
          rw [ez]
          exact hz
        · rintro j x T3 σ' H3 hx3 hT3 ⟨y2, y3, y4, rfl, e3, hd3, hD3⟩
          have hjn : j < n + 1 := by
            have := (List.getElem?_eq_some_iff.mp hx3).1
            simpa using this
          have ex : x = V.int (dem t j) := by
            rw [List.getElem?_map, List.getElem?_map, List.getElem?_range hjn] at hx3
            exact (Option.some.inj hx3).symm
          subst ex
          refine r_tup2 rfl (SqT.of upd_same) ?_
          walk_at "go"
          have hD4 : upd H3 T3 (.tup [V.int ((j : Nat) : Int), V.int (dem t j)]) D = some (.lst (((List.range (n + 1)).map (partD ts t i j)).map V.int)) := by
            rw [upd_ne (ne_of_none hD3 hT3)]; exact hD3
          have hd4 : upd H3 T3 (.tup [V.int ((j : Nat) : Int), V.int (dem t j)]) d = some (.lst (((List.range (n + 1)).map (dem t)).map V.int)) := by
            rw [upd_ne (ne_of_none hd3 hT3)]; exact hd3
          refine r_getL (SqL.of hD4) (v := V.int (partD ts t i j j)) (by rw [List.getElem?_map, List.getElem?_map, List.getElem?_range hjn]; rfl) ?_
          walk_at "go"
          refine r_setL hD4 (by simp; exact hjn) ?_
          refine ⟨some (.int ((j : Nat) : Int)), some (.int (dem t j)), _, rfl, same_mut (same_upd e3 hT3) hD, by rw [upd_ne nDd.symm]; exact hd4, ?_⟩
          rw [← List.map_set]
          have : partD ts t i j j + dem t j = partD ts t i (j + 1) j := by
            unfold partD
            rw [if_neg (Nat.lt_irrefl j), if_pos (Nat.lt_succ_self j)]
          rw [this, range_set (partD ts t i j) (partD ts t i (j + 1)) (n + 1) j hjn (fun k hk => by
            unfold partD
            by_cases c : k < j
            · rw [if_pos c, if_pos (by omega)]
            · rw [if_neg c, if_neg (by omega)])]
          exact upd_same
        · rintro σ' H3 ⟨y2, y3, y4, rfl, e3, hd3, hD3⟩
          refine ⟨_, _, _, _, rfl, e3, ?_⟩
          have ez : (List.range (n + 1)).map (partD ts t i (((List.range (n + 1)).map (dem t)).map V.int).length) = (List.range (n + 1)).map (sysDem (ts.take (i + 1))) := by
            apply List.map_congr_left
            intro k hk
            have := List.mem_range.mp hk
            unfold partD
            rw [if_pos (by simp; exact this), sysDem_take et]
          rw [← ez]
          exact hD3
      · rintro σ' H' ⟨y1, y2, y3, y4, rfl, e, hd⟩
        walk_at "go"
        rw [h4, List.take_length] at hd
        exact q _ _ e hD hd
abbrev N_best_step : List Str := ["task", "name", "rest", "found", "best", "step", "target", "distance", "number", "work"]
abbrev P_best_step : List Str := ["task", "name", "rest", "found"]
theorem sc_best_step : FnScope N_best_step P_best_step (defScope s_best_step) := ⟨rfl, rfl, rfl, by decide +kernel, rfl, by decide +kernel, by decide +kernel⟩
def sp_best_step (K : PySem.W.Frag) : Sp := fun vs H Q _ => ∃ (a : Addr) (t : Tk) (k n : Nat) (f : Addr) (g : List (List Int)), vs = [.ref a, .str (nm k), .int (n : Int), .ref f] ∧ TaskAt K H a t ∧ k < t.n ∧ Rows H f g ∧ n ≤ g.length ∧ (∀ i, i < g.length → (g.getD i []).length = t.n) ∧
  (∀ H', Same H H' → Q .non H') ∧ ∀ (H' : Hp) (p : Addr) (j d : Nat), Same H H' → H' p = some (.tup [.int (j : Int), .int (d : Int)]) → j < t.n → 1 ≤ d → d ≤ n → Q (.ref p) H'
theorem has_best_step (T : Tx K mg) : Has P w K mg base "best_step" P_best_step 3 (sp_best_step K) := by
  have h_T_kind_number := has_T_kind_number (P := P) (w := w) (base := base) T
  have h_T_ways_from := has_T_ways_from (P := P) (w := w) (base := base) T
  obtain ⟨fd, F⟩ := T.f_best_step
  refine has_mk F T.g_best_step (fun _ _ _ _ _ _ us hl => match us, hl with | [_, _, _, _], _ => rfl) (F.ok sc_best_step (fun vs H Q E h => ?_) (fun cdv A outer s H vs Q E hr h => ?_))
  · obtain ⟨_, _, _, _, _, _, rfl, _⟩ := h; rfl
  · obtain ⟨a, t, k, n, f, g, rfl, ht, hk, hf, hn, hg, q0, q1⟩ := h
    refine ⟨_, PSs.nox (pss_cons (ps_set (i := 4) sc_best_step.nd rfl (.inl rfl) pe_int)
      (pss_cons (ps_set (i := 5) sc_best_step.nd rfl (.inl rfl) pe_non)
      (pss_cons (ps_for PassesOwn.never rfl (k_list (K := K) (pe_hm h_T_ways_from (hr.mono (by decide)) (pv 0) (pa_cons (pv 1) pa_nil))) (k_tupG (K := K) (n := 2) rfl (pgs_cons (pg_name (i := 6) sc_best_step.nd rfl (.inl rfl)) (pgs_cons (pg_name (i := 7) sc_best_step.nd rfl (.inl rfl)) pgs_nil))) (pss_one (ps_if (pt_cmpR op_le (pv 7) (pv 2) (nomark _)) (pss_cons (ps_set (i := 8) sc_best_step.nd rfl (.inl rfl) (pe_hm h_T_kind_number (hr.mono (by decide)) (pv 0) (pa_cons (pv 6) pa_nil)))
      (pss_cons (ps_set (i := 9) sc_best_step.nd rfl (.inl rfl) (pe_ix (k_ixL (K := K)) (pe_ix (k_ixL (K := K)) (pv 3) (pe_op op_sub (pv 2) (pv 7)) (fun _ _ => rfl)) (pv 8) (fun _ _ => rfl)))
      (pss_one (ps_if (pt_cmpR op_gt (pv 9) (pv 4) (nomark _)) (pss_cons (ps_set (i := 4) sc_best_step.nd rfl (.inl rfl) (pv 9))
      (pss_one (ps_set (i := 5) sc_best_step.nd rfl (.inl rfl) (pe_tup (pa_cons (pv 8) (pa_cons (pv 7) pa_nil)))))) pss_nil)))) pss_nil)))
      (pss_one (ps_ret (pv 5)))))), ?_⟩
    walk_at "go"
    obtain ⟨ok, dx, kt, wt, z, kvs, wvs, h1, h2, h3, h4, h5⟩ := id ht
    refine ⟨a, dx, _, rfl, h1, lk_wf z kt wt, ?_⟩
    walk_at "go"
    refine ⟨a, t, k, rfl, ht, hk, fun H1 p us e1 hp0 hp hu => ?_⟩
    refine ⟨p, rfl, ⟨us, SqL.of hp⟩, loop_list (fun i σ' H' => ∃ (b : Int) (sv : V) (y1 y2 y3 y4 : Option V), σ' = [some (.ref a), some (.str (nm k)), some (.int (n : Int)), some (.ref f), some (.int b), some sv, y1, y2, y3, y4] ∧ Same H1 H' ∧ (sv = .non ∨ ∃ (p : Addr) (j d : Nat), sv = .ref p ∧ H' p = some (.tup [.int (j : Int), .int (d : Int)]) ∧ j < t.n ∧ 1 ≤ d ∧ d ≤ n))
      ⟨0, .non, _, _, _, _, rfl, Same.refl _, .inl rfl⟩ (fun i σ' H' _ ⟨_, _, _, _, _, _, _, e, _⟩ => SqL.of (e _ _ hp)) ?_ ?_⟩
    · rintro i x σ' H' hx ⟨b, sv, y1, y2, y3, y4, rfl, e, hsv⟩
      obtain ⟨wy, p2, hw, rfl, hp2⟩ := hu.2 i x hx
      have hm := waysOf_mem (List.mem_of_getElem? hw)
      have hwy := ok.wy _ hm.1
      have up : ∀ {H2 : Hp}, Same H' H2 → (sv = .non ∨ ∃ (p : Addr) (j d : Nat), sv = .ref p ∧ H2 p = some (.tup [.int (j : Int), .int (d : Int)]) ∧ j < t.n ∧ 1 ≤ d ∧ d ≤ n) := fun e => by
        rcases hsv with h | ⟨p, j, d, a, b, c⟩
        · exact .inl h
        · exact .inr ⟨p, j, d, a, e _ _ b, c⟩
      refine r_tup2 rfl (SqT.of (e _ _ hp2)) ?_
      walk_at "go"
      refine r_ite (fun c => ?_) (fun c => ?_)
      · have c := of_decide_eq_true c
        have c' : wy.2.2 ≤ n := by omega
        walk_at "go"
        refine ⟨a, dx, _, rfl, e _ _ (e1 _ _ h1), lk_kn z kt wt, ?_⟩
        walk_at "go"
        refine ⟨a, t, wy.2.1, rfl, (ht.up e1).up e, hwy.2.1, fun H2 e2 => ?_⟩
        have e0 : (n : Int) - ((wy.2.2 : Nat) : Int) = ((n - wy.2.2 : Nat) : Int) := by omega
        obtain ⟨vs, pr, r1, r2, r3⟩ := hf.at (i := n - wy.2.2) (by omega)
        walk_at "go"
        rw [e0]
        refine r_ixL (SqL.of (e2 _ _ (e _ _ (e1 _ _ r1)))) (atI_nat r2) ?_
        walk_at "go"
        refine r_ixL (SqL.of (e2 _ _ (e _ _ (e1 _ _ r3)))) (atI_nat (ints_at (by rw [hg _ (by omega)]; exact hwy.2.1))) ?_
        walk_at "go"
        refine r_ite (fun c2 => ?_) (fun c2 => ?_)
        · walk_at "go"
          refine ⟨by show 2 ≤ sizeLine; decide, fun p3 hp3 => ?_⟩
          walk_at "go"
          exact ⟨_, _, _, _, _, _, rfl, (e.trans e2).trans (same_upd (Same.refl _) hp3), .inr ⟨p3, _, _, rfl, upd_same, hwy.2.1, hwy.2.2.1, c'⟩⟩
        · walk_at "go"
          exact ⟨_, _, _, _, _, _, rfl, e.trans e2, up e2⟩
      · walk_at "go"
        exact ⟨_, _, _, _, _, _, rfl, e, hsv⟩
    · rintro σ' H' ⟨b, sv, y1, y2, y3, y4, rfl, e, hsv⟩
      walk_at "go"
      rcases hsv with rfl | ⟨p, j, d, rfl, h1, h2, h3, h4⟩
      · exact q0 _ (e1.trans e)
      · exact q1 _ p j d (e1.trans e) h1 h2 h3 h4
end
end NL
end
-- part A6
section
set_option Elab.async false
set_option linter.all false
set_option maxRecDepth 100000
set_option maxHeartbeats 4000000
namespace NL
open PySem PySem.Spec PyProof.Rows L2
open He (ga ma)
local macro_rules | `(tactic| walk_at "go1") => `(tactic| first
  | ((with_reducible refine' r_var ?hv ?_); (case hv => rfl))
  | with_reducible refine r_c ?_
  | with_reducible refine r_op ?_
  | with_reducible refine r_un ?_
  | with_reducible refine r_I0 ?_
  | with_reducible refine r_U ?_
  | ((with_reducible refine' r_ixT ?h1 ?h2 ?_); (case h1 => assumption); (case h2 => rfl))
  | ((with_reducible refine' r_ixL ?h1 ?h2 ?_); (case h1 => assumption); (case h2 => rfl))
  | with_reducible refine r_nil ?_
  | with_reducible refine r_cons ?_
  | with_reducible refine r_cb ?_
  | with_reducible refine r_call ?_
  | with_reducible refine r_ck ?_
  | with_reducible refine r_prop ?_
  | with_reducible refine r_gSub ?_
  | ((with_reducible refine' r_seqAug2 ?hv ?_); (case hv => rfl))
  | ((with_reducible refine' r_aug2 ?hv ?_); (case hv => rfl))
  | with_reducible refine r_ipI ?_
  | with_reducible refine r_seqAugS ?_
  | with_reducible refine r_augS ?_
  | with_reducible refine r_cont ?_
  | with_reducible refine r_brk ?_
  | with_reducible refine r_tt ?_
  | with_reducible refine r_ff ?_
  | with_reducible refine r_test ?_
  | with_reducible refine r_B ?_
  | with_reducible refine r_not ?_
  | with_reducible refine r_and ?_
  | with_reducible refine r_or ?_
  | with_reducible refine r_tup ?_
  | with_reducible refine r_lst ?_
  | with_reducible refine r_bl ?_
  | with_reducible refine r_max2 ?_
  | with_reducible refine r_min2 ?_
  | with_reducible refine r_abs ?_
  | with_reducible refine r_int1b ?_
  | with_reducible refine r_isN1 ?_
  | with_reducible refine r_isN2 ?_
  | with_reducible refine r_isN3 ?_
  | with_reducible refine r_notN1 ?_
  | with_reducible refine r_notN2 ?_
  | with_reducible refine r_notN3 ?_
  | with_reducible refine r_isN ?_
  | with_reducible refine r_notN ?_
  | with_reducible refine r_notBl ?_
  | ((with_reducible refine r_eq ?h1 ?_); (case h1 => rfl))
  | ((with_reducible refine r_ne ?h1 ?_); (case h1 => rfl))
  | with_reducible refine r_fld ?_
  | with_reducible refine r_sl ?_
  | with_reducible refine r_noPart ?_
  | with_reducible refine r_part ?_
  | with_reducible refine r_xint ?_
  | with_reducible refine r_bm ?_
  | with_reducible refine r_meth ?_
  | with_reducible refine r_callN ?_
  | ((with_reducible refine' r_lenQ ?h1 ?_); (case h1 => first | assumption | exact Or.inl (by assumption) | exact Or.inr (by assumption)))
  | with_reducible refine r_seqN ?_
  | with_reducible refine r_asgN ?_
  | with_reducible refine r_seqIf ?_
  | with_reducible refine r_seqFor ?_
  | with_reducible refine r_for ?_
  | with_reducible refine r_rng1 ?_
  | with_reducible refine r_rng2 ?_
  | with_reducible refine r_rng3 ?_
  | with_reducible refine r_itL ?_
  | with_reducible refine r_itT ?_
  | with_reducible refine r_lc ?_
  | with_reducible refine r_yes ?_
  | with_reducible refine r_itE ?_
  | with_reducible refine r_itEL ?_
  | with_reducible refine r_gN ?_
  | with_reducible refine r_seqA ?_
  | with_reducible refine r_asgA ?_
  | with_reducible refine r_if ?_
  | with_reducible refine r_retD ?_
  | with_reducible refine r_ret ?_
  | with_reducible refine r_seqDrop ?_
  | with_reducible refine r_drop ?_
  | with_reducible refine r_next ?_)
local macro_rules | `(tactic| walk_at "go") => `(tactic| (repeat walk_at "go1"))

section
variable {P : Program} {w : World} {K : PySem.W.Frag} {mg : Str → Option Value} {base : Heap}
/-- pairs of an int and something -/
def PairsAt (H : Hp) (us : List V) : Prop := ∀ (i : Nat) v, us[i]? = some v → ∃ p x y, v = .ref p ∧ H p = some (.tup [.int x, y])
theorem PairsAt.up {H H' : Hp} {us : List V} (h : PairsAt H us) (e : Same H H') : PairsAt H' us := fun i v q => let ⟨p, x, y, a, b⟩ := h i v q; ⟨p, x, y, a, e _ _ b⟩
theorem PairsAt.mut {H : Hp} {D : Addr} {o : HO} {us xs : List V} (h : PairsAt H us) (hD : H D = some (.lst xs)) : PairsAt (upd H D o) us := fun i v q => by
  obtain ⟨p, x, y, a, b⟩ := h i v q
  exact ⟨p, x, y, a, by rw [upd_ne (ne_of b hD (by intro z; cases z))]; exact b⟩
theorem PairsAt.snoc {H : Hp} {us : List V} {p : Addr} {x : Int} {y : V} (h : PairsAt H us) (hp : H p = some (.tup [.int x, y])) : PairsAt H (us ++ [.ref p]) := fun i v q => by
  by_cases hi : i < us.length
  · rw [List.getElem?_append_left hi] at q
    exact h i v q
  · have hl : i = us.length := by
      have := (List.getElem?_eq_some_iff.mp q).1
      rw [List.length_append, List.length_singleton] at this
      omega
    subst hl
    rw [List.getElem?_append_right (Nat.le_refl _), Nat.sub_self] at q
    exact ⟨p, x, y, (Option.some.inj q).symm, hp⟩
abbrev N_heaviest : List Str := ["task", "length", "found", "greatest", "number", "time", "releases", "step", "distance"]
abbrev P_heaviest : List Str := ["task", "length"]
theorem sc_heaviest : FnScope N_heaviest P_heaviest (defScope s_heaviest) := ⟨rfl, rfl, rfl, by decide +kernel, rfl, by decide +kernel, by decide +kernel⟩
def sp_heaviest (K : PySem.W.Frag) : Sp := fun vs H Q _ => ∃ (a : Addr) (t : Tk) (n : Nat), vs = [.ref a, .int (n : Int)] ∧ TaskAt K H a t ∧ n ≤ 1000 ∧ ∀ H' p us, Same H H' → H p = none → H' p = some (.lst us) → us.length ≤ n + 1 → PairsAt H' us → Q (.ref p) H'
theorem has_heaviest (T : Tx K mg) : Has P w K mg base "heaviest" P_heaviest 5 (sp_heaviest K) := by
  have h_best_step := has_best_step (P := P) (w := w) (base := base) T
  have h_rows := has_rows (P := P) (w := w) (base := base) T
  obtain ⟨fd, F⟩ := T.f_heaviest
  refine has_mk F T.g_heaviest (fun _ _ _ _ _ _ us hl => match us, hl with | [_, _], _ => rfl) (F.ok sc_heaviest (fun vs H Q E h => ?_) (fun cdv A outer s H vs Q E hr h => ?_))
  · obtain ⟨_, _, _, rfl, _⟩ := h; rfl
  · obtain ⟨a, t, n, rfl, ht, hn, q⟩ := h
    refine ⟨_, PSs.nox (pss_cons (ps_set (i := 2) sc_heaviest.nd rfl (.inl rfl) (pe_hc h_rows (hr.mono (by decide)) (by rfl) (pa_cons (pv 0) (pa_cons (pv 1) pa_nil))))
      (pss_cons (ps_set (i := 3) sc_heaviest.nd rfl (.inl rfl) (pe_callB (k_max (K := K)) (by rfl) T.b_max (by decide +kernel) (pa_cons (pe_ix (k_ixL (K := K)) (pv 2) (pv 1) (fun _ _ => rfl)) pa_nil)))
      (pss_cons (ps_if (pt_cmpR op_eq (pv 3) pe_int (nomark _)) (pss_one (ps_ret (pe_lst pa_nil))) pss_nil)
      (pss_cons (ps_set (i := 4) sc_heaviest.nd rfl (.inl rfl) (k_bm (K := K) PySem.F.plainAttrs_list PySem.F.slot_list_index PySem.F.type_list_index (k_index (K := K)) (pe_ix (k_ixL (K := K)) (pv 2) (pv 1) (fun _ _ => rfl)) (pa_cons (pv 3) pa_nil)))
      (pss_cons (ps_set (i := 5) sc_heaviest.nd rfl (.inl rfl) pe_int)
      (pss_cons (ps_set (i := 6) sc_heaviest.nd rfl (.inl rfl) (pe_lst (pa_cons (pe_tup (pa_cons pe_int (pa_cons (pe_ix (k_ixT (K := K)) (pe_ix (k_ixT (K := K)) (k_fld (K := K) (pv 0) rfl) (pv 4) (fun _ _ => rfl)) pe_int (fun _ _ => rfl)) pa_nil))) pa_nil)))
      (pss_one (ps_while PassesOwn.never (pt_val pe_bl) (pss_cons (ps_set (i := 7) sc_heaviest.nd rfl (.inl rfl) (pe_hc h_best_step (hr.mono (by decide)) (by rfl) (pa_cons (pv 0) (pa_cons (pe_ix (k_ixT (K := K)) (pe_ix (k_ixT (K := K)) (k_fld (K := K) (pv 0) rfl) (pv 4) (fun _ _ => rfl)) pe_int (fun _ _ => rfl)) (pa_cons (pe_op op_sub (pv 1) (pv 5)) (pa_cons (pv 2) pa_nil))))))
      (pss_cons (ps_if (pt_cmpR op_isNQ (pv 7) pe_non (nomark _)) (pss_one (ps_ret (pv 6))) pss_nil)
      (pss_cons (ps_asg (pv 7) (k_tupG (K := K) (n := 2) rfl (pgs_cons (pg_name (i := 4) sc_heaviest.nd rfl (.inl rfl)) (pgs_cons (pg_name (i := 8) sc_heaviest.nd rfl (.inl rfl)) pgs_nil))))
      (pss_cons (ps_aug (i := 5) sc_heaviest.nd rfl (.inl rfl) (pv 8) ip_add)
      (pss_one (ps_expr (k_bm (K := K) PySem.F.plainAttrs_list PySem.F.slot_list_append PySem.F.type_list_append mt_append (pv 6) (pa_cons (pe_tup (pa_cons (pv 5) (pa_cons (pe_ix (k_ixT (K := K)) (pe_ix (k_ixT (K := K)) (k_fld (K := K) (pv 0) rfl) (pv 4) (fun _ _ => rfl)) pe_int (fun _ _ => rfl)) pa_nil))) pa_nil)))))))))))))))), ?_⟩
    have ok := ht.ok
    obtain ⟨_, dx, kt, wt, z, kvs, wvs, h1, h2, h3, h4, h5⟩ := id ht
    walk_at "go"
    refine ⟨a, t, n, rfl, ht, hn, fun H1 f e1 hf0 hf => ?_⟩
    obtain ⟨vs, pr, r1, r2, r3⟩ := id (hf.at (i := n) (by rw [rowsF_len]; omega))
    rw [rowsF_row t (by omega)] at r3
    walk_at "go"
    refine r_ixL (SqL.of r1) (atI_nat r2) ?_
    walk_at "go"
    refine ⟨pr, _, rfl, SqL.of r3, by have := ok.n1; simp; omega, fun m hm hb => ?_⟩
    walk_at "go"
    refine r_ite (fun c => ?_) (fun c => ?_)
    · walk_at "go"
      refine ⟨by decide, fun p hp => ?_⟩
      exact q _ p [] (same_upd e1 hp) (e1.free hp) upd_same (Nat.zero_le _) fun i v q => by simp at q
    · walk_at "go"
      refine r_ixL (SqL.of r1) (atI_nat r2) ?_
      walk_at "go"
      refine ty_sq (SqL.of r3) ?_
      walk_at "go"
      refine r_index (SqL.of r3) hm fun j hj hjl => ?_
      have hjn : j < t.n := by simpa using hjl
      walk_at "go"
      have kat : ∀ {H2 : Hp} {k : Nat}, Same H1 H2 → k < t.n → ∃ p, kvs[k]? = some (.ref p) ∧ SqT K H2 p [.str (nm k), .int (t.cost k), .int ((t.dl k : Nat) : Int)] := fun {H2 k} e hk => by
        obtain ⟨p, ep, hp⟩ := h4.2 k _ (List.getElem?_eq_getElem (by rw [h4.1]; exact hk))
        exact ⟨p, by rw [← ep]; exact List.getElem?_eq_getElem _, SqT.of (e _ _ (e1 _ _ hp))⟩
      refine x_kinds T (e1 _ _ h1) ?_
      walk_at "go"
      obtain ⟨p1, hk1, hk2⟩ := kat (Same.refl H1) hjn
      refine r_ixT (SqT.of (e1 _ _ h2)) (atI_nat hk1) ?_
      walk_at "go"
      refine ⟨by show 2 ≤ sizeLine; decide, fun p2 hp2 => ?_⟩
      walk_at "go"
      refine ⟨by show 1 ≤ sizeLine; decide, fun D hD => ?_⟩
      walk_at "go"
      have e2 : Same H1 (upd (upd H1 p2 (.tup [V.int 0, V.str (nm j)])) D (.lst [V.ref p2])) := (same_upd (Same.refl _) hp2).trans (same_upd (Same.refl _) hD)
      have hD1 : H1 D = none := by
        have : D ≠ p2 := fun z => by subst z; rw [upd_same] at hD; cases hD
        rw [upd_ne this] at hD; exact hD
      refine r_while ⟨fun m σ' H' => ∃ (j tm : Nat) (us : List V) (y1 y2 : Option V), σ' = [some (.ref a), some (.int (n : Int)), some (.ref f), some (.int _), some (.int (j : Int)), some (.int (tm : Int)), some (.ref D), y1, y2] ∧ j < t.n ∧ tm ≤ n ∧ m = n - tm ∧ Same H1 H' ∧ H' D = some (.lst us) ∧ us.length ≤ tm + 1 ∧ PairsAt H' us,
        ⟨n, j, 0, [V.ref p2], _, _, rfl, hjn, Nat.zero_le _, rfl, e2, upd_same, Nat.le_refl _, fun i v q => ?_⟩, ?_⟩
      · have hi : i = 0 := by
          have := (List.getElem?_eq_some_iff.mp q).1
          simpa using this
        subst hi
        exact ⟨p2, 0, .str (nm j), (Option.some.inj q).symm, by rw [upd_ne (ne_of_none (o := .tup [V.int 0, V.str (nm j)]) upd_same hD)]; exact upd_same⟩
      · rintro m σ' H' ⟨j, tm, us, y1, y2, rfl, hj, htm, rfl, e, hD', hl, hus⟩
        walk_at "go"
        have e0 : (n : Int) - (tm : Int) = ((n - tm : Nat) : Int) := by omega
        refine ⟨fun σ'' H'' => ∃ m', m' < n - tm ∧ _, fun _ _ h => h, ?_⟩
        walk_at "go"
        refine x_kinds T (e _ _ (e1 _ _ h1)) ?_
        walk_at "go"
        obtain ⟨p3, hk3, hk4⟩ := kat e hj
        refine r_ixT (SqT.of (e _ _ (e1 _ _ h2))) (atI_nat hk3) ?_
        walk_at "go"
        rw [e0]
        refine ⟨a, t, j, n - tm, f, rowsF t (n + 1), rfl, (ht.up e1).up e, hj, hf.up e, by rw [rowsF_len]; omega, fun _ => rowsF_lens t, fun H2 e2 => ?_, fun H2 p j2 d e2 hp hj2 hd1 hd2 => ?_⟩
        · walk_at "go"
          exact q _ D us ((e1.trans e).trans e2) (e1.free hD1) (e2 _ _ hD') (by omega) (hus.up e2)
        · walk_at "go"
          refine r_tup2 rfl (SqT.of hp) ?_
          walk_at "go"
          have hD2 := e2 _ _ hD'
          refine ty_list hD2 ?_
          walk_at "go"
          refine x_kinds T (e2 _ _ (e _ _ (e1 _ _ h1))) ?_
          walk_at "go"
          obtain ⟨p4, hk5, hk6⟩ := kat (e.trans e2) hj2
          refine r_ixT (SqT.of (e2 _ _ (e _ _ (e1 _ _ h2)))) (atI_nat hk5) ?_
          walk_at "go"
          refine ⟨by show 2 ≤ sizeLine; decide, fun p5 hp5 => ?_⟩
          have nD : D ≠ p5 := ne_of_none hD2 hp5
          have hD3 : upd H2 p5 (.tup [V.int ((tm : Int) + (d : Int)), V.str (nm j2)]) D = some (.lst us) := by rw [upd_ne nD]; exact hD2
          walk_at "go"
          refine r_append hD3 (Nat.lt_of_lt_of_le (show _ < 2000 by omega) (by decide)) ?_
          have e4 : (tm : Int) + (d : Int) = ((tm + d : Nat) : Int) := by omega
          refine ⟨n - (tm + d), by omega, j2, tm + d, us ++ [V.ref p5], some (.ref p), some (.int (d : Int)), ?_, hj2, by omega, rfl, same_mut (same_upd (e.trans e2) hp5) hD1, upd_same, by rw [List.length_append, List.length_singleton]; omega, ?_⟩
          · rw [← e4]; rfl
          · exact PairsAt.mut (PairsAt.snoc ((hus.up e2).up (same_upd (Same.refl _) hp5)) upd_same) hD3
abbrev N_shift : List Str := ["releases", "by", "time", "kind"]
abbrev P_shift : List Str := ["releases", "by"]
theorem sc_shift : FnScope N_shift P_shift (defScope s_shift) := ⟨rfl, rfl, rfl, by decide +kernel, rfl, by decide +kernel, by decide +kernel⟩
def sp_shift (K : PySem.W.Frag) : Sp := fun vs H Q _ => ∃ (a : Addr) (us : List V) (b : Int), vs = [.ref a, .int b] ∧ H a = some (.lst us) ∧ us.length ≤ 2000 ∧ PairsAt H us ∧ ∀ H' p us', Same H H' → H p = none → H' p = some (.lst us') → us'.length = us.length → Q (.ref p) H'
theorem has_shift (T : Tx K mg) : Has P w K mg base "shift" P_shift 1 (sp_shift K) := by
  obtain ⟨fd, F⟩ := T.f_shift
  refine has_mk F T.g_shift (fun _ _ _ _ _ _ us hl => match us, hl with | [_, _], _ => rfl) (F.ok sc_shift (fun vs H Q E h => ?_) (fun cdv A outer s H vs Q E hr h => ?_))
  · obtain ⟨_, _, _, rfl, _⟩ := h; rfl
  · obtain ⟨a, us, b, rfl, ha, hl, hus, q⟩ := h
    refine ⟨_, PSs.nox (pss_one (ps_ret (pe_lc (own := [("time", 2), ("kind", 3)]) rfl sc_shift.nd (k_list (K := K) (pv 0)) (blkOk_by (own := [("time", 2), ("kind", 3)]) (N := N_shift) (sc := defScope s_shift) (by decide +kernel)) (fun _ _ _ _ _ => (k_tupG (K := K) (n := 2) rfl (pgs_cons (pg_name (i := 2) sc_shift.nd rfl (.inl rfl)) (pgs_cons (pg_name (i := 3) sc_shift.nd rfl (.inl rfl)) pgs_nil)))) (fun _ _ _ _ _ => pts_nil) (fun _ _ _ _ _ => (pe_tup (pa_cons (pe_op op_add (pv 2) (pv 1)) (pa_cons (pv 3) pa_nil))))))), ?_⟩
    walk_at "go"
    refine ⟨a, rfl, ⟨us, SqL.of ha⟩, fun D hD => lc_L (xs := us) (fun i H' => Same H H' ∧ ∃ us', H' D = some (.lst us') ∧ us'.length = i) ⟨same_upd (Same.refl _) hD, [], upd_same, rfl⟩ (fun i H' _ ⟨e, _⟩ => SqL.of (e _ _ ha)) ?_ ?_⟩
    · rintro i x H' hx ⟨e, us', hu, hl'⟩
      have hi := (List.getElem?_eq_some_iff.mp hx).1
      obtain ⟨p, x, y, rfl, hp⟩ := hus i _ hx
      refine r_tup2 rfl (SqT.of (e _ _ hp)) ?_
      refine ⟨rfl, ?_⟩
      walk_at "go"
      refine ⟨by show 2 ≤ sizeLine; decide, fun p5 hp5 => ?_⟩
      have nD : D ≠ p5 := ne_of_none hu hp5
      refine ⟨us', by rw [upd_ne nD]; exact hu, Nat.lt_of_lt_of_le (show _ < 2001 by omega) (by decide), same_mut (same_upd e hp5) hD, _, upd_same, by rw [List.length_append, List.length_singleton]; omega⟩
    · rintro H' ⟨e, us', hu, hl'⟩
      exact q _ D us' e hD hu hl'
end
end NL
end
-- part A7
section
set_option Elab.async false
set_option linter.all false
set_option maxRecDepth 100000
set_option maxHeartbeats 4000000
namespace NL
open PySem PySem.Spec PyProof.Rows L2
open He (ga ma)
local macro_rules | `(tactic| walk_at "go1") => `(tactic| first
  | ((with_reducible refine' r_var ?hv ?_); (case hv => rfl))
  | with_reducible refine r_c ?_
  | with_reducible refine r_op ?_
  | with_reducible refine r_un ?_
  | with_reducible refine r_I0 ?_
  | with_reducible refine r_U ?_
  | ((with_reducible refine' r_ixT ?h1 ?h2 ?_); (case h1 => assumption); (case h2 => rfl))
  | ((with_reducible refine' r_ixL ?h1 ?h2 ?_); (case h1 => assumption); (case h2 => rfl))
  | with_reducible refine r_nil ?_
  | with_reducible refine r_cons ?_
  | with_reducible refine r_cb ?_
  | with_reducible refine r_call ?_
  | with_reducible refine r_ck ?_
  | with_reducible refine r_prop ?_
  | with_reducible refine r_gSub ?_
  | ((with_reducible refine' r_seqAug2 ?hv ?_); (case hv => rfl))
  | ((with_reducible refine' r_aug2 ?hv ?_); (case hv => rfl))
  | with_reducible refine r_ipI ?_
  | with_reducible refine r_seqAugS ?_
  | with_reducible refine r_augS ?_
  | with_reducible refine r_cont ?_
  | with_reducible refine r_brk ?_
  | with_reducible refine r_tt ?_
  | with_reducible refine r_ff ?_
  | with_reducible refine r_test ?_
  | with_reducible refine r_B ?_
  | with_reducible refine r_not ?_
  | with_reducible refine r_and ?_
  | with_reducible refine r_or ?_
  | with_reducible refine r_tup ?_
  | with_reducible refine r_lst ?_
  | with_reducible refine r_bl ?_
  | with_reducible refine r_max2 ?_
  | with_reducible refine r_min2 ?_
  | with_reducible refine r_abs ?_
  | with_reducible refine r_int1b ?_
  | with_reducible refine r_isN1 ?_
  | with_reducible refine r_isN2 ?_
  | with_reducible refine r_isN3 ?_
  | with_reducible refine r_notN1 ?_
  | with_reducible refine r_notN2 ?_
  | with_reducible refine r_notN3 ?_
  | with_reducible refine r_isN ?_
  | with_reducible refine r_notN ?_
  | with_reducible refine r_notBl ?_
  | ((with_reducible refine r_eq ?h1 ?_); (case h1 => rfl))
  | ((with_reducible refine r_ne ?h1 ?_); (case h1 => rfl))
  | with_reducible refine r_fld ?_
  | with_reducible refine r_sl ?_
  | with_reducible refine r_noPart ?_
  | with_reducible refine r_part ?_
  | with_reducible refine r_xint ?_
  | with_reducible refine r_bm ?_
  | with_reducible refine r_meth ?_
  | with_reducible refine r_callN ?_
  | ((with_reducible refine' r_lenQ ?h1 ?_); (case h1 => first | assumption | exact Or.inl (by assumption) | exact Or.inr (by assumption)))
  | with_reducible refine r_seqN ?_
  | with_reducible refine r_asgN ?_
  | with_reducible refine r_seqIf ?_
  | with_reducible refine r_seqFor ?_
  | with_reducible refine r_for ?_
  | with_reducible refine r_rng1 ?_
  | with_reducible refine r_rng2 ?_
  | with_reducible refine r_rng3 ?_
  | with_reducible refine r_itL ?_
  | with_reducible refine r_itT ?_
  | with_reducible refine r_lc ?_
  | with_reducible refine r_yes ?_
  | with_reducible refine r_itE ?_
  | with_reducible refine r_itEL ?_
  | with_reducible refine r_gN ?_
  | with_reducible refine r_seqA ?_
  | with_reducible refine r_asgA ?_
  | with_reducible refine r_if ?_
  | with_reducible refine r_retD ?_
  | with_reducible refine r_ret ?_
  | with_reducible refine r_seqDrop ?_
  | with_reducible refine r_drop ?_
  | with_reducible refine r_next ?_)
local macro_rules | `(tactic| walk_at "go") => `(tactic| (repeat walk_at "go1"))

section
/-- all but f stay -/
def But (f : Addr) (H H' : Hp) : Prop := ∀ b o, b ≠ f → H b = some o → H' b = some o
theorem But.refl (f : Addr) (H : Hp) : But f H H := fun _ _ _ h => h
theorem But.trans {f : Addr} {H H1 H2 : Hp} (a : But f H H1) (b : But f H1 H2) : But f H H2 := fun x o n h => b x o n (a x o n h)
theorem But.of {f : Addr} {H H1 : Hp} (e : Same H H1) : But f H H1 := fun x o _ h => e x o h
theorem But.mut {f : Addr} {H H1 : Hp} {o : HO} (e : But f H H1) : But f H (upd H1 f o) := fun x o n h => by rw [upd_ne n]; exact e x o n h
theorem But.same {f : Addr} {H H1 : Hp} (e : But f H H1) (h : H f = none) : Same H H1 := fun x o q => e x o (ne_of_none q h) q
theorem TaskAt.but {K : PySem.W.Frag} {H H' : Hp} {a f : Addr} {t : Tk} {xs : List V} (h : TaskAt K H a t) (hf : H f = some (.lst xs)) (e : But f H H') : TaskAt K H' a t := by
  obtain ⟨ok, dx, kt, wt, z, kvs, wvs, h1, h2, h3, h4, h5⟩ := h
  have up : ∀ {b : Addr} {o : HO}, (∀ xs, o ≠ .lst xs) → H b = some o → H' b = some o := fun n h => e _ _ (ne_of h hf (n _)) h
  refine ⟨ok, dx, kt, wt, z, kvs, wvs, up (by simp) h1, up (by simp) h2, up (by simp) h3, ⟨h4.1, fun i v q => ?_⟩, ⟨h5.1, fun i v q => ?_⟩⟩
  · obtain ⟨p, a, b⟩ := h4.2 i v q
    exact ⟨p, a, up (by simp) b⟩
  · obtain ⟨p, a, b⟩ := h5.2 i v q
    exact ⟨p, a, up (by simp) b⟩
/-- numbers as the program's list holds them -/
def nat2 (l : List Nat) : List Int := l.map fun i => ((i : Nat) : Int)
theorem inV_ints (x : Int) (l : List Int) : inV (V.int x) (l.map V.int) = decide (x ∈ l) := by
  unfold inV
  rw [List.any_map]
  by_cases h : x ∈ l
  · rw [decide_eq_true h]
    exact List.any_eq_true.mpr ⟨x, h, by simp [eqV]⟩
  · rw [decide_eq_false h]
    exact List.any_eq_false.mpr fun y hy => by
      have : y ≠ x := fun z => h (z ▸ hy)
      simp [eqV, this]
theorem mem_nat2 (x : Nat) (l : List Nat) : (((x : Nat) : Int) ∈ nat2 l) = (x ∈ l) := by
  unfold nat2
  refine propext ⟨fun h => ?_, fun h => List.mem_map.mpr ⟨x, h, rfl⟩⟩
  obtain ⟨a, ha, e⟩ := List.mem_map.mp h
  have : a = x := by omega
  subst this
  exact ha
end
section
variable {P : Program} {w : World} {K : PySem.W.Frag} {mg : Str → Option Value} {base : Heap}
abbrev N_make_ratio : List Str := ["top", "bottom", "divisor"]
abbrev P_make_ratio : List Str := ["top", "bottom"]
theorem sc_make_ratio : FnScope N_make_ratio P_make_ratio (defScope s_make_ratio) := ⟨rfl, rfl, rfl, by decide +kernel, rfl, by decide +kernel, by decide +kernel⟩
def sp_make_ratio (K : PySem.W.Frag) : Sp := fun vs H Q _ => ∃ (c d : Int), vs = [.int c, .int d] ∧ 0 ≤ c ∧ 1 ≤ d ∧ d < 1073741824 ∧ ∀ H' p x y, Same H H' → H p = none → H' p = some (.tup [.int x, .int y]) → x * d = c * y → 1 ≤ y → y ≤ d → 0 ≤ x → x ≤ c → Nat.gcd x.natAbs y.natAbs = 1 → Q (.ref p) H'
theorem has_make_ratio (T : Tx K mg) : Has P w K mg base "make_ratio" P_make_ratio 1 (sp_make_ratio K) := by
  obtain ⟨fd, F⟩ := T.f_make_ratio
  refine has_mk F T.g_make_ratio (fun _ _ _ _ _ _ us hl => match us, hl with | [_, _], _ => rfl) (F.ok sc_make_ratio (fun vs H Q E h => ?_) (fun cdv A outer s H vs Q E hr h => ?_))
  · obtain ⟨_, _, rfl, _⟩ := h; rfl
  · obtain ⟨c, d, rfl, hc, hd, hd2, q⟩ := h
    refine ⟨_, PSs.nox (pss_cons (ps_if (pt_cmpR op_eq (pv 1) pe_int (nomark _)) (pss_one ps_never) pss_nil)
      (pss_cons (ps_if (pt_cmpR op_lt (pv 1) pe_int (nomark _)) (pss_cons (ps_set (i := 0) sc_make_ratio.nd rfl (.inl rfl) (pe_un un_neg (pv 0)))
      (pss_one (ps_set (i := 1) sc_make_ratio.nd rfl (.inl rfl) (pe_un un_neg (pv 1))))) pss_nil)
      (pss_cons (ps_set (i := 2) sc_make_ratio.nd rfl (.inl rfl) (pe_callBfun cr_gcd (by rfl) T.gcd (pa_cons (pv 0) (pa_cons (pv 1) pa_nil))))
      (pss_one (ps_ret (pe_tup (pa_cons (pe_op op_fdiv (pv 0) (pv 2)) (pa_cons (pe_op op_fdiv (pv 1) (pv 2)) pa_nil)))))))), ?_⟩
    walk_at "go"
    refine r_ite (fun z => absurd (V.int.inj (of_decide_eq_true z)) (by omega)) (fun _ => ?_)
    walk_at "go"
    refine r_ite (fun z => absurd (of_decide_eq_true z) (by omega)) (fun _ => ?_)
    walk_at "go"
    refine ⟨_, _, rfl, ?_⟩
    have g1 : 1 ≤ Nat.gcd c.natAbs d.natAbs := Nat.gcd_pos_of_pos_right _ (by omega)
    have g2 : Nat.gcd c.natAbs d.natAbs ≤ d.natAbs := Nat.le_of_dvd (by omega) (Nat.gcd_dvd_right _ _)
    have dc : ((Nat.gcd c.natAbs d.natAbs : Nat) : Int) ∣ c := Int.ofNat_dvd_left.mpr (Nat.gcd_dvd_left _ _)
    have dd : ((Nat.gcd c.natAbs d.natAbs : Nat) : Int) ∣ d := Int.ofNat_dvd_left.mpr (Nat.gcd_dvd_right _ _)
    generalize hg : Nat.gcd c.natAbs d.natAbs = g at *
    obtain ⟨x, rfl⟩ := dc
    obtain ⟨y, rfl⟩ := dd
    walk_at "go"
    refine r_I ⟨by omega, by omega⟩ ?_
    walk_at "go"
    refine r_I ⟨by omega, by omega⟩ ?_
    walk_at "go"
    refine ⟨by show 2 ≤ sizeLine; decide, fun p hp => ?_⟩
    rw [Int.mul_ediv_cancel_left _ (by omega), Int.mul_ediv_cancel_left _ (by omega)]
    have y1 : 1 ≤ y := by
      rcases Int.lt_or_le 0 y with z | z
      · omega
      · have := Int.mul_nonpos_of_nonneg_of_nonpos (a := (g : Int)) (by omega) z
        omega
    have x0 : 0 ≤ x := by
      rcases Int.lt_or_le x 0 with z | z
      · have := Int.mul_neg_of_pos_of_neg (a := (g : Int)) (by omega) z
        omega
      · exact z
    have l1 : y ≤ (g : Int) * y := by
      have := Int.mul_le_mul_of_nonneg_right (show (1 : Int) ≤ (g : Int) by omega) (show 0 ≤ y by omega)
      omega
    have l2 : x ≤ (g : Int) * x := by
      have := Int.mul_le_mul_of_nonneg_right (show (1 : Int) ≤ (g : Int) by omega) x0
      omega
    have gc : Nat.gcd x.natAbs y.natAbs = 1 := by
      rw [Int.natAbs_mul, Int.natAbs_mul, Nat.gcd_mul_left, Int.natAbs_natCast] at hg
      exact Nat.eq_of_mul_eq_mul_left g1 (by rw [hg, Nat.mul_one])
    exact q _ p x y (same_upd (Same.refl _) hp) hp upd_same (by rw [Int.mul_left_comm, Int.mul_assoc]) y1 l1 x0 l2 gc
abbrev N_compare_ratios : List Str := ["first", "second", "left", "right"]
abbrev P_compare_ratios : List Str := ["first", "second"]
theorem sc_compare_ratios : FnScope N_compare_ratios P_compare_ratios (defScope s_compare_ratios) := ⟨rfl, rfl, rfl, by decide +kernel, rfl, by decide +kernel, by decide +kernel⟩
def sp_compare_ratios (K : PySem.W.Frag) : Sp := fun vs H Q _ => ∃ (p r : Addr) (a b c d : Int), vs = [.ref p, .ref r] ∧ SqT K H p [.int a, .int b] ∧ SqT K H r [.int c, .int d] ∧ (-(2 ^ 60) ≤ a ∧ a < 2 ^ 60 ∧ -(2 ^ 60) ≤ c ∧ c < 2 ^ 60) ∧
  (a * d < c * b → Q (.int (-1)) H) ∧ (a * d > c * b → Q (.int 1) H) ∧ (a * d = c * b → Q (.int 0) H)
theorem has_compare_ratios (T : Tx K mg) : Has P w K mg base "compare_ratios" P_compare_ratios 1 (sp_compare_ratios K) := by
  obtain ⟨fd, F⟩ := T.f_compare_ratios
  refine has_mk F T.g_compare_ratios (fun _ _ _ _ _ _ us hl => match us, hl with | [_, _], _ => rfl) (F.ok sc_compare_ratios (fun vs H Q E h => ?_) (fun cdv A outer s H vs Q E hr h => ?_))
  · obtain ⟨_, _, _, _, _, _, rfl, _⟩ := h; rfl
  · obtain ⟨p, r, a, b, c, d, rfl, h1, h2, ⟨b1, b2, b3, b4⟩, q1, q2, q3⟩ := h
    refine ⟨_, PSs.nox (pss_cons (ps_set (i := 2) sc_compare_ratios.nd rfl (.inl rfl) (pe_op op_mul (pe_ix (k_ixT (K := K)) (pv 0) pe_int (fun _ _ => rfl)) (pe_ix (k_ixT (K := K)) (pv 1) pe_int (fun _ _ => rfl))))
      (pss_cons (ps_set (i := 3) sc_compare_ratios.nd rfl (.inl rfl) (pe_op op_mul (pe_ix (k_ixT (K := K)) (pv 1) pe_int (fun _ _ => rfl)) (pe_ix (k_ixT (K := K)) (pv 0) pe_int (fun _ _ => rfl))))
      (pss_cons (ps_if (pt_cmpR op_lt (pv 2) (pv 3) (nomark _)) (pss_one (ps_ret (pe_un un_neg pe_int))) pss_nil)
      (pss_cons (ps_if (pt_cmpR op_gt (pv 2) (pv 3) (nomark _)) (pss_one (ps_ret pe_int)) pss_nil)
      (pss_one (ps_ret pe_int)))))), ?_⟩
    walk_at "go"
    refine r_I (.inl ⟨by omega, by omega⟩) ?_
    walk_at "go"
    refine r_I (.inl ⟨by omega, by omega⟩) ?_
    walk_at "go"
    refine r_ite (fun z => ?_) (fun z => ?_)
    · walk_at "go"
      exact q1 (of_decide_eq_true z)
    · walk_at "go"
      refine r_ite (fun z2 => ?_) (fun z2 => ?_)
      · walk_at "go"
        exact q2 (of_decide_eq_true z2)
      · walk_at "go"
        have := of_decide_eq_false z
        have := of_decide_eq_false z2
        exact q3 (by omega)
abbrev N_extend_path : List Str := ["task", "start", "last", "path", "visited", "found", "number", "way", "target"]
abbrev P_extend_path : List Str := ["task", "start", "last", "path", "visited", "found"]
theorem sc_extend_path : FnScope N_extend_path P_extend_path (defScope s_extend_path) := ⟨rfl, rfl, rfl, by decide +kernel, rfl, by decide +kernel, by decide +kernel⟩
/-- the prefix of the ways up to i -/
def extTo (t : Tk) (f start last : Nat) (path visited : List Nat) (i : Nat) : List (List Nat) := (List.range i).flatMap fun i =>
      if t.src i ≠ last then []
      else if t.tgt i = start then [path ++ [i]]
      else if start < t.tgt i ∧ t.tgt i ∉ visited then ext t f start (t.tgt i) (path ++ [i]) (visited ++ [t.tgt i])
      else []
theorem extTo_succ (t : Tk) (f start last : Nat) (path visited : List Nat) (i : Nat) : extTo t f start last path visited (i + 1) = extTo t f start last path visited i ++ (if t.src i ≠ last then []
      else if t.tgt i = start then [path ++ [i]]
      else if start < t.tgt i ∧ t.tgt i ∉ visited then ext t f start (t.tgt i) (path ++ [i]) (visited ++ [t.tgt i])
      else []) := by
  unfold extTo
  rw [List.range_succ, List.flatMap_append]
  simp
theorem extTo_le (t : Tk) (f start last : Nat) (path visited : List Nat) {i j : Nat} (h : i ≤ j) : (extTo t f start last path visited i).length ≤ (extTo t f start last path visited j).length := by
  induction j with
  | zero => have : i = 0 := by omega
            subst this; exact Nat.le_refl _
  | succ j ih =>
    by_cases e : i = j + 1
    · subst e; exact Nat.le_refl _
    · have := ih (by omega)
      rw [extTo_succ, List.length_append]
      omega
def sp_extend_path (fu : Nat) (K : PySem.W.Frag) : Sp := fun vs H Q _ => ∃ (a : Addr) (t : Tk) (start last : Nat) (p v f : Addr) (path visited : List Nat) (F : List (List Nat)), vs = [.ref a, .int (start : Int), .int (last : Int), .ref p, .ref v, .ref f] ∧ TaskAt K H a t ∧
  (p ≠ f ∧ v ≠ f ∧ H p = some (.lst ((nat2 path).map V.int)) ∧ H v = some (.lst ((nat2 visited).map V.int)) ∧ Rows H f (F.map nat2)) ∧
  (path.length + fu ≤ 10 ∧ visited.length + fu = t.n + 1 ∧ visited.Nodup ∧ (∀ x ∈ visited, x < t.n) ∧ F.length + (ext t fu start last path visited).length < 5000) ∧
  ∀ H', But f H H' → Rows H' f ((F ++ ext t fu start last path visited).map nat2) → Q .non H'
theorem ext_zero (T : Tx K mg) : Has P w K mg base "extend_path" P_extend_path 1 (sp_extend_path 0 K) := by
  obtain ⟨fd, F⟩ := T.f_extend_path
  refine has_mk F T.g_extend_path (fun _ _ _ _ _ _ us hl => match us, hl with | [_, _, _, _, _, _], _ => rfl) (F.ok sc_extend_path (fun vs H Q E h => ?_) (fun cdv A outer s H vs Q E hr h => ?_))
  · obtain ⟨_, _, _, _, _, _, _, _, _, _, rfl, _⟩ := h; rfl
  · obtain ⟨a, t, start, last, p, v, f, path, visited, F, rfl, ht, _, ⟨_, hv, hn, hb, _⟩, q⟩ := h
    have := nodup_len t.n visited hn hb
    omega
theorem ext_succ (T : Tx K mg) (fu lvl : Nat) (hlvl : 1 ≤ lvl) (h_extend_path : Has P w K mg base "extend_path" P_extend_path lvl (sp_extend_path fu K)) : Has P w K mg base "extend_path" P_extend_path (lvl + 1) (sp_extend_path (fu + 1) K) := by
  have h_T_kind_number := has_T_kind_number (P := P) (w := w) (base := base) T
  obtain ⟨fd, F⟩ := T.f_extend_path
  refine has_mk F T.g_extend_path (fun _ _ _ _ _ _ us hl => match us, hl with | [_, _, _, _, _, _], _ => rfl) (F.ok sc_extend_path (fun vs H Q E h => ?_) (fun cdv A outer s H vs Q E hr h => ?_))
  · obtain ⟨_, _, _, _, _, _, _, _, _, _, rfl, _⟩ := h; rfl
  · obtain ⟨a, t, start, last, p, v, f, path, visited, F, rfl, ht, ⟨npf, nvf, hp, hv, hf⟩, ⟨b1, b2, b3, b4, b5⟩, q⟩ := h
    refine ⟨_, PSs.nox (pss_one (ps_for PassesOwn.never rfl (pi_enumT (by rfl) T.b_enumerate (pa_cons (k_fld (K := K) (pv 0) rfl) pa_nil)) (k_tupG (K := K) (n := 2) rfl (pgs_cons (pg_name (i := 6) sc_extend_path.nd rfl (.inl rfl)) (pgs_cons (pg_name (i := 7) sc_extend_path.nd rfl (.inl rfl)) pgs_nil))) (pss_cons (ps_if (pt_cmpR op_ne (pe_hm h_T_kind_number (hr.mono (by omega)) (pv 0) (pa_cons (pe_ix (k_ixT (K := K)) (pv 7) pe_int (fun _ _ => rfl)) pa_nil)) (pv 2) (nomark _)) (pss_one ps_continue) pss_nil)
      (pss_cons (ps_set (i := 8) sc_extend_path.nd rfl (.inl rfl) (pe_hm h_T_kind_number (hr.mono (by omega)) (pv 0) (pa_cons (pe_ix (k_ixT (K := K)) (pv 7) pe_int (fun _ _ => rfl)) pa_nil)))
      (pss_one (ps_if (pt_cmpR op_eq (pv 8) (pv 1) (nomark _)) (pss_one (ps_expr (k_bm (K := K) PySem.F.plainAttrs_list PySem.F.slot_list_append PySem.F.type_list_append mt_append (pv 5) (pa_cons (pe_op op_cat (pv 3) (pe_lst (pa_cons (pv 6) pa_nil))) pa_nil)))) (pss_one (ps_if (PW.pt (pw_and (pt_cmpR op_gt (pv 8) (pv 1) (nomark _)) (pw_and1 (pt_cmpR (k_notIn (K := K)) (pv 8) (pv 4) (by rfl))))) (pss_one (ps_expr (pe_hc h_extend_path (hr.mono (by omega)) (by rfl) (pa_cons (pv 0) (pa_cons (pv 1) (pa_cons (pv 8) (pa_cons (pe_op op_cat (pv 3) (pe_lst (pa_cons (pv 6) pa_nil))) (pa_cons (pe_op op_cat (pv 4) (pe_lst (pa_cons (pv 8) pa_nil))) (pa_cons (pv 5) pa_nil))))))))) pss_nil)))))))), ?_⟩
    have ok := ht.ok
    have eext : ext t (fu + 1) start last path visited = extTo t fu start last path visited t.m := rfl
    rw [eext] at q b5
    obtain ⟨_, dx, kt, wt, z, kvs, wvs, h1, h2, h3, h4, h5⟩ := id ht
    obtain ⟨fvs, hfv, _⟩ := id hf
    have nw : ∀ {b : Addr} {xs : List V}, H b = some (.tup xs) → b ≠ f := fun h => ne_of h hfv (by simp)
    have na : a ≠ f := ne_of h1 hfv (by simp)
    walk_at "go"
    refine x_ways T h1 ?_
    refine ⟨wt, wvs, rfl, SqT.of h3, loop_enumT (fun i σ' H' => ∃ y1 y2 y3, σ' = [some (.ref a), some (.int (start : Int)), some (.int (last : Int)), some (.ref p), some (.ref v), some (.ref f), y1, y2, y3] ∧ But f H H' ∧ Rows H' f ((F ++ extTo t fu start last path visited i).map nat2)) ⟨_, _, _, rfl, But.refl _ _, by
      have : extTo t fu start last path visited 0 = [] := rfl
      rw [this, List.append_nil]
      exact hf⟩ (fun i σ' H' _ ⟨_, _, _, _, e, _⟩ => SqT.of (e _ _ (nw h3) h3)) ?_ ?_⟩
    · rintro i x T' σ' H' hx hT ⟨y1, y2, y3, rfl, e, hr'⟩
      have him : i < t.m := by rw [← h5.1]; exact (List.getElem?_eq_some_iff.mp hx).1
      have hw := ok.way him
      have hle := extTo_le t fu start last path visited (show i + 1 ≤ t.m by omega)
      obtain ⟨pw, rfl, hpw⟩ := h5.2 i x hx
      have e0 := same_upd (o := .tup [V.int (i : Nat), V.ref pw]) (Same.refl H') hT
      refine r_tup2 rfl (SqT.of upd_same) ?_
      have e1 : But f H (upd H' T' (.tup [V.int (i : Nat), V.ref pw])) := e.trans (But.of e0)
      have hr1 := hr'.up e0
      generalize upd H' T' (.tup [V.int (i : Nat), V.ref pw]) = H1 at e1 hr1 ⊢
      have hpw1 := SqT.of (K := K) (e1 _ _ (nw hpw) hpw)
      walk_at "go"
      refine ⟨a, dx, _, rfl, e1 _ _ na h1, lk_kn z kt wt, ?_⟩
      walk_at "go"
      refine ⟨a, t, t.src i, rfl, ht.but hfv e1, hw.1, fun H2 e2 => ?_⟩
      have e3 := e1.trans (But.of e2)
      have hr2 := hr1.up e2
      have hpw2 := SqT.of (K := K) (e3 _ _ (nw hpw) hpw)
      walk_at "go"
      have es := extTo_succ t fu start last path visited i
      refine r_ite (fun c => ?_) (fun c => ?_)
      · have c : t.src i ≠ last := fun z => by rw [z] at c; simp at c
        walk_at "go"
        refine ⟨_, _, _, rfl, e3, ?_⟩
        rw [es, if_pos c, List.append_nil]
        exact hr2
      · have c : ¬ t.src i ≠ last := fun z => by
          have : ((t.src i : Nat) : Int) ≠ (last : Int) := by omega
          simp [this] at c
        rw [if_neg c] at es
        walk_at "go"
        refine ⟨a, dx, _, rfl, e3 _ _ na h1, lk_kn z kt wt, ?_⟩
        walk_at "go"
        refine ⟨a, t, t.tgt i, rfl, ht.but hfv e3, hw.2.1, fun H3 e4 => ?_⟩
        have e5 := e3.trans (But.of e4)
        have hr3 := hr2.up e4
        have hp3 := e5 _ _ npf hp
        have hv3 := e5 _ _ nvf hv
        walk_at "go"
        refine r_ite (fun c2 => ?_) (fun c2 => ?_)
        · have c2 : t.tgt i = start := by
            have : ((t.tgt i : Nat) : Int) = (start : Int) := by simpa using c2
            omega
          rw [if_pos c2] at es
          rw [es, List.length_append] at hle
          have hle' : (extTo t fu start last path visited i).length + 1 ≤ (extTo t fu start last path visited t.m).length := hle
          obtain ⟨gvs, hg, hgl, _⟩ := id hr3
          walk_at "go"
          refine ty_list hg ?_
          walk_at "go"
          refine ⟨by show 1 ≤ sizeLine; decide, fun l1 hl1 => ?_⟩
          have n1 : p ≠ l1 := ne_of_none hp3 hl1
          refine ⟨p, l1, _, _, rfl, rfl, by rw [upd_ne n1]; exact hp3, upd_same, Nat.le_trans (show _ ≤ 20 by simp [nat2]; omega) (by decide), fun l2 hl2 => ?_⟩
          have e6 : Same H3 (upd (upd H3 l1 (.lst [V.int (i : Nat)])) l2 (.lst ((nat2 path).map V.int ++ [V.int (i : Nat)]))) := (same_upd (Same.refl _) hl1).trans (same_upd (Same.refl _) hl2)
          have hg6 := e6 _ _ hg
          have n2 : l2 ≠ f := fun z => by
            subst z
            have : l2 ≠ l1 := fun z => by subst z; rw [upd_same] at hl2; cases hl2
            rw [upd_ne this, hg] at hl2
            cases hl2
          walk_at "go"
          refine r_append hg6 (Nat.lt_of_lt_of_le (show _ < 10000 by rw [hgl, List.length_map, List.length_append]; omega) (by decide)) ?_
          refine ⟨_, _, _, rfl, (e5.trans (But.of e6)).mut, ?_⟩
          rw [es, ← List.append_assoc, List.map_append]
          have el : (nat2 path).map V.int ++ [V.int (i : Nat)] = (nat2 (path ++ [i])).map V.int := by simp [nat2]
          exact Rows.snoc (x := nat2 (path ++ [i])) (hr3.up e6) hg6 (by rw [el]; exact upd_same) n2
        · have c2 : ¬ t.tgt i = start := by
            have : ¬ ((t.tgt i : Nat) : Int) = (start : Int) := by simpa using c2
            omega
          rw [if_neg c2] at es
          walk_at "go"
          refine r_ite (fun c3 => ?_) (fun c3 => ?_)
          · have c3 := of_decide_eq_true c3
            walk_at "go"
            refine ⟨v, _, rfl, .inl (SqL.of hv3), rfl, flat_ints _, ?_⟩
            rw [inV_ints]
            walk_at "go"
            refine r_ite (fun c4 => ?_) (fun c4 => ?_)
            · have c4 : t.tgt i ∉ visited := by simpa [mem_nat2] using c4
              rw [if_pos ⟨by omega, c4⟩] at es
              rw [es, List.length_append] at hle
              walk_at "go"
              refine ⟨by show 1 ≤ sizeLine; decide, fun l1 hl1 => ?_⟩
              have n1 : p ≠ l1 := ne_of_none hp3 hl1
              refine ⟨p, l1, _, _, rfl, rfl, by rw [upd_ne n1]; exact hp3, upd_same, Nat.le_trans (show _ ≤ 20 by simp [nat2]; omega) (by decide), fun l2 hl2 => ?_⟩
              walk_at "go"
              have e6 : Same H3 (upd (upd H3 l1 (.lst [V.int (i : Nat)])) l2 (.lst ((nat2 path).map V.int ++ [V.int (i : Nat)]))) := (same_upd (Same.refl _) hl1).trans (same_upd (Same.refl _) hl2)
              have hl2v : (upd (upd H3 l1 (.lst [V.int (i : Nat)])) l2 (.lst ((nat2 path).map V.int ++ [V.int (i : Nat)]))) l2 = some (.lst ((nat2 (path ++ [i])).map V.int)) := by
                rw [upd_same]
                simp [nat2]
              obtain ⟨gvs, hg, hgl, _⟩ := id hr3
              have n2 : l2 ≠ f := (ne_of_none ((same_upd (Same.refl H3) hl1) _ _ hg) hl2).symm
              generalize (upd (upd H3 l1 (.lst [V.int (i : Nat)])) l2 (.lst ((nat2 path).map V.int ++ [V.int (i : Nat)]))) = H4 at e6 hl2v ⊢
              refine ⟨by show 1 ≤ sizeLine; decide, fun l3 hl3 => ?_⟩
              have n3 : v ≠ l3 := ne_of_none (e6 _ _ hv3) hl3
              refine ⟨v, l3, _, _, rfl, rfl, by rw [upd_ne n3]; exact e6 _ _ hv3, upd_same, Nat.le_trans (show _ ≤ 20 by simp [nat2]; have := ok.n3; omega) (by decide), fun l4 hl4 => ?_⟩
              walk_at "go"
              have e7 : Same H4 (upd (upd H4 l3 (.lst [V.int (t.tgt i : Nat)])) l4 (.lst ((nat2 visited).map V.int ++ [V.int (t.tgt i : Nat)]))) := (same_upd (Same.refl _) hl3).trans (same_upd (Same.refl _) hl4)
              have hl4v : (upd (upd H4 l3 (.lst [V.int (t.tgt i : Nat)])) l4 (.lst ((nat2 visited).map V.int ++ [V.int (t.tgt i : Nat)]))) l4 = some (.lst ((nat2 (visited ++ [t.tgt i])).map V.int)) := by
                rw [upd_same]
                simp [nat2]
              have n4 : l4 ≠ f := (ne_of_none ((same_upd (Same.refl H4) hl3) _ _ (e6 _ _ hg)) hl4).symm
              generalize (upd (upd H4 l3 (.lst [V.int (t.tgt i : Nat)])) l4 (.lst ((nat2 visited).map V.int ++ [V.int (t.tgt i : Nat)]))) = H5 at e7 hl4v ⊢
              have e8 := e5.trans (But.of (e6.trans e7))
              have hvis : (visited ++ [t.tgt i]).Nodup := by
                rw [List.nodup_append]
                refine ⟨b3, by simp, fun x hx y hy => ?_⟩
                have : y = t.tgt i := by simpa using hy
                subst this
                exact fun z => c4 (z ▸ hx)
              refine ⟨a, t, start, t.tgt i, l2, l4, f, path ++ [i], visited ++ [t.tgt i], F ++ extTo t fu start last path visited i, rfl, ht.but hfv e8, ⟨n2, n4, e7 _ _ hl2v, hl4v, hr3.up (e6.trans e7)⟩, ⟨by rw [List.length_append, List.length_singleton]; omega, by rw [List.length_append, List.length_singleton]; omega, hvis, fun x hx => ?_, by rw [List.length_append]; omega⟩, fun H6 e9 hr6 => ?_⟩
              · rcases List.mem_append.mp hx with hx | hx
                · exact b4 x hx
                · have : x = t.tgt i := by simpa using hx
                  rw [this]; exact hw.2.1
              · walk_at "go"
                refine ⟨_, _, _, rfl, e8.trans e9, ?_⟩
                rw [es, ← List.append_assoc]
                exact hr6
            · have c4 : ¬ t.tgt i ∉ visited := by simpa [mem_nat2] using c4
              rw [if_neg (fun z => c4 z.2), List.append_nil] at es
              walk_at "go"
              refine ⟨_, _, _, rfl, e5, ?_⟩
              rw [es]
              exact hr3
          · have c3 := of_decide_eq_false c3
            rw [if_neg (fun z => c3 (by have := z.1; omega)), List.append_nil] at es
            walk_at "go"
            refine ⟨_, _, _, rfl, e5, ?_⟩
            rw [es]
            exact hr3
    · rintro σ' H' ⟨y1, y2, y3, rfl, e, hr'⟩
      walk_at "go"
      rw [h5.1] at hr'
      exact q _ e hr'
end
end NL
end
-- part A8
section
set_option Elab.async false
set_option linter.all false
set_option maxRecDepth 100000
set_option maxHeartbeats 4000000
namespace NL
open PySem PySem.Spec PyProof.Rows L2
open He (ga ma)
local macro_rules | `(tactic| walk_at "go1") => `(tactic| first
  | ((with_reducible refine' r_var ?hv ?_); (case hv => rfl))
  | with_reducible refine r_c ?_
  | with_reducible refine r_op ?_
  | with_reducible refine r_un ?_
  | with_reducible refine r_I0 ?_
  | with_reducible refine r_U ?_
  | ((with_reducible refine' r_ixT ?h1 ?h2 ?_); (case h1 => assumption); (case h2 => rfl))
  | ((with_reducible refine' r_ixL ?h1 ?h2 ?_); (case h1 => assumption); (case h2 => rfl))
  | with_reducible refine r_nil ?_
  | with_reducible refine r_cons ?_
  | with_reducible refine r_cb ?_
  | with_reducible refine r_call ?_
  | with_reducible refine r_ck ?_
  | with_reducible refine r_prop ?_
  | with_reducible refine r_gSub ?_
  | ((with_reducible refine' r_seqAug2 ?hv ?_); (case hv => rfl))
  | ((with_reducible refine' r_aug2 ?hv ?_); (case hv => rfl))
  | with_reducible refine r_ipI ?_
  | with_reducible refine r_seqAugS ?_
  | with_reducible refine r_augS ?_
  | with_reducible refine r_cont ?_
  | with_reducible refine r_brk ?_
  | with_reducible refine r_tt ?_
  | with_reducible refine r_ff ?_
  | with_reducible refine r_test ?_
  | with_reducible refine r_B ?_
  | with_reducible refine r_not ?_
  | with_reducible refine r_and ?_
  | with_reducible refine r_or ?_
  | with_reducible refine r_tup ?_
  | with_reducible refine r_lst ?_
  | with_reducible refine r_bl ?_
  | with_reducible refine r_max2 ?_
  | with_reducible refine r_min2 ?_
  | with_reducible refine r_abs ?_
  | with_reducible refine r_int1b ?_
  | with_reducible refine r_isN1 ?_
  | with_reducible refine r_isN2 ?_
  | with_reducible refine r_isN3 ?_
  | with_reducible refine r_notN1 ?_
  | with_reducible refine r_notN2 ?_
  | with_reducible refine r_notN3 ?_
  | with_reducible refine r_isN ?_
  | with_reducible refine r_notN ?_
  | with_reducible refine r_notBl ?_
  | ((with_reducible refine r_eq ?h1 ?_); (case h1 => rfl))
  | ((with_reducible refine r_ne ?h1 ?_); (case h1 => rfl))
  | with_reducible refine r_fld ?_
  | with_reducible refine r_sl ?_
  | with_reducible refine r_noPart ?_
  | with_reducible refine r_part ?_
  | with_reducible refine r_xint ?_
  | with_reducible refine r_bm ?_
  | with_reducible refine r_meth ?_
  | with_reducible refine r_callN ?_
  | ((with_reducible refine' r_lenQ ?h1 ?_); (case h1 => first | assumption | exact Or.inl (by assumption) | exact Or.inr (by assumption)))
  | with_reducible refine r_seqN ?_
  | with_reducible refine r_asgN ?_
  | with_reducible refine r_seqIf ?_
  | with_reducible refine r_seqFor ?_
  | with_reducible refine r_for ?_
  | with_reducible refine r_rng1 ?_
  | with_reducible refine r_rng2 ?_
  | with_reducible refine r_rng3 ?_
  | with_reducible refine r_itL ?_
  | with_reducible refine r_itT ?_
  | with_reducible refine r_lc ?_
  | with_reducible refine r_yes ?_
  | with_reducible refine r_itE ?_
  | with_reducible refine r_itEL ?_
  | with_reducible refine r_gN ?_
  | with_reducible refine r_seqA ?_
  | with_reducible refine r_asgA ?_
  | with_reducible refine r_if ?_
  | with_reducible refine r_retD ?_
  | with_reducible refine r_ret ?_
  | with_reducible refine r_seqDrop ?_
  | with_reducible refine r_drop ?_
  | with_reducible refine r_next ?_)
local macro_rules | `(tactic| walk_at "go") => `(tactic| (repeat walk_at "go1"))

section
variable {P : Program} {w : World} {K : PySem.W.Frag} {mg : Str → Option Value} {base : Heap}
theorem ext_all (T : Tx K mg) : ∀ fu : Nat, Has P w K mg base "extend_path" P_extend_path (1 + fu) (sp_extend_path fu K)
  | 0 => ext_zero T
  | fu + 1 => by
    have h := ext_succ T fu (1 + fu) (by omega) (ext_all T fu)
    rwa [Nat.add_assoc] at h
theorem has_extend_path (T : Tx K mg) (fu : Nat) (h : fu ≤ 3) : Has P w K mg base "extend_path" P_extend_path 4 (sp_extend_path fu K) := (ext_all T fu).mono (by omega)
abbrev N_circuits : List Str := ["task", "found", "start"]
abbrev P_circuits : List Str := ["task"]
theorem sc_circuits : FnScope N_circuits P_circuits (defScope s_circuits) := ⟨rfl, rfl, rfl, by decide +kernel, rfl, by decide +kernel, by decide +kernel⟩
def sp_circuits (K : PySem.W.Frag) : Sp := fun vs H Q _ => ∃ (a : Addr) (t : Tk), vs = [.ref a] ∧ TaskAt K H a t ∧ ∀ H' f, Same H H' → H f = none → Rows H' f ((circ t).map nat2) → Q (.ref f) H'
def circTo (t : Tk) (i : Nat) : List (List Nat) := (List.range i).flatMap fun s => ext t t.n s s [] [s]
theorem circTo_succ (t : Tk) (i : Nat) : circTo t (i + 1) = circTo t i ++ ext t t.n i i [] [i] := by
  unfold circTo
  rw [List.range_succ, List.flatMap_append]
  simp
theorem circTo_le (t : Tk) {i j : Nat} (h : i ≤ j) : (circTo t i).length ≤ (circTo t j).length := by
  induction j with
  | zero => have : i = 0 := by omega
            subst this; exact Nat.le_refl _
  | succ j ih =>
    by_cases e : i = j + 1
    · subst e; exact Nat.le_refl _
    · have := ih (by omega)
      rw [circTo_succ, List.length_append]
      omega
theorem has_circuits (T : Tx K mg) : Has P w K mg base "circuits" P_circuits 5 (sp_circuits K) := by
  have h_extend_path := has_extend_path (P := P) (w := w) (base := base) T
  obtain ⟨fd, F⟩ := T.f_circuits
  refine has_mk F T.g_circuits (fun _ _ _ _ _ _ us hl => match us, hl with | [_], _ => rfl) (F.ok sc_circuits (fun vs H Q E h => ?_) (fun cdv A outer s H vs Q E hr h => ?_))
  · obtain ⟨_, _, rfl, _⟩ := h; rfl
  · obtain ⟨a, t, rfl, ht, q⟩ := h
    have ok := ht.ok
    have h_extend_path := h_extend_path t.n ok.n3
    refine ⟨_, PSs.nox (pss_cons (ps_set (i := 1) sc_circuits.nd rfl (.inl rfl) (pe_lst pa_nil))
      (pss_cons (ps_for PassesOwn.never rfl (pi_range1 rfl T.b_range (pa_cons (pe_callB (k_len (K := K)) (by rfl) T.b_len PySem.boot_len (pa_cons (k_fld (K := K) (pv 0) rfl) pa_nil)) pa_nil)) (pg_name (i := 2) sc_circuits.nd rfl (.inl rfl)) (pss_one (ps_expr (pe_hc h_extend_path (hr.mono (by decide)) (by rfl) (pa_cons (pv 0) (pa_cons (pv 2) (pa_cons (pv 2) (pa_cons (pe_lst pa_nil) (pa_cons (pe_lst (pa_cons (pv 2) pa_nil)) (pa_cons (pv 1) pa_nil))))))))))
      (pss_one (ps_ret (pv 1))))), ?_⟩
    obtain ⟨_, dx, kt, wt, z, kvs, wvs, h1, h2, h3, h4, h5⟩ := id ht
    have hcl : (circTo t t.n).length ≤ 375 := circ_len t ok
    walk_at "go"
    refine ⟨by decide, fun f hf => ?_⟩
    have e0 := same_upd (o := .lst []) (Same.refl H) hf
    walk_at "go"
    refine x_kinds T (e0 _ _ h1) ?_
    walk_at "go"
    refine ⟨kt, _, rfl, .inr (SqT.of (e0 _ _ h2)), ?_⟩
    have hn3 := ok.n3
    refine ⟨_, rfl, by omega, by rw [h4.1]; omega, ?_⟩
    rw [h4.1, Int.toNat_natCast]
    refine loop_range (fun i σ' H' => ∃ y, σ' = [some (.ref a), some (.ref f), y] ∧ Same H H' ∧ Rows H' f ((circTo t i).map nat2)) ⟨_, rfl, e0, [], upd_same, rfl, fun i v q => by simp at q⟩ ?_ ?_
    · rintro i σ' H' hi ⟨y, rfl, e, hr⟩
      walk_at "go"
      rw [Int.zero_add]
      have hle := circTo_le t (show i + 1 ≤ t.n by omega)
      rw [circTo_succ, List.length_append] at hle
      refine ⟨by decide, fun l1 hl1 => ?_⟩
      walk_at "go"
      refine ⟨by show 1 ≤ sizeLine; decide, fun l2 hl2 => ?_⟩
      walk_at "go"
      obtain ⟨fvs, hfv, _⟩ := id hr
      have e1 := same_upd (o := .lst []) (Same.refl H') hl1
      have e2 := same_upd (o := .lst [V.int (i : Nat)]) e1 hl2
      have n1 : l1 ≠ f := (ne_of_none hfv hl1).symm
      have n2 : l2 ≠ f := (ne_of_none (e1 _ _ hfv) hl2).symm
      have n12 : l1 ≠ l2 := ne_of_none (o := .lst []) upd_same hl2
      refine ⟨a, t, i, i, l1, l2, f, [], [i], circTo t i, rfl, (ht.up e).up e2, ⟨n1, n2, by rw [upd_ne n12]; exact upd_same, upd_same, hr.up e2⟩, ⟨by simp; omega, by simp; omega, by simp, fun x hx => ?_, by omega⟩, fun H6 e9 hr6 => ?_⟩
      · have : x = i := by simpa using hx
        omega
      · refine ⟨_, rfl, fun b o hb => ?_, ?_⟩
        · exact e9 _ _ (ne_of_none hb hf) (e2 _ _ (e _ _ hb))
        · rw [circTo_succ]
          exact hr6
    · rintro σ' H' ⟨y, rfl, e, hr⟩
      walk_at "go"
      exact q _ f e hf hr
abbrev N_circuit_mean : List Str := ["task", "circuit", "cost", "distance", "number", "way"]
abbrev P_circuit_mean : List Str := ["task", "circuit"]
theorem sc_circuit_mean : FnScope N_circuit_mean P_circuit_mean (defScope s_circuit_mean) := ⟨rfl, rfl, rfl, by decide +kernel, rfl, by decide +kernel, by decide +kernel⟩
def sp_circuit_mean (K : PySem.W.Frag) : Sp := fun vs H Q _ => ∃ (a : Addr) (t : Tk) (p : Addr) (c : List Nat), vs = [.ref a, .ref p] ∧ TaskAt K H a t ∧ H p = some (.lst ((nat2 c).map V.int)) ∧ c ≠ [] ∧ c.length ≤ 3 ∧ (∀ i ∈ c, i < t.m) ∧
  ∀ H' p x y, Same H H' → H p = none → H' p = some (.tup [.int x, .int y]) → x * dists t c = costs t c * y → 1 ≤ y → y ≤ 18 → 0 ≤ x → x ≤ 2880 → Nat.gcd x.natAbs y.natAbs = 1 → Q (.ref p) H'
theorem take_snoc {c : List Nat} {i k : Nat} (h : c[i]? = some k) : c.take (i + 1) = c.take i ++ [k] := by
  rw [List.take_add_one, h]
  rfl
theorem costs_one (t : Tk) (k : Nat) : costs t [k] = t.cost (t.src k) := by simp [costs]
theorem dists_one (t : Tk) (k : Nat) : dists t [k] = (t.dst k : Int) := by simp [dists]
theorem has_circuit_mean (T : Tx K mg) : Has P w K mg base "circuit_mean" P_circuit_mean 3 (sp_circuit_mean K) := by
  have h_T_cost := has_T_cost (P := P) (w := w) (base := base) T
  have h_make_ratio := has_make_ratio (P := P) (w := w) (base := base) T
  obtain ⟨fd, F⟩ := T.f_circuit_mean
  refine has_mk F T.g_circuit_mean (fun _ _ _ _ _ _ us hl => match us, hl with | [_, _], _ => rfl) (F.ok sc_circuit_mean (fun vs H Q E h => ?_) (fun cdv A outer s H vs Q E hr h => ?_))
  · obtain ⟨_, _, _, _, rfl, _⟩ := h; rfl
  · obtain ⟨a, t, p, c, rfl, ht, hp, hne, hl3, hm, q⟩ := h
    have ok := ht.ok
    refine ⟨_, PSs.nox (pss_cons (ps_set (i := 2) sc_circuit_mean.nd rfl (.inl rfl) pe_int)
      (pss_cons (ps_set (i := 3) sc_circuit_mean.nd rfl (.inl rfl) pe_int)
      (pss_cons (ps_for PassesOwn.never rfl (k_list (K := K) (pv 1)) (pg_name (i := 4) sc_circuit_mean.nd rfl (.inl rfl)) (pss_cons (ps_set (i := 5) sc_circuit_mean.nd rfl (.inl rfl) (pe_ix (k_ixT (K := K)) (k_fld (K := K) (pv 0) rfl) (pv 4) (fun _ _ => rfl)))
      (pss_cons (ps_aug (i := 2) sc_circuit_mean.nd rfl (.inl rfl) (pe_hm h_T_cost (hr.mono (by decide)) (pv 0) (pa_cons (pe_ix (k_ixT (K := K)) (pv 5) pe_int (fun _ _ => rfl)) pa_nil)) ip_add)
      (pss_one (ps_aug (i := 3) sc_circuit_mean.nd rfl (.inl rfl) (pe_ix (k_ixT (K := K)) (pv 5) pe_int (fun _ _ => rfl)) ip_add)))))
      (pss_one (ps_ret (pe_hc h_make_ratio (hr.mono (by decide)) (by rfl) (pa_cons (pv 2) (pa_cons (pv 3) pa_nil)))))))), ?_⟩
    obtain ⟨_, dx, kt, wt, z, kvs, wvs, h1, h2, h3, h4, h5⟩ := id ht
    walk_at "go"
    refine ⟨p, rfl, ⟨_, SqL.of hp⟩, loop_list (fun i σ' H' => ∃ y1 y2, σ' = [some (.ref a), some (.ref p), some (.int (costs t (c.take i))), some (.int (dists t (c.take i))), y1, y2] ∧ Same H H') ⟨_, _, rfl, Same.refl _⟩ (fun i σ' H' _ ⟨_, _, _, e⟩ => SqL.of (e _ _ hp)) ?_ ?_⟩
    · rintro i x σ' H' hx ⟨y1, y2, rfl, e⟩
      obtain ⟨k, hk, rfl⟩ : ∃ k, c[i]? = some k ∧ x = V.int (k : Nat) := by
        unfold nat2 at hx
        rw [List.getElem?_map, List.getElem?_map] at hx
        cases ec : c[i]? with
        | none => rw [ec] at hx; cases hx
        | some k => rw [ec] at hx; exact ⟨k, rfl, (Option.some.inj hx).symm⟩
      have hkm := hm k (List.mem_of_getElem? hk)
      obtain ⟨v, hv⟩ : ∃ v, wvs[k]? = some v := ⟨wvs[k]'(by have := h5.1; omega), List.getElem?_eq_getElem _⟩
      obtain ⟨pw, rfl, hpw⟩ := h5.2 k v hv
      walk_at "go"
      refine x_ways T (e _ _ h1) ?_
      walk_at "go"
      refine r_ixT (SqT.of (e _ _ h3)) (atI_nat hv) ?_
      have hpw1 := SqT.of (K := K) (e _ _ hpw)
      walk_at "go"
      refine ⟨a, dx, _, rfl, e _ _ h1, lk_co z kt wt, ?_⟩
      walk_at "go"
      refine ⟨a, t, t.src k, rfl, ht.up e, (ok.way hkm).1, fun H1 e1 => ?_⟩
      have hpw2 := SqT.of (K := K) (e1 _ _ (e _ _ hpw))
      walk_at "go"
      refine ⟨some (.int (k : Nat)), some (.ref pw), ?_, e.trans e1⟩
      rw [take_snoc hk, costs_app, dists_app, costs_one, dists_one]
      rfl
    · rintro σ' H' ⟨y1, y2, rfl, e⟩
      have el : ((nat2 c).map V.int).length = c.length := by simp [nat2]
      rw [el, List.take_length]
      have b1 := costs_bd t ok c hm
      have b2 := dists_bd t ok c hm
      have : 1 ≤ c.length := by
        cases c with
        | nil => exact absurd rfl hne
        | cons _ _ => simp
      walk_at "go"
      refine ⟨_, _, rfl, b1.1, by omega, by omega, fun H2 p2 x y e2 hp0 hp2 hxy y1 yl x0 xl gc => ?_⟩
      exact q _ p2 x y (e.trans e2) (e.free hp0) hp2 hxy y1 (by omega) x0 (by omega) gc
abbrev N_best_circuit : List Str := ["task", "best", "greatest", "circuit", "mean"]
abbrev P_best_circuit : List Str := ["task"]
theorem sc_best_circuit : FnScope N_best_circuit P_best_circuit (defScope s_best_circuit) := ⟨rfl, rfl, rfl, by decide +kernel, rfl, by decide +kernel, by decide +kernel⟩
def sp_best_circuit (K : PySem.W.Frag) : Sp := fun vs H Q _ => ∃ (a : Addr) (t : Tk), vs = [.ref a] ∧ TaskAt K H a t ∧ ∀ H' p c, Same H H' → H' p = some (.lst ((nat2 c).map V.int)) → BestC t c → Q (.ref p) H'
/-- the best so far -/
def BestTo (t : Tk) (i : Nat) (c : List Nat) (x y : Int) : Prop := (c = [] ∧ x = 0 ∧ y = 1 ∨ c ∈ circ t ∧ x * dists t c = costs t c * y) ∧ 1 ≤ y ∧ y ≤ 18 ∧ 0 ≤ x ∧ x ≤ 2880 ∧ ∀ d ∈ (circ t).take i, costs t d * y ≤ x * dists t d
theorem bestTo_end {t : Tk} (ok : t.Ok) {c : List Nat} {x y : Int} (h : BestTo t (circ t).length c x y) : BestC t c := by
  obtain ⟨h1, h2, _, h3, _, h4⟩ := h
  rw [List.take_length] at h4
  rcases h1 with ⟨rfl, rfl, rfl⟩ | ⟨hc, e⟩
  · refine .inl ⟨rfl, fun d hd => ?_⟩
    have := h4 d hd
    rw [Int.zero_mul, Int.mul_one] at this
    exact this
  · exact .inr ⟨hc, fun d hd => by
      have a := h4 d hd
      have b := circ_d t ok hc
      have dd := circ_d t ok hd
      have a2 : costs t d * y * dists t c ≤ x * dists t d * dists t c := Int.mul_le_mul_of_nonneg_right a (by omega)
      have e1 : costs t d * y * dists t c = costs t d * dists t c * y := Int.mul_right_comm ..
      have e2 : x * dists t d * dists t c = x * dists t c * dists t d := Int.mul_right_comm ..
      have e3 : costs t c * y * dists t d = costs t c * dists t d * y := Int.mul_right_comm ..
      rw [e1, e2, e, e3] at a2
      exact Int.le_of_mul_le_mul_right a2 (by omega)⟩
theorem has_best_circuit (T : Tx K mg) : Has P w K mg base "best_circuit" P_best_circuit 6 (sp_best_circuit K) := by
  have h_circuit_mean := has_circuit_mean (P := P) (w := w) (base := base) T
  have h_circuits := has_circuits (P := P) (w := w) (base := base) T
  have h_compare_ratios := has_compare_ratios (P := P) (w := w) (base := base) T
  have h_make_ratio := has_make_ratio (P := P) (w := w) (base := base) T
  obtain ⟨fd, F⟩ := T.f_best_circuit
  refine has_mk F T.g_best_circuit (fun _ _ _ _ _ _ us hl => match us, hl with | [_], _ => rfl) (F.ok sc_best_circuit (fun vs H Q E h => ?_) (fun cdv A outer s H vs Q E hr h => ?_))
  · obtain ⟨_, _, rfl, _⟩ := h; rfl
  · obtain ⟨a, t, rfl, ht, q⟩ := h
    have ok := ht.ok
    refine ⟨_, PSs.nox (pss_cons (ps_set (i := 1) sc_best_circuit.nd rfl (.inl rfl) (pe_lst pa_nil))
      (pss_cons (ps_set (i := 2) sc_best_circuit.nd rfl (.inl rfl) (pe_hc h_make_ratio (hr.mono (by decide)) (by rfl) (pa_cons pe_int (pa_cons pe_int pa_nil))))
      (pss_cons (ps_for PassesOwn.never rfl (k_list (K := K) (pe_hc h_circuits (hr.mono (by decide)) (by rfl) (pa_cons (pv 0) pa_nil))) (pg_name (i := 3) sc_best_circuit.nd rfl (.inl rfl)) (pss_cons (ps_set (i := 4) sc_best_circuit.nd rfl (.inl rfl) (pe_hc h_circuit_mean (hr.mono (by decide)) (by rfl) (pa_cons (pv 0) (pa_cons (pv 3) pa_nil))))
      (pss_one (ps_if (pt_cmpR op_gt (pe_hc h_compare_ratios (hr.mono (by decide)) (by rfl) (pa_cons (pv 4) (pa_cons (pv 2) pa_nil))) pe_int (nomark _)) (pss_cons (ps_set (i := 1) sc_best_circuit.nd rfl (.inl rfl) (pv 3))
      (pss_one (ps_set (i := 2) sc_best_circuit.nd rfl (.inl rfl) (pv 4)))) pss_nil))))
      (pss_one (ps_ret (pv 1)))))), ?_⟩
    walk_at "go"
    refine ⟨by decide, fun l hl => ?_⟩
    have e0 := same_upd (o := .lst []) (Same.refl H) hl
    walk_at "go"
    refine ⟨0, 1, rfl, by decide, by decide, by decide, fun H1 pg x y e1 hp0 hpg hxy y1 yl x0 xl gc => ?_⟩
    walk_at "go"
    refine ⟨a, t, rfl, (ht.up e0).up e1, fun H2 f e2 hf0 hf => ?_⟩
    obtain ⟨fvs, hfv, hfl, hfr⟩ := id hf
    rw [List.length_map] at hfl
    have e02 := (e0.trans e1).trans e2
    refine ⟨f, rfl, ⟨_, SqL.of hfv⟩, loop_list (fun i σ' H' => ∃ (bp gp : Addr) (c : List Nat) (x y : Int) (y1 y2 : Option V), σ' = [some (.ref a), some (.ref bp), some (.ref gp), y1, y2] ∧ Same H2 H' ∧ H' bp = some (.lst ((nat2 c).map V.int)) ∧ H' gp = some (.tup [.int x, .int y]) ∧ BestTo t i c x y)
      ⟨l, pg, [], x, y, _, _, rfl, Same.refl _, e2 _ _ (e1 _ _ upd_same), e2 _ _ hpg, .inl ⟨rfl, by omega, by omega⟩, by omega, by omega, by omega, by omega, fun d hd => by simp at hd⟩ (fun i σ' H' _ ⟨_, _, _, _, _, _, _, _, e, _⟩ => SqL.of (e _ _ hfv)) ?_ ?_⟩
    · rintro i v σ' H' hx ⟨bp, gp, c, x, y, z1, z2, rfl, e, hb, hg, hB⟩
      obtain ⟨pc, rfl, hne, hpc⟩ := hfr i v hx
      obtain ⟨d, hd, hpc⟩ : ∃ d, (circ t)[i]? = some d ∧ H2 pc = some (.lst ((nat2 d).map V.int)) := by
        have hi : i < (circ t).length := by
          have := (List.getElem?_eq_some_iff.mp hx).1
          omega
        refine ⟨_, List.getElem?_eq_getElem hi, ?_⟩
        rw [List.getD_eq_getElem?_getD, List.getElem?_map, List.getElem?_eq_getElem hi] at hpc
        exact hpc
      have hdm : d ∈ circ t := List.mem_of_getElem? hd
      obtain ⟨f1, f2, f3⟩ := circ_facts t ok hdm
      have hdd := circ_d t ok hdm
      have etk : (circ t).take (i + 1) = (circ t).take i ++ [d] := by
        rw [List.take_add_one, hd]
        rfl
      obtain ⟨B1, B2, B3, B4, B5, B6⟩ := id hB
      walk_at "go"
      refine ⟨a, t, pc, d, rfl, (ht.up e02).up e, e _ _ hpc, f1, f2, f3, fun H3 pm x' y' e3 hm0 hpm hxy' y1' yl' x0' xl' gc => ?_⟩
      walk_at "go"
      have hg3 := e3 _ _ hg
      refine ⟨pm, gp, x', y', x, y, rfl, SqT.of hpm, SqT.of hg3, ⟨by omega, by omega, by omega, by omega⟩, fun lt => ?_, fun gt => ?_, fun eq => ?_⟩
      · walk_at "go"
        refine r_ite (fun z => absurd (of_decide_eq_true z) (by decide)) (fun _ => ?_)
        walk_at "go"
        refine ⟨bp, gp, c, x, y, _, _, rfl, e.trans e3, e3 _ _ hb, hg3, B1, B2, B3, B4, B5, fun d' hd' => ?_⟩
        rw [etk] at hd'
        rcases List.mem_append.mp hd' with h | h
        · exact B6 d' h
        · have : d' = d := by simpa using h
          subst this
          exact rat_in hxy' y1' (by omega) (by omega)
      · walk_at "go"
        refine r_ite (fun _ => ?_) (fun z => absurd (of_decide_eq_false z) (by decide))
        walk_at "go"
        refine ⟨pc, pm, d, x', y', _, _, rfl, e.trans e3, e3 _ _ (e _ _ hpc), hpm, .inr ⟨hdm, hxy'⟩, y1', yl', x0', xl', fun d' hd' => ?_⟩
        rw [etk] at hd'
        rcases List.mem_append.mp hd' with h | h
        · exact rat_up (B6 d' h) B2 y1' (by have := circ_d t ok (List.mem_of_mem_take h); omega) (by omega)
        · have : d' = d := by simpa using h
          subst this
          rw [hxy']
          exact Int.le_refl _
      · walk_at "go"
        refine r_ite (fun z => absurd (of_decide_eq_true z) (by decide)) (fun _ => ?_)
        walk_at "go"
        refine ⟨bp, gp, c, x, y, _, _, rfl, e.trans e3, e3 _ _ hb, hg3, B1, B2, B3, B4, B5, fun d' hd' => ?_⟩
        rw [etk] at hd'
        rcases List.mem_append.mp hd' with h | h
        · exact B6 d' h
        · have : d' = d := by simpa using h
          subst this
          exact rat_in hxy' y1' (by omega) (by omega)
    · rintro σ' H' ⟨bp, gp, c, x, y, z1, z2, rfl, e, hb, hg, hB⟩
      walk_at "go"
      rw [hfl] at hB
      exact q _ bp c (e02.trans e) hb (bestTo_end ok hB)
abbrev N_share : List Str := ["task", "best"]
abbrev P_share : List Str := ["task"]
theorem sc_share : FnScope N_share P_share (defScope s_share) := ⟨rfl, rfl, rfl, by decide +kernel, rfl, by decide +kernel, by decide +kernel⟩
def sp_share (K : PySem.W.Frag) : Sp := fun vs H Q _ => ∃ (a : Addr) (t : Tk), vs = [.ref a] ∧ TaskAt K H a t ∧ ∀ H' p x y, Same H H' → H' p = some (.tup [.int x, .int y]) → ShareOk t x y → Q (.ref p) H'
theorem has_share (T : Tx K mg) : Has P w K mg base "share" P_share 7 (sp_share K) := by
  have h_best_circuit := has_best_circuit (P := P) (w := w) (base := base) T
  have h_circuit_mean := has_circuit_mean (P := P) (w := w) (base := base) T
  have h_make_ratio := has_make_ratio (P := P) (w := w) (base := base) T
  obtain ⟨fd, F⟩ := T.f_share
  refine has_mk F T.g_share (fun _ _ _ _ _ _ us hl => match us, hl with | [_], _ => rfl) (F.ok sc_share (fun vs H Q E h => ?_) (fun cdv A outer s H vs Q E hr h => ?_))
  · obtain ⟨_, _, rfl, _⟩ := h; rfl
  · obtain ⟨a, t, rfl, ht, q⟩ := h
    have ok := ht.ok
    refine ⟨_, PSs.nox (pss_cons (ps_set (i := 1) sc_share.nd rfl (.inl rfl) (pe_hc h_best_circuit (hr.mono (by decide)) (by rfl) (pa_cons (pv 0) pa_nil)))
      (pss_cons (ps_if (pt_cmpR op_eq (pe_callB (k_len (K := K)) (by rfl) T.b_len PySem.boot_len (pa_cons (pv 1) pa_nil)) pe_int (nomark _)) (pss_one (ps_ret (pe_hc h_make_ratio (hr.mono (by decide)) (by rfl) (pa_cons pe_int (pa_cons pe_int pa_nil))))) pss_nil)
      (pss_one (ps_ret (pe_hc h_circuit_mean (hr.mono (by decide)) (by rfl) (pa_cons (pv 0) (pa_cons (pv 1) pa_nil))))))), ?_⟩
    walk_at "go"
    refine ⟨a, t, rfl, ht, fun H1 p c e1 hp hB => ?_⟩
    walk_at "go"
    refine ⟨p, _, rfl, .inl (SqL.of hp), ?_⟩
    walk_at "go"
    refine r_ite (fun z => ?_) (fun z => ?_)
    · walk_at "go"
      have hc : c = [] := by
        have : (((nat2 c).map V.int).length : Int) = 0 := by simpa using z
        cases c with
        | nil => rfl
        | cons _ _ => simp [nat2] at this; omega
      refine ⟨0, 1, rfl, by decide, by decide, by decide, fun H2 p2 x y e2 hp0 hp2 hxy y1 yl x0 xl gc => ?_⟩
      refine q _ p2 x y (e1.trans e2) hp2 ⟨y1, by omega, x0, by omega, fun d hd => ?_, gc, c, hB, .inl ⟨hc, by omega⟩⟩
      rcases hB with ⟨_, h⟩ | ⟨h, _⟩
      · have := h d hd
        have ey : y = 1 := by omega
        have ex : x = 0 := by omega
        rw [ey, ex, Int.zero_mul, Int.mul_one]
        exact this
      · exact absurd hc (circ_facts t ok h).1
    · walk_at "go"
      have hc : c ≠ [] := fun e => by subst e; simp [nat2] at z
      rcases id hB with ⟨h, _⟩ | ⟨hm, h⟩
      · exact absurd h hc
      · obtain ⟨f1, f2, f3⟩ := circ_facts t ok hm
        have hdd := circ_d t ok hm
        refine ⟨a, t, p, c, rfl, ht.up e1, hp, f1, f2, f3, fun H2 p2 x y e2 hp0 hp2 hxy y1 yl x0 xl gc => ?_⟩
        refine q _ p2 x y (e1.trans e2) hp2 ⟨y1, yl, x0, xl, fun d hd => ?_, gc, c, hB, .inr ⟨hc, hxy⟩⟩
        have a1 := h d hd
        have b1 : costs t d * dists t c * y ≤ costs t c * dists t d * y := Int.mul_le_mul_of_nonneg_right a1 (by omega)
        have e1 : costs t d * dists t c * y = costs t d * y * dists t c := Int.mul_right_comm ..
        have e2 : costs t c * dists t d * y = costs t c * y * dists t d := Int.mul_right_comm ..
        have e3 : x * dists t c * dists t d = x * dists t d * dists t c := Int.mul_right_comm ..
        rw [e1, e2, ← hxy, e3] at b1
        exact Int.le_of_mul_le_mul_right b1 (by omega)
end
end NL
end
-- part A9
section
set_option Elab.async false
set_option linter.all false
set_option maxRecDepth 100000
set_option maxHeartbeats 4000000
namespace NL
open PySem PySem.Spec PyProof.Rows L2
open He (ga ma)
local macro_rules | `(tactic| walk_at "go1") => `(tactic| first
  | ((with_reducible refine' r_var ?hv ?_); (case hv => rfl))
  | with_reducible refine r_c ?_
  | with_reducible refine r_op ?_
  | with_reducible refine r_un ?_
  | with_reducible refine r_I0 ?_
  | with_reducible refine r_U ?_
  | ((with_reducible refine' r_ixT ?h1 ?h2 ?_); (case h1 => assumption); (case h2 => rfl))
  | ((with_reducible refine' r_ixL ?h1 ?h2 ?_); (case h1 => assumption); (case h2 => rfl))
  | with_reducible refine r_nil ?_
  | with_reducible refine r_cons ?_
  | with_reducible refine r_cb ?_
  | with_reducible refine r_call ?_
  | with_reducible refine r_ck ?_
  | with_reducible refine r_prop ?_
  | with_reducible refine r_gSub ?_
  | ((with_reducible refine' r_seqAug2 ?hv ?_); (case hv => rfl))
  | ((with_reducible refine' r_aug2 ?hv ?_); (case hv => rfl))
  | with_reducible refine r_ipI ?_
  | with_reducible refine r_seqAugS ?_
  | with_reducible refine r_augS ?_
  | with_reducible refine r_cont ?_
  | with_reducible refine r_brk ?_
  | with_reducible refine r_tt ?_
  | with_reducible refine r_ff ?_
  | with_reducible refine r_test ?_
  | with_reducible refine r_B ?_
  | with_reducible refine r_not ?_
  | with_reducible refine r_and ?_
  | with_reducible refine r_or ?_
  | with_reducible refine r_tup ?_
  | with_reducible refine r_lst ?_
  | with_reducible refine r_bl ?_
  | with_reducible refine r_max2 ?_
  | with_reducible refine r_min2 ?_
  | with_reducible refine r_abs ?_
  | with_reducible refine r_int1b ?_
  | with_reducible refine r_isN1 ?_
  | with_reducible refine r_isN2 ?_
  | with_reducible refine r_isN3 ?_
  | with_reducible refine r_notN1 ?_
  | with_reducible refine r_notN2 ?_
  | with_reducible refine r_notN3 ?_
  | with_reducible refine r_isN ?_
  | with_reducible refine r_notN ?_
  | with_reducible refine r_notBl ?_
  | ((with_reducible refine r_eq ?h1 ?_); (case h1 => rfl))
  | ((with_reducible refine r_ne ?h1 ?_); (case h1 => rfl))
  | with_reducible refine r_fld ?_
  | with_reducible refine r_sl ?_
  | with_reducible refine r_noPart ?_
  | with_reducible refine r_part ?_
  | with_reducible refine r_xint ?_
  | with_reducible refine r_bm ?_
  | with_reducible refine r_meth ?_
  | with_reducible refine r_callN ?_
  | ((with_reducible refine' r_lenQ ?h1 ?_); (case h1 => first | assumption | exact Or.inl (by assumption) | exact Or.inr (by assumption)))
  | with_reducible refine r_seqN ?_
  | with_reducible refine r_asgN ?_
  | with_reducible refine r_seqIf ?_
  | with_reducible refine r_seqFor ?_
  | with_reducible refine r_for ?_
  | with_reducible refine r_rng1 ?_
  | with_reducible refine r_rng2 ?_
  | with_reducible refine r_rng3 ?_
  | with_reducible refine r_itL ?_
  | with_reducible refine r_itT ?_
  | with_reducible refine r_lc ?_
  | with_reducible refine r_yes ?_
  | with_reducible refine r_itE ?_
  | with_reducible refine r_itEL ?_
  | with_reducible refine r_gN ?_
  | with_reducible refine r_seqA ?_
  | with_reducible refine r_asgA ?_
  | with_reducible refine r_if ?_
  | with_reducible refine r_retD ?_
  | with_reducible refine r_ret ?_
  | with_reducible refine r_seqDrop ?_
  | with_reducible refine r_drop ?_
  | with_reducible refine r_next ?_)
local macro_rules | `(tactic| walk_at "go") => `(tactic| (repeat walk_at "go1"))

section
variable {P : Program} {w : World} {K : PySem.W.Frag} {mg : Str → Option Value} {base : Heap}
abbrev N_way_weight : List Str := ["task", "way", "rate"]
abbrev P_way_weight : List Str := ["task", "way", "rate"]
theorem sc_way_weight : FnScope N_way_weight P_way_weight (defScope s_way_weight) := ⟨rfl, rfl, rfl, by decide +kernel, rfl, by decide +kernel, by decide +kernel⟩
def sp_way_weight (K : PySem.W.Frag) : Sp := fun vs H Q _ => ∃ (a : Addr) (t : Tk) (p r : Addr) (k : Nat) (x y : Int), vs = [.ref a, .ref p, .ref r] ∧ TaskAt K H a t ∧ k < t.m ∧ H p = some (.tup [.str (nm (t.src k)), .str (nm (t.tgt k)), .int ((t.dst k : Nat) : Int)]) ∧ H r = some (.tup [.int x, .int y]) ∧ ∀ H', Same H H' → Q (.int (wt t x y k)) H'
theorem has_way_weight (T : Tx K mg) : Has P w K mg base "way_weight" P_way_weight 3 (sp_way_weight K) := by
  have h_T_cost := has_T_cost (P := P) (w := w) (base := base) T
  obtain ⟨fd, F⟩ := T.f_way_weight
  refine has_mk F T.g_way_weight (fun _ _ _ _ _ _ us hl => match us, hl with | [_, _, _], _ => rfl) (F.ok sc_way_weight (fun vs H Q E h => ?_) (fun cdv A outer s H vs Q E hr h => ?_))
  · obtain ⟨_, _, _, _, _, _, _, rfl, _⟩ := h; rfl
  · obtain ⟨a, t, p, r, k, x, y, rfl, ht, hk, hp, hr', q⟩ := h
    refine ⟨_, PSs.nox (pss_one (ps_ret (pe_op op_sub (pe_op op_mul (pe_hm h_T_cost (hr.mono (by decide)) (pv 0) (pa_cons (pe_ix (k_ixT (K := K)) (pv 1) pe_int (fun _ _ => rfl)) pa_nil)) (pe_ix (k_ixT (K := K)) (pv 2) pe_int (fun _ _ => rfl))) (pe_op op_mul (pe_ix (k_ixT (K := K)) (pv 1) pe_int (fun _ _ => rfl)) (pe_ix (k_ixT (K := K)) (pv 2) pe_int (fun _ _ => rfl)))))), ?_⟩
    obtain ⟨ok, dx, kt, wt', z, kvs, wvs, h1, h2, h3, h4, h5⟩ := id ht
    have hp0 := SqT.of (K := K) hp
    walk_at "go"
    refine ⟨a, dx, _, rfl, h1, lk_co z kt wt', ?_⟩
    walk_at "go"
    have hw := ok.way hk
    have hc := ok.cost hw.1
    refine ⟨a, t, t.src k, rfl, ht, hw.1, fun H1 e1 => ?_⟩
    have hp1 := SqT.of (K := K) (e1 _ _ hp)
    have hr1 := SqT.of (K := K) (e1 _ _ hr')
    walk_at "go"
    refine r_I (.inl ⟨by omega, by omega⟩) ?_
    walk_at "go"
    refine r_I (.inl ⟨by omega, by omega⟩) ?_
    walk_at "go"
    exact q _ e1
abbrev N_improve : List Str := ["task", "rate", "current", "better", "way", "source", "target", "_"]
abbrev P_improve : List Str := ["task", "rate", "current"]
theorem sc_improve : FnScope N_improve P_improve (defScope s_improve) := ⟨rfl, rfl, rfl, by decide +kernel, rfl, by decide +kernel, by decide +kernel⟩
def sp_improve (K : PySem.W.Frag) : Sp := fun vs H Q _ => ∃ (a : Addr) (t : Tk) (r c : Addr) (x y : Int) (cur : List Int), vs = [.ref a, .ref r, .ref c] ∧ TaskAt K H a t ∧ H r = some (.tup [.int x, .int y]) ∧ H c = some (.lst (cur.map V.int)) ∧ cur.length = t.n ∧ ∀ H' p, Same H H' → H p = none → H' p = some (.lst ((imprF t x y cur).map V.int)) → Q (.ref p) H'
theorem zeros (n : Nat) : (List.range n).map (fun _ => (0 : Int)) = List.replicate n 0 := by
  apply List.ext_getElem
  · simp
  · intro i h1 h2; simp
theorem has_improve (T : Tx K mg) : Has P w K mg base "improve" P_improve 4 (sp_improve K) := by
  have h_T_kind_number := has_T_kind_number (P := P) (w := w) (base := base) T
  have h_way_weight := has_way_weight (P := P) (w := w) (base := base) T
  obtain ⟨fd, F⟩ := T.f_improve
  refine has_mk F T.g_improve (fun _ _ _ _ _ _ us hl => match us, hl with | [_, _, _], _ => rfl) (F.ok sc_improve (fun vs H Q E h => ?_) (fun cdv A outer s H vs Q E hr h => ?_))
  · obtain ⟨_, _, _, _, _, _, _, rfl, _⟩ := h; rfl
  · obtain ⟨a, t, r, c, x, y, cur, rfl, ht, hr0, hc0, hcl, q⟩ := h
    refine ⟨_, PSs.nox (pss_cons (ps_setLc (i := 3) (own := [("_", 7)]) rfl sc_improve.nd rfl rfl (sw_true rfl rfl rfl (by decide +kernel)) (k_tup (K := K) (k_fld (K := K) (pv 0) rfl)) (blkOk_by (own := [("_", 7)]) (N := N_improve) (sc := defScope s_improve) (by decide +kernel)) (fun _ _ _ _ _ => (pg_name (i := 7) sc_improve.nd rfl (.inl rfl))) (fun _ _ _ _ _ => pts_nil) (fun _ _ _ _ _ => pe_int))
      (pss_cons (ps_for PassesOwn.never rfl (k_tup (K := K) (k_fld (K := K) (pv 0) rfl)) (pg_name (i := 4) sc_improve.nd rfl (.inl rfl)) (pss_cons (ps_set (i := 5) sc_improve.nd rfl (.inl rfl) (pe_hm h_T_kind_number (hr.mono (by decide)) (pv 0) (pa_cons (pe_ix (k_ixT (K := K)) (pv 4) pe_int (fun _ _ => rfl)) pa_nil)))
      (pss_cons (ps_set (i := 6) sc_improve.nd rfl (.inl rfl) (pe_hm h_T_kind_number (hr.mono (by decide)) (pv 0) (pa_cons (pe_ix (k_ixT (K := K)) (pv 4) pe_int (fun _ _ => rfl)) pa_nil)))
      (pss_one (ps_asg (pe_callB (call_max2Q rfl) (by rfl) T.b_max (by decide +kernel) (pa_cons (pe_ix (k_ixL (K := K)) (pv 3) (pv 5) (fun _ _ => rfl)) (pa_cons (pe_op op_add (pe_hc h_way_weight (hr.mono (by decide)) (by rfl) (pa_cons (pv 0) (pa_cons (pv 4) (pa_cons (pv 1) pa_nil)))) (pe_ix (k_ixL (K := K)) (pv 2) (pv 6) (fun _ _ => rfl))) pa_nil))) (pg_sub (pv 3) (pv 5) set_list))))))
      (pss_one (ps_ret (pv 3))))), ?_⟩
    obtain ⟨ok, dx, kt, wt', z, kvs, wvs, h1, h2, h3, h4, h5⟩ := id ht
    have hn3 := ok.n3
    walk_at "go"
    refine x_kinds T h1 ?_
    refine ⟨kt, rfl, ⟨_, SqT.of h2⟩, fun D hD => lc_T (xs := kvs) (fun i H' => Same H H' ∧ H' D = some (.lst (((List.range i).map (fun _ => (0 : Int))).map V.int))) ⟨same_upd (Same.refl _) hD, upd_same⟩ (fun i H' _ ⟨e, _⟩ => SqT.of (e _ _ h2)) ?_ ?_⟩
    · rintro i v H' hx ⟨e, hu⟩
      have hi := (List.getElem?_eq_some_iff.mp hx).1
      have := h4.1
      walk_at "go"
      refine ⟨rfl, ?_⟩
      walk_at "go"
      refine ⟨_, hu, Nat.lt_of_lt_of_le (show _ < 2000 by simp; omega) (by decide), same_mut e hD, ?_⟩
      rw [snoc_map (fun _ => (0 : Int))]
      exact upd_same
    · rintro H1 ⟨e1, hu⟩
      rw [zeros, h4.1] at hu
      walk_at "go"
      refine x_ways T (e1 _ _ h1) ?_
      refine ⟨wt', rfl, ⟨_, SqT.of (e1 _ _ h3)⟩, loop_tup (fun i σ' H' => ∃ y1 y2 y3 y4, σ' = [some (.ref a), some (.ref r), some (.ref c), some (.ref D), y1, y2, y3, y4] ∧ Same H H' ∧ H' D = some (.lst ((imprTo t x y cur i).map V.int))) ⟨_, _, _, _, rfl, e1, hu⟩ (fun i σ' H' _ ⟨_, _, _, _, _, e, _⟩ => SqT.of (e _ _ h3)) ?_ ?_⟩
      · rintro i v σ' H' hx ⟨y1, y2, y3, y4, rfl, e, hd⟩
        have him : i < t.m := by rw [← h5.1]; exact (List.getElem?_eq_some_iff.mp hx).1
        obtain ⟨pw, rfl, hpw⟩ := h5.2 i v hx
        have hw := ok.way him
        have hbl := (impr_ok (top := x) (bot := y) ok cur i (by omega)).1
        have hpw0 := SqT.of (K := K) (e _ _ hpw)
        walk_at "go"
        refine ⟨a, dx, _, rfl, e _ _ h1, lk_kn z kt wt', ?_⟩
        walk_at "go"
        refine ⟨a, t, t.src i, rfl, ht.up e, hw.1, fun H2 e2 => ?_⟩
        have e02 := e.trans e2
        have hpw2 := SqT.of (K := K) (e02 _ _ hpw)
        walk_at "go"
        refine ⟨a, dx, _, rfl, e02 _ _ h1, lk_kn z kt wt', ?_⟩
        walk_at "go"
        refine ⟨a, t, t.tgt i, rfl, ht.up e02, hw.2.1, fun H3 e3 => ?_⟩
        have e03 := e02.trans e3
        have hd3 := e3 _ _ (e2 _ _ hd)
        walk_at "go"
        refine r_ixL (SqL.of hd3) (atI_nat (ints_at (by rw [hbl]; exact hw.1))) ?_
        walk_at "go"
        refine ⟨a, t, pw, r, i, x, y, rfl, ht.up e03, him, e03 _ _ hpw, e03 _ _ hr0, fun H4 e4 => ?_⟩
        have e04 := e03.trans e4
        have hd4 := e4 _ _ hd3
        walk_at "go"
        refine r_ixL (SqL.of (e04 _ _ hc0)) (atI_nat (ints_at (by rw [hcl]; exact hw.2.1))) ?_
        walk_at "go"
        refine r_setL hd4 (by rw [List.length_map, hbl]; exact hw.1) ?_
        refine ⟨some (.ref pw), some (.int (t.src i : Nat)), some (.int (t.tgt i : Nat)), _, rfl, same_mut e04 hD, ?_⟩
        rw [imprTo_succ, ← List.map_set]
        exact upd_same
      · rintro σ' H' ⟨y1, y2, y3, y4, rfl, e, hd⟩
        walk_at "go"
        rw [h5.1] at hd
        exact q _ D e hD hd
abbrev N_weights : List Str := ["task", "rate", "_", "current"]
abbrev P_weights : List Str := ["task"]
theorem sc_weights : FnScope N_weights P_weights (defScope s_weights) := ⟨rfl, rfl, rfl, by decide +kernel, rfl, by decide +kernel, by decide +kernel⟩
def sp_weights (K : PySem.W.Frag) : Sp := fun vs H Q _ => ∃ (a : Addr) (t : Tk), vs = [.ref a] ∧ TaskAt K H a t ∧ ∀ H' p x y, Same H H' → ShareOk t x y → H' p = some (.lst ((weiF t x y t.n).map V.int)) → Q (.ref p) H'
theorem has_weights (T : Tx K mg) : Has P w K mg base "weights" P_weights 8 (sp_weights K) := by
  have h_improve := has_improve (P := P) (w := w) (base := base) T
  have h_share := has_share (P := P) (w := w) (base := base) T
  obtain ⟨fd, F⟩ := T.f_weights
  refine has_mk F T.g_weights (fun _ _ _ _ _ _ us hl => match us, hl with | [_], _ => rfl) (F.ok sc_weights (fun vs H Q E h => ?_) (fun cdv A outer s H vs Q E hr h => ?_))
  · obtain ⟨_, _, rfl, _⟩ := h; rfl
  · obtain ⟨a, t, rfl, ht, q⟩ := h
    refine ⟨_, PSs.nox (pss_cons (ps_set (i := 1) sc_weights.nd rfl (.inl rfl) (pe_hc h_share (hr.mono (by decide)) (by rfl) (pa_cons (pv 0) pa_nil)))
      (pss_cons (ps_setLc (i := 3) (own := [("_", 2)]) rfl sc_weights.nd rfl rfl (sw_true rfl rfl rfl (by decide +kernel)) (k_tup (K := K) (k_fld (K := K) (pv 0) rfl)) (blkOk_by (own := [("_", 2)]) (N := N_weights) (sc := defScope s_weights) (by decide +kernel)) (fun _ _ _ _ _ => (pg_name (i := 2) sc_weights.nd rfl (.inl rfl))) (fun _ _ _ _ _ => pts_nil) (fun _ _ _ _ _ => pe_int))
      (pss_cons (ps_for PassesOwn.never rfl (pi_range1 rfl T.b_range (pa_cons (pe_callB (k_len (K := K)) (by rfl) T.b_len PySem.boot_len (pa_cons (k_fld (K := K) (pv 0) rfl) pa_nil)) pa_nil)) (pg_name (i := 2) sc_weights.nd rfl (.inl rfl)) (pss_one (ps_set (i := 3) sc_weights.nd rfl (.inl rfl) (pe_hc h_improve (hr.mono (by decide)) (by rfl) (pa_cons (pv 0) (pa_cons (pv 1) (pa_cons (pv 3) pa_nil)))))))
      (pss_one (ps_ret (pv 3)))))), ?_⟩
    obtain ⟨ok, dx, kt, wt', z, kvs, wvs, h1, h2, h3, h4, h5⟩ := id ht
    have hn3 := ok.n3
    walk_at "go"
    refine ⟨a, t, rfl, ht, fun H1 r x y e1 hr0 hS => ?_⟩
    walk_at "go"
    refine x_kinds T (e1 _ _ h1) ?_
    refine ⟨kt, rfl, ⟨_, SqT.of (e1 _ _ h2)⟩, fun D hD => lc_T (xs := kvs) (fun i H' => Same H1 H' ∧ H' D = some (.lst (((List.range i).map (fun _ => (0 : Int))).map V.int))) ⟨same_upd (Same.refl _) hD, upd_same⟩ (fun i H' _ ⟨e, _⟩ => SqT.of (e _ _ (e1 _ _ h2))) ?_ ?_⟩
    · rintro i v H' hx ⟨e, hu⟩
      have hi := (List.getElem?_eq_some_iff.mp hx).1
      have := h4.1
      walk_at "go"
      refine ⟨rfl, ?_⟩
      walk_at "go"
      refine ⟨_, hu, Nat.lt_of_lt_of_le (show _ < 2000 by simp; omega) (by decide), same_mut e hD, ?_⟩
      rw [snoc_map (fun _ => (0 : Int))]
      exact upd_same
    · rintro H2 ⟨e2, hu⟩
      rw [zeros, h4.1] at hu
      have e02 := e1.trans e2
      walk_at "go"
      refine x_kinds T (e02 _ _ h1) ?_
      walk_at "go"
      refine ⟨kt, _, rfl, .inr (SqT.of (e02 _ _ h2)), ?_⟩
      refine ⟨_, rfl, by omega, by rw [h4.1]; omega, ?_⟩
      rw [h4.1, Int.toNat_natCast]
      refine loop_range (fun i σ' H' => ∃ (p : Addr) (y2 : Option V), σ' = [some (.ref a), some (.ref r), y2, some (.ref p)] ∧ Same H2 H' ∧ H' p = some (.lst ((weiF t x y i).map V.int))) ⟨D, _, rfl, Same.refl _, hu⟩ ?_ ?_
      · rintro i σ' H' hi ⟨p, y2, rfl, e, hp⟩
        walk_at "go"
        refine ⟨a, t, r, p, x, y, _, rfl, (ht.up e02).up e, e _ _ (e2 _ _ hr0), hp, wei_len ok i, fun H3 p3 e3 hp0 hp3 => ?_⟩
        walk_at "go"
        exact ⟨p3, _, rfl, e.trans e3, hp3⟩
      · rintro σ' H' ⟨p, y2, rfl, e, hp⟩
        walk_at "go"
        exact q _ p x y (e02.trans e) hS hp
abbrev N_linear_bound : List Str := ["task", "top", "bottom", "numbers", "greatest", "extra", "number", "kind"]
abbrev P_linear_bound : List Str := ["task"]
theorem sc_linear_bound : FnScope N_linear_bound P_linear_bound (defScope s_linear_bound) := ⟨rfl, rfl, rfl, by decide +kernel, rfl, by decide +kernel, by decide +kernel⟩
def sp_linear_bound (K : PySem.W.Frag) : Sp := fun vs H Q _ => ∃ (a : Addr) (t : Tk), vs = [.ref a] ∧ TaskAt K H a t ∧ ∀ H' p x e y, Same H H' → H' p = some (.tup [.int x, .int e, .int y]) → LB t x e y → Q (.ref p) H'
theorem has_linear_bound (T : Tx K mg) : Has P w K mg base "linear_bound" P_linear_bound 9 (sp_linear_bound K) := by
  have h_share := has_share (P := P) (w := w) (base := base) T
  have h_weights := has_weights (P := P) (w := w) (base := base) T
  obtain ⟨fd, F⟩ := T.f_linear_bound
  refine has_mk F T.g_linear_bound (fun _ _ _ _ _ _ us hl => match us, hl with | [_], _ => rfl) (F.ok sc_linear_bound (fun vs H Q E h => ?_) (fun cdv A outer s H vs Q E hr h => ?_))
  · obtain ⟨_, _, rfl, _⟩ := h; rfl
  · obtain ⟨a, t, rfl, ht, q⟩ := h
    refine ⟨_, PSs.nox (pss_cons (ps_asg (pe_hc h_share (hr.mono (by decide)) (by rfl) (pa_cons (pv 0) pa_nil)) (k_tupG (K := K) (n := 2) rfl (pgs_cons (pg_name (i := 1) sc_linear_bound.nd rfl (.inl rfl)) (pgs_cons (pg_name (i := 2) sc_linear_bound.nd rfl (.inl rfl)) pgs_nil))))
      (pss_cons (ps_set (i := 3) sc_linear_bound.nd rfl (.inl rfl) (pe_hc h_weights (hr.mono (by decide)) (by rfl) (pa_cons (pv 0) pa_nil)))
      (pss_cons (ps_set (i := 4) sc_linear_bound.nd rfl (.inl rfl) (pe_callB (k_max (K := K)) (by rfl) T.b_max (by decide +kernel) (pa_cons (pv 3) pa_nil)))
      (pss_cons (ps_set (i := 5) sc_linear_bound.nd rfl (.inl rfl) pe_int)
      (pss_cons (ps_for PassesOwn.never rfl (pi_enumT (by rfl) T.b_enumerate (pa_cons (k_fld (K := K) (pv 0) rfl) pa_nil)) (k_tupG (K := K) (n := 2) rfl (pgs_cons (pg_name (i := 6) sc_linear_bound.nd rfl (.inl rfl)) (pgs_cons (pg_name (i := 7) sc_linear_bound.nd rfl (.inl rfl)) pgs_nil))) (pss_one (ps_set (i := 5) sc_linear_bound.nd rfl (.inl rfl) (pe_callB (call_max2Q rfl) (by rfl) T.b_max (by decide +kernel) (pa_cons (pv 5) (pa_cons (pe_op op_sub (pe_op op_add (pe_op op_sub (pv 4) (pe_ix (k_ixL (K := K)) (pv 3) (pv 6) (fun _ _ => rfl))) (pe_op op_mul (pv 2) (pe_ix (k_ixT (K := K)) (pv 7) pe_int (fun _ _ => rfl)))) (pe_op op_mul (pv 1) (pe_ix (k_ixT (K := K)) (pv 7) pe_int (fun _ _ => rfl)))) pa_nil))))))
      (pss_one (ps_ret (pe_tup (pa_cons (pv 1) (pa_cons (pv 5) (pa_cons (pv 2) pa_nil))))))))))), ?_⟩
    obtain ⟨ok, dx, kt, wt', z, kvs, wvs, h1, h2, h3, h4, h5⟩ := id ht
    have hn3 := ok.n3
    walk_at "go"
    refine ⟨a, t, rfl, ht, fun H1 r x y e1 hr0 hS => ?_⟩
    walk_at "go"
    refine r_tup2 rfl (SqT.of hr0) ?_
    walk_at "go"
    refine ⟨a, t, rfl, ht.up e1, fun H2 p x' y' e2 hS' hp => ?_⟩
    obtain ⟨rfl, rfl⟩ := share_uniq ok hS hS'
    have hwl := wei_len (top := x) (bot := y) ok t.n
    have e02 := e1.trans e2
    walk_at "go"
    refine ⟨p, _, rfl, SqL.of hp, by have := ok.n1; omega, fun g hgm hgb => ?_⟩
    walk_at "go"
    refine x_kinds T (e02 _ _ h1) ?_
    have hg : ∀ k, k < t.n → gl (weiF t x y t.n) k ≤ g := fun k hk => hgb _ (by
      unfold gl
      rw [List.getD_eq_getElem?_getD, List.getElem?_eq_getElem (by omega)]
      exact List.getElem_mem _)
    obtain ⟨y1, yl, x0, xl, hs, _⟩ := id hS
    refine ⟨kt, kvs, rfl, SqT.of (e02 _ _ h2), loop_enumT (fun i σ' H' => ∃ (e : Int) (z1 z2 : Option V), σ' = [some (.ref a), some (.int x), some (.int y), some (.ref p), some (.int g), some (.int e), z1, z2] ∧ Same H2 H' ∧ 0 ≤ e ∧ ∀ k, k < i → g - gl (weiF t x y t.n) k + y * t.cost k - x * ((t.dl k : Nat) : Int) ≤ e) ⟨0, _, _, rfl, Same.refl _, Int.le_refl _, fun k hk => by omega⟩ (fun i σ' H' _ ⟨_, _, _, _, e, _⟩ => SqT.of (e _ _ (e02 _ _ h2))) ?_ ?_⟩
    · rintro i v T' σ' H' hx hT ⟨e, z1, z2, rfl, eH, he0, hek⟩
      have hin : i < t.n := by rw [← h4.1]; exact (List.getElem?_eq_some_iff.mp hx).1
      obtain ⟨pk, rfl, hpk⟩ := h4.2 i v hx
      have e0 := same_upd (o := .tup [V.int (i : Nat), V.ref pk]) eH hT
      refine r_tup2 rfl (SqT.of upd_same) ?_
      generalize upd H' T' (.tup [V.int (i : Nat), V.ref pk]) = H3 at e0 ⊢
      have hpk3 := SqT.of (K := K) (e0 _ _ (e02 _ _ hpk))
      walk_at "go"
      refine r_ixL (SqL.of (e0 _ _ hp)) (atI_nat (ints_at (by omega))) ?_
      walk_at "go"
      refine r_I (.inl ⟨by omega, by omega⟩) ?_
      walk_at "go"
      refine r_I (.inl ⟨by omega, by omega⟩) ?_
      walk_at "go"
      refine ⟨_, some (.int (i : Nat)), some (.ref pk), rfl, e0, ?_, fun k hk => ?_⟩
      · split <;> omega
      · by_cases hki : k = i
        · subst hki
          show g - (weiF t x y t.n).getD k 0 + y * t.cost k - x * ((t.dl k : Nat) : Int) ≤ _
          split <;> omega
        · have := hek k (by omega)
          split <;> omega
    · rintro σ' H' ⟨e, z1, z2, rfl, eH, he0, hek⟩
      rw [h4.1] at hek
      walk_at "go"
      refine ⟨by show 3 ≤ sizeLine; decide, fun p2 hp2 => ?_⟩
      exact q _ p2 x e y (same_upd (e02.trans eH) hp2) upd_same ⟨y1, yl, x0, fun n => lin_dem ok x0 y1 (w := gl (weiF t x y t.n)) (fun k hk => wei_cert ok (nopos_of ok hs) hk) hg he0 hek n⟩
end
end NL
end
-- part A10
section
set_option Elab.async false
set_option linter.all false
set_option maxRecDepth 100000
set_option maxHeartbeats 4000000
namespace NL
open PySem PySem.Spec PyProof.Rows L2
open He (ga ma)
local macro_rules | `(tactic| walk_at "go1") => `(tactic| first
  | ((with_reducible refine' r_var ?hv ?_); (case hv => rfl))
  | with_reducible refine r_c ?_
  | with_reducible refine r_op ?_
  | with_reducible refine r_un ?_
  | with_reducible refine r_I0 ?_
  | with_reducible refine r_U ?_
  | ((with_reducible refine' r_ixT ?h1 ?h2 ?_); (case h1 => assumption); (case h2 => rfl))
  | ((with_reducible refine' r_ixL ?h1 ?h2 ?_); (case h1 => assumption); (case h2 => rfl))
  | with_reducible refine r_nil ?_
  | with_reducible refine r_cons ?_
  | with_reducible refine r_cb ?_
  | with_reducible refine r_call ?_
  | with_reducible refine r_ck ?_
  | with_reducible refine r_prop ?_
  | with_reducible refine r_gSub ?_
  | ((with_reducible refine' r_seqAug2 ?hv ?_); (case hv => rfl))
  | ((with_reducible refine' r_aug2 ?hv ?_); (case hv => rfl))
  | with_reducible refine r_ipI ?_
  | with_reducible refine r_seqAugS ?_
  | with_reducible refine r_augS ?_
  | with_reducible refine r_cont ?_
  | with_reducible refine r_brk ?_
  | with_reducible refine r_tt ?_
  | with_reducible refine r_ff ?_
  | with_reducible refine r_test ?_
  | with_reducible refine r_B ?_
  | with_reducible refine r_not ?_
  | with_reducible refine r_and ?_
  | with_reducible refine r_or ?_
  | with_reducible refine r_tup ?_
  | with_reducible refine r_lst ?_
  | with_reducible refine r_bl ?_
  | with_reducible refine r_max2 ?_
  | with_reducible refine r_min2 ?_
  | with_reducible refine r_abs ?_
  | with_reducible refine r_int1b ?_
  | with_reducible refine r_isN1 ?_
  | with_reducible refine r_isN2 ?_
  | with_reducible refine r_isN3 ?_
  | with_reducible refine r_notN1 ?_
  | with_reducible refine r_notN2 ?_
  | with_reducible refine r_notN3 ?_
  | with_reducible refine r_isN ?_
  | with_reducible refine r_notN ?_
  | with_reducible refine r_notBl ?_
  | ((with_reducible refine r_eq ?h1 ?_); (case h1 => rfl))
  | ((with_reducible refine r_ne ?h1 ?_); (case h1 => rfl))
  | with_reducible refine r_fld ?_
  | with_reducible refine r_sl ?_
  | with_reducible refine r_noPart ?_
  | with_reducible refine r_part ?_
  | with_reducible refine r_xint ?_
  | with_reducible refine r_bm ?_
  | with_reducible refine r_meth ?_
  | with_reducible refine r_callN ?_
  | ((with_reducible refine' r_lenQ ?h1 ?_); (case h1 => first | assumption | exact Or.inl (by assumption) | exact Or.inr (by assumption)))
  | with_reducible refine r_seqN ?_
  | with_reducible refine r_asgN ?_
  | with_reducible refine r_seqIf ?_
  | with_reducible refine r_seqFor ?_
  | with_reducible refine r_for ?_
  | with_reducible refine r_rng1 ?_
  | with_reducible refine r_rng2 ?_
  | with_reducible refine r_rng3 ?_
  | with_reducible refine r_itL ?_
  | with_reducible refine r_itT ?_
  | with_reducible refine r_lc ?_
  | with_reducible refine r_yes ?_
  | with_reducible refine r_itE ?_
  | with_reducible refine r_itEL ?_
  | with_reducible refine r_gN ?_
  | with_reducible refine r_seqA ?_
  | with_reducible refine r_asgA ?_
  | with_reducible refine r_if ?_
  | with_reducible refine r_retD ?_
  | with_reducible refine r_ret ?_
  | with_reducible refine r_seqDrop ?_
  | with_reducible refine r_drop ?_
  | with_reducible refine r_next ?_)
local macro_rules | `(tactic| walk_at "go") => `(tactic| (repeat walk_at "go1"))

section
variable {X : Cx}
/-- *= of ints -/
def ipM : TIp := fun x y H Q => ∃ i j, x = .int i ∧ y = .int j ∧ CMul i j ∧ Q (.int (i * j)) H
theorem ip_mul : PIp X .Mult ipM := by
  intro pins s σ H x y v u Q I r1 r2 h
  obtain ⟨i, j, e1, e2, hc, q⟩ := h
  subst e1; subst e2
  obtain ⟨t, rfl⟩ := r1
  obtain ⟨t', rfl⟩ := r2
  exact imul_int ⟨.int _, H, I.tok _, ⟨_, rfl⟩, q⟩ hc.ok
theorem small_up {a b c : Int} (ha : 0 ≤ a) (ha' : a < 100000) (hb : 0 ≤ b) (hb' : b < 100000) (hc : 1 ≤ c) (hc2 : c < 100000) : Builtin.Range.small a b c = true := by
  have h1 : Builtin.Range.rangeSize a b c ≤ 100000 ∧ 0 ≤ Builtin.Range.rangeSize a b c := by
    unfold Builtin.Range.rangeSize
    rw [if_pos (by omega)]
    split
    · have := Int.ediv_le_self (a := b - a - 1) c (by omega)
      have := Int.ediv_nonneg (show 0 ≤ b - a - 1 by omega) (show 0 ≤ c by omega)
      omega
    · omega
  unfold Builtin.Range.small
  rw [if_pos (by omega)]
  simp only [Builtin.Range.rangeFitsLong, Bool.and_eq_true, Bool.or_eq_true, decide_eq_true_eq, beq_iff_eq]
  omega
theorem pow18 {i k : Nat} (h : i ≤ k) : (18 : Int) ^ i ≤ 18 ^ k := by exact_mod_cast Nat.pow_le_pow_right (n := 18) (by decide) h
theorem RgC.up {i j c : Int} (hi : 0 ≤ i) (hi2 : i < 100000) (hj : 0 ≤ j) (hj2 : j < 100000) (hc : 1 ≤ c) (hc2 : c < 100000) : RgC i j c (Builtin.Range.rangeSize i j c).toNat :=
  ⟨by omega, by omega, small_up hi hi2 hj hj2 hc hc2, rangeSize_toNat i j c⟩
theorem up_lt {i j c : Int} (hc : 1 ≤ c) {k : Nat} (hk : k < (Builtin.Range.rangeSize i j c).toNat) : i + (k : Int) * c < j := by
  unfold Builtin.Range.rangeSize at hk
  rw [if_pos (by omega)] at hk
  split at hk
  · have h1 : (k : Int) ≤ (j - i - 1) / c := by omega
    have h2 : (k : Int) * c ≤ (j - i - 1) / c * c := Int.mul_le_mul_of_nonneg_right h1 (by omega)
    have h3 := Int.ediv_mul_le (j - i - 1) (show c ≠ 0 by omega)
    omega
  · simp at hk
end
section
variable {P : Program} {w : World} {K : PySem.W.Frag} {mg : Str → Option Value} {base : Heap}
/-- bounds of the tasks -/
def BdsAt (H : Hp) (us : List V) (ts : List Tk) : Prop := ∀ (i : Nat) v, us[i]? = some v → ∃ (p : Addr) (t : Tk) (x e y : Int), v = .ref p ∧ ts[i]? = some t ∧ H p = some (.tup [.int x, .int e, .int y]) ∧ LB t x e y
theorem BdsAt.up {H H' : Hp} {us : List V} {ts : List Tk} (h : BdsAt H us ts) (e : Same H H') : BdsAt H' us ts := fun i v q => let ⟨p, t, x, ee, y, a, b, c, d⟩ := h i v q; ⟨p, t, x, ee, y, a, b, e _ _ c, d⟩
abbrev N_system_bound : List Str := ["system", "bounds", "scale", "bound", "top", "extra", "task"]
abbrev P_system_bound : List Str := ["system"]
theorem sc_system_bound : FnScope N_system_bound P_system_bound (defScope s_system_bound) := ⟨rfl, rfl, rfl, by decide +kernel, rfl, by decide +kernel, by decide +kernel⟩
def sp_system_bound (K : PySem.W.Frag) : Sp := fun vs H Q _ => ∃ (a : Addr) (ts : List Tk) (tb : List Int), vs = [.ref a] ∧ SysAt K H a ts tb ∧ ∀ H' p X E S, Same H H' → H' p = some (.tup [.int X, .int E, .int S]) → 1 ≤ S → S ≤ 5832 → 0 ≤ X → (∀ n : Nat, S * sysDem ts n ≤ X * (n : Int) + E) → Q (.ref p) H'
theorem has_system_bound (T : Tx K mg) : Has P w K mg base "system_bound" P_system_bound 10 (sp_system_bound K) := by
  have h_linear_bound := has_linear_bound (P := P) (w := w) (base := base) T
  obtain ⟨fd, F⟩ := T.f_system_bound
  refine has_mk F T.g_system_bound (fun _ _ _ _ _ _ us hl => match us, hl with | [_], _ => rfl) (F.ok sc_system_bound (fun vs H Q E h => ?_) (fun cdv A outer s H vs Q E hr h => ?_))
  · obtain ⟨_, _, _, rfl, _⟩ := h; rfl
  · obtain ⟨a, ts, tb, rfl, hs, q⟩ := h
    refine ⟨_, PSs.nox (pss_cons (ps_setLc (i := 1) (own := [("task", 6)]) rfl sc_system_bound.nd rfl rfl (sw_true rfl rfl rfl (by decide +kernel)) (k_tup (K := K) (k_fld (K := K) (pv 0) rfl)) (blkOk_by (own := [("task", 6)]) (N := N_system_bound) (sc := defScope s_system_bound) (by decide +kernel)) (fun _ _ _ _ _ => (pg_name (i := 6) sc_system_bound.nd rfl (.inl rfl))) (fun _ _ _ _ _ => pts_nil) (fun _ _ _ _ _ => (pe_hc h_linear_bound (hr.mono (by decide)) (by rfl) (pa_cons (pv 6) pa_nil))))
      (pss_cons (ps_set (i := 2) sc_system_bound.nd rfl (.inl rfl) pe_int)
      (pss_cons (ps_for PassesOwn.never rfl (k_list (K := K) (pv 1)) (pg_name (i := 3) sc_system_bound.nd rfl (.inl rfl)) (pss_one (ps_aug (i := 2) sc_system_bound.nd rfl (.inl rfl) (pe_ix (k_ixT (K := K)) (pv 3) pe_int (fun _ _ => rfl)) ip_mul)))
      (pss_cons (ps_set (i := 4) sc_system_bound.nd rfl (.inl rfl) pe_int)
      (pss_cons (ps_set (i := 5) sc_system_bound.nd rfl (.inl rfl) pe_int)
      (pss_cons (ps_for PassesOwn.never rfl (k_list (K := K) (pv 1)) (pg_name (i := 3) sc_system_bound.nd rfl (.inl rfl)) (pss_cons (ps_aug (i := 4) sc_system_bound.nd rfl (.inl rfl) (pe_op op_mul (pe_ix (k_ixT (K := K)) (pv 3) pe_int (fun _ _ => rfl)) (pe_op op_fdiv (pv 2) (pe_ix (k_ixT (K := K)) (pv 3) pe_int (fun _ _ => rfl)))) ip_add)
      (pss_one (ps_aug (i := 5) sc_system_bound.nd rfl (.inl rfl) (pe_op op_mul (pe_ix (k_ixT (K := K)) (pv 3) pe_int (fun _ _ => rfl)) (pe_op op_fdiv (pv 2) (pe_ix (k_ixT (K := K)) (pv 3) pe_int (fun _ _ => rfl)))) ip_add))))
      (pss_one (ps_ret (pe_tup (pa_cons (pv 4) (pa_cons (pv 5) (pa_cons (pv 2) pa_nil)))))))))))), ?_⟩
    obtain ⟨n3, l1, l8, nn, dx, tl, tt, tvs, h1, h2, h3, h4, h5⟩ := id hs
    walk_at "go"
    refine x_tasks T h1 ?_
    refine ⟨tl, rfl, ⟨tvs, SqT.of h2⟩, fun D hD => lc_T (xs := tvs) (fun i H' => Same H H' ∧ ∃ us, H' D = some (.lst us) ∧ us.length = i ∧ BdsAt H' us ts) ⟨same_upd (Same.refl _) hD, [], upd_same, rfl, fun i v q => by simp at q⟩ (fun i H' _ ⟨e, _⟩ => SqT.of (e _ _ h2)) ?_ ?_⟩
    · rintro i v H' hx ⟨e, us, hu, hl, hb⟩
      have hi := (List.getElem?_eq_some_iff.mp hx).1
      obtain ⟨p, t, rfl, et, hp⟩ := h5 i v hx
      walk_at "go"
      refine ⟨rfl, ?_⟩
      walk_at "go"
      refine ⟨p, t, rfl, hp.up e, fun H2 p2 x ee y e2 hp2 hB => ?_⟩
      have hu2 := e2 _ _ hu
      refine ⟨us, hu2, Nat.lt_of_lt_of_le (show _ < 100 by omega) (by decide), same_mut (e.trans e2) hD, _, upd_same, by rw [List.length_append, hl]; rfl, fun j v hj => ?_⟩
      by_cases hji : j < us.length
      · rw [List.getElem?_append_left hji] at hj
        obtain ⟨p3, t3, x3, e3, y3, a, b, c, d⟩ := hb j v hj
        exact ⟨p3, t3, x3, e3, y3, a, b, by rw [upd_ne (ne_of (e2 _ _ c) hu2 (by simp))]; exact e2 _ _ c, d⟩
      · have hl' : j = us.length := by
          have := (List.getElem?_eq_some_iff.mp hj).1
          rw [List.length_append, List.length_singleton] at this
          omega
        subst hl'
        rw [List.getElem?_append_right (Nat.le_refl _), Nat.sub_self] at hj
        refine ⟨p2, t, x, ee, y, (Option.some.inj hj).symm, by rw [hl]; exact et, by rw [upd_ne (ne_of hp2 hu2 (by simp))]; exact hp2, hB⟩
    · rintro H1 ⟨e1, us, hu, hl, hb⟩
      walk_at "go"
      refine ⟨D, rfl, ⟨us, SqL.of hu⟩, loop_list (fun i σ' H' => ∃ (S : Int) (z1 z2 z3 z4 : Option V), σ' = [some (.ref a), some (.ref D), some (.int S), z1, z2, z3, z4] ∧ Same H1 H' ∧ 1 ≤ S ∧ S ≤ 18 ^ i ∧ ∀ (j : Nat) p t x ee y, j < i → us[j]? = some (.ref p) → H1 p = some (.tup [.int x, .int ee, .int y]) → LB t x ee y → y ∣ S) ⟨1, _, _, _, _, rfl, Same.refl _, by decide, by decide, fun j p t x ee y h => by omega⟩ (fun i σ' H' _ ⟨_, _, _, _, _, _, e, _⟩ => SqL.of (e _ _ hu)) ?_ ?_⟩
      · rintro i v σ' H' hx ⟨S, z1, z2, z3, z4, rfl, e, S1, S2, hdv⟩
        have hi := (List.getElem?_eq_some_iff.mp hx).1
        have hi3 : i < 3 := by omega
        obtain ⟨p, t, x, ee, y, rfl, et, hp, hB⟩ := hb i v hx
        have hp' := SqT.of (K := K) (e _ _ hp)
        have hS3 : (18 : Int) ^ i ≤ 18 ^ 2 := pow18 (by omega)
        have hS4 : (18 : Int) ^ 2 = 324 := by decide
        walk_at "go"
        have y1 := hB.1
        have y18 := hB.2.1
        refine ⟨_, _, rfl, rfl, .inl ⟨by omega, by omega⟩, ?_⟩
        refine ⟨S * y, some (.ref p), _, _, _, rfl, e, ?_, ?_, fun j p' t' x' ee' y' hj h1 h2 h3 => ?_⟩
        · have := Int.mul_le_mul S1 y1 (by decide) (by omega)
          omega
        · have := Int.mul_le_mul S2 y18 (by omega) (Int.pow_nonneg (by decide))
          rw [Int.pow_succ]
          exact this
        · by_cases hji : j < i
          · exact Int.dvd_mul_of_dvd_left (hdv j p' t' x' ee' y' hji h1 h2 h3)
          · have : j = i := by omega
            subst this
            rw [hx] at h1
            have ep : p' = p := by injection (Option.some.inj h1) with z; exact z.symm
            subst ep
            rw [hp] at h2
            have : y' = y := by injection (Option.some.inj h2) with z; simp at z; exact z.2.2.symm
            subst this
            exact Int.dvd_mul_left _ _
      · rintro σ' H2 ⟨S, z1, z2, z3, z4, rfl, e, S1, S2, hdv⟩
        walk_at "go"
        have hb2 := hb.up e
        refine ⟨D, rfl, ⟨us, SqL.of (e _ _ hu)⟩, loop_list (fun i σ' H' => ∃ (X E : Int) (z1 z4 : Option V), σ' = [some (.ref a), some (.ref D), some (.int S), z1, some (.int X), some (.int E), z4] ∧ Same H2 H' ∧ 0 ≤ X ∧ ∀ n : Nat, S * sysDem (ts.take i) n ≤ X * (n : Int) + E) ⟨0, 0, _, _, rfl, Same.refl _, by decide, fun n => by simp [sysDem]⟩ (fun i σ' H' _ ⟨_, _, _, _, _, e', _⟩ => SqL.of (e' _ _ (e _ _ hu))) ?_ ?_⟩
        · rintro i v σ' H' hx ⟨X, E, z1, z4, rfl, e', X0, hn⟩
          have hi := (List.getElem?_eq_some_iff.mp hx).1
          obtain ⟨p, t, x, ee, y, rfl, et, hp, hB⟩ := hb i v hx
          have hp' := SqT.of (K := K) (e' _ _ (e _ _ hp))
          have hdvd := hdv i p t x ee y (by omega) hx hp hB
          have y1 := hB.1
          have y18 := hB.2.1
          have q0 : 0 ≤ S / y := Int.ediv_nonneg (by omega) (by omega)
          have q1 : S / y ≤ S := by
            refine Int.ediv_le_self _ (by omega)
          have hS5 : (18 : Int) ^ us.length ≤ 18 ^ 3 := pow18 (by omega)
          have hS4 : (18 : Int) ^ 3 = 5832 := by decide
          walk_at "go"
          refine r_I ⟨by omega, by omega⟩ ?_
          refine r_I (.inr ⟨by omega, by omega⟩) ?_
          walk_at "go"
          refine r_I ⟨by omega, by omega⟩ ?_
          refine r_I (.inr ⟨by omega, by omega⟩) ?_
          walk_at "go"
          refine ⟨_, _, some (.ref p), _, rfl, e', ?_, fun n => ?_⟩
          · have := Int.mul_nonneg hB.2.2.1 q0
            omega
          · rw [sysDem_take et]
            exact lb_step hB hdvd S1 (hn n)
        · rintro σ' H' ⟨X, E, z1, z4, rfl, e', X0, hn⟩
          walk_at "go"
          refine ⟨by show 3 ≤ sizeLine; decide, fun p2 hp2 => ?_⟩
          rw [hl, h4, List.take_length] at hn
          have hS5 : (18 : Int) ^ us.length ≤ 18 ^ 3 := pow18 (by omega)
          have hS4 : (18 : Int) ^ 3 = 5832 := by decide
          exact q _ p2 X E S (same_upd ((e1.trans e).trans e') hp2) upd_same S1 (by omega) X0 hn
abbrev N_decisive_horizon : List Str := ["system", "period", "whole", "top", "extra", "bottom", "gain", "loss"]
abbrev P_decisive_horizon : List Str := ["system"]
theorem sc_decisive_horizon : FnScope N_decisive_horizon P_decisive_horizon (defScope s_decisive_horizon) := ⟨rfl, rfl, rfl, by decide +kernel, rfl, by decide +kernel, by decide +kernel⟩
def sp_decisive_horizon (K : PySem.W.Frag) : Sp := fun vs H Q _ => ∃ (a : Addr) (ts : List Tk) (tb : List Int), vs = [.ref a] ∧ SysAt K H a ts tb ∧ (∀ H', Same H H' → Q .non H') ∧ ∀ H' (d : Int), Same H H' → (∀ h : Nat, d ≤ (h : Int) → NoOver ts tb h → Never ts tb) → Q (.int d) H'
theorem sum_bd : ∀ (l : List Int), (∀ x ∈ l, 0 ≤ x ∧ x ≤ 1000) → 0 ≤ l.sum ∧ l.sum ≤ 1000 * (l.length : Int)
  | [], _ => by simp
  | a :: l, h => by
    obtain ⟨h1, h2⟩ := sum_bd l fun x hx => h x (List.mem_cons_of_mem _ hx)
    have := h a List.mem_cons_self
    rw [List.sum_cons, List.length_cons]
    omega
theorem has_decisive_horizon (T : Tx K mg) : Has P w K mg base "decisive_horizon" P_decisive_horizon 11 (sp_decisive_horizon K) := by
  have h_system_bound := has_system_bound (P := P) (w := w) (base := base) T
  obtain ⟨fd, F⟩ := T.f_decisive_horizon
  refine has_mk F T.g_decisive_horizon (fun _ _ _ _ _ _ us hl => match us, hl with | [_], _ => rfl) (F.ok sc_decisive_horizon (fun vs H Q E h => ?_) (fun cdv A outer s H vs Q E hr h => ?_))
  · obtain ⟨_, _, _, rfl, _⟩ := h; rfl
  · obtain ⟨a, ts, tb, rfl, hs, q0, q1⟩ := h
    refine ⟨_, PSs.nox (pss_cons (ps_set (i := 1) sc_decisive_horizon.nd rfl (.inl rfl) (pe_callB (k_len (K := K)) (by rfl) T.b_len PySem.boot_len (pa_cons (k_fld (K := K) (pv 0) rfl) pa_nil)))
      (pss_cons (ps_set (i := 2) sc_decisive_horizon.nd rfl (.inl rfl) (pe_callB (k_sumS (K := K)) (by rfl) T.b_sum (by decide +kernel) (pa_cons (k_fld (K := K) (pv 0) rfl) pa_nil)))
      (pss_cons (ps_asg (pe_hc h_system_bound (hr.mono (by decide)) (by rfl) (pa_cons (pv 0) pa_nil)) (k_tupG (K := K) (n := 3) rfl (pgs_cons (pg_name (i := 3) sc_decisive_horizon.nd rfl (.inl rfl)) (pgs_cons (pg_name (i := 4) sc_decisive_horizon.nd rfl (.inl rfl)) (pgs_cons (pg_name (i := 5) sc_decisive_horizon.nd rfl (.inl rfl)) pgs_nil)))))
      (pss_cons (ps_set (i := 6) sc_decisive_horizon.nd rfl (.inl rfl) (pe_op op_sub (pe_op op_mul (pv 2) (pv 5)) (pe_op op_mul (pv 3) (pv 1))))
      (pss_cons (ps_if (pt_cmpR op_le (pv 6) pe_int (nomark _)) (pss_one (ps_ret pe_non)) pss_nil)
      (pss_cons (ps_set (i := 7) sc_decisive_horizon.nd rfl (.inl rfl) (pe_op op_add (pe_op op_mul (pv 4) (pv 1)) (pe_op op_mul (pe_op op_mul (pv 2) (pv 5)) (pe_op op_sub (pv 1) pe_int))))
      (pss_one (ps_ret (pe_op op_add (pe_op op_sub (pv 1) pe_int) (pe_op op_fdiv (pe_callB (call_max2Q rfl) (by rfl) T.b_max (by decide +kernel) (pa_cons pe_int (pa_cons (pe_op op_sub (pv 7) pe_int) pa_nil))) (pv 6))))))))))), ?_⟩
    obtain ⟨n3, l1, l8, nn, dx, tl, tt, tvs, h1, h2, h3, h4, h5⟩ := id hs
    have sb := sum_bd tb nn
    walk_at "go"
    refine x_table T h1 ?_
    walk_at "go"
    refine ⟨tt, _, rfl, .inr (SqT.of h3), ?_⟩
    rw [List.length_map]
    walk_at "go"
    refine x_table T h1 ?_
    walk_at "go"
    refine ⟨tt, tb, rfl, Sq.tup h3, ?_⟩
    walk_at "go"
    refine ⟨a, ts, tb, rfl, hs, fun H1 p X E S e1 hp S1 S2 X0 hlin => ?_⟩
    walk_at "go"
    refine r_tup3 rfl (SqT.of hp) ?_
    walk_at "go"
    refine r_I (.inl ⟨by omega, by omega⟩) ?_
    walk_at "go"
    refine r_I (.inr ⟨by omega, by omega⟩) ?_
    walk_at "go"
    refine r_ite (fun c => ?_) (fun c => ?_)
    · walk_at "go"
      exact q0 _ e1
    · have gain := of_decide_eq_false c
      walk_at "go"
      refine r_I (.inr ⟨by omega, by omega⟩) ?_
      walk_at "go"
      refine r_I (.inl ⟨by omega, by omega⟩) ?_
      walk_at "go"
      refine r_I (.inr ⟨by omega, by omega⟩) ?_
      walk_at "go"
      have g1 : tb.sum * S ≤ 8000 * 5832 := Int.mul_le_mul (by omega) S2 (by omega) (by decide)
      have g2 : 0 ≤ X * (tb.length : Int) := Int.mul_nonneg X0 (by omega)
      refine r_I ⟨by omega, by omega⟩ ?_
      walk_at "go"
      refine q1 _ _ e1 fun h hd no => ?_
      exact decisive_never hs.allOk (by omega) (fun x hx => (nn x hx).1) S1 hlin (by omega) hd no
end
end NL
end
-- part A11
section
set_option Elab.async false
set_option linter.all false
set_option maxRecDepth 100000
set_option maxHeartbeats 4000000
namespace NL
open PySem PySem.Spec PyProof.Rows L2
open He (ga ma)
local macro_rules | `(tactic| walk_at "go1") => `(tactic| first
  | ((with_reducible refine' r_var ?hv ?_); (case hv => rfl))
  | with_reducible refine r_c ?_
  | with_reducible refine r_op ?_
  | with_reducible refine r_un ?_
  | with_reducible refine r_I0 ?_
  | with_reducible refine r_U ?_
  | ((with_reducible refine' r_ixT ?h1 ?h2 ?_); (case h1 => assumption); (case h2 => rfl))
  | ((with_reducible refine' r_ixL ?h1 ?h2 ?_); (case h1 => assumption); (case h2 => rfl))
  | with_reducible refine r_nil ?_
  | with_reducible refine r_cons ?_
  | with_reducible refine r_cb ?_
  | with_reducible refine r_call ?_
  | with_reducible refine r_ck ?_
  | with_reducible refine r_prop ?_
  | with_reducible refine r_gSub ?_
  | ((with_reducible refine' r_seqAug2 ?hv ?_); (case hv => rfl))
  | ((with_reducible refine' r_aug2 ?hv ?_); (case hv => rfl))
  | with_reducible refine r_ipI ?_
  | with_reducible refine r_seqAugS ?_
  | with_reducible refine r_augS ?_
  | with_reducible refine r_cont ?_
  | with_reducible refine r_brk ?_
  | with_reducible refine r_tt ?_
  | with_reducible refine r_ff ?_
  | with_reducible refine r_test ?_
  | with_reducible refine r_B ?_
  | with_reducible refine r_not ?_
  | with_reducible refine r_and ?_
  | with_reducible refine r_or ?_
  | with_reducible refine r_tup ?_
  | with_reducible refine r_lst ?_
  | with_reducible refine r_bl ?_
  | with_reducible refine r_max2 ?_
  | with_reducible refine r_min2 ?_
  | with_reducible refine r_abs ?_
  | with_reducible refine r_int1b ?_
  | with_reducible refine r_isN1 ?_
  | with_reducible refine r_isN2 ?_
  | with_reducible refine r_isN3 ?_
  | with_reducible refine r_notN1 ?_
  | with_reducible refine r_notN2 ?_
  | with_reducible refine r_notN3 ?_
  | with_reducible refine r_isN ?_
  | with_reducible refine r_notN ?_
  | with_reducible refine r_notBl ?_
  | ((with_reducible refine r_eq ?h1 ?_); (case h1 => rfl))
  | ((with_reducible refine r_ne ?h1 ?_); (case h1 => rfl))
  | with_reducible refine r_fld ?_
  | with_reducible refine r_sl ?_
  | with_reducible refine r_noPart ?_
  | with_reducible refine r_part ?_
  | with_reducible refine r_xint ?_
  | with_reducible refine r_bm ?_
  | with_reducible refine r_meth ?_
  | with_reducible refine r_callN ?_
  | ((with_reducible refine' r_lenQ ?h1 ?_); (case h1 => first | assumption | exact Or.inl (by assumption) | exact Or.inr (by assumption)))
  | with_reducible refine r_seqN ?_
  | with_reducible refine r_asgN ?_
  | with_reducible refine r_seqIf ?_
  | with_reducible refine r_seqFor ?_
  | with_reducible refine r_for ?_
  | with_reducible refine r_rng1 ?_
  | with_reducible refine r_rng2 ?_
  | with_reducible refine r_rng3 ?_
  | with_reducible refine r_itL ?_
  | with_reducible refine r_itT ?_
  | with_reducible refine r_lc ?_
  | with_reducible refine r_yes ?_
  | with_reducible refine r_itE ?_
  | with_reducible refine r_itEL ?_
  | with_reducible refine r_gN ?_
  | with_reducible refine r_seqA ?_
  | with_reducible refine r_asgA ?_
  | with_reducible refine r_if ?_
  | with_reducible refine r_retD ?_
  | with_reducible refine r_ret ?_
  | with_reducible refine r_seqDrop ?_
  | with_reducible refine r_drop ?_
  | with_reducible refine r_next ?_)
local macro_rules | `(tactic| walk_at "go") => `(tactic| (repeat walk_at "go1"))

section
variable {P : Program} {w : World} {K : PySem.W.Frag} {mg : Str → Option Value} {base : Heap}
abbrev N_greatest_deadline : List Str := ["system", "task"]
abbrev P_greatest_deadline : List Str := ["system"]
theorem sc_greatest_deadline : FnScope N_greatest_deadline P_greatest_deadline (defScope s_greatest_deadline) := ⟨rfl, rfl, rfl, by decide +kernel, rfl, by decide +kernel, by decide +kernel⟩
def sp_greatest_deadline (K : PySem.W.Frag) : Sp := fun vs H Q _ => ∃ (a : Addr) (ts : List Tk) (tb : List Int), vs = [.ref a] ∧ SysAt K H a ts tb ∧ ∀ H' (d : Nat), Same H H' → d ≤ 9 → (∀ t ∈ ts, ∀ k, k < t.n → t.dl k ≤ d) → Q (.int (d : Int)) H'
/-- each of the first tasks is under some number of the list -/
theorem max_of {ts : List Tk} {ds : List Nat} {P : Tk → Nat → Prop} (hP : ∀ t d e, P t d → d ≤ e → P t e) (hl : ds.length = ts.length) (h : ∀ (i : Nat) t d, ts[i]? = some t → ds[i]? = some d → P t d) {m : Int} (hb : ∀ y ∈ nat2 ds, y ≤ m) {M : Nat} (hM : m = (M : Int)) : ∀ t ∈ ts, P t M := fun t ht => by
  obtain ⟨i, hi, rfl⟩ := List.mem_iff_getElem.mp ht
  have hd : i < ds.length := by omega
  have := hb _ (List.mem_map.mpr ⟨_, List.getElem_mem hd, rfl⟩)
  exact hP _ _ _ (h i _ _ (List.getElem?_eq_getElem hi) (List.getElem?_eq_getElem hd)) (by omega)
theorem has_greatest_deadline (T : Tx K mg) : Has P w K mg base "greatest_deadline" P_greatest_deadline 3 (sp_greatest_deadline K) := by
  have h_T_latest_deadline := has_T_latest_deadline (P := P) (w := w) (base := base) T
  obtain ⟨fd, F⟩ := T.f_greatest_deadline
  refine has_mk F T.g_greatest_deadline (fun _ _ _ _ _ _ us hl => match us, hl with | [_], _ => rfl) (F.ok sc_greatest_deadline (fun vs H Q E h => ?_) (fun cdv A outer s H vs Q E hr h => ?_))
  · obtain ⟨_, _, _, rfl, _⟩ := h; rfl
  · obtain ⟨a, ts, tb, rfl, hs, q⟩ := h
    refine ⟨_, PSs.nox (pss_one (ps_ret (pe_callBK (k_maxDef (K := K)) (by rfl) T.b_max (by decide +kernel) (pa_cons (pe_lc (own := [("task", 1)]) rfl sc_greatest_deadline.nd (k_tup (K := K) (k_fld (K := K) (pv 0) rfl)) (blkOk_by (own := [("task", 1)]) (N := N_greatest_deadline) (sc := defScope s_greatest_deadline) (by decide +kernel)) (fun _ _ _ _ _ => (pg_name (i := 1) sc_greatest_deadline.nd rfl (.inl rfl))) (fun _ _ _ _ _ => pts_nil) (fun _ _ _ _ _ => (pe_hp h_T_latest_deadline (hr.mono (by decide)) (pv 1) rfl))) pa_nil) (pk_cons pe_int pk_nil)))), ?_⟩
    obtain ⟨n3, l1, l8, nn, dx, tl, tt, tvs, h1, h2, h3, h4, h5⟩ := id hs
    walk_at "go"
    refine x_tasks T h1 ?_
    refine ⟨tl, rfl, ⟨tvs, SqT.of h2⟩, fun D hD => lc_T (xs := tvs) (fun i H' => Same H H' ∧ ∃ ds : List Nat, H' D = some (.lst ((nat2 ds).map V.int)) ∧ ds.length = i ∧ (∀ d ∈ ds, d ≤ 9) ∧ ∀ (i : Nat) t d, ts[i]? = some t → ds[i]? = some d → ∀ k, k < t.n → t.dl k ≤ d) ⟨same_upd (Same.refl _) hD, [], upd_same, rfl, by simp, fun i t d _ h => by simp at h⟩ (fun i H' _ ⟨e, _⟩ => SqT.of (e _ _ h2)) ?_ ?_⟩
    · rintro i v H' hx ⟨e, ds, hu, hl, h9, hd⟩
      have hi := (List.getElem?_eq_some_iff.mp hx).1
      obtain ⟨p, t, rfl, et, hp⟩ := h5 i v hx
      obtain ⟨ok, dx2, kt, wt', z, kvs, wvs, g1, g2, g3, g4, g5⟩ := id hp
      walk_at "go"
      refine ⟨rfl, ?_⟩
      walk_at "go"
      refine ⟨p, dx2, _, rfl, e _ _ g1, p, t, rfl, hp.up e, fun d H2 e2 hd9 hdl => ?_⟩
      refine ⟨_, e2 _ _ hu, Nat.lt_of_lt_of_le (show _ < 100 by simp [nat2]; omega) (by decide), same_mut (e.trans e2) hD, ds ++ [d], ?_, by rw [List.length_append, hl]; rfl, fun x hx => ?_, fun j t' d' h1' h2' => ?_⟩
      · rw [upd_same]
        simp [nat2]
      · rcases List.mem_append.mp hx with hx | hx
        · exact h9 x hx
        · have : x = d := by simpa using hx
          omega
      · by_cases hj : j < ds.length
        · rw [List.getElem?_append_left hj] at h2'
          exact hd j t' d' h1' h2'
        · have hj2 : j = ds.length := by
            have := (List.getElem?_eq_some_iff.mp h2').1
            rw [List.length_append, List.length_singleton] at this
            omega
          subst hj2
          rw [List.getElem?_append_right (Nat.le_refl _), Nat.sub_self] at h2'
          have e1 : d = d' := Option.some.inj h2'
          rw [hl, et] at h1'
          have e2 : t = t' := Option.some.inj h1'
          subst e1; subst e2
          exact hdl
    · rintro H1 ⟨e1, ds, hu, hl, h9, hd⟩
      walk_at "go"
      refine r_maxDef (.of hu) (fun z => ?_) (fun m hm hb => ?_)
      · refine q _ 0 e1 (by decide) fun t ht => ?_
        have : ds.length = 0 := by simpa [nat2] using congrArg List.length z
        have : ts = [] := List.eq_nil_of_length_eq_zero (by omega)
        subst this
        cases ht
      · obtain ⟨M, hM, rfl⟩ := List.mem_map.mp hm
        exact q _ M e1 (h9 M hM) (max_of (P := fun t d => ∀ k, k < t.n → t.dl k ≤ d) (fun t d e h1 h2 k hk => Nat.le_trans (h1 k hk) h2) (by omega) hd hb rfl)
abbrev N_greatest_distance : List Str := ["system", "task"]
abbrev P_greatest_distance : List Str := ["system"]
theorem sc_greatest_distance : FnScope N_greatest_distance P_greatest_distance (defScope s_greatest_distance) := ⟨rfl, rfl, rfl, by decide +kernel, rfl, by decide +kernel, by decide +kernel⟩
def sp_greatest_distance (K : PySem.W.Frag) : Sp := fun vs H Q _ => ∃ (a : Addr) (ts : List Tk) (tb : List Int), vs = [.ref a] ∧ SysAt K H a ts tb ∧ ∀ H' (d : Nat), Same H H' → d ≤ 6 → (∀ t ∈ ts, ∀ k, k < t.m → t.dst k ≤ d) → Q (.int (d : Int)) H'
theorem has_greatest_distance (T : Tx K mg) : Has P w K mg base "greatest_distance" P_greatest_distance 3 (sp_greatest_distance K) := by
  have h_T_longest_distance := has_T_longest_distance (P := P) (w := w) (base := base) T
  obtain ⟨fd, F⟩ := T.f_greatest_distance
  refine has_mk F T.g_greatest_distance (fun _ _ _ _ _ _ us hl => match us, hl with | [_], _ => rfl) (F.ok sc_greatest_distance (fun vs H Q E h => ?_) (fun cdv A outer s H vs Q E hr h => ?_))
  · obtain ⟨_, _, _, rfl, _⟩ := h; rfl
  · obtain ⟨a, ts, tb, rfl, hs, q⟩ := h
    refine ⟨_, PSs.nox (pss_one (ps_ret (pe_callBK (k_maxDef (K := K)) (by rfl) T.b_max (by decide +kernel) (pa_cons (pe_lc (own := [("task", 1)]) rfl sc_greatest_distance.nd (k_tup (K := K) (k_fld (K := K) (pv 0) rfl)) (blkOk_by (own := [("task", 1)]) (N := N_greatest_distance) (sc := defScope s_greatest_distance) (by decide +kernel)) (fun _ _ _ _ _ => (pg_name (i := 1) sc_greatest_distance.nd rfl (.inl rfl))) (fun _ _ _ _ _ => pts_nil) (fun _ _ _ _ _ => (pe_hp h_T_longest_distance (hr.mono (by decide)) (pv 1) rfl))) pa_nil) (pk_cons pe_int pk_nil)))), ?_⟩
    obtain ⟨n3, l1, l8, nn, dx, tl, tt, tvs, h1, h2, h3, h4, h5⟩ := id hs
    walk_at "go"
    refine x_tasks T h1 ?_
    refine ⟨tl, rfl, ⟨tvs, SqT.of h2⟩, fun D hD => lc_T (xs := tvs) (fun i H' => Same H H' ∧ ∃ ds : List Nat, H' D = some (.lst ((nat2 ds).map V.int)) ∧ ds.length = i ∧ (∀ d ∈ ds, d ≤ 6) ∧ ∀ (i : Nat) t d, ts[i]? = some t → ds[i]? = some d → ∀ k, k < t.m → t.dst k ≤ d) ⟨same_upd (Same.refl _) hD, [], upd_same, rfl, by simp, fun i t d _ h => by simp at h⟩ (fun i H' _ ⟨e, _⟩ => SqT.of (e _ _ h2)) ?_ ?_⟩
    · rintro i v H' hx ⟨e, ds, hu, hl, h9, hd⟩
      have hi := (List.getElem?_eq_some_iff.mp hx).1
      obtain ⟨p, t, rfl, et, hp⟩ := h5 i v hx
      obtain ⟨ok, dx2, kt, wt', z, kvs, wvs, g1, g2, g3, g4, g5⟩ := id hp
      walk_at "go"
      refine ⟨rfl, ?_⟩
      walk_at "go"
      refine ⟨p, dx2, _, rfl, e _ _ g1, p, t, rfl, hp.up e, fun d H2 e2 hd9 hdl => ?_⟩
      refine ⟨_, e2 _ _ hu, Nat.lt_of_lt_of_le (show _ < 100 by simp [nat2]; omega) (by decide), same_mut (e.trans e2) hD, ds ++ [d], ?_, by rw [List.length_append, hl]; rfl, fun x hx => ?_, fun j t' d' h1' h2' => ?_⟩
      · rw [upd_same]
        simp [nat2]
      · rcases List.mem_append.mp hx with hx | hx
        · exact h9 x hx
        · have : x = d := by simpa using hx
          omega
      · by_cases hj : j < ds.length
        · rw [List.getElem?_append_left hj] at h2'
          exact hd j t' d' h1' h2'
        · have hj2 : j = ds.length := by
            have := (List.getElem?_eq_some_iff.mp h2').1
            rw [List.length_append, List.length_singleton] at this
            omega
          subst hj2
          rw [List.getElem?_append_right (Nat.le_refl _), Nat.sub_self] at h2'
          have e1 : d = d' := Option.some.inj h2'
          rw [hl, et] at h1'
          have e2 : t = t' := Option.some.inj h1'
          subst e1; subst e2
          exact hdl
    · rintro H1 ⟨e1, ds, hu, hl, h9, hd⟩
      walk_at "go"
      refine r_maxDef (.of hu) (fun z => ?_) (fun m hm hb => ?_)
      · refine q _ 0 e1 (by decide) fun t ht => ?_
        have : ds.length = 0 := by simpa [nat2] using congrArg List.length z
        have : ts = [] := List.eq_nil_of_length_eq_zero (by omega)
        subst this
        cases ht
      · obtain ⟨M, hM, rfl⟩ := List.mem_map.mp hm
        exact q _ M e1 (h9 M hM) (max_of (P := fun t d => ∀ k, k < t.m → t.dst k ≤ d) (fun t d e h1 h2 k hk => Nat.le_trans (h1 k hk) h2) (by omega) hd hb rfl)
abbrev N_row_growth : List Str := ["found", "length", "count", "step", "growth", "below", "upper", "lower", "number", "value"]
abbrev P_row_growth : List Str := ["found", "length", "count", "step"]
theorem sc_row_growth : FnScope N_row_growth P_row_growth (defScope s_row_growth) := ⟨rfl, rfl, rfl, by decide +kernel, rfl, by decide +kernel, by decide +kernel⟩
def sp_row_growth (K : PySem.W.Frag) : Sp := fun vs H Q _ => ∃ (f : Addr) (t : Tk) (m L D s : Nat), vs = [.ref f, .int (L : Int), .int (D : Int), .int (s : Int)] ∧ t.Ok ∧ Rows H f (rowsF t m) ∧ L < m ∧ D + s ≤ L ∧ D < 1000 ∧
  ∀ H' (g : Int), Same H H' → 0 ≤ g → (∀ j k, j < D → k < t.n → num t (L - j) k - num t (L - j - s) k ≤ g) → Q (.int g) H'
theorem nums_at {t : Tk} {i k : Nat} (hk : k < t.n) : (((List.range t.n).map (num t i)).map V.int)[k]? = some (V.int (num t i k)) := by
  rw [List.getElem?_map, List.getElem?_map, List.getElem?_range hk]
  rfl
theorem has_row_growth (T : Tx K mg) : HasK P w K mg base "row_growth" P_row_growth 1 ["length", "count", "step"] 1 (sp_row_growth K) := by
  obtain ⟨fd, F⟩ := T.f_row_growth
  refine hask_mk F T.g_row_growth (fun _ _ _ _ _ _ us ws h1 h2 => match us, ws, h1, h2 with | [_], [_, _, _], _, _ => rfl) (F.ok sc_row_growth (fun vs H Q E h => ?_) (fun cdv A outer s H vs Q E hr h => ?_))
  · obtain ⟨_, _, _, _, _, _, rfl, _⟩ := h; rfl
  · obtain ⟨f, t, m, L, D, s', rfl, ok, hf, hL, hD, hD2, q⟩ := h
    refine ⟨_, PSs.nox (pss_cons (ps_set (i := 4) sc_row_growth.nd rfl (.inl rfl) pe_int)
      (pss_cons (ps_for PassesOwn.never rfl (pi_range1 rfl T.b_range (pa_cons (pv 2) pa_nil)) (pg_name (i := 5) sc_row_growth.nd rfl (.inl rfl)) (pss_cons (ps_set (i := 6) sc_row_growth.nd rfl (.inl rfl) (pe_ix (k_ixL (K := K)) (pv 0) (pe_op op_sub (pv 1) (pv 5)) (fun _ _ => rfl)))
      (pss_cons (ps_set (i := 7) sc_row_growth.nd rfl (.inl rfl) (pe_ix (k_ixL (K := K)) (pv 0) (pe_op op_sub (pe_op op_sub (pv 1) (pv 5)) (pv 3)) (fun _ _ => rfl)))
      (pss_one (ps_for PassesOwn.never rfl (pi_enum (by rfl) T.b_enumerate (pa_cons (pv 6) pa_nil)) (k_tupG (K := K) (n := 2) rfl (pgs_cons (pg_name (i := 8) sc_row_growth.nd rfl (.inl rfl)) (pgs_cons (pg_name (i := 9) sc_row_growth.nd rfl (.inl rfl)) pgs_nil))) (pss_one (ps_set (i := 4) sc_row_growth.nd rfl (.inl rfl) (pe_callB (call_max2Q rfl) (by rfl) T.b_max (by decide +kernel) (pa_cons (pv 4) (pa_cons (pe_op op_sub (pv 9) (pe_ix (k_ixL (K := K)) (pv 7) (pv 8) (fun _ _ => rfl))) pa_nil))))))))))
      (pss_one (ps_ret (pv 4))))), ?_⟩
    walk_at "go"
    refine ⟨_, rfl, by omega, by omega, ?_⟩
    rw [Int.toNat_natCast]
    refine loop_range (fun i σ' H' => ∃ (g : Int) (z1 z2 z3 z4 z5 : Option V), σ' = [some (.ref f), some (.int (L : Int)), some (.int (D : Int)), some (.int (s' : Int)), some (.int g), z1, z2, z3, z4, z5] ∧ Same H H' ∧ 0 ≤ g ∧ (∀ j k, j < i → k < t.n → num t (L - j) k - num t (L - j - s') k ≤ g)) ⟨0, _, _, _, _, _, rfl, Same.refl _, by decide, fun j k h => by omega⟩ ?_ ?_
    · rintro i σ' H1 hi ⟨g, z1, z2, z3, z4, z5, rfl, e, g0, hg⟩
      have hf1 := hf.up e
      obtain ⟨vs, p1, r1, r2, r3⟩ := hf1.at (i := L - i) (by rw [rowsF_len]; omega)
      obtain ⟨vs', p2, s1, s2, s3⟩ := hf1.at (i := L - i - s') (by rw [rowsF_len]; omega)
      rw [r1] at s1
      have ev : vs' = vs := by injection (Option.some.inj s1) with z; exact z.symm
      subst ev
      rw [rowsF_row t (by omega)] at r3 s3
      walk_at "go"
      have e1 : (L : Int) - (0 + (i : Int)) = ((L - i : Nat) : Int) := by omega
      have e2 : (L : Int) - (0 + (i : Int)) - (s' : Int) = ((L - i - s' : Nat) : Int) := by omega
      rw [e1]
      refine r_ixL (SqL.of r1) (atI_nat r2) ?_
      walk_at "go"
      rw [e2]
      refine r_ixL (SqL.of r1) (atI_nat s2) ?_
      walk_at "go"
      refine ⟨p1, _, rfl, SqL.of r3, loop_enumL (fun j σ' H' => ∃ (g : Int) (z1 z4 z5 : Option V), σ' = [some (.ref f), some (.int (L : Int)), some (.int (D : Int)), some (.int (s' : Int)), some (.int g), z1, some (.ref p1), some (.ref p2), z4, z5] ∧ Same H1 H' ∧ 0 ≤ g ∧ (∀ j k, j < i → k < t.n → num t (L - j) k - num t (L - j - s') k ≤ g) ∧ ∀ k, k < j → num t (L - i) k - num t (L - i - s') k ≤ g) ⟨g, _, _, _, rfl, Same.refl _, g0, hg, fun k hk => by omega⟩ (fun i σ' H' _ ⟨_, _, _, _, _, e, _⟩ => SqL.of (e _ _ r3)) ?_ ?_⟩
      · rintro j x T' σ' H' hx hT ⟨g, z1, z4, z5, rfl, e', g0, hg, hgj⟩
        have hjn : j < t.n := by
          have := (List.getElem?_eq_some_iff.mp hx).1
          simpa using this
        rw [nums_at hjn] at hx
        have ex := (Option.some.inj hx).symm
        subst ex
        have e0 := same_upd (o := .tup [V.int (j : Nat), V.int (num t (L - i) j)]) e' hT
        refine r_tup2 rfl (SqT.of upd_same) ?_
        generalize upd H' T' (.tup [V.int (j : Nat), V.int (num t (L - i) j)]) = H3 at e0 ⊢
        walk_at "go"
        refine r_ixL (SqL.of (e0 _ _ s3)) (atI_nat (nums_at hjn)) ?_
        walk_at "go"
        refine ⟨_, _, some (.int (j : Nat)), some (.int (num t (L - i) j)), rfl, e0, ?_, fun j' k h1 h2 => ?_, fun k hk => ?_⟩
        · split <;> omega
        · have := hg j' k h1 h2
          split <;> omega
        · by_cases hkj : k = j
          · subst hkj
            split <;> omega
          · have := hgj k (by omega)
            split <;> omega
      · rintro σ' H' ⟨g, z1, z4, z5, rfl, e', g0, hg, hgj⟩
        have hgj' : ∀ k, k < t.n → num t (L - i) k - num t (L - i - s') k ≤ g := fun k hk => hgj k (by simpa using hk)
        refine ⟨g, _, _, _, _, _, rfl, e.trans e', g0, fun j k h1 h2 => ?_⟩
        by_cases hji : j = i
        · subst hji; exact hgj' k h2
        · exact hg j k (by omega) h2
    · rintro σ' H' ⟨g, z1, z2, z3, z4, z5, rfl, e, g0, hg⟩
      walk_at "go"
      exact q _ g e g0 hg
/-- the rows of the tasks -/
def AllRows (H : Hp) (f : Addr) (ts : List Tk) (m : Nat) : Prop := ∃ vs : List V, H f = some (.lst vs) ∧ vs.length = ts.length ∧ ∀ (i : Nat) v, vs[i]? = some v → ∃ p t, v = .ref p ∧ ts[i]? = some t ∧ Rows H p (rowsF t m)
theorem AllRows.up {H H' : Hp} {f : Addr} {ts : List Tk} {m : Nat} (h : AllRows H f ts m) (e : Same H H') : AllRows H' f ts m := by
  obtain ⟨vs, a, b, c⟩ := h
  exact ⟨vs, e _ _ a, b, fun i v q => let ⟨p, t, x, y, z⟩ := c i v q; ⟨p, t, x, y, z.up e⟩⟩
abbrev N_come_round : List Str := ["system", "found", "step", "horizon", "period", "count", "growth", "task_rows"]
abbrev P_come_round : List Str := ["system", "found", "step", "horizon"]
theorem sc_come_round : FnScope N_come_round P_come_round (defScope s_come_round) := ⟨rfl, rfl, rfl, by decide +kernel, rfl, by decide +kernel, by decide +kernel⟩
def sp_come_round (K : PySem.W.Frag) : Sp := fun vs H Q _ => ∃ (a : Addr) (ts : List Tk) (tb : List Int) (f : Addr) (s h : Nat), vs = [.ref a, .ref f, .int (s : Int), .int (h : Int)] ∧ SysAt K H a ts tb ∧ AllRows H f ts (h + 1) ∧ h < 1000 ∧ s < 1000 ∧
  ∀ H' b, Same H H' → (b = true → NoOver ts tb h → Never ts tb) → Q (.bl b) H'
theorem has_come_round (T : Tx K mg) : HasK P w K mg base "come_round" P_come_round 2 ["step", "horizon"] 4 (sp_come_round K) := by
  have h_greatest_deadline := has_greatest_deadline (P := P) (w := w) (base := base) T
  have h_greatest_distance := has_greatest_distance (P := P) (w := w) (base := base) T
  have h_row_growth := has_row_growth (P := P) (w := w) (base := base) T
  obtain ⟨fd, F⟩ := T.f_come_round
  refine hask_mk F T.g_come_round (fun _ _ _ _ _ _ us ws h1 h2 => match us, ws, h1, h2 with | [_, _], [_, _], _, _ => rfl) (F.ok sc_come_round (fun vs H Q E h => ?_) (fun cdv A outer s H vs Q E hr h => ?_))
  · obtain ⟨_, _, _, _, _, _, rfl, _⟩ := h; rfl
  · obtain ⟨a, ts, tb, f, s', h, rfl, hs, hf, hh, hs1, q⟩ := h
    refine ⟨_, PSs.nox (pss_cons (ps_set (i := 4) sc_come_round.nd rfl (.inl rfl) (pe_callB (k_len (K := K)) (by rfl) T.b_len PySem.boot_len (pa_cons (k_fld (K := K) (pv 0) rfl) pa_nil)))
      (pss_cons (ps_set (i := 5) sc_come_round.nd rfl (.inl rfl) (pe_hc h_greatest_distance (hr.mono (by decide)) (by rfl) (pa_cons (pv 0) pa_nil)))
      (pss_cons (ps_if (PW.pt (pw_or (pt_cmpR op_lt (pv 2) pe_int (nomark _)) (pw_or1 (pt_cmpR op_ne (pe_op op_mod (pv 2) (pv 4)) pe_int (nomark _))))) (pss_one (ps_ret pe_bl)) pss_nil)
      (pss_cons (ps_if (pt_cmpR op_gt (pe_op op_add (pe_op op_add (pe_op op_add (pe_hc h_greatest_deadline (hr.mono (by decide)) (by rfl) (pa_cons (pv 0) pa_nil)) (pv 5)) (pv 4)) (pv 2)) (pv 3) (nomark _)) (pss_one (ps_ret pe_bl)) pss_nil)
      (pss_cons (ps_set (i := 6) sc_come_round.nd rfl (.inl rfl) pe_int)
      (pss_cons (ps_for PassesOwn.never rfl (k_list (K := K) (pv 1)) (pg_name (i := 7) sc_come_round.nd rfl (.inl rfl)) (pss_one (ps_aug (i := 6) sc_come_round.nd rfl (.inl rfl) (pe_hk h_row_growth (hr.mono (by decide)) (by rfl) (pa_cons (pv 7) pa_nil) (pk_cons (pe_op op_sub (pv 3) (pv 4)) (pk_cons (pv 5) (pk_cons (pv 2) pk_nil)))) ip_add)))
      (pss_one (ps_ret (pe_cmpR op_le (pv 6) (pe_op op_mul (pe_callB (k_sumS (K := K)) (by rfl) T.b_sum (by decide +kernel) (pa_cons (k_fld (K := K) (pv 0) rfl) pa_nil)) (pe_op op_fdiv (pv 2) (pv 4))) (nomark _)))))))))), ?_⟩
    obtain ⟨n3, l1, l8, nn, dx, tl, tt, tvs, h1, h2, h3, h4, h5⟩ := id hs
    have sb := sum_bd tb nn
    walk_at "go"
    refine x_table T h1 ?_
    walk_at "go"
    refine ⟨tt, _, rfl, .inr (SqT.of h3), ?_⟩
    rw [List.length_map]
    walk_at "go"
    refine ⟨a, ts, tb, rfl, hs, fun H1 D e1 hD6 hD => ?_⟩
    walk_at "go"
    refine r_ite (fun c => ?_) (fun c => ?_)
    · walk_at "go"
      exact q _ false e1 (fun z => by cases z)
    · have c1 := of_decide_eq_false c
      walk_at "go"
      refine r_I (by omega) ?_
      walk_at "go"
      refine r_ite (fun c => ?_) (fun c => ?_)
      · walk_at "go"
        exact q _ false e1 (fun z => by cases z)
      · have c2 : (s' : Int) % (tb.length : Int) = 0 := by simpa using c
        walk_at "go"
        refine ⟨a, ts, tb, rfl, hs.up e1, fun H2 E e2 hE9 hE => ?_⟩
        have e02 := e1.trans e2
        walk_at "go"
        refine r_ite (fun c => ?_) (fun c => ?_)
        · walk_at "go"
          exact q _ false e02 (fun z => by cases z)
        · have c3 := of_decide_eq_false c
          obtain ⟨vs, fv, fl, fr⟩ := id hf
          walk_at "go"
          have elp : (h : Int) - (tb.length : Int) = ((h - tb.length : Nat) : Int) := by omega
          refine ⟨f, rfl, ⟨vs, SqL.of (e02 _ _ fv)⟩, loop_list (fun i σ' H' => ∃ (gs : List Int) (z : Option V), σ' = [some (.ref a), some (.ref f), some (.int (s' : Int)), some (.int (h : Int)), some (.int (tb.length : Int)), some (.int (D : Int)), some (.int gs.sum), z] ∧ Same H2 H' ∧ gs.length = i ∧ ∀ (j : Nat) t g, ts[j]? = some t → gs[j]? = some g → Grows t h tb.length D s' g) ⟨[], _, rfl, Same.refl _, rfl, fun j t g _ h => by simp at h⟩ (fun i σ' H' _ ⟨_, _, _, e, _⟩ => SqL.of (e _ _ (e02 _ _ fv))) ?_ ?_⟩
          · rintro i v σ' H' hx ⟨gs, z, rfl, e, gl', hg⟩
            have hi := (List.getElem?_eq_some_iff.mp hx).1
            obtain ⟨p, t, rfl, et, hr'⟩ := fr i v hx
            walk_at "go"
            rw [elp]
            refine ⟨rfl, rfl, p, t, h + 1, h - tb.length, D, s', rfl, hs.allOk t (List.mem_of_getElem? et), (hr'.up e02).up e, by omega, by omega, by omega, fun H3 g e3 g0 hgr => ?_⟩
            walk_at "go"
            refine ⟨gs ++ [g], some (.ref p), ?_, e.trans e3, by rw [List.length_append, gl']; rfl, fun j t' g' h1' h2' => ?_⟩
            · rw [List.sum_append]
              simp
            · by_cases hj : j < gs.length
              · rw [List.getElem?_append_left hj] at h2'
                exact hg j t' g' h1' h2'
              · have hj2 : j = gs.length := by
                  have := (List.getElem?_eq_some_iff.mp h2').1
                  rw [List.length_append, List.length_singleton] at this
                  omega
                subst hj2
                rw [List.getElem?_append_right (Nat.le_refl _), Nat.sub_self] at h2'
                have e1 : g = g' := Option.some.inj h2'
                rw [gl', et] at h1'
                have e2 : t = t' := Option.some.inj h1'
                subst e1; subst e2
                exact ⟨g0, hgr⟩
          · rintro σ' H' ⟨gs, z, rfl, e, gl', hg⟩
            walk_at "go"
            refine x_table T (e _ _ (e02 _ _ h1)) ?_
            walk_at "go"
            refine ⟨tt, tb, rfl, Sq.tup (e _ _ (e02 _ _ h3)), ?_⟩
            walk_at "go"
            refine r_I ⟨by omega, by omega⟩ ?_
            refine r_I (.inl ⟨by omega, by omega⟩) ?_
            walk_at "go"
            refine q _ _ (e02.trans e) fun hb no => ?_
            have hb := of_decide_eq_true hb
            have eq1 : (s' : Int) / (tb.length : Int) = ((s' / tb.length : Nat) : Int) := by omega
            rw [eq1] at hb
            have c2' : s' % tb.length = 0 := by
              have : ((s' % tb.length : Nat) : Int) = 0 := by rw [Int.natCast_emod]; exact c2
              omega
            exact rounds_never (q := s') hs.allOk (by omega) (by omega) c2' hE hD (by omega) (by omega) hg hb no
theorem Rows.mutD {H : Hp} {p D : Addr} {o : HO} {us : List V} {f : List (List Int)} (h : Rows H p f) (hD : H D = some (.lst us)) (hp : p ≠ D) (hus : ∀ (j : Nat) v, us[j]? = some v → ∃ q, v = .ref q) (hne : ∀ i, i < f.length → f.getD i [] ≠ []) : Rows (upd H D o) p f := by
  obtain ⟨vs, h1, h2, h3⟩ := h
  refine ⟨vs, by rw [upd_ne hp]; exact h1, h2, fun i v q => ?_⟩
  obtain ⟨r, e, n, hr⟩ := h3 i v q
  have hi := (List.getElem?_eq_some_iff.mp q).1
  refine ⟨r, e, n, ?_⟩
  have nr : r ≠ D := fun z => by
    subst z
    rw [hr] at hD
    have z : (f.getD i []).map V.int = us := by injection (Option.some.inj hD)
    cases hf : f.getD i [] with
    | nil => exact hne i (by omega) hf
    | cons x l =>
      rw [hf] at z
      obtain ⟨q, hq⟩ := hus 0 (V.int x) (by rw [← z]; rfl)
      cases hq
  rw [upd_ne nr]
  exact hr
abbrev N_rounds : List Str := ["system", "horizon", "found", "period", "step", "task"]
abbrev P_rounds : List Str := ["system", "horizon"]
theorem sc_rounds : FnScope N_rounds P_rounds (defScope s_rounds) := ⟨rfl, rfl, rfl, by decide +kernel, rfl, by decide +kernel, by decide +kernel⟩
def sp_rounds (K : PySem.W.Frag) : Sp := fun vs H Q _ => ∃ (a : Addr) (ts : List Tk) (tb : List Int) (h : Nat), vs = [.ref a, .int (h : Int)] ∧ SysAt K H a ts tb ∧ h < 900 ∧ (∀ H', Same H H' → Q .non H') ∧
  ∀ H' (s : Int), Same H H' → (NoOver ts tb h → Never ts tb) → Q (.int s) H'
theorem has_rounds (T : Tx K mg) : HasK P w K mg base "rounds" P_rounds 1 ["horizon"] 5 (sp_rounds K) := by
  have h_come_round := has_come_round (P := P) (w := w) (base := base) T
  have h_rows := has_rows (P := P) (w := w) (base := base) T
  obtain ⟨fd, F⟩ := T.f_rounds
  refine hask_mk F T.g_rounds (fun _ _ _ _ _ _ us ws h1 h2 => match us, ws, h1, h2 with | [_], [_], _, _ => rfl) (F.ok sc_rounds (fun vs H Q E h => ?_) (fun cdv A outer s H vs Q E hr h => ?_))
  · obtain ⟨_, _, _, _, rfl, _⟩ := h; rfl
  · obtain ⟨a, ts, tb, h, rfl, hs, hh, q0, q1⟩ := h
    refine ⟨_, PSs.nox (pss_cons (ps_setLc (i := 2) (own := [("task", 5)]) rfl sc_rounds.nd rfl rfl (sw_true rfl rfl rfl (by decide +kernel)) (k_tup (K := K) (k_fld (K := K) (pv 0) rfl)) (blkOk_by (own := [("task", 5)]) (N := N_rounds) (sc := defScope s_rounds) (by decide +kernel)) (fun _ _ _ _ _ => (pg_name (i := 5) sc_rounds.nd rfl (.inl rfl))) (fun _ _ _ _ _ => pts_nil) (fun _ _ _ _ _ => (pe_hc h_rows (hr.mono (by decide)) (by rfl) (pa_cons (pv 5) (pa_cons (pv 1) pa_nil)))))
      (pss_cons (ps_set (i := 3) sc_rounds.nd rfl (.inl rfl) (pe_callB (k_len (K := K)) (by rfl) T.b_len PySem.boot_len (pa_cons (k_fld (K := K) (pv 0) rfl) pa_nil)))
      (pss_cons (ps_for PassesOwn.never rfl (pi_range3 rfl T.b_range (pa_cons (pv 3) (pa_cons (pe_op op_add (pv 1) pe_int) (pa_cons (pv 3) pa_nil)))) (pg_name (i := 4) sc_rounds.nd rfl (.inl rfl)) (pss_one (ps_if (pt_val (pe_hk h_come_round (hr.mono (by decide)) (by rfl) (pa_cons (pv 0) (pa_cons (pv 2) pa_nil)) (pk_cons (pv 4) (pk_cons (pv 1) pk_nil)))) (pss_one (ps_ret (pv 4))) pss_nil)))
      (pss_one (ps_ret pe_non))))), ?_⟩
    obtain ⟨n3, l1, l8, nn, dx, tl, tt, tvs, h1, h2, h3, h4, h5⟩ := id hs
    walk_at "go"
    refine x_tasks T h1 ?_
    refine ⟨tl, rfl, ⟨tvs, SqT.of h2⟩, fun D hD => lc_T (xs := tvs) (fun i H' => Same H H' ∧ ∃ us, H' D = some (.lst us) ∧ us.length = i ∧ ∀ (j : Nat) v, us[j]? = some v → ∃ p t, v = .ref p ∧ p ≠ D ∧ ts[j]? = some t ∧ Rows H' p (rowsF t (h + 1))) ⟨same_upd (Same.refl _) hD, [], upd_same, rfl, fun i v q => by simp at q⟩ (fun i H' _ ⟨e, _⟩ => SqT.of (e _ _ h2)) ?_ ?_⟩
    · rintro i v H' hx ⟨e, us, hu, hl, hb⟩
      have hi := (List.getElem?_eq_some_iff.mp hx).1
      obtain ⟨p, t, rfl, et, hp⟩ := h5 i v hx
      walk_at "go"
      refine ⟨rfl, ?_⟩
      walk_at "go"
      refine ⟨p, t, h, rfl, hp.up e, by omega, fun H2 f e2 hf0 hf => ?_⟩
      have hu2 := e2 _ _ hu
      have hus : ∀ (j : Nat) v, us[j]? = some v → ∃ q, v = .ref q := fun j v q => let ⟨p, t, a, _⟩ := hb j v q; ⟨p, a⟩
      have n1 : ∀ t ∈ ts, ∀ i, i < (rowsF t (h + 1)).length → (rowsF t (h + 1)).getD i [] ≠ [] := fun t ht i hi z => by
        have := rowsF_lens t hi
        rw [z] at this
        have := (hs.allOk t ht).n1
        simp at *
        omega
      refine ⟨us, hu2, Nat.lt_of_lt_of_le (show _ < 100 by omega) (by decide), same_mut (e.trans e2) hD, _, upd_same, by rw [List.length_append, hl]; rfl, fun j v hj => ?_⟩
      by_cases hji : j < us.length
      · rw [List.getElem?_append_left hji] at hj
        obtain ⟨p3, t3, b1, b2, b3, b4⟩ := hb j v hj
        exact ⟨p3, t3, b1, b2, b3, (b4.up e2).mutD hu2 b2 hus (n1 t3 (List.mem_of_getElem? b3))⟩
      · have hl' : j = us.length := by
          have := (List.getElem?_eq_some_iff.mp hj).1
          rw [List.length_append, List.length_singleton] at this
          omega
        subst hl'
        rw [List.getElem?_append_right (Nat.le_refl _), Nat.sub_self] at hj
        have nf : f ≠ D := (ne_of_none hu hf0).symm
        exact ⟨f, t, (Option.some.inj hj).symm, nf, by rw [hl]; exact et, hf.mutD hu2 nf hus (n1 t (List.mem_of_getElem? et))⟩
    · rintro H1 ⟨e1, us, hu, hl, hb⟩
      have hAll : AllRows H1 D ts (h + 1) := ⟨us, hu, by omega, fun i v q => let ⟨p, t, b1, _, b3, b4⟩ := hb i v q; ⟨p, t, b1, b3, b4⟩⟩
      walk_at "go"
      refine x_table T (e1 _ _ h1) ?_
      walk_at "go"
      refine ⟨tt, _, rfl, .inr (SqT.of (e1 _ _ h3)), ?_⟩
      rw [List.length_map]
      walk_at "go"
      refine ⟨_, _, _, _, rfl, RgC.up (by omega) (by omega) (by omega) (by omega) (by omega) (by omega), ?_⟩
      refine loop_rangeC (fun i σ' H' => ∃ z : Option V, σ' = [some (.ref a), some (.int (h : Int)), some (.ref D), some (.int (tb.length : Int)), z, none] ∧ Same H1 H') ⟨_, rfl, Same.refl _⟩ ?_ ?_
      · rintro i σ' H' hi ⟨z, rfl, e⟩
        have hlt := up_lt (i := (tb.length : Int)) (j := (h : Int) + 1) (c := (tb.length : Int)) (by omega) hi
        have es : (tb.length : Int) + (i : Int) * (tb.length : Int) = ((tb.length + i * tb.length : Nat) : Int) := by
          rw [Int.natCast_add, Int.natCast_mul]
        rw [es] at hlt
        walk_at "go"
        rw [es]
        refine ⟨rfl, rfl, a, ts, tb, D, tb.length + i * tb.length, h, rfl, (hs.up e1).up e, hAll.up e, by omega, by omega, fun H2 b e2 hb => ?_⟩
        refine ⟨b, rfl, r_ite (fun c => ?_) (fun c => ?_)⟩
        · walk_at "go"
          exact q1 _ _ ((e1.trans e).trans e2) (hb c)
        · walk_at "go"
          exact ⟨_, rfl, e.trans e2⟩
      · rintro σ' H' ⟨z, rfl, e⟩
        walk_at "go"
        exact q0 _ (e1.trans e)
abbrev N_first_overfull : List Str := ["system", "horizon", "totals", "period", "end", "start"]
abbrev P_first_overfull : List Str := ["system", "horizon"]
theorem sc_first_overfull : FnScope N_first_overfull P_first_overfull (defScope s_first_overfull) := ⟨rfl, rfl, rfl, by decide +kernel, rfl, by decide +kernel, by decide +kernel⟩
def sp_first_overfull (K : PySem.W.Frag) : Sp := fun vs H Q _ => ∃ (a : Addr) (ts : List Tk) (tb : List Int) (h : Nat), vs = [.ref a, .int (h : Int)] ∧ SysAt K H a ts tb ∧ h < 900 ∧ (∀ H', Same H H' → NoOver ts tb h → Q .non H') ∧
  ∀ H' (p : Addr) (e s : Nat), Same H H' → H' p = some (.tup [.int (e : Int), .int (s : Int)]) → e ≤ h → s < e → ¬ Never ts tb → Q (.ref p) H'
theorem has_first_overfull (T : Tx K mg) : HasK P w K mg base "first_overfull" P_first_overfull 1 ["horizon"] 7 (sp_first_overfull K) := by
  have h_supply := has_supply (P := P) (w := w) (base := base) T
  have h_system_demands := has_system_demands (P := P) (w := w) (base := base) T
  obtain ⟨fd, F⟩ := T.f_first_overfull
  refine hask_mk F T.g_first_overfull (fun _ _ _ _ _ _ us ws h1 h2 => match us, ws, h1, h2 with | [_], [_], _, _ => rfl) (F.ok sc_first_overfull (fun vs H Q E h => ?_) (fun cdv A outer s H vs Q E hr h => ?_))
  · obtain ⟨_, _, _, _, rfl, _⟩ := h; rfl
  · obtain ⟨a, ts, tb, h, rfl, hs, hh, q0, q1⟩ := h
    refine ⟨_, PSs.nox (pss_cons (ps_set (i := 2) sc_first_overfull.nd rfl (.inl rfl) (pe_hc h_system_demands (hr.mono (by decide)) (by rfl) (pa_cons (pv 0) (pa_cons (pv 1) pa_nil))))
      (pss_cons (ps_set (i := 3) sc_first_overfull.nd rfl (.inl rfl) (pe_callB (k_len (K := K)) (by rfl) T.b_len PySem.boot_len (pa_cons (k_fld (K := K) (pv 0) rfl) pa_nil)))
      (pss_cons (ps_for PassesOwn.never rfl (pi_range2 rfl T.b_range (pa_cons pe_int (pa_cons (pe_op op_add (pv 1) pe_int) pa_nil))) (pg_name (i := 4) sc_first_overfull.nd rfl (.inl rfl)) (pss_one (ps_for PassesOwn.never rfl (pi_range3 rfl T.b_range (pa_cons (pe_op op_sub (pe_callB (call_min2Q rfl) (by rfl) T.b_min (by decide +kernel) (pa_cons (pv 4) (pa_cons (pv 3) pa_nil))) pe_int) (pa_cons (pe_un un_neg pe_int) (pa_cons (pe_un un_neg pe_int) pa_nil)))) (pg_name (i := 5) sc_first_overfull.nd rfl (.inl rfl)) (pss_one (ps_if (pt_cmpR op_gt (pe_ix (k_ixL (K := K)) (pv 2) (pe_op op_sub (pv 4) (pv 5)) (fun _ _ => rfl)) (pe_hc h_supply (hr.mono (by decide)) (by rfl) (pa_cons (k_fld (K := K) (pv 0) rfl) (pa_cons (pv 5) (pa_cons (pv 4) pa_nil)))) (nomark _)) (pss_one (ps_ret (pe_tup (pa_cons (pv 4) (pa_cons (pv 5) pa_nil))))) pss_nil)))))
      (pss_one (ps_ret pe_non))))), ?_⟩
    obtain ⟨n3, l1, l8, nn, dx, tl, tt, tvs, h1, h2, h3, h4, h5⟩ := id hs
    walk_at "go"
    refine ⟨a, ts, tb, h, rfl, hs, by omega, fun H1 D e1 hD0 hD => ?_⟩
    walk_at "go"
    refine x_table T (e1 _ _ h1) ?_
    walk_at "go"
    refine ⟨tt, _, rfl, .inr (SqT.of (e1 _ _ h3)), ?_⟩
    rw [List.length_map]
    walk_at "go"
    refine ⟨1, _, rfl, ⟨by decide, by decide, by omega, by omega⟩, ?_⟩
    rw [show ((h : Int) + 1 - 1).toNat = h by omega]
    refine loop_range (fun i σ' H' => ∃ z1 z2, σ' = [some (.ref a), some (.int (h : Int)), some (.ref D), some (.int (tb.length : Int)), z1, z2] ∧ Same H1 H' ∧ NoOver ts tb i) ⟨_, _, rfl, Same.refl _, fun e s h1 h2 => by omega⟩ ?_ ?_
    · rintro i σ' H' hi ⟨z1, z2, rfl, e, no⟩
      have ei : (1 : Int) + (i : Int) = ((i + 1 : Nat) : Int) := by omega
      walk_at "go"
      rw [ei]
      have em : (if (tb.length : Int) < ((i + 1 : Nat) : Int) then (tb.length : Int) else ((i + 1 : Nat) : Int)) = ((min (i + 1) tb.length : Nat) : Int) := by
        rw [Nat.min_def]
        split <;> split <;> omega
      rw [em]
      refine ⟨_, _, _, _, rfl, RgC.neg (by omega) (by omega) (by omega) (by omega), ?_⟩
      have en : (((min (i + 1) tb.length : Nat) : Int) - 1 - -1).toNat = min (i + 1) tb.length := by omega
      rw [en]
      refine loop_rangeC (fun j σ' H'' => ∃ z2, σ' = [some (.ref a), some (.int (h : Int)), some (.ref D), some (.int (tb.length : Int)), some (.int ((i + 1 : Nat) : Int)), z2] ∧ Same H' H'' ∧ ∀ s, s < min (i + 1) tb.length → min (i + 1) tb.length - j ≤ s → sysDem ts (i + 1 - s) ≤ sup tb s (i + 1)) ⟨_, rfl, Same.refl _, fun s h1 h2 => by omega⟩ ?_ ?_
      · rintro j σ' H'' hj ⟨z2, rfl, e', hno⟩
        have hle := Nat.min_le_left (i + 1) tb.length
        have hle2 := Nat.min_le_right (i + 1) tb.length
        generalize min (i + 1) tb.length = M at *
        have ej : (M : Int) - 1 + (j : Int) * -1 = ((M - 1 - j : Nat) : Int) := by omega
        have ed : ((i + 1 : Nat) : Int) - ((M - 1 - j : Nat) : Int) = ((i + 1 - (M - 1 - j) : Nat) : Int) := by omega
        walk_at "go"
        rw [ej, ed]
        refine r_ixL (SqL.of (e' _ _ (e _ _ hD))) (v := V.int (sysDem ts (i + 1 - (M - 1 - j)))) (atI_nat ?_) ?_
        · rw [List.getElem?_map, List.getElem?_map, List.getElem?_range (by omega)]
          rfl
        walk_at "go"
        have e03 := (e1.trans e).trans e'
        refine x_table T (e03 _ _ h1) ?_
        walk_at "go"
        refine ⟨tt, tb, M - 1 - j, i + 1, rfl, Sq.tup (e03 _ _ h3), by omega, by omega, by omega, by omega, fun H3 e4 => ?_⟩
        walk_at "go"
        refine r_ite (fun c => ?_) (fun c => ?_)
        · walk_at "go"
          refine ⟨by show 2 ≤ sizeLine; decide, fun p hp => ?_⟩
          exact q1 _ p (i + 1) (M - 1 - j) (same_upd (e03.trans e4) hp) upd_same (by omega) (by omega) fun hN => by
            have h1 := hN (M - 1 - j) (i + 1 - (M - 1 - j))
            rw [show M - 1 - j + (i + 1 - (M - 1 - j)) = i + 1 by omega] at h1
            have h2 := of_decide_eq_true c
            omega
        · have c := of_decide_eq_false c
          walk_at "go"
          refine ⟨some (.int ((M - 1 - j : Nat) : Int)), rfl, e'.trans e4, fun s hs1 hs2 => ?_⟩
          by_cases hse : s = M - 1 - j
          · subst hse; omega
          · exact hno s hs1 (by omega)
      · rintro σ' H'' ⟨z2, rfl, e', hno⟩
        refine ⟨_, _, rfl, e.trans e', fun e2 s g1 g2 g3 => ?_⟩
        by_cases hee : e2 = i + 1
        · subst hee
          exact hno s g3 (by omega)
        · exact no e2 s g1 (by omega) g3
    · rintro σ' H' ⟨z1, z2, rfl, e, no⟩
      walk_at "go"
      exact q0 _ (e1.trans e) no
abbrev N_is_decided : List Str := ["system", "horizon", "decisive"]
abbrev P_is_decided : List Str := ["system", "horizon"]
theorem sc_is_decided : FnScope N_is_decided P_is_decided (defScope s_is_decided) := ⟨rfl, rfl, rfl, by decide +kernel, rfl, by decide +kernel, by decide +kernel⟩
def sp_is_decided (K : PySem.W.Frag) : Sp := fun vs H Q _ => ∃ (a : Addr) (ts : List Tk) (tb : List Int) (h : Nat), vs = [.ref a, .int (h : Int)] ∧ SysAt K H a ts tb ∧ h < 900 ∧ ∀ H' b, Same H H' → (b = true → NoOver ts tb h → Never ts tb) → Q (.bl b) H'
theorem has_is_decided (T : Tx K mg) : HasK P w K mg base "is_decided" P_is_decided 1 ["horizon"] 12 (sp_is_decided K) := by
  have h_decisive_horizon := has_decisive_horizon (P := P) (w := w) (base := base) T
  have h_rounds := has_rounds (P := P) (w := w) (base := base) T
  obtain ⟨fd, F⟩ := T.f_is_decided
  refine hask_mk F T.g_is_decided (fun _ _ _ _ _ _ us ws h1 h2 => match us, ws, h1, h2 with | [_], [_], _, _ => rfl) (F.ok sc_is_decided (fun vs H Q E h => ?_) (fun cdv A outer s H vs Q E hr h => ?_))
  · obtain ⟨_, _, _, _, rfl, _⟩ := h; rfl
  · obtain ⟨a, ts, tb, h, rfl, hs, hh, q⟩ := h
    refine ⟨_, PSs.nox (pss_cons (ps_if (pt_cmpR op_eq (pe_callB (k_len (K := K)) (by rfl) T.b_len PySem.boot_len (pa_cons (k_fld (K := K) (pv 0) rfl) pa_nil)) pe_int (nomark _)) (pss_one (ps_ret pe_bl)) pss_nil)
      (pss_cons (ps_set (i := 2) sc_is_decided.nd rfl (.inl rfl) (pe_hc h_decisive_horizon (hr.mono (by decide)) (by rfl) (pa_cons (pv 0) pa_nil)))
      (pss_cons (ps_if (PW.pt (pw_and (pt_cmpR op_notNQ (pv 2) pe_non (nomark _)) (pw_and1 (pt_cmpR op_le (pv 2) (pv 1) (nomark _))))) (pss_one (ps_ret pe_bl)) pss_nil)
      (pss_one (ps_ret (pe_cmpR op_notNQ (pe_hk h_rounds (hr.mono (by decide)) (by rfl) (pa_cons (pv 0) pa_nil) (pk_cons (pv 1) pk_nil)) pe_non (nomark _))))))), ?_⟩
    obtain ⟨n3, l1, l8, nn, dx, tl, tt, tvs, h1, h2, h3, h4, h5⟩ := id hs
    walk_at "go"
    refine x_tasks T h1 ?_
    walk_at "go"
    refine ⟨tl, _, rfl, .inr (SqT.of h2), ?_⟩
    walk_at "go"
    refine r_ite (fun c => ?_) (fun c => ?_)
    · walk_at "go"
      have : (tvs.length : Int) = 0 := by simpa using c
      have : ts = [] := List.eq_nil_of_length_eq_zero (by omega)
      subst this
      exact q _ true (Same.refl _) fun _ _ => never_nil fun x hx => (nn x hx).1
    · walk_at "go"
      refine ⟨a, ts, tb, rfl, hs, fun H1 e1 => ?_, fun H1 d e1 hd => ?_⟩
      · walk_at "go"
        refine ⟨rfl, rfl, a, ts, tb, h, rfl, hs.up e1, hh, fun H2 e2 => ?_, fun H2 s e2 hn => ?_⟩
        · walk_at "go"
          exact q _ false (e1.trans e2) fun z => by cases z
        · walk_at "go"
          exact q _ true (e1.trans e2) fun _ => hn
      · walk_at "go"
        refine r_ite (fun c => ?_) (fun c => ?_)
        · walk_at "go"
          exact q _ true e1 fun _ => hd h (of_decide_eq_true c)
        · walk_at "go"
          refine ⟨rfl, rfl, a, ts, tb, h, rfl, hs.up e1, hh, fun H2 e2 => ?_, fun H2 s e2 hn => ?_⟩
          · walk_at "go"
            exact q _ false (e1.trans e2) fun z => by cases z
          · walk_at "go"
            exact q _ true (e1.trans e2) fun _ => hn
end
end NL
end
-- part A12
section
set_option Elab.async false
set_option linter.all false
set_option maxRecDepth 100000
set_option maxHeartbeats 4000000
namespace NL
open PySem PySem.Spec PyProof.Rows L2
open He (ga ma)
local macro_rules | `(tactic| walk_at "go1") => `(tactic| first
  | ((with_reducible refine' r_var ?hv ?_); (case hv => rfl))
  | with_reducible refine r_c ?_
  | with_reducible refine r_op ?_
  | with_reducible refine r_un ?_
  | with_reducible refine r_I0 ?_
  | with_reducible refine r_U ?_
  | ((with_reducible refine' r_ixT ?h1 ?h2 ?_); (case h1 => assumption); (case h2 => rfl))
  | ((with_reducible refine' r_ixL ?h1 ?h2 ?_); (case h1 => assumption); (case h2 => rfl))
  | with_reducible refine r_nil ?_
  | with_reducible refine r_cons ?_
  | with_reducible refine r_cb ?_
  | with_reducible refine r_call ?_
  | with_reducible refine r_ck ?_
  | with_reducible refine r_nt ?_
  | with_reducible refine r_nf ?_
  | with_reducible refine r_itS ?_
  | with_reducible refine r_chain ?_
  | with_reducible refine r_inS ?_
  | with_reducible refine r_mkK ?_
  | with_reducible refine r_mk ?_
  | with_reducible refine r_seqSfld ?_
  | with_reducible refine r_sfld ?_
  | with_reducible refine r_ifExp ?_
  | with_reducible refine r_prop ?_
  | with_reducible refine r_gSub ?_
  | ((with_reducible refine' r_seqAug2 ?hv ?_); (case hv => rfl))
  | ((with_reducible refine' r_aug2 ?hv ?_); (case hv => rfl))
  | with_reducible refine r_ipI ?_
  | with_reducible refine r_seqAugS ?_
  | with_reducible refine r_augS ?_
  | with_reducible refine r_cont ?_
  | with_reducible refine r_brk ?_
  | with_reducible refine r_tt ?_
  | with_reducible refine r_ff ?_
  | with_reducible refine r_test ?_
  | with_reducible refine r_B ?_
  | with_reducible refine r_not ?_
  | with_reducible refine r_and ?_
  | with_reducible refine r_or ?_
  | with_reducible refine r_tup ?_
  | with_reducible refine r_lst ?_
  | with_reducible refine r_bl ?_
  | with_reducible refine r_max2 ?_
  | with_reducible refine r_min2 ?_
  | with_reducible refine r_abs ?_
  | with_reducible refine r_int1b ?_
  | with_reducible refine r_isN1 ?_
  | with_reducible refine r_isN2 ?_
  | with_reducible refine r_isN3 ?_
  | with_reducible refine r_notN1 ?_
  | with_reducible refine r_notN2 ?_
  | with_reducible refine r_notN3 ?_
  | with_reducible refine r_isN ?_
  | with_reducible refine r_notN ?_
  | with_reducible refine r_notBl ?_
  | ((with_reducible refine r_eq ?h1 ?_); (case h1 => rfl))
  | ((with_reducible refine r_ne ?h1 ?_); (case h1 => rfl))
  | with_reducible refine r_fld ?_
  | with_reducible refine r_sl ?_
  | with_reducible refine r_noPart ?_
  | with_reducible refine r_part ?_
  | with_reducible refine r_xint ?_
  | with_reducible refine r_bm ?_
  | with_reducible refine r_meth ?_
  | with_reducible refine r_callN ?_
  | ((with_reducible refine' r_lenQ ?h1 ?_); (case h1 => first | assumption | exact Or.inl (by assumption) | exact Or.inr (by assumption)))
  | with_reducible refine r_seqN ?_
  | with_reducible refine r_asgN ?_
  | with_reducible refine r_seqIf ?_
  | with_reducible refine r_seqFor ?_
  | with_reducible refine r_for ?_
  | with_reducible refine r_rng1 ?_
  | with_reducible refine r_rng2 ?_
  | with_reducible refine r_rng3 ?_
  | with_reducible refine r_itL ?_
  | with_reducible refine r_itT ?_
  | with_reducible refine r_lc ?_
  | with_reducible refine r_yes ?_
  | with_reducible refine r_itE ?_
  | with_reducible refine r_itEL ?_
  | with_reducible refine r_gN ?_
  | with_reducible refine r_seqA ?_
  | with_reducible refine r_asgA ?_
  | with_reducible refine r_if ?_
  | with_reducible refine r_retD ?_
  | with_reducible refine r_ret ?_
  | with_reducible refine r_seqDrop ?_
  | with_reducible refine r_drop ?_
  | with_reducible refine r_next ?_)
local macro_rules | `(tactic| walk_at "go") => `(tactic| (repeat walk_at "go1"))

/-! ### lists of tuples -/
def Tups (H : Hp) (us : List V) (F : Nat → List V) : Prop := ∀ (i : Nat) v, us[i]? = some v → ∃ p, v = .ref p ∧ H p = some (.tup (F i))
theorem Tups.up {H H' : Hp} {us : List V} {F : Nat → List V} (h : Tups H us F) (e : Same H H') : Tups H' us F := fun i v q => let ⟨p, a, b⟩ := h i v q; ⟨p, a, e _ _ b⟩
theorem Tups.mut {H : Hp} {us xs : List V} {F : Nat → List V} {D : Addr} {o : HO} (h : Tups H us F) (hD : H D = some (.lst xs)) : Tups (upd H D o) us F := fun i v q => by
  obtain ⟨p, a, b⟩ := h i v q
  exact ⟨p, a, by rw [upd_ne (ne_of b hD (by simp))]; exact b⟩
theorem Tups.nil {H : Hp} {F : Nat → List V} : Tups H [] F := fun i v q => by simp at q
theorem Tups.snoc {H : Hp} {us : List V} {F : Nat → List V} {p : Addr} (h : Tups H us F) (hp : H p = some (.tup (F us.length))) : Tups H (us ++ [.ref p]) F := fun i v q => by
  by_cases hi : i < us.length
  · rw [List.getElem?_append_left hi] at q
    exact h i v q
  · have hl : i = us.length := by
      have := (List.getElem?_eq_some_iff.mp q).1
      rw [List.length_append, List.length_singleton] at this
      omega
    subst hl
    rw [List.getElem?_append_right (Nat.le_refl _), Nat.sub_self] at q
    exact ⟨p, (Option.some.inj q).symm, hp⟩
def kF (t : Tk) (i : Nat) : List V := [.str (nm i), .int (t.cost i), .int ((t.dl i : Nat) : Int)]
def wF (t : Tk) (i : Nat) : List V := [.str (nm (t.src i)), .str (nm (t.tgt i)), .int ((t.dst i : Nat) : Int)]
theorem KindsT.tups {H : Hp} {us : List V} {t : Tk} (h : KindsT H us t) : Tups H us (kF t) := h.2
theorem WaysT.tups {H : Hp} {us : List V} {t : Tk} (h : WaysT H us t) : Tups H us (wF t) := h.2
def NC : Str := "abcdefghijklmnopqrstuvwxyz0123456789"
def NmOk (z : Str) : Prop := 1 ≤ z.length ∧ z.length ≤ 12 ∧ ∀ c ∈ z.cps.toList, c ∈ NC.cps.toList
theorem nm_ok {i : Nat} (h : i < 3) : NmOk (nm i) := by
  have : i = 0 ∨ i = 1 ∨ i = 2 := by omega
  rcases this with e | e | e
  · subst e; exact ⟨by decide, by decide, by decide +kernel⟩
  · subst e; exact ⟨by decide, by decide, by decide +kernel⟩
  · subst e; exact ⟨by decide, by decide, by decide +kernel⟩
def nms (n : Nat) : List V := (List.range n).map fun i => V.str (nm i)
theorem flat_nms (n : Nat) : (nms n).all flatV = true := by
  rw [List.all_eq_true]
  intro x hx
  obtain ⟨i, _, rfl⟩ := List.mem_map.mp hx
  rfl
theorem eqV_nm (i j : Nat) : eqV (V.str (nm i)) (V.str (nm j)) = decide (i = j) := by
  show (nm i == nm j) = _
  by_cases e : i = j
  · subst e; rw [decide_eq_true rfl, beq_self_eq_true]
  · rw [decide_eq_false e]
    exact beq_eq_false_iff_ne.mpr fun z => e (nm_inj z)
theorem inV_nms (k n : Nat) : inV (V.str (nm k)) (nms n) = decide (k < n) := by
  unfold inV nms
  rw [List.any_map]
  by_cases h : k < n
  · rw [decide_eq_true h]
    exact List.any_eq_true.mpr ⟨k, List.mem_range.mpr h, by simp [eqV_nm]⟩
  · rw [decide_eq_false h]
    refine List.any_eq_false.mpr fun y hy => ?_
    have := List.mem_range.mp hy
    simp only [Function.comp, eqV_nm]
    simp
    omega
theorem nms_succ (n : Nat) : nms n ++ [V.str (nm n)] = nms (n + 1) := by
  unfold nms
  rw [List.range_succ, List.map_append]
  rfl
section
variable {P : Program} {w : World} {K : PySem.W.Frag} {mg : Str → Option Value} {base : Heap}
abbrev N_is_name : List Str := ["text", "char"]
abbrev P_is_name : List Str := ["text"]
theorem sc_is_name : FnScope N_is_name P_is_name (defScope s_is_name) := ⟨rfl, rfl, rfl, by decide +kernel, rfl, by decide +kernel, by decide +kernel⟩
def sp_is_name (K : PySem.W.Frag) : Sp := fun vs H Q _ => ∃ (z : Str), vs = [.str z] ∧ NmOk z ∧ ∀ H', Same H H' → Q (.bl true) H'
theorem has_is_name (T : Tx K mg) : Has P w K mg base "is_name" P_is_name 1 (sp_is_name K) := by
  obtain ⟨_, c_MOST_NAME_CHARS⟩ := T.i_MOST_NAME_CHARS
  obtain ⟨_, c_NAME_CHARS⟩ := T.nc
  obtain ⟨fd, F⟩ := T.f_is_name
  refine has_mk F T.g_is_name (fun _ _ _ _ _ _ us hl => match us, hl with | [_], _ => rfl) (F.ok sc_is_name (fun vs H Q E h => ?_) (fun cdv A outer s H vs Q E hr h => ?_))
  · obtain ⟨_, rfl, _⟩ := h; rfl
  · obtain ⟨z, rfl, ⟨z1, z2, z3⟩, q⟩ := h
    refine ⟨_, PSs.nox (pss_cons (ps_if (pt_not (pt_chain op_le op_le pe_int (pe_callB call_lenS (by rfl) T.b_len PySem.boot_len (pa_cons (pv 0) pa_nil)) (k_globI (by rfl) c_MOST_NAME_CHARS))) (pss_one (ps_ret pe_bl)) pss_nil)
      (pss_one (ps_ret (pe_callB (k_all (K := K)) (by rfl) T.b_all (by decide +kernel) (pa_cons (pe_lc (own := [("char", 1)]) rfl sc_is_name.nd (pi_str (pv 0)) (blkOk_by (own := [("char", 1)]) (N := N_is_name) (sc := defScope s_is_name) (by decide +kernel)) (fun _ _ _ _ _ => (pg_name (i := 1) sc_is_name.nd rfl (.inl rfl))) (fun _ _ _ _ _ => pts_nil) (fun _ _ _ _ _ => (pe_cmpR op_inS (pv 1) (k_globS (by rfl) c_NAME_CHARS) rfl))) pa_nil))))), ?_⟩
    walk_at "go"
    refine ⟨z, rfl, Nat.le_trans z2 (by decide), ?_⟩
    walk_at "go"
    rw [decide_eq_true (show (1 : Int) ≤ (z.length : Int) by omega)]
    walk_at "go"
    rw [decide_eq_true (show (z.length : Int) ≤ 12 by omega)]
    walk_at "go"
    refine ⟨z, rfl, fun D hD => lc_S (fun i H' => Same H H' ∧ H' D = some (.lst ((List.replicate i true).map V.bl))) ⟨same_upd (Same.refl _) hD, upd_same⟩ ?_ ?_⟩
    · rintro i c H' hc ⟨e, hu⟩
      have hi := (Array.getElem?_eq_some_iff.mp hc).1
      have hzl : z.cps.size = z.length := rfl
      walk_at "go"
      refine ⟨rfl, ?_⟩
      walk_at "go"
      have hcm : c ∈ z.cps.toList := by
        obtain ⟨h1, h2⟩ := Array.getElem?_eq_some_iff.mp hc
        rw [← h2]
        exact Array.getElem_mem_toList h1
      rw [decide_eq_true (show c ∈ (Str.ofString "abcdefghijklmnopqrstuvwxyz0123456789").cps.toList from z3 c hcm)]
      refine ⟨_, hu, Nat.lt_of_lt_of_le (show _ < 100 by simp; omega) (by decide), same_mut e hD, ?_⟩
      rw [upd_same, List.replicate_succ']
      simp
    · rintro H' ⟨e, hu⟩
      refine ⟨D, _, rfl, SqL.of hu, ?_⟩
      have : (List.replicate z.cps.size true).all id = true := by simp
      rw [this]
      exact q _ e
abbrev N_are_kinds : List Str := ["kinds", "seen", "name", "cost", "deadline"]
abbrev P_are_kinds : List Str := ["kinds"]
theorem sc_are_kinds : FnScope N_are_kinds P_are_kinds (defScope s_are_kinds) := ⟨rfl, rfl, rfl, by decide +kernel, rfl, by decide +kernel, by decide +kernel⟩
def sp_are_kinds (K : PySem.W.Frag) : Sp := fun vs H Q _ => ∃ (a : Addr) (us : List V) (t : Tk), vs = [.ref a] ∧ t.Ok ∧ H a = some (.lst us) ∧ KindsT H us t ∧ ∀ H', Same H H' → Q (.bl true) H'
theorem has_are_kinds (T : Tx K mg) : Has P w K mg base "are_kinds" P_are_kinds 2 (sp_are_kinds K) := by
  have h_is_name := has_is_name (P := P) (w := w) (base := base) T
  obtain ⟨_, c_MOST_COST⟩ := T.i_MOST_COST
  obtain ⟨_, c_MOST_DEADLINE⟩ := T.i_MOST_DEADLINE
  obtain ⟨_, c_MOST_KINDS⟩ := T.i_MOST_KINDS
  obtain ⟨fd, F⟩ := T.f_are_kinds
  refine has_mk F T.g_are_kinds (fun _ _ _ _ _ _ us hl => match us, hl with | [_], _ => rfl) (F.ok sc_are_kinds (fun vs H Q E h => ?_) (fun cdv A outer s H vs Q E hr h => ?_))
  · obtain ⟨_, _, _, rfl, _⟩ := h; rfl
  · obtain ⟨a, us, t, rfl, ok, ha, hk, q⟩ := h
    refine ⟨_, PSs.nox (pss_cons (ps_if (pt_not (pt_chain op_le op_le pe_int (pe_callB (k_len (K := K)) (by rfl) T.b_len PySem.boot_len (pa_cons (pv 0) pa_nil)) (k_globI (by rfl) c_MOST_KINDS))) (pss_one (ps_ret pe_bl)) pss_nil)
      (pss_cons (ps_set (i := 1) sc_are_kinds.nd rfl (.inl rfl) (pe_lst pa_nil))
      (pss_cons (ps_for PassesOwn.never rfl (k_list (K := K) (pv 0)) (k_tupG (K := K) (n := 3) rfl (pgs_cons (pg_name (i := 2) sc_are_kinds.nd rfl (.inl rfl)) (pgs_cons (pg_name (i := 3) sc_are_kinds.nd rfl (.inl rfl)) (pgs_cons (pg_name (i := 4) sc_are_kinds.nd rfl (.inl rfl)) pgs_nil)))) (pss_cons (ps_if (PW.pt (pw_or (pt_not (pt_val (pe_hc h_is_name (hr.mono (by decide)) (by rfl) (pa_cons (pv 2) pa_nil)))) (pw_or1 (pt_cmpR (k_in (K := K)) (pv 2) (pv 1) (by rfl))))) (pss_one (ps_ret pe_bl)) pss_nil)
      (pss_cons (ps_if (PW.pt (pw_or (pt_not (pt_chain op_le op_le pe_int (pv 3) (k_globI (by rfl) c_MOST_COST))) (pw_or1 (pt_not (pt_chain op_le op_le pe_int (pv 4) (k_globI (by rfl) c_MOST_DEADLINE)))))) (pss_one (ps_ret pe_bl)) pss_nil)
      (pss_one (ps_expr (k_bm (K := K) PySem.F.plainAttrs_list PySem.F.slot_list_append PySem.F.type_list_append mt_append (pv 1) (pa_cons (pv 2) pa_nil)))))))
      (pss_one (ps_ret pe_bl))))), ?_⟩
    have hn1 := ok.n1
    have hn3 := ok.n3
    have hl := hk.1
    walk_at "go"
    refine ⟨a, us, rfl, .inl (SqL.of ha), ?_⟩
    walk_at "go"
    rw [decide_eq_true (show (1 : Int) ≤ (us.length : Int) by omega)]
    walk_at "go"
    rw [decide_eq_true (show (us.length : Int) ≤ 8 by omega)]
    walk_at "go"
    refine ⟨by decide, fun D hD => ?_⟩
    walk_at "go"
    have e0 := same_upd (o := .lst []) (Same.refl H) hD
    refine ⟨a, rfl, ⟨us, SqL.of (e0 _ _ ha)⟩, loop_list (fun i σ' H' => ∃ y1 y2 y3, σ' = [some (.ref a), some (.ref D), y1, y2, y3] ∧ Same H H' ∧ H' D = some (.lst (nms i))) ⟨_, _, _, rfl, e0, upd_same⟩ (fun i σ' H' _ ⟨_, _, _, _, e, _⟩ => SqL.of (e _ _ ha)) ?_ ?_⟩
    · rintro i x σ' H' hx ⟨y1, y2, y3, rfl, e, hu⟩
      have hi := (List.getElem?_eq_some_iff.mp hx).1
      have hin : i < t.n := by omega
      obtain ⟨p, rfl, hp⟩ := hk.2 i x hx
      have hc := ok.cost hin
      have hd := ok.dl hin
      refine r_tup3 rfl (SqT.of (e _ _ hp)) ?_
      walk_at "go"
      refine ⟨nm i, rfl, nm_ok (by omega), fun H2 e2 => ?_⟩
      have hu2 := e2 _ _ hu
      walk_at "go"
      refine r_in (.inl (SqL.of hu2)) rfl (flat_nms i) ((inV_nms _ _).trans (decide_eq_false (Nat.lt_irrefl i))) ?_
      walk_at "go"
      rw [decide_eq_true (show (1 : Int) ≤ t.cost i by omega)]
      walk_at "go"
      rw [decide_eq_true (show t.cost i ≤ 1000 by omega)]
      walk_at "go"
      rw [decide_eq_true (show (1 : Int) ≤ (t.dl i : Int) by omega)]
      walk_at "go"
      rw [decide_eq_true (show (t.dl i : Int) ≤ 1000 by omega)]
      walk_at "go"
      refine ty_list hu2 ?_
      walk_at "go"
      refine r_append hu2 (Nat.lt_of_lt_of_le (show _ < 100 by simp [nms]; omega) (by decide)) ?_
      refine ⟨_, _, _, rfl, same_mut (e.trans e2) hD, ?_⟩
      rw [nms_succ]
      exact upd_same
    · rintro σ' H' ⟨y1, y2, y3, rfl, e, hu⟩
      walk_at "go"
      exact q _ e
abbrev N_are_ways : List Str := ["ways", "kind_names", "source", "target", "distance"]
abbrev P_are_ways : List Str := ["ways", "kind_names"]
theorem sc_are_ways : FnScope N_are_ways P_are_ways (defScope s_are_ways) := ⟨rfl, rfl, rfl, by decide +kernel, rfl, by decide +kernel, by decide +kernel⟩
def sp_are_ways (K : PySem.W.Frag) : Sp := fun vs H Q _ => ∃ (a b : Addr) (us : List V) (t : Tk), vs = [.ref a, .ref b] ∧ t.Ok ∧ H a = some (.lst us) ∧ WaysT H us t ∧ H b = some (.lst (nms t.n)) ∧ ∀ H', Same H H' → Q (.bl true) H'
theorem has_are_ways (T : Tx K mg) : Has P w K mg base "are_ways" P_are_ways 1 (sp_are_ways K) := by
  obtain ⟨_, c_MOST_DISTANCE⟩ := T.i_MOST_DISTANCE
  obtain ⟨_, c_MOST_WAYS⟩ := T.i_MOST_WAYS
  obtain ⟨fd, F⟩ := T.f_are_ways
  refine has_mk F T.g_are_ways (fun _ _ _ _ _ _ us hl => match us, hl with | [_, _], _ => rfl) (F.ok sc_are_ways (fun vs H Q E h => ?_) (fun cdv A outer s H vs Q E hr h => ?_))
  · obtain ⟨_, _, _, _, rfl, _⟩ := h; rfl
  · obtain ⟨a, b, us, t, rfl, ok, ha, hk, hb, q⟩ := h
    refine ⟨_, PSs.nox (pss_cons (ps_if (pt_cmpR op_gt (pe_callB (k_len (K := K)) (by rfl) T.b_len PySem.boot_len (pa_cons (pv 0) pa_nil)) (k_globI (by rfl) c_MOST_WAYS) (nomark _)) (pss_one (ps_ret pe_bl)) pss_nil)
      (pss_cons (ps_for PassesOwn.never rfl (k_list (K := K) (pv 0)) (k_tupG (K := K) (n := 3) rfl (pgs_cons (pg_name (i := 2) sc_are_ways.nd rfl (.inl rfl)) (pgs_cons (pg_name (i := 3) sc_are_ways.nd rfl (.inl rfl)) (pgs_cons (pg_name (i := 4) sc_are_ways.nd rfl (.inl rfl)) pgs_nil)))) (pss_cons (ps_if (PW.pt (pw_or (pt_cmpR (k_notIn (K := K)) (pv 2) (pv 1) (by rfl)) (pw_or1 (pt_cmpR (k_notIn (K := K)) (pv 3) (pv 1) (by rfl))))) (pss_one (ps_ret pe_bl)) pss_nil)
      (pss_one (ps_if (pt_not (pt_chain op_le op_le pe_int (pv 4) (k_globI (by rfl) c_MOST_DISTANCE))) (pss_one (ps_ret pe_bl)) pss_nil))))
      (pss_one (ps_ret pe_bl)))), ?_⟩
    have hw4 := ok.w4
    have hm : t.m = t.ways.length := rfl
    have hl := hk.1
    walk_at "go"
    refine ⟨a, us, rfl, .inl (SqL.of ha), ?_⟩
    walk_at "go"
    refine r_ite (fun c => absurd (of_decide_eq_true c) (by omega)) (fun _ => ?_)
    walk_at "go"
    refine ⟨a, rfl, ⟨us, SqL.of ha⟩, loop_list (fun i σ' H' => ∃ y1 y2 y3, σ' = [some (.ref a), some (.ref b), y1, y2, y3] ∧ Same H H') ⟨_, _, _, rfl, Same.refl _⟩ (fun i σ' H' _ ⟨_, _, _, _, e⟩ => SqL.of (e _ _ ha)) ?_ ?_⟩
    · rintro i x σ' H' hx ⟨y1, y2, y3, rfl, e⟩
      have hi := (List.getElem?_eq_some_iff.mp hx).1
      have him : i < t.m := by omega
      obtain ⟨p, rfl, hp⟩ := hk.2 i x hx
      have hw := ok.way him
      have hb' := e _ _ hb
      refine r_tup3 rfl (SqT.of (e _ _ hp)) ?_
      walk_at "go"
      refine r_nin (.inl (SqL.of hb')) rfl (flat_nms _) ((inV_nms _ _).trans (decide_eq_true hw.1)) ?_
      walk_at "go"
      refine r_nin (.inl (SqL.of hb')) rfl (flat_nms _) ((inV_nms _ _).trans (decide_eq_true hw.2.1)) ?_
      walk_at "go"
      walk_at "go"
      rw [decide_eq_true (show (1 : Int) ≤ (t.dst i : Int) by omega)]
      walk_at "go"
      rw [decide_eq_true (show (t.dst i : Int) ≤ 1000 by omega)]
      walk_at "go"
      exact ⟨_, _, _, rfl, e⟩
    · rintro σ' H' ⟨y1, y2, y3, rfl, e⟩
      walk_at "go"
      exact q _ e
abbrev N_is_table : List Str := ["table", "capacity"]
abbrev P_is_table : List Str := ["table"]
theorem sc_is_table : FnScope N_is_table P_is_table (defScope s_is_table) := ⟨rfl, rfl, rfl, by decide +kernel, rfl, by decide +kernel, by decide +kernel⟩
def sp_is_table (K : PySem.W.Frag) : Sp := fun vs H Q _ => ∃ (a : Addr) (tb : List Int), vs = [.ref a] ∧ H a = some (.lst (tb.map V.int)) ∧ 1 ≤ tb.length ∧ tb.length ≤ 8 ∧ (∀ x ∈ tb, 0 ≤ x ∧ x ≤ 1000) ∧ ∀ H', Same H H' → Q (.bl true) H'
theorem has_is_table (T : Tx K mg) : Has P w K mg base "is_table" P_is_table 1 (sp_is_table K) := by
  obtain ⟨_, c_MOST_CAPACITY⟩ := T.i_MOST_CAPACITY
  obtain ⟨_, c_MOST_SLOTS⟩ := T.i_MOST_SLOTS
  obtain ⟨fd, F⟩ := T.f_is_table
  refine has_mk F T.g_is_table (fun _ _ _ _ _ _ us hl => match us, hl with | [_], _ => rfl) (F.ok sc_is_table (fun vs H Q E h => ?_) (fun cdv A outer s H vs Q E hr h => ?_))
  · obtain ⟨_, _, rfl, _⟩ := h; rfl
  · obtain ⟨a, tb, rfl, ha, l1, l8, nn, q⟩ := h
    refine ⟨_, PSs.nox (pss_cons (ps_if (pt_not (pt_chain op_le op_le pe_int (pe_callB (k_len (K := K)) (by rfl) T.b_len PySem.boot_len (pa_cons (pv 0) pa_nil)) (k_globI (by rfl) c_MOST_SLOTS))) (pss_one (ps_ret pe_bl)) pss_nil)
      (pss_one (ps_ret (pe_callB (k_all (K := K)) (by rfl) T.b_all (by decide +kernel) (pa_cons (pe_lc (own := [("capacity", 1)]) rfl sc_is_table.nd (k_list (K := K) (pv 0)) (blkOk_by (own := [("capacity", 1)]) (N := N_is_table) (sc := defScope s_is_table) (by decide +kernel)) (fun _ _ _ _ _ => (pg_name (i := 1) sc_is_table.nd rfl (.inl rfl))) (fun _ _ _ _ _ => pts_nil) (fun _ _ _ _ _ => (pe_chain op_le op_le pe_int (pv 1) (k_globI (by rfl) c_MOST_CAPACITY)))) pa_nil))))), ?_⟩
    walk_at "go"
    refine ⟨a, _, rfl, .inl (SqL.of ha), ?_⟩
    rw [List.length_map]
    walk_at "go"
    rw [decide_eq_true (show (1 : Int) ≤ (tb.length : Int) by omega)]
    walk_at "go"
    rw [decide_eq_true (show (tb.length : Int) ≤ 1001 by omega)]
    walk_at "go"
    refine ⟨a, rfl, ⟨_, SqL.of ha⟩, fun D hD => lc_L (xs := tb.map V.int) (fun i H' => Same H H' ∧ H' D = some (.lst ((List.replicate i true).map V.bl))) ⟨same_upd (Same.refl _) hD, upd_same⟩ (fun i H' _ ⟨e, _⟩ => SqL.of (e _ _ ha)) ?_ ?_⟩
    · rintro i x H' hx ⟨e, hu⟩
      have hi : i < tb.length := by
        have := (List.getElem?_eq_some_iff.mp hx).1
        simpa using this
      rw [ints_at hi] at hx
      have ex := (Option.some.inj hx).symm
      subst ex
      have hv := nn (tb.getD i 0) (by
        rw [List.getD_eq_getElem?_getD, List.getElem?_eq_getElem hi]
        exact List.getElem_mem _)
      walk_at "go"
      refine ⟨rfl, ?_⟩
      walk_at "go"
      rw [decide_eq_true (show (0 : Int) ≤ tb.getD i 0 by omega)]
      walk_at "go"
      rw [decide_eq_true (show tb.getD i 0 ≤ 1000000 by omega)]
      refine ⟨_, hu, Nat.lt_of_lt_of_le (show _ < 100 by simp; omega) (by decide), same_mut e hD, ?_⟩
      rw [upd_same, List.replicate_succ']
      simp
    · rintro H' ⟨e, hu⟩
      refine ⟨D, _, rfl, SqL.of hu, ?_⟩
      have : (List.replicate (tb.map V.int).length true).all id = true := by simp
      rw [this]
      exact q _ e
end
end NL
end
-- part A13
section
set_option Elab.async false
set_option linter.all false
set_option maxRecDepth 100000
set_option maxHeartbeats 4000000
namespace NL
open PySem PySem.Spec PyProof.Rows L2
open He (ga ma)
local macro_rules | `(tactic| walk_at "go1") => `(tactic| first
  | ((with_reducible refine' r_var ?hv ?_); (case hv => rfl))
  | with_reducible refine r_c ?_
  | with_reducible refine r_op ?_
  | with_reducible refine r_un ?_
  | with_reducible refine r_I0 ?_
  | with_reducible refine r_U ?_
  | ((with_reducible refine' r_ixT ?h1 ?h2 ?_); (case h1 => assumption); (case h2 => rfl))
  | ((with_reducible refine' r_ixL ?h1 ?h2 ?_); (case h1 => assumption); (case h2 => rfl))
  | with_reducible refine r_nil ?_
  | with_reducible refine r_cons ?_
  | with_reducible refine r_cb ?_
  | with_reducible refine r_call ?_
  | with_reducible refine r_ck ?_
  | with_reducible refine r_nt ?_
  | with_reducible refine r_nf ?_
  | with_reducible refine r_itS ?_
  | with_reducible refine r_chain ?_
  | with_reducible refine r_inS ?_
  | with_reducible refine r_mkK ?_
  | with_reducible refine r_mk ?_
  | with_reducible refine r_seqSfld ?_
  | with_reducible refine r_sfld ?_
  | with_reducible refine r_ifExp ?_
  | with_reducible refine r_prop ?_
  | with_reducible refine r_gSub ?_
  | ((with_reducible refine' r_seqAug2 ?hv ?_); (case hv => rfl))
  | ((with_reducible refine' r_aug2 ?hv ?_); (case hv => rfl))
  | with_reducible refine r_ipI ?_
  | with_reducible refine r_seqAugS ?_
  | with_reducible refine r_augS ?_
  | with_reducible refine r_cont ?_
  | with_reducible refine r_brk ?_
  | with_reducible refine r_tt ?_
  | with_reducible refine r_ff ?_
  | with_reducible refine r_test ?_
  | with_reducible refine r_B ?_
  | with_reducible refine r_not ?_
  | with_reducible refine r_and ?_
  | with_reducible refine r_or ?_
  | with_reducible refine r_tup ?_
  | with_reducible refine r_lst ?_
  | with_reducible refine r_bl ?_
  | with_reducible refine r_max2 ?_
  | with_reducible refine r_min2 ?_
  | with_reducible refine r_abs ?_
  | with_reducible refine r_int1b ?_
  | with_reducible refine r_isN1 ?_
  | with_reducible refine r_isN2 ?_
  | with_reducible refine r_isN3 ?_
  | with_reducible refine r_notN1 ?_
  | with_reducible refine r_notN2 ?_
  | with_reducible refine r_notN3 ?_
  | with_reducible refine r_isN ?_
  | with_reducible refine r_notN ?_
  | with_reducible refine r_notBl ?_
  | ((with_reducible refine r_eq ?h1 ?_); (case h1 => rfl))
  | ((with_reducible refine r_ne ?h1 ?_); (case h1 => rfl))
  | with_reducible refine r_fld ?_
  | with_reducible refine r_sl ?_
  | with_reducible refine r_noPart ?_
  | with_reducible refine r_part ?_
  | with_reducible refine r_xint ?_
  | with_reducible refine r_bm ?_
  | with_reducible refine r_meth ?_
  | with_reducible refine r_callN ?_
  | ((with_reducible refine' r_lenQ ?h1 ?_); (case h1 => first | assumption | exact Or.inl (by assumption) | exact Or.inr (by assumption)))
  | with_reducible refine r_seqN ?_
  | with_reducible refine r_asgN ?_
  | with_reducible refine r_seqIf ?_
  | with_reducible refine r_seqFor ?_
  | with_reducible refine r_for ?_
  | with_reducible refine r_rng1 ?_
  | with_reducible refine r_rng2 ?_
  | with_reducible refine r_rng3 ?_
  | with_reducible refine r_itL ?_
  | with_reducible refine r_itT ?_
  | with_reducible refine r_lc ?_
  | with_reducible refine r_yes ?_
  | with_reducible refine r_itE ?_
  | with_reducible refine r_itEL ?_
  | with_reducible refine r_gN ?_
  | with_reducible refine r_seqA ?_
  | with_reducible refine r_asgA ?_
  | with_reducible refine r_if ?_
  | with_reducible refine r_retD ?_
  | with_reducible refine r_ret ?_
  | with_reducible refine r_seqDrop ?_
  | with_reducible refine r_drop ?_
  | with_reducible refine r_next ?_)
local macro_rules | `(tactic| walk_at "go") => `(tactic| (repeat walk_at "go1"))

theorem putT1 (z : Str) : putF "name" (.str z) [] = [(("name" : Str), V.str z)] := rfl
theorem putT2 (z : Str) (k : Addr) : putF "kinds" (.ref k) [(("name" : Str), V.str z)] = [(("name" : Str), V.str z), ("kinds", .ref k)] := by
  unfold putF
  rw [if_neg (by decide +kernel)]
  rfl
theorem putT3 (z : Str) (k wt : Addr) : putF "ways" (.ref wt) [(("name" : Str), V.str z), ("kinds", .ref k)] = fsT z k wt := by
  unfold putF
  rw [if_neg (by decide +kernel)]
  unfold putF
  rw [if_neg (by decide +kernel)]
  rfl
theorem putS2 (a b : Addr) : putF "table" (.ref b) [(("tasks" : Str), V.ref a)] = [(("tasks" : Str), V.ref a), ("table", .ref b)] := by
  unfold putF
  rw [if_neg (by decide +kernel)]
  rfl
/-- a task and its name -/
def TaskN (K : PySem.W.Frag) (H : Hp) (a : Addr) (z : Str) (t : Tk) : Prop := TaskAt K H a t ∧ ∃ dx kt wt, H a = some (.ins (ga K "Task") dx (fsT z kt wt))
theorem TaskN.up {K : PySem.W.Frag} {H H' : Hp} {a : Addr} {z : Str} {t : Tk} (h : TaskN K H a z t) (e : Same H H') : TaskN K H' a z t := ⟨h.1.up e, let ⟨dx, kt, wt, q⟩ := h.2; ⟨dx, kt, wt, e _ _ q⟩⟩
theorem TaskAt.butI {K : PySem.W.Frag} {H H' : Hp} {a x C dx : Addr} {t : Tk} (h : TaskAt K H a t) (hx : H x = some (.ins C dx [])) (e : But x H H') : TaskAt K H' a t := by
  obtain ⟨ok, dx, kt, wt, z, kvs, wvs, h1, h2, h3, h4, h5⟩ := h
  have up : ∀ {b : Addr} {xs : List V}, H b = some (.tup xs) → H' b = some (.tup xs) := fun h => e _ _ (ne_of h hx (by simp)) h
  refine ⟨ok, dx, kt, wt, z, kvs, wvs, e _ _ (ne_of h1 hx (by simp [fsT])) h1, up h2, up h3, ⟨h4.1, fun i v q => ?_⟩, ⟨h5.1, fun i v q => ?_⟩⟩
  · obtain ⟨p, a, b⟩ := h4.2 i v q
    exact ⟨p, a, up b⟩
  · obtain ⟨p, a, b⟩ := h5.2 i v q
    exact ⟨p, a, up b⟩
section
variable {P : Program} {w : World} {K : PySem.W.Frag} {mg : Str → Option Value} {base : Heap}
abbrev N_T_init : List Str := ["self", "name", "kinds", "ways", "kind", "way"]
abbrev P_T_init : List Str := ["self", "name", "kinds", "ways"]
theorem sc_T_init : FnScope N_T_init P_T_init (defScope s_T_init) := ⟨rfl, rfl, rfl, by decide +kernel, rfl, by decide +kernel, by decide +kernel⟩
def sp_T_init (K : PySem.W.Frag) : Sp := fun vs H Q _ => ∃ (x dx : Addr) (z : Str) (ka wa : Addr) (kvs wvs : List V) (t : Tk), vs = [.ref x, .str z, .ref ka, .ref wa] ∧ H x = some (.ins (ga K "Task") dx []) ∧ NmOk z ∧ t.Ok ∧ (H ka = some (.lst kvs) ∧ KindsT H kvs t) ∧ (H wa = some (.lst wvs) ∧ WaysT H wvs t) ∧ ∀ H', But x H H' → TaskN K H' x z t → Q .non H'
theorem has_Task (T : Tx K mg) : HasMkK P w K mg base "Task" (ga K "Task") P_T_init 1 ["kinds", "ways"] 3 (sp_T_init K) := by
  have h_are_kinds := has_are_kinds (P := P) (w := w) (base := base) T
  have h_are_ways := has_are_ways (P := P) (w := w) (base := base) T
  have h_is_name := has_is_name (P := P) (w := w) (base := base) T
  obtain ⟨fd, F⟩ := T.f_T_init
  refine hasmkk_mk F T.g_Task T.mkT (fun _ _ _ _ _ _ us ws h1 h2 => match us, ws, h1, h2 with | [_, _], [_, _], _, _ => rfl) (F.ok sc_T_init (fun vs H Q E h => ?_) (fun cdv A outer s H vs Q E hr h => ?_))
  · obtain ⟨_, _, _, _, _, _, _, _, rfl, _⟩ := h; rfl
  · obtain ⟨x, dx, z, ka, wa, kvs, wvs, t, rfl, hx, hz, ok, ⟨hka, hk⟩, ⟨hwa, hw⟩, q⟩ := h
    refine ⟨_, PSs.nox (pss_cons (ps_if (PW.pt (pw_or (pt_not (pt_val (pe_hc h_is_name (hr.mono (by decide)) (by rfl) (pa_cons (pv 1) pa_nil)))) (pw_or1 (pt_not (pt_val (pe_hc h_are_kinds (hr.mono (by decide)) (by rfl) (pa_cons (pv 2) pa_nil))))))) (pss_one ps_never) pss_nil)
      (pss_cons (ps_if (pt_not (pt_val (pe_hc h_are_ways (hr.mono (by decide)) (by rfl) (pa_cons (pv 3) (pa_cons (pe_lc (own := [("kind", 4)]) rfl sc_T_init.nd (k_list (K := K) (pv 2)) (blkOk_by (own := [("kind", 4)]) (N := N_T_init) (sc := defScope s_T_init) (by decide +kernel)) (fun _ _ _ _ _ => (pg_name (i := 4) sc_T_init.nd rfl (.inl rfl))) (fun _ _ _ _ _ => pts_nil) (fun _ _ _ _ _ => (pe_ix (k_ixT (K := K)) (pv 4) pe_int (fun _ _ => rfl)))) pa_nil))))) (pss_one ps_never) pss_nil)
      (pss_cons (k_sfld (K := K) (pv 0) (pv 1) rfl)
      (pss_cons (k_sfld (K := K) (pv 0) (pe_callTy (k_tupleQ (K := K)) (by rfl) T.b_tuple (by decide +kernel) (pa_cons (pe_lc (own := [("kind", 4)]) rfl sc_T_init.nd (k_list (K := K) (pv 2)) (blkOk_by (own := [("kind", 4)]) (N := N_T_init) (sc := defScope s_T_init) (by decide +kernel)) (fun _ _ _ _ _ => (pg_name (i := 4) sc_T_init.nd rfl (.inl rfl))) (fun _ _ _ _ _ => pts_nil) (fun _ _ _ _ _ => (pe_tup (pa_cons (pe_ix (k_ixT (K := K)) (pv 4) pe_int (fun _ _ => rfl)) (pa_cons (pe_ix (k_ixT (K := K)) (pv 4) pe_int (fun _ _ => rfl)) (pa_cons (pe_ix (k_ixT (K := K)) (pv 4) pe_int (fun _ _ => rfl)) pa_nil)))))) pa_nil)) rfl)
      (pss_one (k_sfld (K := K) (pv 0) (pe_callTy (k_tupleQ (K := K)) (by rfl) T.b_tuple (by decide +kernel) (pa_cons (pe_lc (own := [("way", 5)]) rfl sc_T_init.nd (k_list (K := K) (pv 3)) (blkOk_by (own := [("way", 5)]) (N := N_T_init) (sc := defScope s_T_init) (by decide +kernel)) (fun _ _ _ _ _ => (pg_name (i := 5) sc_T_init.nd rfl (.inl rfl))) (fun _ _ _ _ _ => pts_nil) (fun _ _ _ _ _ => (pe_tup (pa_cons (pe_ix (k_ixT (K := K)) (pv 5) pe_int (fun _ _ => rfl)) (pa_cons (pe_ix (k_ixT (K := K)) (pv 5) pe_int (fun _ _ => rfl)) (pa_cons (pe_ix (k_ixT (K := K)) (pv 5) pe_int (fun _ _ => rfl)) pa_nil)))))) pa_nil)) rfl)))))), ?_⟩
    have hn3 := ok.n3
    have hw4 := ok.w4
    have hm : t.m = t.ways.length := rfl
    walk_at "go"
    refine ⟨z, rfl, hz, fun H1 e1 => ?_⟩
    walk_at "go"
    refine ⟨ka, kvs, t, rfl, ok, e1 _ _ hka, ⟨hk.1, (hk.tups.up e1)⟩, fun H2 e2 => ?_⟩
    have e02 := e1.trans e2
    walk_at "go"
    refine ⟨ka, rfl, ⟨_, SqL.of (e02 _ _ hka)⟩, fun D hD => lc_L (xs := kvs) (fun i H' => Same H2 H' ∧ H' D = some (.lst (nms i))) ⟨same_upd (Same.refl _) hD, upd_same⟩ (fun i H' _ ⟨e, _⟩ => SqL.of (e _ _ (e02 _ _ hka))) ?_ ?_⟩
    · rintro i v H' hv ⟨e, hu⟩
      have hi := (List.getElem?_eq_some_iff.mp hv).1
      have := hk.1
      obtain ⟨p, rfl, hp⟩ := hk.2 i v hv
      have hp' := SqT.of (K := K) (e _ _ (e02 _ _ hp))
      walk_at "go"
      refine ⟨rfl, ?_⟩
      walk_at "go"
      refine ⟨_, hu, Nat.lt_of_lt_of_le (show _ < 100 by simp [nms]; omega) (by decide), same_mut e hD, ?_⟩
      rw [nms_succ]
      exact upd_same
    · rintro H3 ⟨e3, hu⟩
      have e03 := e02.trans e3
      rw [hk.1] at hu
      refine ⟨wa, D, wvs, t, rfl, ok, e03 _ _ hwa, ⟨hw.1, hw.tups.up e03⟩, hu, fun H4 e4 => ?_⟩
      have e04 := e03.trans e4
      walk_at "go"
      refine ⟨x, _, dx, _, rfl, e04 _ _ hx, T.cT, T.nT1, by decide, ?_⟩
      rw [putT1]
      have b0 : But x H (upd H4 x (.ins (ga K "Task") dx [("name", V.str z)])) := (But.of e04).mut
      have hx5 : upd H4 x (.ins (ga K "Task") dx [("name", V.str z)]) x = some (.ins (ga K "Task") dx [("name", V.str z)]) := upd_same
      generalize upd H4 x (.ins (ga K "Task") dx [("name", V.str z)]) = H5 at b0 hx5 ⊢
      have nl : ∀ {b : Addr} {xs : List V}, H b = some (.lst xs) → b ≠ x := fun h => ne_of h hx (by simp)
      have nt : ∀ {b : Addr} {xs : List V}, H b = some (.tup xs) → b ≠ x := fun h => ne_of h hx (by simp)
      walk_at "go"
      refine ⟨ka, rfl, ⟨_, SqL.of (b0 _ _ (nl hka) hka)⟩, fun D2 hD2 => lc_L (xs := kvs) (fun i H' => Same H5 H' ∧ ∃ us, H' D2 = some (.lst us) ∧ us.length = i ∧ Tups H' us (kF t)) ⟨same_upd (Same.refl _) hD2, [], upd_same, rfl, Tups.nil⟩ (fun i H' _ ⟨e, _⟩ => SqL.of (e _ _ (b0 _ _ (nl hka) hka))) ?_ ?_⟩
      · rintro i v H' hv ⟨e, us, hu, hul, hut⟩
        have hi := (List.getElem?_eq_some_iff.mp hv).1
        have := hk.1
        obtain ⟨p, rfl, hp⟩ := hk.2 i v hv
        have hp' := SqT.of (K := K) (e _ _ (b0 _ _ (nt hp) hp))
        walk_at "go"
        refine ⟨rfl, ?_⟩
        walk_at "go"
        refine ⟨by show 3 ≤ sizeLine; decide, fun p2 hp2 => ?_⟩
        have nD : D2 ≠ p2 := ne_of_none hu hp2
        have hu2 : upd H' p2 (.tup [V.str (nm i), V.int (t.cost i), V.int ((t.dl i : Nat) : Int)]) D2 = some (.lst us) := by rw [upd_ne nD]; exact hu
        refine ⟨us, hu2, Nat.lt_of_lt_of_le (show _ < 100 by omega) (by decide), same_mut (same_upd e hp2) hD2, us ++ [.ref p2], upd_same, by rw [List.length_append, hul]; rfl, ?_⟩
        refine Tups.mut (Tups.snoc (hut.up (same_upd (Same.refl _) hp2)) ?_) hu2
        rw [hul]
        exact upd_same
      · rintro H6 ⟨e6, us, hu, hul, hut⟩
        have b6 := b0.trans (But.of e6)
        walk_at "go"
        refine r_tupleL (SqL.of hu) fun kt hkt => ?_
        have e7 := same_upd (o := .tup us) (Same.refl H6) hkt
        have hkt7 : upd H6 kt (.tup us) kt = some (.tup us) := upd_same
        have hut7 := hut.up e7
        generalize upd H6 kt (.tup us) = H7 at e7 hkt7 hut7 ⊢
        walk_at "go"
        refine ⟨x, _, dx, _, rfl, e7 _ _ (e6 _ _ hx5), T.cT, T.nT2, by show 1 < 1000; decide, ?_⟩
        rw [putT2]
        have b7 : But x H7 (upd H7 x (.ins (ga K "Task") dx [("name", V.str z), ("kinds", .ref kt)])) := (But.refl _ _).mut
        have hx7 := e7 _ _ (e6 _ _ hx5)
        have b8 := (b6.trans (But.of e7)).trans b7
        have ni : ∀ {b : Addr} {xs : List V}, H7 b = some (.tup xs) → b ≠ x := fun h => ne_of h hx7 (by simp)
        have hx8 : upd H7 x (.ins (ga K "Task") dx [("name", V.str z), ("kinds", .ref kt)]) x = some (.ins (ga K "Task") dx [("name", V.str z), ("kinds", .ref kt)]) := upd_same
        have hut8 : Tups (upd H7 x (.ins (ga K "Task") dx [("name", V.str z), ("kinds", .ref kt)])) us (kF t) := fun i v q => let ⟨p, a, b⟩ := hut7 i v q; ⟨p, a, b7 _ _ (ni b) b⟩
        have hkt8 := b7 _ _ (ni hkt7) hkt7
        generalize upd H7 x (.ins (ga K "Task") dx [("name", V.str z), ("kinds", .ref kt)]) = H8 at b8 hx8 hut8 hkt8 ⊢
        walk_at "go"
        refine ⟨wa, rfl, ⟨_, SqL.of (b8 _ _ (nl hwa) hwa)⟩, fun D3 hD3 => lc_L (xs := wvs) (fun i H' => Same H8 H' ∧ ∃ us, H' D3 = some (.lst us) ∧ us.length = i ∧ Tups H' us (wF t)) ⟨same_upd (Same.refl _) hD3, [], upd_same, rfl, Tups.nil⟩ (fun i H' _ ⟨e, _⟩ => SqL.of (e _ _ (b8 _ _ (nl hwa) hwa))) ?_ ?_⟩
        · rintro i v H' hv ⟨e, us, hu, hul, hut⟩
          have hi := (List.getElem?_eq_some_iff.mp hv).1
          have := hw.1
          obtain ⟨p, rfl, hp⟩ := hw.2 i v hv
          have hp' := SqT.of (K := K) (e _ _ (b8 _ _ (nt hp) hp))
          walk_at "go"
          refine ⟨rfl, ?_⟩
          walk_at "go"
          refine ⟨by show 3 ≤ sizeLine; decide, fun p2 hp2 => ?_⟩
          have nD : D3 ≠ p2 := ne_of_none hu hp2
          have hu2 : upd H' p2 (.tup [V.str (nm (t.src i)), V.str (nm (t.tgt i)), V.int ((t.dst i : Nat) : Int)]) D3 = some (.lst us) := by rw [upd_ne nD]; exact hu
          refine ⟨us, hu2, Nat.lt_of_lt_of_le (show _ < 100 by omega) (by decide), same_mut (same_upd e hp2) hD3, us ++ [.ref p2], upd_same, by rw [List.length_append, hul]; rfl, ?_⟩
          refine Tups.mut (Tups.snoc (hut.up (same_upd (Same.refl _) hp2)) ?_) hu2
          rw [hul]
          exact upd_same
        · rintro H9 ⟨e9, us9, hu9, hul9, hut9⟩
          walk_at "go"
          refine r_tupleL (SqL.of hu9) fun wt hwt => ?_
          have e10 := same_upd (o := .tup us9) (Same.refl H9) hwt
          have hwt10 : upd H9 wt (.tup us9) wt = some (.tup us9) := upd_same
          have hut10 := hut9.up e10
          generalize upd H9 wt (.tup us9) = H10 at e10 hwt10 hut10 ⊢
          walk_at "go"
          have hx10 := e10 _ _ (e9 _ _ hx8)
          refine ⟨x, _, dx, _, rfl, hx10, T.cT, T.nT3, by show 2 < 1000; decide, ?_⟩
          rw [putT3]
          have b10 : But x H10 (upd H10 x (.ins (ga K "Task") dx (fsT z kt wt))) := (But.refl _ _).mut
          have ni2 : ∀ {b : Addr} {xs : List V}, H10 b = some (.tup xs) → b ≠ x := fun h => ne_of h hx10 (by simp)
          have e810 := e9.trans e10
          refine q _ ((b8.trans (But.of e810)).trans b10) ⟨⟨ok, dx, kt, wt, z, us, us9, upd_same, b10 _ _ (ni2 (e810 _ _ hkt8)) (e810 _ _ hkt8), b10 _ _ (ni2 hwt10) hwt10, ⟨by rw [hul]; exact hk.1, fun i v q => ?_⟩, ⟨by rw [hul9]; exact hw.1, fun i v q => ?_⟩⟩, dx, kt, wt, upd_same⟩
          · obtain ⟨p, a, b⟩ := hut8 i v q
            exact ⟨p, a, b10 _ _ (ni2 (e810 _ _ b)) (e810 _ _ b)⟩
          · obtain ⟨p, a, b⟩ := hut10 i v q
            exact ⟨p, a, b10 _ _ (ni2 b) b⟩
/-! ### the system -/
def strL (zs : List Str) : List V := zs.map V.str
abbrev N_S_init : List Str := ["self", "tasks", "table", "names", "task"]
abbrev P_S_init : List Str := ["self", "tasks", "table"]
theorem sc_S_init : FnScope N_S_init P_S_init (defScope s_S_init) := ⟨rfl, rfl, rfl, by decide +kernel, rfl, by decide +kernel, by decide +kernel⟩
def TasksN (K : PySem.W.Frag) (H : Hp) (vs : List V) (zs : List Str) (ts : List Tk) : Prop := vs.length = ts.length ∧ zs.length = ts.length ∧ ∀ (i : Nat) v, vs[i]? = some v → ∃ p z t, v = .ref p ∧ zs[i]? = some z ∧ ts[i]? = some t ∧ TaskN K H p z t
theorem TasksN.up {K : PySem.W.Frag} {H H' : Hp} {vs : List V} {zs : List Str} {ts : List Tk} (h : TasksN K H vs zs ts) (e : Same H H') : TasksN K H' vs zs ts := ⟨h.1, h.2.1, fun i v q => let ⟨p, z, t, a, b, c, d⟩ := h.2.2 i v q; ⟨p, z, t, a, b, c, d.up e⟩⟩
def sp_S_init (K : PySem.W.Frag) : Sp := fun vs H Q _ => ∃ (x dx ta tba : Addr) (tvs : List V) (zs : List Str) (ts : List Tk) (tb : List Int), vs = [.ref x, .ref ta, .ref tba] ∧ H x = some (.ins (ga K "System") dx []) ∧ (H ta = some (.lst tvs) ∧ TasksN K H tvs zs ts ∧ zs.Nodup ∧ ts.length ≤ 3) ∧ (H tba = some (.lst (tb.map V.int)) ∧ 1 ≤ tb.length ∧ tb.length ≤ 8 ∧ ∀ x ∈ tb, 0 ≤ x ∧ x ≤ 1000) ∧ ∀ H', But x H H' → SysAt K H' x ts tb → Q .non H'
theorem inV_strL {z : Str} {l : List Str} (h : z ∉ l) : inV (V.str z) (strL l) = false := by
  unfold inV strL
  rw [List.any_map]
  refine List.any_eq_false.mpr fun y hy => ?_
  have : y ≠ z := fun e => h (e ▸ hy)
  show ¬ (y == z) = true
  simp [this]
theorem flat_strL (l : List Str) : (strL l).all flatV = true := by
  rw [List.all_eq_true]
  intro x hx
  obtain ⟨i, _, rfl⟩ := List.mem_map.mp hx
  rfl
theorem has_System (T : Tx K mg) : HasMkK P w K mg base "System" (ga K "System") P_S_init 1 ["table"] 2 (sp_S_init K) := by
  have h_is_table := has_is_table (P := P) (w := w) (base := base) T
  obtain ⟨_, c_MOST_TASKS⟩ := T.i_MOST_TASKS
  obtain ⟨fd, F⟩ := T.f_S_init
  refine hasmkk_mk F T.g_System T.mkS (fun _ _ _ _ _ _ us ws h1 h2 => match us, ws, h1, h2 with | [_, _], [_], _, _ => rfl) (F.ok sc_S_init (fun vs H Q E h => ?_) (fun cdv A outer s H vs Q E hr h => ?_))
  · obtain ⟨_, _, _, _, _, _, _, _, rfl, _⟩ := h; rfl
  · obtain ⟨x, dx, ta, tba, tvs, zs, ts, tb, rfl, hx, ⟨hta, hT, hnd, h3⟩, ⟨htb, l1, l8, nn⟩, q⟩ := h
    refine ⟨_, PSs.nox (pss_cons (ps_if (pt_not (pt_val (pe_hc h_is_table (hr.mono (by decide)) (by rfl) (pa_cons (pv 2) pa_nil)))) (pss_one ps_never) pss_nil)
      (pss_cons (ps_set (i := 3) sc_S_init.nd rfl (.inl rfl) (pe_lst pa_nil))
      (pss_cons (ps_for PassesOwn.never rfl (k_list (K := K) (pv 1)) (pg_name (i := 4) sc_S_init.nd rfl (.inl rfl)) (pss_cons (ps_if (pt_cmpR (k_in (K := K)) (k_fld (K := K) (pv 4) rfl) (pv 3) (by rfl)) (pss_one ps_never) pss_nil)
      (pss_one (ps_expr (k_bm (K := K) PySem.F.plainAttrs_list PySem.F.slot_list_append PySem.F.type_list_append mt_append (pv 3) (pa_cons (k_fld (K := K) (pv 4) rfl) pa_nil))))))
      (pss_cons (ps_if (pt_cmpR op_gt (pe_callB (k_len (K := K)) (by rfl) T.b_len PySem.boot_len (pa_cons (pv 3) pa_nil)) (k_globI (by rfl) c_MOST_TASKS) (nomark _)) (pss_one ps_never) pss_nil)
      (pss_cons (k_sfld (K := K) (pv 0) (pe_callTy (k_tupleQ (K := K)) (by rfl) T.b_tuple (by decide +kernel) (pa_cons (pv 1) pa_nil)) rfl)
      (pss_one (k_sfld (K := K) (pv 0) (pe_callTy (k_tupleQ (K := K)) (by rfl) T.b_tuple (by decide +kernel) (pa_cons (pv 2) pa_nil)) rfl))))))), ?_⟩
    walk_at "go"
    refine ⟨tba, tb, rfl, htb, l1, l8, nn, fun H1 e1 => ?_⟩
    walk_at "go"
    refine ⟨by decide, fun D hD => ?_⟩
    have e2 := same_upd (o := .lst []) e1 hD
    walk_at "go"
    refine ⟨ta, rfl, ⟨tvs, SqL.of (e2 _ _ hta)⟩, loop_list (fun i σ' H' => ∃ y, σ' = [some (.ref x), some (.ref ta), some (.ref tba), some (.ref D), y] ∧ Same H1 H' ∧ H' D = some (.lst (strL (zs.take i)))) ⟨_, rfl, same_upd (Same.refl _) hD, upd_same⟩ (fun i σ' H' _ ⟨_, _, e, _⟩ => SqL.of (e _ _ (e1 _ _ hta))) ?_ ?_⟩
    · rintro i v σ' H' hv ⟨y, rfl, e, hu⟩
      have hi := (List.getElem?_eq_some_iff.mp hv).1
      obtain ⟨p, z, t, rfl, hz, ht, hTN⟩ := hT.2.2 i v hv
      obtain ⟨hTA, tdx, kt, wt, hp⟩ := hTN.up (e1.trans e)
      walk_at "go"
      refine x_name T hp ?_
      walk_at "go"
      have hnot : z ∉ zs.take i := fun hm => by
        obtain ⟨j, hj, ej⟩ := List.mem_iff_getElem.mp hm
        rw [List.length_take] at hj
        rw [List.getElem_take] at ej
        obtain ⟨hiz, ei⟩ := List.getElem?_eq_some_iff.mp hz
        have := (List.getElem_inj hnd).mp (ej.trans ei.symm)
        omega
      refine r_in (.inl (SqL.of hu)) rfl (flat_strL _) (inV_strL hnot) ?_
      walk_at "go"
      refine ty_list hu ?_
      walk_at "go"
      refine x_name T hp ?_
      walk_at "go"
      refine r_append hu (Nat.lt_of_lt_of_le (show _ < 100 by have h1 := hT.1; have h2 := hT.2.1; simp [strL]; omega) (by decide)) ?_
      refine ⟨_, rfl, same_mut e hD, ?_⟩
      rw [upd_same, List.take_add_one, hz]
      simp [strL]
    · rintro σ' H' ⟨y, rfl, e, hu⟩
      have e02 := e1.trans e
      walk_at "go"
      refine ⟨D, _, rfl, .inl (SqL.of hu), ?_⟩
      walk_at "go"
      refine r_ite (fun c => absurd (of_decide_eq_true c) (by
        have h1 := hT.1
        have h2 := hT.2.1
        simp [strL]
        omega)) (fun _ => ?_)
      walk_at "go"
      refine r_tupleL (SqL.of (e02 _ _ hta)) fun tt htt => ?_
      have e3 := same_upd (o := .tup tvs) e02 htt
      have htt3 : upd H' tt (.tup tvs) tt = some (.tup tvs) := upd_same
      generalize upd H' tt (.tup tvs) = H3 at e3 htt3 ⊢
      walk_at "go"
      refine ⟨x, _, dx, _, rfl, e3 _ _ hx, T.cS, T.nS1, by decide, ?_⟩
      have b3 : But x H (upd H3 x (.ins (ga K "System") dx (putF "tasks" (.ref tt) []))) := (But.of e3).mut
      have hx4 : upd H3 x (.ins (ga K "System") dx (putF "tasks" (.ref tt) [])) x = some (.ins (ga K "System") dx [("tasks", .ref tt)]) := upd_same
      have htt4 : upd H3 x (.ins (ga K "System") dx (putF "tasks" (.ref tt) [])) tt = some (.tup tvs) := by rw [upd_ne (ne_of htt3 (e3 _ _ hx) (by simp))]; exact htt3
      generalize upd H3 x (.ins (ga K "System") dx (putF "tasks" (.ref tt) [])) = H4 at b3 hx4 htt4 ⊢
      walk_at "go"
      refine r_tupleL (SqL.of (b3 _ _ (ne_of htb hx (by simp)) htb)) fun tt2 htt2 => ?_
      have e5 := same_upd (o := .tup (tb.map V.int)) (Same.refl H4) htt2
      have htt5 : upd H4 tt2 (.tup (tb.map V.int)) tt2 = some (.tup (tb.map V.int)) := upd_same
      generalize upd H4 tt2 (.tup (tb.map V.int)) = H5 at e5 htt5 ⊢
      walk_at "go"
      have hx5 := e5 _ _ hx4
      refine ⟨x, _, dx, _, rfl, hx5, T.cS, T.nS2, by show 1 < 1000; decide, ?_⟩
      rw [putS2]
      have b6 : But x H5 (upd H5 x (.ins (ga K "System") dx [("tasks", V.ref tt), ("table", .ref tt2)])) := (But.refl _ _).mut
      have b7 := (b3.trans (But.of e5)).trans b6
      have ni : ∀ {b : Addr} {xs : List V}, H5 b = some (.tup xs) → b ≠ x := fun h => ne_of h hx5 (by simp)
      refine q _ b7 ⟨h3, l1, l8, nn, dx, tt, tt2, tvs, upd_same, b6 _ _ (ni (e5 _ _ htt4)) (e5 _ _ htt4), b6 _ _ (ni htt5) htt5, hT.1, fun i v hv => ?_⟩
      obtain ⟨p, z, t, a, _, b, c⟩ := hT.2.2 i v hv
      exact ⟨p, t, a, b, c.1.butI hx b7⟩
abbrev N_M_init : List Str := ["self", "instant", "start", "releases", "row"]
abbrev P_M_init : List Str := ["self", "instant", "start", "releases"]
theorem sc_M_init : FnScope N_M_init P_M_init (defScope s_M_init) := ⟨rfl, rfl, rfl, by decide +kernel, rfl, by decide +kernel, by decide +kernel⟩
/-- lists of lists -/
def LLAt (H : Hp) (us : List V) : Prop := ∀ (i : Nat) v, us[i]? = some v → ∃ p xs, v = .ref p ∧ H p = some (.lst xs)
def sp_M_init (K : PySem.W.Frag) : Sp := fun vs H Q _ => ∃ (x dx : Addr) (e s : Int) (ra : Addr) (us : List V), vs = [.ref x, .int e, .int s, .ref ra] ∧ H x = some (.ins (ga K "Miss") dx []) ∧ H ra = some (.lst us) ∧ us.length ≤ 3 ∧ LLAt H us ∧ ∀ H', But x H H' → Q .non H'
theorem has_Miss (T : Tx K mg) : HasMk P w K mg base "Miss" (ga K "Miss") P_M_init 1 (sp_M_init K) := by
  obtain ⟨fd, F⟩ := T.f_M_init
  refine hasmk_mk F T.g_Miss T.mkM (fun _ _ _ _ _ _ us hl => match us, hl with | [_, _, _, _], _ => rfl) (F.ok sc_M_init (fun vs H Q E h => ?_) (fun cdv A outer s H vs Q E hr h => ?_))
  · obtain ⟨_, _, _, _, _, _, rfl, _⟩ := h; rfl
  · obtain ⟨x, dx, e, s', ra, us, rfl, hx, hra, hl, hus, q⟩ := h
    refine ⟨_, PSs.nox (pss_cons (k_sfld (K := K) (pv 0) (pv 1) rfl)
      (pss_cons (k_sfld (K := K) (pv 0) (pv 2) rfl)
      (pss_one (k_sfld (K := K) (pv 0) (pe_lc (own := [("row", 4)]) rfl sc_M_init.nd (k_list (K := K) (pv 3)) (blkOk_by (own := [("row", 4)]) (N := N_M_init) (sc := defScope s_M_init) (by decide +kernel)) (fun _ _ _ _ _ => (pg_name (i := 4) sc_M_init.nd rfl (.inl rfl))) (fun _ _ _ _ _ => pts_nil) (fun _ _ _ _ _ => (pe_callTy (k_listQ (K := K)) (by rfl) T.b_list (by decide +kernel) (pa_cons (pv 4) pa_nil)))) rfl)))), ?_⟩
    walk_at "go"
    refine ⟨x, _, dx, _, rfl, hx, T.cM, T.nM1, by decide, ?_⟩
    have b1 : But x H (upd H x (.ins (ga K "Miss") dx (putF "instant" (.int e) []))) := (But.refl _ _).mut
    have hx1 : upd H x (.ins (ga K "Miss") dx (putF "instant" (.int e) [])) x = some (.ins (ga K "Miss") dx [("instant", .int e)]) := upd_same
    generalize upd H x (.ins (ga K "Miss") dx (putF "instant" (.int e) [])) = H1 at b1 hx1 ⊢
    walk_at "go"
    refine ⟨x, _, dx, _, rfl, hx1, T.cM, T.nM2, by show 1 < 1000; decide, ?_⟩
    have b2 : But x H1 (upd H1 x (.ins (ga K "Miss") dx (putF "start" (.int s') [("instant", .int e)]))) := (But.refl _ _).mut
    have hx2 : upd H1 x (.ins (ga K "Miss") dx (putF "start" (.int s') [("instant", .int e)])) x = some (.ins (ga K "Miss") dx (putF "start" (.int s') [("instant", .int e)])) := upd_same
    generalize upd H1 x (.ins (ga K "Miss") dx (putF "start" (.int s') [("instant", .int e)])) = H2 at b2 hx2 ⊢
    have b02 := b1.trans b2
    have nl : ∀ {b : Addr} {xs : List V}, H b = some (.lst xs) → b ≠ x := fun h => ne_of h hx (by simp)
    walk_at "go"
    refine ⟨ra, rfl, ⟨us, SqL.of (b02 _ _ (nl hra) hra)⟩, fun D hD => lc_L (xs := us) (fun i H' => Same H2 H' ∧ ∃ xs, H' D = some (.lst xs) ∧ xs.length = i) ⟨same_upd (Same.refl _) hD, [], upd_same, rfl⟩ (fun i H' _ ⟨e, _⟩ => SqL.of (e _ _ (b02 _ _ (nl hra) hra))) ?_ ?_⟩
    · rintro i v H' hv ⟨e, xs, hu, hxl⟩
      have hi := (List.getElem?_eq_some_iff.mp hv).1
      obtain ⟨p, ys, rfl, hp⟩ := hus i v hv
      walk_at "go"
      refine ⟨rfl, ?_⟩
      walk_at "go"
      refine r_listQ (.inl (SqL.of (e _ _ (b02 _ _ (nl hp) hp)))) fun l hl2 => ?_
      have nD : D ≠ l := ne_of_none hu hl2
      exact ⟨xs, by rw [upd_ne nD]; exact hu, Nat.lt_of_lt_of_le (show _ < 100 by omega) (by decide), same_mut (same_upd e hl2) hD, _, upd_same, by rw [List.length_append, hxl]; rfl⟩
    · rintro H3 ⟨e3, xs, hu, hxl⟩
      walk_at "go"
      refine ⟨x, _, dx, _, rfl, e3 _ _ hx2, T.cM, T.nM3, by
        have : ∀ fs : List (Str × V), fs.length ≤ 1 → (putF "start" (.int s') fs).length < 1000 := fun fs h => by
          match fs, h with
          | [], _ => show 1 < 1000; decide
          | [(g, y)], _ => unfold putF; split <;> simp [putF]
        exact this _ (by show 1 ≤ 1; decide), ?_⟩
      exact q _ ((b02.trans (But.of e3)).mut)
end
end NL
end
-- part A14
section
set_option Elab.async false
set_option linter.all false
set_option maxRecDepth 100000
set_option maxHeartbeats 4000000
namespace NL
open PySem PySem.Spec PyProof.Rows L2
open He (ga ma)
local macro_rules | `(tactic| walk_at "go1") => `(tactic| first
  | ((with_reducible refine' r_var ?hv ?_); (case hv => rfl))
  | with_reducible refine r_c ?_
  | with_reducible refine r_op ?_
  | with_reducible refine r_un ?_
  | with_reducible refine r_I0 ?_
  | with_reducible refine r_U ?_
  | ((with_reducible refine' r_ixT ?h1 ?h2 ?_); (case h1 => assumption); (case h2 => rfl))
  | ((with_reducible refine' r_ixL ?h1 ?h2 ?_); (case h1 => assumption); (case h2 => rfl))
  | with_reducible refine r_nil ?_
  | with_reducible refine r_cons ?_
  | with_reducible refine r_cb ?_
  | with_reducible refine r_call ?_
  | with_reducible refine r_ck ?_
  | with_reducible refine r_nt ?_
  | with_reducible refine r_nf ?_
  | with_reducible refine r_itS ?_
  | with_reducible refine r_chain ?_
  | with_reducible refine r_inS ?_
  | with_reducible refine r_mkK ?_
  | with_reducible refine r_mk ?_
  | with_reducible refine r_seqSfld ?_
  | with_reducible refine r_sfld ?_
  | with_reducible refine r_ifExp ?_
  | with_reducible refine r_prop ?_
  | with_reducible refine r_gSub ?_
  | ((with_reducible refine' r_seqAug2 ?hv ?_); (case hv => rfl))
  | ((with_reducible refine' r_aug2 ?hv ?_); (case hv => rfl))
  | with_reducible refine r_ipI ?_
  | with_reducible refine r_seqAugS ?_
  | with_reducible refine r_augS ?_
  | with_reducible refine r_cont ?_
  | with_reducible refine r_brk ?_
  | with_reducible refine r_tt ?_
  | with_reducible refine r_ff ?_
  | with_reducible refine r_test ?_
  | with_reducible refine r_B ?_
  | with_reducible refine r_not ?_
  | with_reducible refine r_and ?_
  | with_reducible refine r_or ?_
  | with_reducible refine r_tup ?_
  | with_reducible refine r_lst ?_
  | with_reducible refine r_bl ?_
  | with_reducible refine r_max2 ?_
  | with_reducible refine r_min2 ?_
  | with_reducible refine r_abs ?_
  | with_reducible refine r_int1b ?_
  | with_reducible refine r_isN1 ?_
  | with_reducible refine r_isN2 ?_
  | with_reducible refine r_isN3 ?_
  | with_reducible refine r_notN1 ?_
  | with_reducible refine r_notN2 ?_
  | with_reducible refine r_notN3 ?_
  | with_reducible refine r_isN ?_
  | with_reducible refine r_notN ?_
  | with_reducible refine r_notBl ?_
  | ((with_reducible refine r_eq ?h1 ?_); (case h1 => rfl))
  | ((with_reducible refine r_ne ?h1 ?_); (case h1 => rfl))
  | with_reducible refine r_fld ?_
  | with_reducible refine r_sl ?_
  | with_reducible refine r_noPart ?_
  | with_reducible refine r_part ?_
  | with_reducible refine r_xint ?_
  | with_reducible refine r_bm ?_
  | with_reducible refine r_meth ?_
  | with_reducible refine r_callN ?_
  | ((with_reducible refine' r_lenQ ?h1 ?_); (case h1 => first | assumption | exact Or.inl (by assumption) | exact Or.inr (by assumption)))
  | with_reducible refine r_seqN ?_
  | with_reducible refine r_asgN ?_
  | with_reducible refine r_seqIf ?_
  | with_reducible refine r_seqFor ?_
  | with_reducible refine r_for ?_
  | with_reducible refine r_rng1 ?_
  | with_reducible refine r_rng2 ?_
  | with_reducible refine r_rng3 ?_
  | with_reducible refine r_itL ?_
  | with_reducible refine r_itT ?_
  | with_reducible refine r_lc ?_
  | with_reducible refine r_yes ?_
  | with_reducible refine r_itE ?_
  | with_reducible refine r_itEL ?_
  | with_reducible refine r_gN ?_
  | with_reducible refine r_seqA ?_
  | with_reducible refine r_asgA ?_
  | with_reducible refine r_if ?_
  | with_reducible refine r_retD ?_
  | with_reducible refine r_ret ?_
  | with_reducible refine r_seqDrop ?_
  | with_reducible refine r_drop ?_
  | with_reducible refine r_next ?_)
local macro_rules | `(tactic| walk_at "go") => `(tactic| (repeat walk_at "go1"))

def Low (ns : List Int) : Prop := ∀ x ∈ ns, 0 ≤ x ∧ x < 1009
theorem Low.snoc {ns : List Int} {x : Int} (h : Low ns) (h0 : 0 ≤ x) (h1 : x < 1009) : Low (ns ++ [x]) := fun y hy => by
  rcases List.mem_append.mp hy with hy | hy
  · exact h y hy
  · have : y = x := by simpa using hy
    omega
theorem Low.at {ns : List Int} (h : Low ns) (i : Nat) : 0 ≤ ns.getD i 0 ∧ ns.getD i 0 < 1009 := by
  by_cases hi : i < ns.length
  · rw [List.getD_eq_getElem?_getD, List.getElem?_eq_getElem hi]
    exact h _ (List.getElem_mem _)
  · rw [List.getD_eq_getElem?_getD, List.getElem?_eq_none (by omega)]
    exact ⟨by decide, by decide⟩
theorem mod_bd (x : Int) {m : Int} (h : 0 < m) : 0 ≤ x % m ∧ x % m < m := ⟨Int.emod_nonneg _ (by omega), Int.emod_lt_of_pos _ h⟩
section
variable {P : Program} {w : World} {K : PySem.W.Frag} {mg : Str → Option Value} {base : Heap}
abbrev N_law_row : List Str := ["_law_cell", "_law_many", "_law_row_here", "_law_rest", "_law_k", "_law_mixed"]
abbrev P_law_row : List Str := ["_law_cell", "_law_many"]
theorem sc_law_row : FnScope N_law_row P_law_row (defScope s_law_row) := ⟨rfl, rfl, rfl, by decide +kernel, rfl, by decide +kernel, by decide +kernel⟩
def sp_law_row (K : PySem.W.Frag) : Sp := fun vs H Q _ => ∃ (c : Int) (m : Nat), vs = [.int c, .int (m : Int)] ∧ m ≤ 1000 ∧ ∀ H' p ns, Same H H' → H p = none → H' p = some (.lst (ns.map V.int)) → ns.length = m → Low ns → Q (.ref p) H'
theorem has_law_row (T : Tx K mg) : Has P w K mg base "_law_row" P_law_row 1 (sp_law_row K) := by
  obtain ⟨fd, F⟩ := T.f_law_row
  refine has_mk F T.g_law_row (fun _ _ _ _ _ _ us hl => match us, hl with | [_, _], _ => rfl) (F.ok sc_law_row (fun vs H Q E h => ?_) (fun cdv A outer s H vs Q E hr h => ?_))
  · obtain ⟨_, _, rfl, _⟩ := h; rfl
  · obtain ⟨c, m, rfl, hm, q⟩ := h
    refine ⟨_, PSs.nox (pss_cons (ps_set (i := 2) sc_law_row.nd rfl (.inl rfl) (pe_lst pa_nil))
      (pss_cons (ps_set (i := 3) sc_law_row.nd rfl (.inl rfl) (pe_callB call_absQ (by rfl) T.b_abs (by decide +kernel) (pa_cons (pv 0) pa_nil)))
      (pss_cons (ps_for PassesOwn.never rfl (pi_range1 rfl T.b_range (pa_cons (pv 1) pa_nil)) (pg_name (i := 4) sc_law_row.nd rfl (.inl rfl)) (pss_one (ps_if (pt_cmpR op_ge (pe_callB call_absQ (by rfl) T.b_abs (by decide +kernel) (pa_cons (pv 0) pa_nil)) (pe_op op_pow pe_int pe_int) (nomark _)) (pss_cons (ps_expr (k_bm (K := K) PySem.F.plainAttrs_list PySem.F.slot_list_append PySem.F.type_list_append mt_append (pv 2) (pa_cons (pe_op op_mod (pv 3) pe_int) pa_nil)))
      (pss_one (ps_set (i := 3) sc_law_row.nd rfl (.inl rfl) (pe_op op_fdiv (pv 3) pe_int)))) (pss_cons (ps_set (i := 5) sc_law_row.nd rfl (.inl rfl) (pe_op op_mod (pe_op op_add (pe_op op_mul (pv 3) pe_int) (pe_op op_mul (pe_op op_add (pv 4) pe_int) pe_int)) pe_int))
      (pss_cons (ps_set (i := 5) sc_law_row.nd rfl (.inl rfl) (pe_op op_mod (pe_op op_add (pe_op op_mul (pv 5) pe_int) (pe_op op_mul pe_int (pe_op op_add (pv 4) pe_int))) pe_int))
      (pss_one (ps_expr (k_bm (K := K) PySem.F.plainAttrs_list PySem.F.slot_list_append PySem.F.type_list_append mt_append (pv 2) (pa_cons (pe_op op_mod (pv 5) pe_int) pa_nil)))))))))
      (pss_one (ps_ret (pv 2)))))), ?_⟩
    walk_at "go"
    refine ⟨by decide, fun D hD => ?_⟩
    walk_at "go"
    refine ⟨_, rfl, by omega, by omega, ?_⟩
    rw [Int.toNat_natCast]
    refine loop_range (fun i σ' H' => ∃ (r : Int) (z1 z2 : Option V) (ns : List Int), σ' = [some (.int c), some (.int (m : Int)), some (.ref D), some (.int r), z1, z2] ∧ Same H H' ∧ H' D = some (.lst (ns.map V.int)) ∧ ns.length = i ∧ Low ns) ⟨_, _, _, [], rfl, same_upd (Same.refl _) hD, upd_same, rfl, fun x hx => by cases hx⟩ ?_ ?_
    · rintro i σ' H' hi ⟨r, z1, z2, ns, rfl, e, hu, hl, hlow⟩
      walk_at "go"
      refine r_I ⟨by decide, by decide, by decide⟩ ?_
      walk_at "go"
      refine r_ite (fun cc => ?_) (fun cc => ?_)
      · walk_at "go"
        refine ty_list hu ?_
        walk_at "go"
        refine r_I (by decide) ?_
        walk_at "go"
        refine r_append hu (Nat.lt_of_lt_of_le (show _ < 2000 by simp; omega) (by decide)) ?_
        walk_at "go"
        refine r_I ⟨by decide, by decide⟩ ?_
        walk_at "go"
        refine ⟨_, _, _, ns ++ [r % 1009], rfl, same_mut e hD, ?_, by rw [List.length_append, hl]; rfl, hlow.snoc (mod_bd r (by decide)).1 (mod_bd r (by decide)).2⟩
        rw [upd_same]
        simp
      · walk_at "go"
        refine r_I (.inr ⟨by decide, by decide⟩) ?_
        walk_at "go"
        refine r_I (.inr ⟨by decide, by decide⟩) ?_
        walk_at "go"
        refine r_I (by decide) ?_
        walk_at "go"
        refine r_I (.inr ⟨by decide, by decide⟩) ?_
        walk_at "go"
        refine r_I (.inl ⟨by decide, by decide⟩) ?_
        walk_at "go"
        refine r_I (by decide) ?_
        walk_at "go"
        refine ty_list hu ?_
        walk_at "go"
        refine r_I (by decide) ?_
        walk_at "go"
        refine r_append hu (Nat.lt_of_lt_of_le (show _ < 2000 by simp; omega) (by decide)) ?_
        refine ⟨_, _, _, ns ++ [((r * 48271 + (0 + (i : Int) + 1) * 69621) % 2147483647 * 16807 + 271 * (0 + (i : Int) + 3)) % 2147483629 % 1009], rfl, same_mut e hD, ?_, by rw [List.length_append, hl]; rfl, hlow.snoc (mod_bd _ (m := 1009) (by decide)).1 (mod_bd _ (by decide)).2⟩
        rw [upd_same]
        simp
    · rintro σ' H' ⟨r, z1, z2, ns, rfl, e, hu, hl, hlow⟩
      walk_at "go"
      exact q _ D ns e hD hu hl hlow
abbrev N_law_numbers : List Str := ["_law_script", "_law_many", "_law_cells", "_law_each", "_law_numbers_here", "_law_cell", "_law_number"]
abbrev P_law_numbers : List Str := ["_law_script", "_law_many"]
theorem sc_law_numbers : FnScope N_law_numbers P_law_numbers (defScope s_law_numbers) := ⟨rfl, rfl, rfl, by decide +kernel, rfl, by decide +kernel, by decide +kernel⟩
def sp_law_numbers (K : PySem.W.Frag) : Sp := fun vs H Q _ => ∃ (a : Addr) (cs : List Int), vs = [.ref a, .int 150] ∧ SqL K H a (cs.map V.int) ∧ ∀ H' p ns, Same H H' → H p = none → H' p = some (.lst (ns.map V.int)) → ns.length = 150 → Low ns → Q (.ref p) H'
theorem has_law_numbers (T : Tx K mg) : Has P w K mg base "_law_numbers" P_law_numbers 2 (sp_law_numbers K) := by
  have h_law_row := has_law_row (P := P) (w := w) (base := base) T
  obtain ⟨fd, F⟩ := T.f_law_numbers
  refine has_mk F T.g_law_numbers (fun _ _ _ _ _ _ us hl => match us, hl with | [_, _], _ => rfl) (F.ok sc_law_numbers (fun vs H Q E h => ?_) (fun cdv A outer s H vs Q E hr h => ?_))
  · obtain ⟨_, _, rfl, _⟩ := h; rfl
  · obtain ⟨a, cs, rfl, hs, q⟩ := h
    refine ⟨_, PSs.nox (pss_cons (ps_set (i := 2) sc_law_numbers.nd rfl (.inl rfl) (pe_slice (k_slL (K := K)) (pv 0) po_none (po_some pe_int)))
      (pss_cons (ps_set (i := 3) sc_law_numbers.nd rfl (.inl rfl) (pe_op op_add pe_int (pe_op op_fdiv (pv 1) (pe_callB (call_max2Q rfl) (by rfl) T.b_max (by decide +kernel) (pa_cons pe_int (pa_cons (pe_callB (k_len (K := K)) (by rfl) T.b_len PySem.boot_len (pa_cons (pv 2) pa_nil)) pa_nil))))))
      (pss_cons (ps_set (i := 4) sc_law_numbers.nd rfl (.inl rfl) (pe_lst pa_nil))
      (pss_cons (ps_for PassesOwn.never rfl (k_list (K := K) (pv 2)) (pg_name (i := 5) sc_law_numbers.nd rfl (.inl rfl)) (pss_one (ps_for PassesOwn.never rfl (k_list (K := K) (pe_hc h_law_row (hr.mono (by decide)) (by rfl) (pa_cons (pv 5) (pa_cons (pv 3) pa_nil)))) (pg_name (i := 6) sc_law_numbers.nd rfl (.inl rfl)) (pss_one (ps_expr (k_bm (K := K) PySem.F.plainAttrs_list PySem.F.slot_list_append PySem.F.type_list_append mt_append (pv 4) (pa_cons (pv 6) pa_nil)))))))
      (pss_cons (ps_while PassesOwn.never (pt_cmpR op_lt (pe_callB (k_len (K := K)) (by rfl) T.b_len PySem.boot_len (pa_cons (pv 4) pa_nil)) (pv 1) (nomark _)) (pss_one (ps_expr (k_bm (K := K) PySem.F.plainAttrs_list PySem.F.slot_list_append PySem.F.type_list_append mt_append (pv 4) (pa_cons pe_int pa_nil)))))
      (pss_one (ps_ret (pe_slice (k_slL (K := K)) (pv 4) po_none (po_some (pv 1)))))))))), ?_⟩
    walk_at "go"
    refine r_slL hs fun c hc => ?_
    rw [show (some (63 : Int)) = some ((63 : Nat) : Int) from rfl, cut_hi]
    have e0 := same_upd (o := .lst ((cs.take 63).map V.int)) (Same.refl H) hc
    have hc0 : upd H c (.lst ((cs.take 63).map V.int)) c = some (.lst ((cs.take 63).map V.int)) := upd_same
    generalize upd H c (.lst ((cs.take 63).map V.int)) = H0 at e0 hc0 ⊢
    have hcl : (cs.take 63).length ≤ 63 := by rw [List.length_take]; omega
    generalize cs.take 63 = cl at hc0 hcl ⊢
    walk_at "go"
    refine ⟨c, _, rfl, .inl (SqL.of hc0), ?_⟩
    rw [List.length_map]
    walk_at "go"
    have hmx : (if (cl.length : Int) > 1 then (cl.length : Int) else 1) = ((max 1 cl.length : Nat) : Int) := by
      rw [Nat.max_def]
      split <;> split <;> omega
    rw [hmx]
    have hm1 : 1 ≤ max 1 cl.length := Nat.le_max_left _ _
    have hm2 : max 1 cl.length ≤ 63 := Nat.max_le.mpr ⟨by decide, hcl⟩
    generalize max 1 cl.length = M at hm1 hm2 ⊢
    refine r_I ⟨by omega, by omega⟩ ?_
    have ed : (1 : Int) + 150 / (M : Int) = ((1 + 150 / M : Nat) : Int) := by push_cast; rfl
    have em : 1 + 150 / M ≤ 151 := by have := Nat.div_le_self 150 M; omega
    walk_at "go"
    rw [ed]
    generalize 1 + 150 / M = m at em ⊢
    refine ⟨by decide, fun D hD => ?_⟩
    walk_at "go"
    have e1 := same_upd (o := .lst []) (Same.refl H0) hD
    refine ⟨c, rfl, ⟨_, SqL.of (e1 _ _ hc0)⟩, loop_list (fun i σ' H' => ∃ (z1 z2 : Option V) (ns : List Int), σ' = [some (.ref a), some (.int 150), some (.ref c), some (.int (m : Int)), some (.ref D), z1, z2] ∧ Same H0 H' ∧ H' D = some (.lst (ns.map V.int)) ∧ ns.length = i * m ∧ Low ns) ⟨_, _, [], rfl, e1, upd_same, by simp, fun x hx => by cases hx⟩ (fun i σ' H' _ ⟨_, _, _, _, e, _⟩ => SqL.of (e _ _ hc0)) ?_ ?_⟩
    · rintro i x σ' H' hx ⟨z1, z2, ns, rfl, e, hu, hl, hlow⟩
      have hi : i < cl.length := by
        have := (List.getElem?_eq_some_iff.mp hx).1
        simpa using this
      rw [ints_at hi] at hx
      have ex := (Option.some.inj hx).symm
      subst ex
      have him : (i + 1) * m ≤ 63 * 151 := Nat.mul_le_mul (by omega) em
      rw [Nat.add_mul, Nat.one_mul] at him
      walk_at "go"
      refine ⟨_, m, rfl, by omega, fun H2 r rs e2 hr0 hr2 hrl hrlow => ?_⟩
      have hu2 := e2 _ _ hu
      refine ⟨r, rfl, ⟨_, SqL.of hr2⟩, loop_list (fun j σ' H' => ∃ (z2 : Option V), σ' = [some (.ref a), some (.int 150), some (.ref c), some (.int (m : Int)), some (.ref D), some (.int (cl.getD i 0)), z2] ∧ (Same H0 H' ∧ H' r = some (.lst (rs.map V.int))) ∧ H' D = some (.lst ((ns ++ rs.take j).map V.int))) ⟨_, rfl, ⟨e.trans e2, hr2⟩, by simpa using hu2⟩ (fun i σ' H' _ ⟨_, _, e, _⟩ => SqL.of e.2) ?_ ?_⟩
      · rintro j x σ' H3 hx ⟨z2, rfl, ⟨e3, hr3⟩, hu3⟩
        have hj : j < rs.length := by
          have := (List.getElem?_eq_some_iff.mp hx).1
          simpa using this
        rw [ints_at hj] at hx
        have ex := (Option.some.inj hx).symm
        subst ex
        walk_at "go"
        refine ty_list hu3 ?_
        walk_at "go"
        refine r_append hu3 (Nat.lt_of_lt_of_le (show _ < 10000 by simp; omega) (by decide)) ?_
        refine ⟨some (.int (rs.getD j 0)), rfl, ⟨same_mut e3 hD, by rw [upd_ne (ne_of_none hu hr0).symm]; exact hr3⟩, ?_⟩
        have et : rs.take (j + 1) = rs.take j ++ [rs.getD j 0] := by
          rw [List.take_add_one, List.getElem?_eq_getElem hj, List.getD_eq_getElem?_getD, List.getElem?_eq_getElem hj]
          rfl
        rw [upd_same, et, ← List.append_assoc, ← app_int]
      · rintro σ' H3 ⟨z2, rfl, ⟨e3, hr3⟩, hu3⟩
        rw [List.length_map, List.take_length] at hu3
        refine ⟨_, _, ns ++ rs, rfl, e3, hu3, by rw [List.length_append, hl, hrl, Nat.add_mul, Nat.one_mul], fun x hx => ?_⟩
        rcases List.mem_append.mp hx with hx | hx
        · exact hlow x hx
        · exact hrlow x hx
    · rintro σ' H1 ⟨z1, z2, ns, rfl, e, hu, hl, hlow⟩
      rw [List.length_map] at hl
      have hlb : cl.length * m ≤ 63 * 151 := Nat.mul_le_mul hcl em
      have hD' : H0 D = none := hD
      refine r_seqWhile ⟨fun k σ' H' => ∃ (ns : List Int), σ' = [some (.ref a), some (.int 150), some (.ref c), some (.int (m : Int)), some (.ref D), z1, z2] ∧ Same H0 H' ∧ H' D = some (.lst (ns.map V.int)) ∧ ns.length ≤ 10000 ∧ Low ns ∧ k = 150 - ns.length, ⟨_, ns, rfl, e, hu, by omega, hlow, rfl⟩, ?_⟩
      rintro k σ' H' ⟨ns, rfl, e, hu, hl, hlow, rfl⟩
      walk_at "go"
      refine ⟨D, _, rfl, .inl (SqL.of hu), ?_⟩
      rw [List.length_map]
      walk_at "go"
      refine r_ite (fun cc => ?_) (fun cc => ?_)
      · have cc := of_decide_eq_true cc
        refine ⟨fun σ'' H'' => ∃ m', m' < 150 - ns.length ∧ _, fun _ _ h => h, ?_⟩
        walk_at "go"
        refine ty_list hu ?_
        walk_at "go"
        refine r_append hu (Nat.lt_of_lt_of_le (show _ < 20000 by simp; omega) (by decide)) ?_
        refine ⟨150 - (ns.length + 1), by omega, ns ++ [0], rfl, same_mut e hD, ?_, by rw [List.length_append, List.length_singleton]; omega, hlow.snoc (by decide) (by decide), by rw [List.length_append, List.length_singleton]⟩
        rw [upd_same]
        simp
      · have cc := of_decide_eq_false cc
        walk_at "go"
        refine r_slL (SqL.of hu) fun r hr => ?_
        rw [show (some (150 : Int)) = some ((150 : Nat) : Int) from rfl, cut_hi]
        exact q _ r (ns.take 150) ((e0.trans e).trans (same_upd (Same.refl _) hr)) ((e0.trans e).free hr) upd_same (by rw [List.length_take]; omega) fun x hx => hlow x (List.mem_of_mem_take hx)
end
end NL
end
-- part A15
section
set_option Elab.async false
set_option linter.all false
set_option maxRecDepth 100000
set_option maxHeartbeats 4000000
namespace NL
open PySem PySem.Spec PyProof.Rows L2
open He (ga ma)
local macro_rules | `(tactic| walk_at "go1") => `(tactic| first
  | ((with_reducible refine' r_var ?hv ?_); (case hv => rfl))
  | with_reducible refine r_c ?_
  | with_reducible refine r_op ?_
  | with_reducible refine r_un ?_
  | with_reducible refine r_I0 ?_
  | with_reducible refine r_U ?_
  | ((with_reducible refine' r_ixT ?h1 ?h2 ?_); (case h1 => assumption); (case h2 => rfl))
  | ((with_reducible refine' r_ixL ?h1 ?h2 ?_); (case h1 => assumption); (case h2 => rfl))
  | with_reducible refine r_nil ?_
  | with_reducible refine r_cons ?_
  | with_reducible refine r_cb ?_
  | with_reducible refine r_call ?_
  | with_reducible refine r_ck ?_
  | with_reducible refine r_nt ?_
  | with_reducible refine r_nf ?_
  | with_reducible refine r_itS ?_
  | with_reducible refine r_chain ?_
  | with_reducible refine r_inS ?_
  | with_reducible refine r_mkK ?_
  | with_reducible refine r_mk ?_
  | with_reducible refine r_seqSfld ?_
  | with_reducible refine r_sfld ?_
  | with_reducible refine r_ifExp ?_
  | with_reducible refine r_prop ?_
  | with_reducible refine r_gSub ?_
  | ((with_reducible refine' r_seqAug2 ?hv ?_); (case hv => rfl))
  | ((with_reducible refine' r_aug2 ?hv ?_); (case hv => rfl))
  | with_reducible refine r_ipI ?_
  | with_reducible refine r_seqAugS ?_
  | with_reducible refine r_augS ?_
  | with_reducible refine r_cont ?_
  | with_reducible refine r_brk ?_
  | with_reducible refine r_tt ?_
  | with_reducible refine r_ff ?_
  | with_reducible refine r_test ?_
  | with_reducible refine r_B ?_
  | with_reducible refine r_not ?_
  | with_reducible refine r_and ?_
  | with_reducible refine r_or ?_
  | with_reducible refine r_tup ?_
  | with_reducible refine r_lst ?_
  | with_reducible refine r_bl ?_
  | with_reducible refine r_max2 ?_
  | with_reducible refine r_min2 ?_
  | with_reducible refine r_abs ?_
  | with_reducible refine r_int1b ?_
  | with_reducible refine r_isN1 ?_
  | with_reducible refine r_isN2 ?_
  | with_reducible refine r_isN3 ?_
  | with_reducible refine r_notN1 ?_
  | with_reducible refine r_notN2 ?_
  | with_reducible refine r_notN3 ?_
  | with_reducible refine r_isN ?_
  | with_reducible refine r_notN ?_
  | with_reducible refine r_notBl ?_
  | ((with_reducible refine r_eq ?h1 ?_); (case h1 => rfl))
  | ((with_reducible refine r_ne ?h1 ?_); (case h1 => rfl))
  | with_reducible refine r_fld ?_
  | with_reducible refine r_sl ?_
  | with_reducible refine r_noPart ?_
  | with_reducible refine r_part ?_
  | with_reducible refine r_xint ?_
  | with_reducible refine r_bm ?_
  | with_reducible refine r_meth ?_
  | with_reducible refine r_callN ?_
  | ((with_reducible refine' r_lenQ ?h1 ?_); (case h1 => first | assumption | exact Or.inl (by assumption) | exact Or.inr (by assumption)))
  | with_reducible refine r_seqN ?_
  | with_reducible refine r_asgN ?_
  | with_reducible refine r_seqIf ?_
  | with_reducible refine r_seqFor ?_
  | with_reducible refine r_for ?_
  | with_reducible refine r_rng1 ?_
  | with_reducible refine r_rng2 ?_
  | with_reducible refine r_rng3 ?_
  | with_reducible refine r_itL ?_
  | with_reducible refine r_itT ?_
  | with_reducible refine r_lc ?_
  | with_reducible refine r_yes ?_
  | with_reducible refine r_itE ?_
  | with_reducible refine r_itEL ?_
  | with_reducible refine r_gN ?_
  | with_reducible refine r_seqA ?_
  | with_reducible refine r_asgA ?_
  | with_reducible refine r_if ?_
  | with_reducible refine r_retD ?_
  | with_reducible refine r_ret ?_
  | with_reducible refine r_seqDrop ?_
  | with_reducible refine r_drop ?_
  | with_reducible refine r_next ?_)
local macro_rules | `(tactic| walk_at "go") => `(tactic| (repeat walk_at "go1"))

theorem Tups.congr {H : Hp} {us : List V} {F G : Nat → List V} (h : Tups H us F) (e : ∀ i, i < us.length → F i = G i) : Tups H us G := fun i v q => by
  obtain ⟨p, a, b⟩ := h i v q
  exact ⟨p, a, by rw [← e i (List.getElem?_eq_some_iff.mp q).1]; exact b⟩
/-- the number at a place -/
def nu (N : List Int) (i : Nat) : Int := N.getD i 0
theorem nu_at {N : List Int} (hN : N.length = 150) {i : Nat} (hi : i < 150) : (N.map V.int)[i]? = some (V.int (nu N i)) := ints_at (by omega)
def kcF (N : List Int) (a i : Nat) : Int := 1 + nu N (a + 1 + 2 * i) % 4
def kdF (N : List Int) (a i : Nat) : Nat := (1 + nu N (a + 2 + 2 * i) % 9).toNat
def knF (N : List Int) (a : Nat) : Nat := (1 + nu N a % 3).toNat
theorem kd_nat (N : List Int) (a i : Nat) : ((kdF N a i : Nat) : Int) = 1 + nu N (a + 2 + 2 * i) % 9 := by
  unfold kdF
  have := mod_bd (nu N (a + 2 + 2 * i)) (m := 9) (by decide)
  omega
theorem abc_at {i : Nat} (h : i < 3) : atI (("abc" : Str)).cps.toList (i : Int) = some (97 + i) := by
  have : i = 0 ∨ i = 1 ∨ i = 2 := by omega
  rcases this with e | e | e <;> (subst e; decide +kernel)
section
variable {P : Program} {w : World} {K : PySem.W.Frag} {mg : Str → Option Value} {base : Heap}
abbrev N_law_kinds : List Str := ["_law_numbers_here", "_law_at", "_law_kinds_here", "_law_k"]
abbrev P_law_kinds : List Str := ["_law_numbers_here", "_law_at"]
theorem sc_law_kinds : FnScope N_law_kinds P_law_kinds (defScope s_law_kinds) := ⟨rfl, rfl, rfl, by decide +kernel, rfl, by decide +kernel, by decide +kernel⟩
def sp_law_kinds (K : PySem.W.Frag) : Sp := fun vs H Q _ => ∃ (a : Addr) (N : List Int) (o : Nat), vs = [.ref a, .int (o : Int)] ∧ H a = some (.lst (N.map V.int)) ∧ N.length = 150 ∧ o + 7 ≤ 150 ∧ ∀ H' p us, Same H H' → H p = none → H' p = some (.lst us) → us.length = knF N o → Tups H' us (fun i => [.str (nm i), .int (kcF N o i), .int ((kdF N o i : Nat) : Int)]) → Q (.ref p) H'
theorem has_law_kinds (T : Tx K mg) : Has P w K mg base "_law_kinds" P_law_kinds 1 (sp_law_kinds K) := by
  obtain ⟨fd, F⟩ := T.f_law_kinds
  refine has_mk F T.g_law_kinds (fun _ _ _ _ _ _ us hl => match us, hl with | [_, _], _ => rfl) (F.ok sc_law_kinds (fun vs H Q E h => ?_) (fun cdv A outer s H vs Q E hr h => ?_))
  · obtain ⟨_, _, _, rfl, _⟩ := h; rfl
  · obtain ⟨a, N, o, rfl, ha, hN, ho, q⟩ := h
    refine ⟨_, PSs.nox (pss_cons (ps_set (i := 2) sc_law_kinds.nd rfl (.inl rfl) (pe_lst pa_nil))
      (pss_cons (ps_for PassesOwn.never rfl (pi_range1 rfl T.b_range (pa_cons (pe_op op_add pe_int (pe_op op_mod (pe_ix (k_ixL (K := K)) (pv 0) (pv 1) (fun _ _ => rfl)) pe_int)) pa_nil)) (pg_name (i := 3) sc_law_kinds.nd rfl (.inl rfl)) (pss_one (ps_expr (k_bm (K := K) PySem.F.plainAttrs_list PySem.F.slot_list_append PySem.F.type_list_append mt_append (pv 2) (pa_cons (pe_tup (pa_cons (pe_ix ix_str pe_str (pv 3) (fun _ _ => rfl)) (pa_cons (pe_op op_add pe_int (pe_op op_mod (pe_ix (k_ixL (K := K)) (pv 0) (pe_op op_add (pe_op op_add (pv 1) pe_int) (pe_op op_mul pe_int (pv 3))) (fun _ _ => rfl)) pe_int)) (pa_cons (pe_op op_add pe_int (pe_op op_mod (pe_ix (k_ixL (K := K)) (pv 0) (pe_op op_add (pe_op op_add (pv 1) pe_int) (pe_op op_mul pe_int (pv 3))) (fun _ _ => rfl)) pe_int)) pa_nil)))) pa_nil)))))
      (pss_one (ps_ret (pv 2))))), ?_⟩
    walk_at "go"
    refine ⟨by decide, fun D hD => ?_⟩
    have e0 := same_upd (o := .lst []) (Same.refl H) hD
    walk_at "go"
    refine r_ixL (SqL.of (e0 _ _ ha)) (atI_nat (nu_at hN (by omega))) ?_
    walk_at "go"
    refine r_I (by decide) ?_
    walk_at "go"
    have b3 := mod_bd (nu N o) (m := 3) (by decide)
    have ek : 1 + nu N o % 3 = ((knF N o : Nat) : Int) := by unfold knF; omega
    have hk3 : knF N o ≤ 3 := by unfold knF; omega
    rw [ek]
    refine ⟨_, rfl, by omega, by omega, ?_⟩
    rw [Int.toNat_natCast]
    refine loop_range (fun i σ' H' => ∃ (z : Option V), σ' = [some (.ref a), some (.int (o : Int)), some (.ref D), z] ∧ Same H H' ∧ ∃ us, H' D = some (.lst us) ∧ us.length = i ∧ Tups H' us (fun i => [.str (nm i), .int (kcF N o i), .int ((kdF N o i : Nat) : Int)])) ⟨_, rfl, e0, [], upd_same, rfl, Tups.nil⟩ ?_ ?_
    · rintro i σ' H' hi ⟨z, rfl, e, us, hu, hl, ht⟩
      walk_at "go"
      rw [Int.zero_add]
      refine ty_list hu ?_
      walk_at "go"
      refine r_ixS (by decide +kernel) (abc_at (by omega)) ?_
      walk_at "go"
      refine r_I (.inl ⟨by decide, by decide⟩) ?_
      walk_at "go"
      rw [show (o : Int) + 1 + 2 * (i : Int) = ((o + 1 + 2 * i : Nat) : Int) by omega]
      refine r_ixL (SqL.of (e _ _ ha)) (atI_nat (nu_at hN (by omega))) ?_
      walk_at "go"
      refine r_I (by decide) ?_
      walk_at "go"
      refine r_I (.inl ⟨by decide, by decide⟩) ?_
      walk_at "go"
      rw [show (o : Int) + 2 + 2 * (i : Int) = ((o + 2 + 2 * i : Nat) : Int) by omega]
      refine r_ixL (SqL.of (e _ _ ha)) (atI_nat (nu_at hN (by omega))) ?_
      walk_at "go"
      refine r_I (by decide) ?_
      walk_at "go"
      refine ⟨by show 3 ≤ sizeLine; decide, fun p hp => ?_⟩
      rw [← kd_nat]
      have nD : D ≠ p := ne_of_none hu hp
      have hu2 : upd H' p (.tup [V.str ⟨#[97 + i]⟩, V.int (1 + nu N (o + 1 + 2 * i) % 4), V.int ((kdF N o i : Nat) : Int)]) D = some (.lst us) := by rw [upd_ne nD]; exact hu
      walk_at "go"
      refine r_append hu2 (Nat.lt_of_lt_of_le (show _ < 100 by omega) (by decide)) ?_
      refine ⟨_, rfl, same_mut (same_upd e hp) hD, us ++ [.ref p], upd_same, by rw [List.length_append, hl]; rfl, ?_⟩
      refine Tups.mut (Tups.snoc (ht.up (same_upd (Same.refl _) hp)) ?_) hu2
      rw [hl]
      exact upd_same
    · rintro σ' H' ⟨z, rfl, e, us, hu, hl, ht⟩
      walk_at "go"
      exact q _ D us e hD hu hl ht
/-! ### ways -/
def wnF (N : List Int) (a : Nat) : Nat := (nu N a % 5).toNat
def wsF (N : List Int) (n a i : Nat) : Nat := (nu N (a + 1 + 3 * i) % (n : Int)).toNat
def wtF (N : List Int) (n a i : Nat) : Nat := (nu N (a + 2 + 3 * i) % (n : Int)).toNat
def wdF (N : List Int) (a i : Nat) : Nat := (1 + nu N (a + 3 + 3 * i) % 6).toNat
theorem wd_nat (N : List Int) (a i : Nat) : ((wdF N a i : Nat) : Int) = 1 + nu N (a + 3 + 3 * i) % 6 := by
  unfold wdF
  have := mod_bd (nu N (a + 3 + 3 * i)) (m := 6) (by decide)
  omega
theorem mod_nat (x : Int) {n : Nat} (h : 0 < n) : x % (n : Int) = (((x % (n : Int)).toNat : Nat) : Int) ∧ (x % (n : Int)).toNat < n := by
  have := mod_bd x (m := (n : Int)) (by omega)
  omega
abbrev N_law_ways : List Str := ["_law_numbers_here", "_law_at", "_law_kinds_here", "_law_ways_here", "_law_k", "_law_source", "_law_target"]
abbrev P_law_ways : List Str := ["_law_numbers_here", "_law_at", "_law_kinds_here"]
theorem sc_law_ways : FnScope N_law_ways P_law_ways (defScope s_law_ways) := ⟨rfl, rfl, rfl, by decide +kernel, rfl, by decide +kernel, by decide +kernel⟩
def sp_law_ways (K : PySem.W.Frag) : Sp := fun vs H Q _ => ∃ (a : Addr) (N : List Int) (o : Nat) (ka : Addr) (kvs : List V) (F1 F2 : Nat → V), vs = [.ref a, .int (o : Int), .ref ka] ∧ H a = some (.lst (N.map V.int)) ∧ N.length = 150 ∧ o + 13 ≤ 150 ∧ H ka = some (.lst kvs) ∧ 1 ≤ kvs.length ∧ kvs.length ≤ 3 ∧ Tups H kvs (fun i => [.str (nm i), F1 i, F2 i]) ∧
  ∀ H' p us, Same H H' → H p = none → H' p = some (.lst us) → us.length = wnF N o → Tups H' us (fun i => [.str (nm (wsF N kvs.length o i)), .str (nm (wtF N kvs.length o i)), .int ((wdF N o i : Nat) : Int)]) → Q (.ref p) H'
theorem has_law_ways (T : Tx K mg) : Has P w K mg base "_law_ways" P_law_ways 1 (sp_law_ways K) := by
  obtain ⟨fd, F⟩ := T.f_law_ways
  refine has_mk F T.g_law_ways (fun _ _ _ _ _ _ us hl => match us, hl with | [_, _, _], _ => rfl) (F.ok sc_law_ways (fun vs H Q E h => ?_) (fun cdv A outer s H vs Q E hr h => ?_))
  · obtain ⟨_, _, _, _, _, _, _, rfl, _⟩ := h; rfl
  · obtain ⟨a, N, o, ka, kvs, F1, F2, rfl, ha, hN, ho, hka, l1, l3, hk, q⟩ := h
    refine ⟨_, PSs.nox (pss_cons (ps_set (i := 3) sc_law_ways.nd rfl (.inl rfl) (pe_lst pa_nil))
      (pss_cons (ps_for PassesOwn.never rfl (pi_range1 rfl T.b_range (pa_cons (pe_op op_mod (pe_ix (k_ixL (K := K)) (pv 0) (pv 1) (fun _ _ => rfl)) pe_int) pa_nil)) (pg_name (i := 4) sc_law_ways.nd rfl (.inl rfl)) (pss_cons (ps_set (i := 5) sc_law_ways.nd rfl (.inl rfl) (pe_ix (k_ixT (K := K)) (pe_ix (k_ixL (K := K)) (pv 2) (pe_op op_mod (pe_ix (k_ixL (K := K)) (pv 0) (pe_op op_add (pe_op op_add (pv 1) pe_int) (pe_op op_mul pe_int (pv 4))) (fun _ _ => rfl)) (pe_callB (k_len (K := K)) (by rfl) T.b_len PySem.boot_len (pa_cons (pv 2) pa_nil))) (fun _ _ => rfl)) pe_int (fun _ _ => rfl)))
      (pss_cons (ps_set (i := 6) sc_law_ways.nd rfl (.inl rfl) (pe_ix (k_ixT (K := K)) (pe_ix (k_ixL (K := K)) (pv 2) (pe_op op_mod (pe_ix (k_ixL (K := K)) (pv 0) (pe_op op_add (pe_op op_add (pv 1) pe_int) (pe_op op_mul pe_int (pv 4))) (fun _ _ => rfl)) (pe_callB (k_len (K := K)) (by rfl) T.b_len PySem.boot_len (pa_cons (pv 2) pa_nil))) (fun _ _ => rfl)) pe_int (fun _ _ => rfl)))
      (pss_one (ps_expr (k_bm (K := K) PySem.F.plainAttrs_list PySem.F.slot_list_append PySem.F.type_list_append mt_append (pv 3) (pa_cons (pe_tup (pa_cons (pv 5) (pa_cons (pv 6) (pa_cons (pe_op op_add pe_int (pe_op op_mod (pe_ix (k_ixL (K := K)) (pv 0) (pe_op op_add (pe_op op_add (pv 1) pe_int) (pe_op op_mul pe_int (pv 4))) (fun _ _ => rfl)) pe_int)) pa_nil)))) pa_nil)))))))
      (pss_one (ps_ret (pv 3))))), ?_⟩
    walk_at "go"
    refine ⟨by decide, fun D hD => ?_⟩
    have e0 := same_upd (o := .lst []) (Same.refl H) hD
    walk_at "go"
    refine r_ixL (SqL.of (e0 _ _ ha)) (atI_nat (nu_at hN (by omega))) ?_
    walk_at "go"
    refine r_I (by decide) ?_
    walk_at "go"
    have b5 := mod_bd (nu N o) (m := 5) (by decide)
    have ek : nu N o % 5 = ((wnF N o : Nat) : Int) := by unfold wnF; omega
    have hk4 : wnF N o ≤ 4 := by unfold wnF; omega
    rw [ek]
    refine ⟨_, rfl, by omega, by omega, ?_⟩
    rw [Int.toNat_natCast]
    refine loop_range (fun i σ' H' => ∃ (z1 z2 z3 : Option V), σ' = [some (.ref a), some (.int (o : Int)), some (.ref ka), some (.ref D), z1, z2, z3] ∧ Same H H' ∧ ∃ us, H' D = some (.lst us) ∧ us.length = i ∧ Tups H' us (fun i => [.str (nm (wsF N kvs.length o i)), .str (nm (wtF N kvs.length o i)), .int ((wdF N o i : Nat) : Int)])) ⟨_, _, _, rfl, e0, [], upd_same, rfl, Tups.nil⟩ ?_ ?_
    · rintro i σ' H' hi ⟨z1, z2, z3, rfl, e, us, hu, hl, ht⟩
      have kat : ∀ {k : Nat}, k < kvs.length → ∃ p, kvs[k]? = some (.ref p) ∧ SqT K H' p [.str (nm k), F1 k, F2 k] := fun {k} hk' => by
        obtain ⟨p, ep, hp⟩ := hk k _ (List.getElem?_eq_getElem hk')
        exact ⟨p, by rw [← ep]; exact List.getElem?_eq_getElem _, SqT.of (e _ _ hp)⟩
      walk_at "go"
      rw [Int.zero_add]
      refine r_I (.inl ⟨by decide, by decide⟩) ?_
      walk_at "go"
      rw [show (o : Int) + 1 + 3 * (i : Int) = ((o + 1 + 3 * i : Nat) : Int) by omega]
      refine r_ixL (SqL.of (e _ _ ha)) (atI_nat (nu_at hN (by omega))) ?_
      walk_at "go"
      refine ⟨ka, _, rfl, .inl (SqL.of (e _ _ hka)), ?_⟩
      refine r_I (by omega) ?_
      obtain ⟨m1, m2⟩ := mod_nat (nu N (o + 1 + 3 * i)) (n := kvs.length) (by omega)
      rw [m1]
      obtain ⟨p1, k1, k2⟩ := kat m2
      refine r_ixL (SqL.of (e _ _ hka)) (atI_nat k1) ?_
      walk_at "go"
      refine r_I (.inl ⟨by decide, by decide⟩) ?_
      walk_at "go"
      rw [show (o : Int) + 2 + 3 * (i : Int) = ((o + 2 + 3 * i : Nat) : Int) by omega]
      refine r_ixL (SqL.of (e _ _ ha)) (atI_nat (nu_at hN (by omega))) ?_
      walk_at "go"
      refine ⟨ka, _, rfl, .inl (SqL.of (e _ _ hka)), ?_⟩
      refine r_I (by omega) ?_
      obtain ⟨m3, m4⟩ := mod_nat (nu N (o + 2 + 3 * i)) (n := kvs.length) (by omega)
      rw [m3]
      obtain ⟨p3, k3, k4⟩ := kat m4
      refine r_ixL (SqL.of (e _ _ hka)) (atI_nat k3) ?_
      walk_at "go"
      refine ty_list hu ?_
      walk_at "go"
      refine r_I (.inl ⟨by decide, by decide⟩) ?_
      walk_at "go"
      rw [show (o : Int) + 3 + 3 * (i : Int) = ((o + 3 + 3 * i : Nat) : Int) by omega]
      refine r_ixL (SqL.of (e _ _ ha)) (atI_nat (nu_at hN (by omega))) ?_
      walk_at "go"
      refine r_I (by decide) ?_
      walk_at "go"
      refine ⟨by show 3 ≤ sizeLine; decide, fun p hp => ?_⟩
      rw [← wd_nat]
      have nD : D ≠ p := ne_of_none hu hp
      have hu2 : upd H' p (.tup [V.str (nm (wsF N kvs.length o i)), V.str (nm (wtF N kvs.length o i)), V.int ((wdF N o i : Nat) : Int)]) D = some (.lst us) := by rw [upd_ne nD]; exact hu
      walk_at "go"
      refine r_append hu2 (Nat.lt_of_lt_of_le (show _ < 100 by omega) (by decide)) ?_
      refine ⟨_, _, _, rfl, same_mut (same_upd e hp) hD, us ++ [.ref p], upd_same, by rw [List.length_append, hl]; rfl, ?_⟩
      refine Tups.mut (Tups.snoc (ht.up (same_upd (Same.refl _) hp)) ?_) hu2
      rw [hl]
      exact upd_same
    · rintro σ' H' ⟨z1, z2, z3, rfl, e, us, hu, hl, ht⟩
      walk_at "go"
      exact q _ D us e hD hu hl ht
/-! ### courses -/
def cF (c : List (Nat × Nat)) (i : Nat) : List V := [.int (((c.getD i (0, 0)).1 : Nat) : Int), .str (nm (c.getD i (0, 0)).2)]
theorem legal_snoc {t : Tk} {r r' : Nat × Nat} (hw : ∃ w ∈ t.ways, w.1 = r.2 ∧ w.2.1 = r'.2 ∧ r.1 + w.2.2 ≤ r'.1) (hn : r'.2 < t.n) : ∀ c : List (Nat × Nat), Legal t (c ++ [r]) → Legal t (c ++ [r] ++ [r'])
  | [], h => ⟨h, hw, hn⟩
  | [a], h => ⟨h.1, h.2.1, h.2.2, hw, hn⟩
  | a :: b :: c, h => ⟨h.1, h.2.1, legal_snoc hw hn (b :: c) h.2.2⟩
theorem cF_snoc (c : List (Nat × Nat)) (r : Nat × Nat) {i : Nat} (h : i < c.length) : cF c i = cF (c ++ [r]) i := by
  unfold cF
  rw [List.getD_eq_getElem?_getD, List.getD_eq_getElem?_getD, List.getElem?_append_left h]
theorem cF_last (c : List (Nat × Nat)) (r : Nat × Nat) : cF (c ++ [r]) c.length = [.int ((r.1 : Nat) : Int), .str (nm r.2)] := by
  unfold cF
  rw [List.getD_eq_getElem?_getD, List.getElem?_append_right (Nat.le_refl _), Nat.sub_self]
  rfl
abbrev N_law_course : List Str := ["_law_numbers_here", "_law_at", "_law_kinds_here", "_law_ways_here", "_law_many", "_law_kind", "_law_time", "_law_course_here", "_law_k", "_law_way", "_law_choices"]
abbrev P_law_course : List Str := ["_law_numbers_here", "_law_at", "_law_kinds_here", "_law_ways_here", "_law_many"]
theorem sc_law_course : FnScope N_law_course P_law_course (defScope s_law_course) := ⟨rfl, rfl, rfl, by decide +kernel, rfl, by decide +kernel, by decide +kernel⟩
def sp_law_course (K : PySem.W.Frag) : Sp := fun vs H Q _ => ∃ (a : Addr) (N : List Int) (o : Nat) (ka wa : Addr) (kvs wvs : List V) (t : Tk) (m : Nat), vs = [.ref a, .int (o : Int), .ref ka, .ref wa, .int (m : Int)] ∧ (H a = some (.lst (N.map V.int)) ∧ N.length = 150 ∧ o + 16 ≤ 150 ∧ m ≤ 6) ∧ (t.Ok ∧ H ka = some (.lst kvs) ∧ KindsT H kvs t ∧ H wa = some (.lst wvs) ∧ WaysT H wvs t) ∧
  ∀ H' p us c, Same H H' → H p = none → H' p = some (.lst us) → us.length = c.length → Tups H' us (cF c) → Legal t c → c.length ≤ 6 → (∀ r ∈ c, r.1 ≤ 100) → Q (.ref p) H'
theorem has_law_course (T : Tx K mg) : Has P w K mg base "_law_course" P_law_course 1 (sp_law_course K) := by
  obtain ⟨fd, F⟩ := T.f_law_course
  refine has_mk F T.g_law_course (fun _ _ _ _ _ _ us hl => match us, hl with | [_, _, _, _, _], _ => rfl) (F.ok sc_law_course (fun vs H Q E h => ?_) (fun cdv A outer s H vs Q E hr h => ?_))
  · obtain ⟨_, _, _, _, _, _, _, _, _, rfl, _⟩ := h; rfl
  · obtain ⟨a, N, o, ka, wa, kvs, wvs, t, m, rfl, ⟨ha, hN, ho, hm⟩, ⟨ok, hka, hk, hwa, hw⟩, q⟩ := h
    refine ⟨_, PSs.nox (pss_cons (ps_if (pt_cmpR op_eq (pv 4) pe_int (nomark _)) (pss_one (ps_ret (pe_lst pa_nil))) pss_nil)
      (pss_cons (ps_set (i := 5) sc_law_course.nd rfl (.inr rfl) (pe_ix (k_ixT (K := K)) (pe_ix (k_ixL (K := K)) (pv 2) (pe_op op_mod (pe_ix (k_ixL (K := K)) (pv 0) (pv 1) (fun _ _ => rfl)) (pe_callB (k_len (K := K)) (by rfl) T.b_len PySem.boot_len (pa_cons (pv 2) pa_nil))) (fun _ _ => rfl)) pe_int (fun _ _ => rfl)))
      (pss_cons (ps_set (i := 6) sc_law_course.nd rfl (.inl rfl) (pe_op op_mod (pe_ix (k_ixL (K := K)) (pv 0) (pe_op op_add (pv 1) pe_int) (fun _ _ => rfl)) pe_int))
      (pss_cons (ps_set (i := 7) sc_law_course.nd rfl (.inl rfl) (pe_lst (pa_cons (pe_tup (pa_cons (pv 6) (pa_cons (pv 5) pa_nil))) pa_nil)))
      (pss_cons (ps_for PassesOwn.never rfl (pi_range1 rfl T.b_range (pa_cons (pe_op op_sub (pv 4) pe_int) pa_nil)) (pg_name (i := 8) sc_law_course.nd rfl (.inl rfl)) (pss_cons (ps_setLc (i := 10) (own := [("_law_way", 9)]) rfl sc_law_course.nd rfl rfl (sw_true rfl rfl rfl (by decide +kernel)) (k_list (K := K) (pv 3)) (blkOk_by (own := [("_law_way", 9)]) (N := N_law_course) (sc := defScope s_law_course) (by decide +kernel)) (fun _ _ _ _ _ => (pg_name (i := 9) sc_law_course.nd rfl (.inl rfl))) (fun _ _ _ _ _ => (pts_one (pt_cmpR op_eq (pe_ix (k_ixT (K := K)) (pv 9) pe_int (fun _ _ => rfl)) (pv 5) (nomark _)))) (fun _ _ _ _ _ => (pv 9)))
      (pss_cons (ps_if (pt_cmpR op_eq (pe_callB (k_len (K := K)) (by rfl) T.b_len PySem.boot_len (pa_cons (pv 10) pa_nil)) pe_int (nomark _)) (pss_one (ps_ret (pv 7))) pss_nil)
      (pss_cons (ps_set (i := 9) sc_law_course.nd rfl (.inl rfl) (pe_ix (k_ixL (K := K)) (pv 10) (pe_op op_mod (pe_ix (k_ixL (K := K)) (pv 0) (pe_op op_add (pe_op op_add (pv 1) pe_int) (pe_op op_mul pe_int (pv 8))) (fun _ _ => rfl)) (pe_callB (k_len (K := K)) (by rfl) T.b_len PySem.boot_len (pa_cons (pv 10) pa_nil))) (fun _ _ => rfl)))
      (pss_cons (ps_set (i := 6) sc_law_course.nd rfl (.inl rfl) (pe_op op_add (pe_op op_add (pv 6) (pe_ix (k_ixT (K := K)) (pv 9) pe_int (fun _ _ => rfl))) (pe_callB (call_max2Q rfl) (by rfl) T.b_max (by decide +kernel) (pa_cons pe_int (pa_cons (pe_op op_sub (pe_op op_mod (pe_ix (k_ixL (K := K)) (pv 0) (pe_op op_add (pe_op op_add (pv 1) pe_int) (pe_op op_mul pe_int (pv 8))) (fun _ _ => rfl)) pe_int) pe_int) pa_nil)))))
      (pss_cons (ps_set (i := 5) sc_law_course.nd rfl (.inr rfl) (pe_ix (k_ixT (K := K)) (pv 9) pe_int (fun _ _ => rfl)))
      (pss_one (ps_expr (k_bm (K := K) PySem.F.plainAttrs_list PySem.F.slot_list_append PySem.F.type_list_append mt_append (pv 7) (pa_cons (pe_tup (pa_cons (pv 6) (pa_cons (pv 5) pa_nil))) pa_nil))))))))))
      (pss_one (ps_ret (pv 7)))))))), ?_⟩
    have n1 := ok.n1
    have n3 := ok.n3
    have w4 := ok.w4
    have hkl := hk.1
    have hwl := hw.1
    have etm : t.m = t.ways.length := rfl
    have etn : t.n = t.kinds.length := rfl
    walk_at "go"
    refine r_ite (fun c => ?_) (fun c => ?_)
    · walk_at "go"
      refine ⟨by decide, fun D hD => ?_⟩
      exact q _ D [] [] (same_upd (Same.refl _) hD) hD upd_same rfl Tups.nil True.intro (Nat.zero_le _) fun r hr => by cases hr
    · have hm1 : 1 ≤ m := by
        rcases Nat.eq_zero_or_pos m with z | z
        · subst z; simp at c
        · exact z
      walk_at "go"
      have kat : ∀ {H' : Hp} {k : Nat}, Same H H' → k < t.n → ∃ p, kvs[k]? = some (.ref p) ∧ SqT K H' p [.str (nm k), .int (t.cost k), .int ((t.dl k : Nat) : Int)] := fun {H' k} e hk' => by
        obtain ⟨p, ep, hp⟩ := hk.2 k _ (List.getElem?_eq_getElem (by omega))
        exact ⟨p, by rw [← ep]; exact List.getElem?_eq_getElem _, SqT.of (e _ _ hp)⟩
      refine r_ixL (SqL.of ha) (atI_nat (nu_at hN (by omega))) ?_
      walk_at "go"
      refine ⟨ka, _, rfl, .inl (SqL.of hka), ?_⟩
      refine r_I (by omega) ?_
      obtain ⟨m1, m2⟩ := mod_nat (nu N o) (n := kvs.length) (by omega)
      rw [m1]
      generalize (nu N o % (kvs.length : Int)).toNat = k0 at m1 m2 ⊢
      obtain ⟨p1, k1, k2⟩ := kat (Same.refl H) (k := k0) (by omega)
      refine r_ixL (SqL.of hka) (atI_nat k1) ?_
      walk_at "go"
      rw [show (o : Int) + 1 = ((o + 1 : Nat) : Int) by omega]
      refine r_ixL (SqL.of ha) (atI_nat (nu_at hN (by omega))) ?_
      walk_at "go"
      refine r_I (by decide) ?_
      have b4 := mod_bd (nu N (o + 1)) (m := 4) (by decide)
      obtain ⟨t0, ht0⟩ : ∃ t0 : Nat, nu N (o + 1) % 4 = (t0 : Int) := ⟨(nu N (o + 1) % 4).toNat, by omega⟩
      rw [ht0]
      walk_at "go"
      refine ⟨by show 2 ≤ sizeLine; decide, fun p hp => ?_⟩
      walk_at "go"
      refine ⟨by show 1 ≤ sizeLine; decide, fun D hD => ?_⟩
      have ep := same_upd (o := .tup [V.int (t0 : Int), V.str (nm k0)]) (Same.refl H) hp
      have hp1 : upd H p (.tup [V.int (t0 : Int), V.str (nm k0)]) p = some (.tup [V.int (t0 : Int), V.str (nm k0)]) := upd_same
      have hD0 : H D = none := by
        have : D ≠ p := fun z => by subst z; rw [hp1] at hD; cases hD
        rw [upd_ne this] at hD; exact hD
      generalize upd H p (.tup [V.int (t0 : Int), V.str (nm k0)]) = H1 at ep hp1 hD ⊢
      have e1 := same_upd (o := .lst [V.ref p]) ep hD
      walk_at "go"
      refine ⟨_, rfl, by omega, by omega, ?_⟩
      rw [show ((m : Int) - 1).toNat = m - 1 by omega]
      refine loop_range (fun i σ' H' => ∃ (z1 z2 z3 : Option V) (c0 : List (Nat × Nat)) (tm k : Nat) (us : List V), σ' = [some (.ref a), some (.int (o : Int)), some (.ref ka), some (.ref wa), some (.int (m : Int)), some (.str (nm k)), some (.int (tm : Int)), some (.ref D), z1, z2, z3] ∧ Same H H' ∧ H' D = some (.lst us) ∧ us.length = (c0 ++ [(tm, k)]).length ∧ Tups H' us (cF (c0 ++ [(tm, k)])) ∧ Legal t (c0 ++ [(tm, k)]) ∧ (c0.length = i ∧ k < t.n ∧ tm ≤ 3 + 8 * i ∧ ∀ r ∈ c0, r.1 ≤ 3 + 8 * i))
        ⟨_, _, _, [], t0, k0, [V.ref p], rfl, e1, upd_same, rfl, fun i v qv => ?_, (by show k0 < t.n; omega), rfl, by omega, by omega, fun r hr => by cases hr⟩ ?_ ?_
      · have hi : i = 0 := by
          have := (List.getElem?_eq_some_iff.mp qv).1
          simpa using this
        subst hi
        exact ⟨p, (Option.some.inj qv).symm, by rw [upd_ne (ne_of_none hp1 hD)]; exact hp1⟩
      · rintro i σ' H' hi ⟨z1, z2, z3, c0, tm, k, us, rfl, e, hu, hul, hut, hleg, hc0, hkn, htm, hall⟩
        walk_at "go"
        refine ⟨wa, rfl, ⟨_, SqL.of (e _ _ hwa)⟩, fun D2 hD2 => lc_L (xs := wvs) (fun j H2 => Same H' H2 ∧ ∃ (js : List Nat) (vs : List V), H2 D2 = some (.lst vs) ∧ vs.length = js.length ∧ vs.length ≤ j ∧ ∀ (x : Nat) v, vs[x]? = some v → ∃ y, js[x]? = some y ∧ y < t.m ∧ t.src y = k ∧ wvs[y]? = some v) ⟨same_upd (Same.refl _) hD2, [], [], upd_same, rfl, Nat.le_refl _, fun x v h => by simp at h⟩ (fun i H2 _ ⟨e2, _⟩ => SqL.of (e2 _ _ (e _ _ hwa))) ?_ ?_⟩
        · rintro j x H2 hx ⟨e2, js, vs, hv, hvl, hvj, hva⟩
          have hj := (List.getElem?_eq_some_iff.mp hx).1
          obtain ⟨pw, rfl, hpw⟩ := hw.2 j x hx
          have hpw2 := SqT.of (K := K) (e2 _ _ (e _ _ hpw))
          walk_at "go"
          refine ⟨rfl, ?_⟩
          walk_at "go"
          rw [nm_dec]
          refine r_ite (fun cc => ?_) (fun cc => ?_)
          · have cc := of_decide_eq_true cc
            walk_at "go"
            refine ⟨vs, hv, Nat.lt_of_lt_of_le (show _ < 100 by omega) (by decide), same_mut e2 hD2, js ++ [j], vs ++ [.ref pw], upd_same, by rw [List.length_append, List.length_append, hvl]; rfl, by rw [List.length_append, List.length_singleton]; omega, fun y v hy => ?_⟩
            by_cases hyl : y < vs.length
            · rw [List.getElem?_append_left hyl] at hy
              obtain ⟨y2, h1, h2⟩ := hva y v hy
              exact ⟨y2, by rw [List.getElem?_append_left (by omega)]; exact h1, h2⟩
            · have hl' : y = vs.length := by
                have := (List.getElem?_eq_some_iff.mp hy).1
                rw [List.length_append, List.length_singleton] at this
                omega
              subst hl'
              rw [List.getElem?_append_right (Nat.le_refl _), Nat.sub_self] at hy
              have ev : V.ref pw = v := Option.some.inj hy
              subst ev
              exact ⟨j, by rw [hvl, List.getElem?_append_right (Nat.le_refl _), Nat.sub_self]; rfl, by omega, cc, hx⟩
          · exact ⟨e2, js, vs, hv, hvl, by omega, hva⟩
        · rintro H2 ⟨e2, js, vs, hv, hvl, hvj, hva⟩
          have e02 := e.trans e2
          have hu2 := e2 _ _ hu
          have hul' : us.length = c0.length + 1 := by rw [hul, List.length_append]; rfl
          walk_at "go"
          refine ⟨D2, _, rfl, .inl (SqL.of hv), ?_⟩
          walk_at "go"
          refine r_ite (fun cc => ?_) (fun cc => ?_)
          · walk_at "go"
            refine q _ D us _ e02 hD0 hu2 hul (hut.up e2) hleg (by rw [List.length_append, List.length_singleton]; omega) fun r hr => ?_
            rcases List.mem_append.mp hr with hr | hr
            · have := hall r hr
              omega
            · have : r = (tm, k) := by simpa using hr
              subst this
              show tm ≤ 100
              omega
          · have hv1 : 0 < vs.length := by
              rcases Nat.eq_zero_or_pos vs.length with z | z
              · rw [z] at cc; simp at cc
              · exact z
            walk_at "go"
            rw [Int.zero_add]
            refine r_I (.inl ⟨by decide, by decide⟩) ?_
            walk_at "go"
            rw [show (o : Int) + 2 + 2 * (i : Int) = ((o + 2 + 2 * i : Nat) : Int) by omega]
            refine r_ixL (SqL.of (e02 _ _ ha)) (atI_nat (nu_at hN (by omega))) ?_
            walk_at "go"
            refine ⟨D2, _, rfl, .inl (SqL.of hv), ?_⟩
            refine r_I (by omega) ?_
            obtain ⟨m3, m4⟩ := mod_nat (nu N (o + 2 + 2 * i)) (n := vs.length) hv1
            rw [m3]
            generalize (nu N (o + 2 + 2 * i) % (vs.length : Int)).toNat = x at m3 m4 ⊢
            obtain ⟨v, hvx⟩ : ∃ v, vs[x]? = some v := ⟨_, List.getElem?_eq_getElem m4⟩
            obtain ⟨y, hy1, hy2, hy3, hy4⟩ := hva x v hvx
            obtain ⟨pw, rfl, hpw⟩ := hw.2 y v hy4
            have hpw2 := SqT.of (K := K) (e02 _ _ hpw)
            have way := ok.way hy2
            refine r_ixL (SqL.of hv) (atI_nat hvx) ?_
            walk_at "go"
            refine r_I (.inl ⟨by decide, by decide⟩) ?_
            walk_at "go"
            rw [show (o : Int) + 3 + 2 * (i : Int) = ((o + 3 + 2 * i : Nat) : Int) by omega]
            refine r_ixL (SqL.of (e02 _ _ ha)) (atI_nat (nu_at hN (by omega))) ?_
            walk_at "go"
            refine r_I (by decide) ?_
            walk_at "go"
            have b6 := mod_bd (nu N (o + 3 + 2 * i)) (m := 6) (by decide)
            obtain ⟨x2, hx2, hx3⟩ : ∃ x2 : Nat, (if nu N (o + 3 + 2 * i) % 6 - 3 > 0 then nu N (o + 3 + 2 * i) % 6 - 3 else 0) = (x2 : Int) ∧ x2 ≤ 2 := by
              by_cases cp : nu N (o + 3 + 2 * i) % 6 - 3 > 0
              · exact ⟨(nu N (o + 3 + 2 * i) % 6 - 3).toNat, by rw [if_pos cp]; omega, by omega⟩
              · exact ⟨0, by rw [if_neg cp]; rfl, by decide⟩
            rw [hx2]
            rw [show (tm : Int) + ((t.dst y : Nat) : Int) + (x2 : Int) = ((tm + t.dst y + x2 : Nat) : Int) by omega]
            refine ty_list hu2 ?_
            walk_at "go"
            refine ⟨by show 2 ≤ sizeLine; decide, fun p3 hp3 => ?_⟩
            have nD : D ≠ p3 := ne_of_none hu2 hp3
            have hu3 : upd H2 p3 (.tup [V.int ((tm + t.dst y + x2 : Nat) : Int), V.str (nm (t.tgt y))]) D = some (.lst us) := by rw [upd_ne nD]; exact hu2
            walk_at "go"
            refine r_append hu3 (Nat.lt_of_lt_of_le (show _ < 100 by omega) (by decide)) ?_
            refine ⟨_, _, _, c0 ++ [(tm, k)], tm + t.dst y + x2, t.tgt y, us ++ [.ref p3], rfl, same_mut (same_upd e02 hp3) hD0, upd_same, by rw [List.length_append, List.length_append, hul]; rfl, ?_, legal_snoc ⟨_, way_mem hy2, hy3, rfl, by show tm + t.dst y ≤ tm + t.dst y + x2; omega⟩ way.2.1 c0 hleg, by rw [List.length_append, hc0]; rfl, way.2.1, by omega, fun r hr => ?_⟩
            · refine Tups.mut (Tups.snoc (Tups.congr ((hut.up e2).up (same_upd (Same.refl _) hp3)) fun i hi => cF_snoc _ _ (by omega)) ?_) hu3
              rw [hul, cF_last]
              exact upd_same
            · rcases List.mem_append.mp hr with hr | hr
              · have := hall r hr
                omega
              · have : r = (tm, k) := by simpa using hr
                subst this
                show tm ≤ _
                omega
      · rintro σ' H' ⟨z1, z2, z3, c0, tm, k, us, rfl, e, hu, hul, hut, hleg, hc0, hkn, htm, hall⟩
        walk_at "go"
        refine q _ D us _ e hD0 hu hul hut hleg (by rw [List.length_append, List.length_singleton]; omega) fun r hr => ?_
        rcases List.mem_append.mp hr with hr | hr
        · have := hall r hr
          omega
        · have : r = (tm, k) := by simpa using hr
          subst this
          show tm ≤ 100
          omega
end
end NL
end
-- part A16
section
set_option Elab.async false
set_option linter.all false
set_option maxRecDepth 100000
set_option maxHeartbeats 4000000
namespace NL
open PySem PySem.Spec PyProof.Rows L2
open He (ga ma)
local macro_rules | `(tactic| walk_at "go1") => `(tactic| first
  | ((with_reducible refine' r_var ?hv ?_); (case hv => rfl))
  | with_reducible refine r_c ?_
  | with_reducible refine r_op ?_
  | with_reducible refine r_un ?_
  | with_reducible refine r_I0 ?_
  | with_reducible refine r_U ?_
  | ((with_reducible refine' r_ixT ?h1 ?h2 ?_); (case h1 => assumption); (case h2 => rfl))
  | ((with_reducible refine' r_ixL ?h1 ?h2 ?_); (case h1 => assumption); (case h2 => rfl))
  | with_reducible refine r_nil ?_
  | with_reducible refine r_cons ?_
  | with_reducible refine r_cb ?_
  | with_reducible refine r_call ?_
  | with_reducible refine r_ck ?_
  | with_reducible refine r_nt ?_
  | with_reducible refine r_nf ?_
  | with_reducible refine r_itS ?_
  | with_reducible refine r_chain ?_
  | with_reducible refine r_inS ?_
  | with_reducible refine r_mkK ?_
  | with_reducible refine r_mk ?_
  | with_reducible refine r_seqSfld ?_
  | with_reducible refine r_sfld ?_
  | with_reducible refine r_ifExp ?_
  | with_reducible refine r_prop ?_
  | with_reducible refine r_gSub ?_
  | ((with_reducible refine' r_seqAug2 ?hv ?_); (case hv => rfl))
  | ((with_reducible refine' r_aug2 ?hv ?_); (case hv => rfl))
  | with_reducible refine r_ipI ?_
  | with_reducible refine r_seqAugS ?_
  | with_reducible refine r_augS ?_
  | with_reducible refine r_cont ?_
  | with_reducible refine r_brk ?_
  | with_reducible refine r_tt ?_
  | with_reducible refine r_ff ?_
  | with_reducible refine r_test ?_
  | with_reducible refine r_B ?_
  | with_reducible refine r_not ?_
  | with_reducible refine r_and ?_
  | with_reducible refine r_or ?_
  | with_reducible refine r_tup ?_
  | with_reducible refine r_lst ?_
  | with_reducible refine r_bl ?_
  | with_reducible refine r_max2 ?_
  | with_reducible refine r_min2 ?_
  | with_reducible refine r_abs ?_
  | with_reducible refine r_int1b ?_
  | with_reducible refine r_isN1 ?_
  | with_reducible refine r_isN2 ?_
  | with_reducible refine r_isN3 ?_
  | with_reducible refine r_notN1 ?_
  | with_reducible refine r_notN2 ?_
  | with_reducible refine r_notN3 ?_
  | with_reducible refine r_isN ?_
  | with_reducible refine r_notN ?_
  | with_reducible refine r_notBl ?_
  | ((with_reducible refine r_eq ?h1 ?_); (case h1 => rfl))
  | ((with_reducible refine r_ne ?h1 ?_); (case h1 => rfl))
  | with_reducible refine r_fld ?_
  | with_reducible refine r_sl ?_
  | with_reducible refine r_noPart ?_
  | with_reducible refine r_part ?_
  | with_reducible refine r_xint ?_
  | with_reducible refine r_bm ?_
  | with_reducible refine r_meth ?_
  | with_reducible refine r_callN ?_
  | ((with_reducible refine' r_lenQ ?h1 ?_); (case h1 => first | assumption | exact Or.inl (by assumption) | exact Or.inr (by assumption)))
  | with_reducible refine r_seqN ?_
  | with_reducible refine r_asgN ?_
  | with_reducible refine r_seqIf ?_
  | with_reducible refine r_seqFor ?_
  | with_reducible refine r_for ?_
  | with_reducible refine r_rng1 ?_
  | with_reducible refine r_rng2 ?_
  | with_reducible refine r_rng3 ?_
  | with_reducible refine r_itL ?_
  | with_reducible refine r_itT ?_
  | with_reducible refine r_lc ?_
  | with_reducible refine r_yes ?_
  | with_reducible refine r_itE ?_
  | with_reducible refine r_itEL ?_
  | with_reducible refine r_gN ?_
  | with_reducible refine r_seqA ?_
  | with_reducible refine r_asgA ?_
  | with_reducible refine r_if ?_
  | with_reducible refine r_retD ?_
  | with_reducible refine r_ret ?_
  | with_reducible refine r_seqDrop ?_
  | with_reducible refine r_drop ?_
  | with_reducible refine r_next ?_)
local macro_rules | `(tactic| walk_at "go") => `(tactic| (repeat walk_at "go1"))

/-! ### jobs -/
def jI (j : Job) : Int × Int × Int := (((j.1 : Nat) : Int), ((j.2.1 : Nat) : Int), j.2.2)
def jN (x : Int × Int × Int) : Job := (x.1.toNat, x.2.1.toNat, x.2.2)
theorem jN_jI (j : Job) : jN (jI j) = j := rfl
def jobOf (t : Tk) (r : Nat × Nat) : Job := (r.1 + t.dl r.2, r.1, t.cost r.2)
def jobsOf (t : Tk) (c : List (Nat × Nat)) : List Job := c.map (jobOf t)
def allJ : List Tk → List (List (Nat × Nat)) → List Job
  | t :: ts, c :: cs => jobsOf t c ++ allJ ts cs
  | _, _ => []
theorem allJ_take : ∀ {ts : List Tk} {cs : List (List (Nat × Nat))} {i : Nat} {t : Tk} {c : List (Nat × Nat)}, ts[i]? = some t → cs[i]? = some c → allJ (ts.take (i + 1)) (cs.take (i + 1)) = allJ (ts.take i) (cs.take i) ++ jobsOf t c
  | t' :: ts, c' :: cs, 0, t, c, h1, h2 => by
    have e1 : t' = t := Option.some.inj h1
    have e2 : c' = c := Option.some.inj h2
    subst e1; subst e2
    simp [allJ]
  | t' :: ts, c' :: cs, i + 1, t, c, h1, h2 => by
    have := allJ_take (ts := ts) (cs := cs) (i := i) (t := t) (c := c) (by simpa using h1) (by simpa using h2)
    rw [List.take_succ_cons, List.take_succ_cons, List.take_succ_cons, List.take_succ_cons, allJ, this, allJ, List.append_assoc]
  | [], _, i, t, c, h1, _ => by simp at h1
  | _ :: _, [], i, t, c, _, h2 => by simp at h2
/-- the jobs bs stand as lists, none at D -/
def JAt (H : Hp) (D : Addr) (bs : List JR) : Prop := ∀ b ∈ bs, b.1 ≠ D ∧ H b.1 = some (.lst ((jL b).map V.int))
theorem JAt.up {H H' : Hp} {D : Addr} {bs : List JR} (h : JAt H D bs) (e : Same H H') : JAt H' D bs := fun b hb => ⟨(h b hb).1, e _ _ (h b hb).2⟩
theorem JAt.mut {H : Hp} {D : Addr} {bs : List JR} {o : HO} (h : JAt H D bs) : JAt (upd H D o) D bs := fun b hb => ⟨(h b hb).1, by rw [upd_ne (h b hb).1]; exact (h b hb).2⟩
theorem JAt.snoc {H : Hp} {D : Addr} {bs : List JR} {b : JR} (h : JAt H D bs) (n : b.1 ≠ D) (hb : H b.1 = some (.lst ((jL b).map V.int))) : JAt H D (bs ++ [b]) := fun x hx => by
  rcases List.mem_append.mp hx with hx | hx
  · exact h x hx
  · have : x = b := by simpa using hx
    subst this
    exact ⟨n, hb⟩
structure DrawnAt (H : Hp) (ds : List V) (ts : List Tk) (cs : List (List (Nat × Nat))) : Prop where
  l1 : ds.length = ts.length
  l2 : cs.length = ts.length
  ex : ∀ (i : Nat) v, ds[i]? = some v → ∃ (p ka wa ca : Addr) (kvs cvs : List V) (t : Tk) (c : List (Nat × Nat)), v = .ref p ∧ H p = some (.tup [.ref ka, .ref wa, .ref ca]) ∧ ts[i]? = some t ∧ cs[i]? = some c ∧ t.Ok ∧ H ka = some (.lst kvs) ∧ KindsT H kvs t ∧ H ca = some (.lst cvs) ∧ cvs.length = c.length ∧ Tups H cvs (cF c) ∧ (∀ r ∈ c, r.2 < t.n) ∧ c.length ≤ 6
theorem DrawnAt.up {H H' : Hp} {ds : List V} {ts : List Tk} {cs : List (List (Nat × Nat))} (h : DrawnAt H ds ts cs) (e : Same H H') : DrawnAt H' ds ts cs := ⟨h.l1, h.l2, fun i v q => by
  obtain ⟨p, ka, wa, ca, kvs, cvs, t, c, a1, a2, a3, a4, a5, a6, a7, a8, a9, a10, a11⟩ := h.ex i v q
  exact ⟨p, ka, wa, ca, kvs, cvs, t, c, a1, e _ _ a2, a3, a4, a5, e _ _ a6, a7.up e, e _ _ a8, a9, a10.up e, a11⟩⟩
section
variable {P : Program} {w : World} {K : PySem.W.Frag} {mg : Str → Option Value} {base : Heap}
abbrev N_law_jobs : List Str := ["_law_drawn", "_law_jobs_here", "_law_k", "_law_time", "_law_name", "_law_kind"]
abbrev P_law_jobs : List Str := ["_law_drawn"]
theorem sc_law_jobs : FnScope N_law_jobs P_law_jobs (defScope s_law_jobs) := ⟨rfl, rfl, rfl, by decide +kernel, rfl, by decide +kernel, by decide +kernel⟩
def sp_law_jobs (K : PySem.W.Frag) : Sp := fun vs H Q _ => ∃ (a : Addr) (ds : List V) (ts : List Tk) (cs : List (List (Nat × Nat))), vs = [.ref a] ∧ H a = some (.lst ds) ∧ ts.length ≤ 3 ∧ DrawnAt H ds ts cs ∧
  ∀ (H' : Hp) (p : Addr) (bs : List JR), Same H H' → H' p = some (.lst (bs.map fun b => V.ref b.1)) → (∀ b ∈ bs, H' b.1 = some (.lst ((jL b).map V.int))) → (∀ b ∈ bs, b.2 = jI (jN b.2)) → (bs.map fun b => jN b.2).Perm (allJ ts cs) → bs.length ≤ 18 → (bs.map fun b => jN b.2).Pairwise (fun x y => x.1 ≤ y.1) → Q (.ref p) H'
theorem has_law_jobs (T : Tx K mg) : Has P w K mg base "_law_jobs" P_law_jobs 1 (sp_law_jobs K) := by
  obtain ⟨fd, F⟩ := T.f_law_jobs
  refine has_mk F T.g_law_jobs (fun _ _ _ _ _ _ us hl => match us, hl with | [_], _ => rfl) (F.ok sc_law_jobs (fun vs H Q E h => ?_) (fun cdv A outer s H vs Q E hr h => ?_))
  · obtain ⟨_, _, _, _, rfl, _⟩ := h; rfl
  · obtain ⟨a, ds, ts, cs, rfl, ha, h3, hd, q⟩ := h
    refine ⟨_, PSs.nox (pss_cons (ps_set (i := 1) sc_law_jobs.nd rfl (.inl rfl) (pe_lst pa_nil))
      (pss_cons (ps_for PassesOwn.never rfl (pi_range1 rfl T.b_range (pa_cons (pe_callB (k_len (K := K)) (by rfl) T.b_len PySem.boot_len (pa_cons (pv 0) pa_nil)) pa_nil)) (pg_name (i := 2) sc_law_jobs.nd rfl (.inl rfl)) (pss_one (ps_for PassesOwn.never rfl (k_list (K := K) (pe_ix (k_ixT (K := K)) (pe_ix (k_ixL (K := K)) (pv 0) (pv 2) (fun _ _ => rfl)) pe_int (fun _ _ => rfl))) (k_tupG (K := K) (n := 2) rfl (pgs_cons (pg_name (i := 3) sc_law_jobs.nd rfl (.inl rfl)) (pgs_cons (pg_name (i := 4) sc_law_jobs.nd rfl (.inl rfl)) pgs_nil))) (pss_one (ps_for PassesOwn.never rfl (k_list (K := K) (pe_ix (k_ixT (K := K)) (pe_ix (k_ixL (K := K)) (pv 0) (pv 2) (fun _ _ => rfl)) pe_int (fun _ _ => rfl))) (pg_name (i := 5) sc_law_jobs.nd rfl (.inl rfl)) (pss_one (ps_if (pt_cmpR op_eq (pe_ix (k_ixT (K := K)) (pv 5) pe_int (fun _ _ => rfl)) (pv 4) (nomark _)) (pss_one (ps_expr (k_bm (K := K) PySem.F.plainAttrs_list PySem.F.slot_list_append PySem.F.type_list_append mt_append (pv 1) (pa_cons (pe_lst (pa_cons (pe_op op_add (pv 3) (pe_ix (k_ixT (K := K)) (pv 5) pe_int (fun _ _ => rfl))) (pa_cons (pv 3) (pa_cons (pe_ix (k_ixT (K := K)) (pv 5) pe_int (fun _ _ => rfl)) pa_nil)))) pa_nil)))) pss_nil)))))))
      (pss_one (ps_ret (pe_callB (k_sortedJ (K := K) hr.units) (by rfl) T.b_sorted (by decide +kernel) (pa_cons (pv 1) pa_nil)))))), ?_⟩
    have hl1 := hd.l1
    walk_at "go"
    refine ⟨by decide, fun D hD => ?_⟩
    have e0 := same_upd (o := .lst []) (Same.refl H) hD
    walk_at "go"
    refine ⟨a, _, rfl, .inl (SqL.of (e0 _ _ ha)), ?_⟩
    refine ⟨_, rfl, by omega, by omega, ?_⟩
    rw [Int.toNat_natCast]
    refine loop_range (fun i σ' H' => ∃ (z1 z2 z3 z4 : Option V) (bs : List JR), σ' = [some (.ref a), some (.ref D), z1, z2, z3, z4] ∧ Same H H' ∧ H' D = some (.lst (bs.map fun b => V.ref b.1)) ∧ JAt H' D bs ∧ bs.map (·.2) = (allJ (ts.take i) (cs.take i)).map jI ∧ bs.length ≤ 6 * i) ⟨_, _, _, _, [], rfl, e0, upd_same, fun b hb => (by cases hb), rfl, Nat.le_refl _⟩ ?_ ?_
    · rintro i σ' H1 hi ⟨z1, z2, z3, z4, bs, rfl, e, hu, hJ, hbs, hbl⟩
      obtain ⟨v, hv⟩ : ∃ v, ds[i]? = some v := ⟨_, List.getElem?_eq_getElem hi⟩
      obtain ⟨p, ka, wa, ca, kvs, cvs, t, c, rfl, hp, ht, hc, ok, hka, hk, hca, hcl, hct, hcn, hc6⟩ := (hd.up e).ex i v hv
      have hkl := hk.1
      have n3 := ok.n3
      have hp0 := SqT.of (K := K) hp
      walk_at "go"
      rw [Int.zero_add]
      refine r_ixL (SqL.of (e _ _ ha)) (atI_nat hv) ?_
      walk_at "go"
      refine ⟨ca, rfl, ⟨cvs, SqL.of hca⟩, loop_list (xs := cvs) (fun j σ' H' => ∃ (z2 z3 z4 : Option V) (bs2 : List JR), σ' = [some (.ref a), some (.ref D), some (.int (i : Int)), z2, z3, z4] ∧ (Same H H' ∧ But D H1 H') ∧ H' D = some (.lst (bs2.map fun b => V.ref b.1)) ∧ JAt H' D bs2 ∧ bs2.map (·.2) = (allJ (ts.take i) (cs.take i) ++ (c.take j).map (jobOf t)).map jI ∧ bs2.length ≤ 6 * i + j) ⟨_, _, _, bs, rfl, ⟨e, But.refl _ _⟩, hu, hJ, by simpa using hbs, hbl⟩ (fun j σ' H' _ ⟨_, _, _, _, _, ⟨_, e⟩, _⟩ => ?_) ?_ ?_⟩
      · refine SqL.of (e _ _ (fun z => ?_) hca)
        subst z
        have h2 := hd.ex i (.ref p) hv
        obtain ⟨p', ka', wa', ca', kvs', cvs', t', c', e1, hp', _, _, _, _, _, hca', _⟩ := h2
        cases e1
        have := (‹Same H H1›) _ _ hp'
        rw [hp] at this
        have ec : ca = ca' := by injection (Option.some.inj this) with z; simp at z; exact z.2.2
        subst ec
        rw [hca'] at hD
        cases hD
      · rintro j x σ' H2 hx ⟨z2, z3, z4, bs2, rfl, ⟨eS, eB⟩, hu2, hJ2, hbs2, hbl2⟩
        have hj := (List.getElem?_eq_some_iff.mp hx).1
        obtain ⟨pr, rfl, hpr⟩ := hct j x hx
        obtain ⟨r, hr⟩ : ∃ r, c[j]? = some r := ⟨_, List.getElem?_eq_getElem (by omega)⟩
        have hrn := hcn r (List.mem_of_getElem? hr)
        have ecF : cF c j = [.int ((r.1 : Nat) : Int), .str (nm r.2)] := by
          unfold cF
          rw [List.getD_eq_getElem?_getD, hr]
          rfl
        rw [ecF] at hpr
        have nD : ∀ {b : Addr} {xs : List V}, H1 b = some (.tup xs) → b ≠ D := fun h => ne_of h hu (by simp)
        have hkaD : ka ≠ D := fun z => by
          subst z
          obtain ⟨p', ka', wa', ca', kvs', cvs', t', c', e1, hp', _, _, _, hka', _⟩ := hd.ex i (.ref p) hv
          cases e1
          have := e _ _ hp'
          rw [hp] at this
          have ec : ka = ka' := by injection (Option.some.inj this) with z; simp at z; exact z.1
          subst ec
          rw [hka'] at hD
          cases hD
        refine r_tup2 rfl (SqT.of (eB _ _ (nD hpr) hpr)) ?_
        have hp2 := SqT.of (K := K) (eB _ _ (nD hp) hp)
        walk_at "go"
        refine r_ixL (SqL.of (eS _ _ ha)) (atI_nat hv) ?_
        walk_at "go"
        refine ⟨ka, rfl, ⟨kvs, SqL.of (eB _ _ hkaD hka)⟩, loop_list (xs := kvs) (fun m σ' H' => ∃ (z4 : Option V) (bs3 : List JR), σ' = [some (.ref a), some (.ref D), some (.int (i : Int)), some (.int ((r.1 : Nat) : Int)), some (.str (nm r.2)), z4] ∧ (Same H H' ∧ But D H1 H') ∧ H' D = some (.lst (bs3.map fun b => V.ref b.1)) ∧ JAt H' D bs3 ∧ bs3.map (·.2) = (allJ (ts.take i) (cs.take i) ++ (c.take j).map (jobOf t) ++ (if r.2 < m then [jobOf t r] else [])).map jI ∧ bs3.length ≤ 6 * i + j + (if r.2 < m then 1 else 0)) ⟨_, bs2, rfl, ⟨eS, eB⟩, hu2, hJ2, by rw [if_neg (Nat.not_lt_zero _), List.append_nil]; exact hbs2, by rw [if_neg (Nat.not_lt_zero _)]; exact hbl2⟩ (fun m σ' H' _ ⟨_, _, _, ⟨_, e⟩, _⟩ => SqL.of (e _ _ hkaD hka)) ?_ ?_⟩
        · rintro m x σ' H3 hx ⟨z4, bs3, rfl, ⟨eS3, eB3⟩, hu3, hJ3, hbs3, hbl3⟩
          have hm := (List.getElem?_eq_some_iff.mp hx).1
          obtain ⟨pk, rfl, hpk⟩ := hk.2 m x hx
          have hpk3 := SqT.of (K := K) (eB3 _ _ (nD hpk) hpk)
          walk_at "go"
          rw [nm_dec]
          refine r_ite (fun cc => ?_) (fun cc => ?_)
          · have cc := of_decide_eq_true cc
            subst cc
            rw [if_neg (Nat.lt_irrefl _)] at hbs3 hbl3
            walk_at "go"
            refine ty_list hu3 ?_
            walk_at "go"
            refine ⟨by show 3 ≤ sizeLine; decide, fun l hl => ?_⟩
            have nl : D ≠ l := ne_of_none hu3 hl
            have hu4 : upd H3 l (.lst [V.int (((r.1 : Nat) : Int) + ((t.dl r.2 : Nat) : Int)), V.int ((r.1 : Nat) : Int), V.int (t.cost r.2)]) D = some (.lst (bs3.map fun b => V.ref b.1)) := by rw [upd_ne nl]; exact hu3
            walk_at "go"
            refine r_append hu4 (Nat.lt_of_lt_of_le (show _ < 1000 by simp; omega) (by decide)) ?_
            refine ⟨_, bs3 ++ [(l, jI (jobOf t r))], rfl, ⟨same_mut (same_upd eS3 hl) hD, ((eB3.trans (But.of (same_upd (Same.refl _) hl))).mut)⟩, ?_, ?_, ?_, ?_⟩
            · rw [upd_same, List.map_append]
              rfl
            · refine JAt.mut (JAt.snoc (hJ3.up (same_upd (Same.refl _) hl)) nl.symm ?_)
              rw [upd_same]
              show some (HO.lst [V.int (((r.1 : Nat) : Int) + ((t.dl r.2 : Nat) : Int)), _, _]) = some (HO.lst [V.int (((r.1 + t.dl r.2 : Nat) : Nat) : Int), _, _])
              rw [Int.natCast_add]
              rfl
            · rw [List.map_append, hbs3, if_pos (Nat.lt_succ_self _), List.append_nil, List.map_append (l₂ := [jobOf t r])]
              rfl
            · rw [if_pos (Nat.lt_succ_self _), List.length_append, List.length_singleton]
              omega
          · have cc := of_decide_eq_false cc
            walk_at "go"
            refine ⟨_, bs3, rfl, ⟨eS3, eB3⟩, hu3, hJ3, ?_, ?_⟩
            · by_cases hrm : r.2 < m
              · rw [if_pos hrm] at hbs3
                rw [if_pos (by omega)]
                exact hbs3
              · rw [if_neg hrm] at hbs3
                rw [if_neg (by omega)]
                exact hbs3
            · by_cases hrm : r.2 < m
              · rw [if_pos hrm] at hbl3
                rw [if_pos (by omega)]
                exact hbl3
              · rw [if_neg hrm] at hbl3
                rw [if_neg (by omega)]
                exact hbl3
        · rintro σ' H3 ⟨z4, bs3, rfl, ⟨eS3, eB3⟩, hu3, hJ3, hbs3, hbl3⟩
          rw [if_pos (by omega)] at hbs3 hbl3
          refine ⟨_, _, _, bs3, rfl, ⟨eS3, eB3⟩, hu3, hJ3, ?_, by omega⟩
          rw [hbs3, List.take_add_one, hr, Option.toList_some]
          simp only [List.map_append, List.append_assoc]
          rfl
      · rintro σ' H2 ⟨z2, z3, z4, bs2, rfl, ⟨eS, eB⟩, hu2, hJ2, hbs2, hbl2⟩
        rw [hcl, List.take_length] at hbs2
        refine ⟨_, _, _, _, bs2, rfl, eS, hu2, hJ2, ?_, by omega⟩
        rw [hbs2, allJ_take ht hc]
        rfl
    · rintro σ' H1 ⟨z1, z2, z3, z4, bs, rfl, e, hu, hJ, hbs, hbl⟩
      rw [hl1, List.take_length] at hbs
      have h2 := hd.l2
      rw [show ts.length = cs.length by omega, List.take_length] at hbs
      walk_at "go"
      refine ⟨D, bs, rfl, SqL.of hu, fun b hb => (hJ b hb).2, fun bs' p hperm hpw hp => ?_⟩
      have ej : ∀ b ∈ bs, b.2 = jI (jN b.2) := fun b hb => by
        have : b.2 ∈ bs.map (·.2) := List.mem_map_of_mem hb
        rw [hbs] at this
        obtain ⟨j, _, ejj⟩ := List.mem_map.mp this
        rw [← ejj, jN_jI]
      have ej' : ∀ b ∈ bs', b.2 = jI (jN b.2) := fun b hb => ej b (hperm.mem_iff.mp hb)
      refine q _ p bs' (same_upd e hp) upd_same (fun b hb => ?_) ej' ?_ (by rw [hperm.length_eq]; omega) ?_
      · have := (hJ b (hperm.mem_iff.mp hb)).2
        rw [upd_ne (ne_of_none this hp)]
        exact this
      · refine (hperm.map _).trans ?_
        have : (bs.map fun b => jN b.2) = allJ ts cs := by
          have h3 := congrArg (List.map jN) hbs
          rw [List.map_map, List.map_map] at h3
          have e1 : jN ∘ jI = id := rfl
          rw [e1, List.map_id] at h3
          exact h3
        rw [this]
      · rw [List.pairwise_map]
        refine List.Pairwise.imp_of_mem (fun {x y} hx hy hxy => ?_) hpw
        show x.2.1.toNat ≤ y.2.1.toNat
        omega
end
end NL
end
-- part A17
section
set_option Elab.async false
set_option linter.all false
set_option maxRecDepth 100000
set_option maxHeartbeats 4000000
namespace NL
open PySem PySem.Spec PyProof.Rows L2
open He (ga ma)
local macro_rules | `(tactic| walk_at "go1") => `(tactic| first
  | ((with_reducible refine' r_var ?hv ?_); (case hv => rfl))
  | with_reducible refine r_c ?_
  | with_reducible refine r_op ?_
  | with_reducible refine r_un ?_
  | with_reducible refine r_I0 ?_
  | with_reducible refine r_U ?_
  | ((with_reducible refine' r_ixT ?h1 ?h2 ?_); (case h1 => assumption); (case h2 => rfl))
  | ((with_reducible refine' r_ixL ?h1 ?h2 ?_); (case h1 => assumption); (case h2 => rfl))
  | with_reducible refine r_nil ?_
  | with_reducible refine r_cons ?_
  | with_reducible refine r_cb ?_
  | with_reducible refine r_call ?_
  | with_reducible refine r_ck ?_
  | with_reducible refine r_nt ?_
  | with_reducible refine r_nf ?_
  | with_reducible refine r_itS ?_
  | with_reducible refine r_chain ?_
  | with_reducible refine r_inS ?_
  | with_reducible refine r_mkK ?_
  | with_reducible refine r_mk ?_
  | with_reducible refine r_seqSfld ?_
  | with_reducible refine r_sfld ?_
  | with_reducible refine r_ifExp ?_
  | with_reducible refine r_prop ?_
  | with_reducible refine r_gSub ?_
  | ((with_reducible refine' r_seqAug2 ?hv ?_); (case hv => rfl))
  | ((with_reducible refine' r_aug2 ?hv ?_); (case hv => rfl))
  | with_reducible refine r_ipI ?_
  | with_reducible refine r_seqAugS ?_
  | with_reducible refine r_augS ?_
  | with_reducible refine r_cont ?_
  | with_reducible refine r_brk ?_
  | with_reducible refine r_tt ?_
  | with_reducible refine r_ff ?_
  | with_reducible refine r_test ?_
  | with_reducible refine r_B ?_
  | with_reducible refine r_not ?_
  | with_reducible refine r_and ?_
  | with_reducible refine r_or ?_
  | with_reducible refine r_tup ?_
  | with_reducible refine r_lst ?_
  | with_reducible refine r_bl ?_
  | with_reducible refine r_max2 ?_
  | with_reducible refine r_min2 ?_
  | with_reducible refine r_abs ?_
  | with_reducible refine r_int1b ?_
  | with_reducible refine r_isN1 ?_
  | with_reducible refine r_isN2 ?_
  | with_reducible refine r_isN3 ?_
  | with_reducible refine r_notN1 ?_
  | with_reducible refine r_notN2 ?_
  | with_reducible refine r_notN3 ?_
  | with_reducible refine r_isN ?_
  | with_reducible refine r_notN ?_
  | with_reducible refine r_notBl ?_
  | ((with_reducible refine r_eq ?h1 ?_); (case h1 => rfl))
  | ((with_reducible refine r_ne ?h1 ?_); (case h1 => rfl))
  | with_reducible refine r_fld ?_
  | with_reducible refine r_sl ?_
  | with_reducible refine r_noPart ?_
  | with_reducible refine r_part ?_
  | with_reducible refine r_xint ?_
  | with_reducible refine r_bm ?_
  | with_reducible refine r_meth ?_
  | with_reducible refine r_callN ?_
  | ((with_reducible refine' r_lenQ ?h1 ?_); (case h1 => first | assumption | exact Or.inl (by assumption) | exact Or.inr (by assumption)))
  | with_reducible refine r_seqN ?_
  | with_reducible refine r_asgN ?_
  | with_reducible refine r_seqIf ?_
  | with_reducible refine r_seqFor ?_
  | with_reducible refine r_for ?_
  | with_reducible refine r_rng1 ?_
  | with_reducible refine r_rng2 ?_
  | with_reducible refine r_rng3 ?_
  | with_reducible refine r_itL ?_
  | with_reducible refine r_itT ?_
  | with_reducible refine r_lc ?_
  | with_reducible refine r_yes ?_
  | with_reducible refine r_itE ?_
  | with_reducible refine r_itEL ?_
  | with_reducible refine r_gN ?_
  | with_reducible refine r_seqA ?_
  | with_reducible refine r_asgA ?_
  | with_reducible refine r_if ?_
  | with_reducible refine r_retD ?_
  | with_reducible refine r_ret ?_
  | with_reducible refine r_seqDrop ?_
  | with_reducible refine r_drop ?_
  | with_reducible refine r_next ?_)
local macro_rules | `(tactic| walk_at "go") => `(tactic| (repeat walk_at "go1"))

theorem srv_len (js : List Job) (slot : Nat) (st : List Int × Int) (k : Nat) : (srv js slot st k).1.length = st.1.length := by
  unfold srv
  split
  · simp
  · rfl
theorem srvTo_len (js : List Job) (slot : Nat) (st : List Int × Int) : ∀ i, (srvTo js slot st i).1.length = st.1.length
  | 0 => rfl
  | i + 1 => by rw [srvTo_succ, srv_len, srvTo_len js slot st i]
theorem bs_at {bs : List JR} {k : Nat} (hk : k < bs.length) (h : ∀ b ∈ bs, b.2 = jI (jN b.2)) : ∃ b, bs[k]? = some b ∧ b ∈ bs ∧ b.2 = jI (jb (bs.map fun b => jN b.2) k) := by
  refine ⟨bs[k], List.getElem?_eq_getElem hk, List.getElem_mem _, ?_⟩
  have : jb (bs.map fun b => jN b.2) k = jN (bs[k]).2 := by
    unfold jb
    rw [List.getD_eq_getElem?_getD, List.getElem?_map, List.getElem?_eq_getElem hk]
    rfl
  rw [this]
  exact h _ (List.getElem_mem _)
section
variable {P : Program} {w : World} {K : PySem.W.Frag} {mg : Str → Option Value} {base : Heap}
abbrev N_law_in_time : List Str := ["_law_jobs_here", "_law_table", "_law_job", "_law_left", "_law_last", "_law_slot", "_law_units", "_law_k", "_law_done"]
abbrev P_law_in_time : List Str := ["_law_jobs_here", "_law_table"]
theorem sc_law_in_time : FnScope N_law_in_time P_law_in_time (defScope s_law_in_time) := ⟨rfl, rfl, rfl, by decide +kernel, rfl, by decide +kernel, by decide +kernel⟩
def sp_law_in_time (K : PySem.W.Frag) : Sp := fun vs H Q _ => ∃ (a ta : Addr) (bs : List JR) (tb : List Int), vs = [.ref a, .ref ta] ∧ H a = some (.lst (bs.map fun b => V.ref b.1)) ∧ (∀ b ∈ bs, H b.1 = some (.lst ((jL b).map V.int))) ∧ (∀ b ∈ bs, b.2 = jI (jN b.2)) ∧ bs.length ≤ 18 ∧ (∀ b ∈ bs, (jN b.2).1 ≤ 200) ∧ H ta = some (.lst (tb.map V.int)) ∧ 1 ≤ tb.length ∧ Jobs (bs.map fun b => jN b.2) tb ∧
  ∀ H', Same H H' → Q (.bl true) H'
theorem has_law_in_time (T : Tx K mg) : Has P w K mg base "_law_in_time" P_law_in_time 1 (sp_law_in_time K) := by
  obtain ⟨fd, F⟩ := T.f_law_in_time
  refine has_mk F T.g_law_in_time (fun _ _ _ _ _ _ us hl => match us, hl with | [_, _], _ => rfl) (F.ok sc_law_in_time (fun vs H Q E h => ?_) (fun cdv A outer s H vs Q E hr h => ?_))
  · obtain ⟨_, _, _, _, rfl, _⟩ := h; rfl
  · obtain ⟨a, ta, bs, tb, rfl, ha, hb, hj, hl18, h200, hta, ht1, J, q⟩ := h
    refine ⟨_, PSs.nox (pss_cons (ps_setLc (i := 3) (own := [("_law_job", 2)]) rfl sc_law_in_time.nd rfl rfl (sw_true rfl rfl rfl (by decide +kernel)) (k_list (K := K) (pv 0)) (blkOk_by (own := [("_law_job", 2)]) (N := N_law_in_time) (sc := defScope s_law_in_time) (by decide +kernel)) (fun _ _ _ _ _ => (pg_name (i := 2) sc_law_in_time.nd rfl (.inl rfl))) (fun _ _ _ _ _ => pts_nil) (fun _ _ _ _ _ => (pe_ix (k_ixL (K := K)) (pv 2) pe_int (fun _ _ => rfl))))
      (pss_cons (ps_set (i := 4) sc_law_in_time.nd rfl (.inl rfl) pe_int)
      (pss_cons (ps_for PassesOwn.never rfl (k_list (K := K) (pv 0)) (pg_name (i := 2) sc_law_in_time.nd rfl (.inl rfl)) (pss_one (ps_set (i := 4) sc_law_in_time.nd rfl (.inl rfl) (pe_callB (call_max2Q rfl) (by rfl) T.b_max (by decide +kernel) (pa_cons (pv 4) (pa_cons (pe_ix (k_ixL (K := K)) (pv 2) pe_int (fun _ _ => rfl)) pa_nil))))))
      (pss_cons (ps_for PassesOwn.never rfl (pi_range1 rfl T.b_range (pa_cons (pv 4) pa_nil)) (pg_name (i := 5) sc_law_in_time.nd rfl (.inl rfl)) (pss_cons (ps_set (i := 6) sc_law_in_time.nd rfl (.inl rfl) (pe_ix (k_ixL (K := K)) (pv 1) (pe_op op_mod (pv 5) (pe_callB (k_len (K := K)) (by rfl) T.b_len PySem.boot_len (pa_cons (pv 1) pa_nil))) (fun _ _ => rfl)))
      (pss_cons (ps_for PassesOwn.never rfl (pi_range1 rfl T.b_range (pa_cons (pe_callB (k_len (K := K)) (by rfl) T.b_len PySem.boot_len (pa_cons (pv 0) pa_nil)) pa_nil)) (pg_name (i := 7) sc_law_in_time.nd rfl (.inl rfl)) (pss_one (ps_if (pt_cmpR op_le (pe_ix (k_ixL (K := K)) (pe_ix (k_ixL (K := K)) (pv 0) (pv 7) (fun _ _ => rfl)) pe_int (fun _ _ => rfl)) (pv 5) (nomark _)) (pss_cons (ps_set (i := 8) sc_law_in_time.nd rfl (.inl rfl) (pe_callB (call_min2Q rfl) (by rfl) T.b_min (by decide +kernel) (pa_cons (pv 6) (pa_cons (pe_ix (k_ixL (K := K)) (pv 3) (pv 7) (fun _ _ => rfl)) pa_nil))))
      (pss_cons (ps_asg (pe_op op_sub (pe_ix (k_ixL (K := K)) (pv 3) (pv 7) (fun _ _ => rfl)) (pv 8)) (pg_sub (pv 3) (pv 7) set_list))
      (pss_one (ps_set (i := 6) sc_law_in_time.nd rfl (.inl rfl) (pe_op op_sub (pv 6) (pv 8)))))) pss_nil)))
      (pss_one (ps_for PassesOwn.never rfl (pi_range1 rfl T.b_range (pa_cons (pe_callB (k_len (K := K)) (by rfl) T.b_len PySem.boot_len (pa_cons (pv 0) pa_nil)) pa_nil)) (pg_name (i := 7) sc_law_in_time.nd rfl (.inl rfl)) (pss_one (ps_if (PW.pt (pw_and (pt_cmpR op_le (pe_ix (k_ixL (K := K)) (pe_ix (k_ixL (K := K)) (pv 0) (pv 7) (fun _ _ => rfl)) pe_int (fun _ _ => rfl)) (pe_op op_add (pv 5) pe_int) (nomark _)) (pw_and1 (pt_cmpR op_gt (pe_ix (k_ixL (K := K)) (pv 3) (pv 7) (fun _ _ => rfl)) pe_int (nomark _))))) (pss_one (ps_ret pe_bl)) pss_nil)))))))
      (pss_one (ps_ret pe_bl)))))), ?_⟩
    have hjl : (bs.map fun b => jN b.2).length = bs.length := List.length_map ..
    generalize hjs : (bs.map fun b => jN b.2) = js at J hjl
    have bat : ∀ {k : Nat} {H' : Hp}, Same H H' → k < bs.length → ∃ q, (bs.map fun b => V.ref b.1)[k]? = some (.ref q) ∧ SqL K H' q [.int ((jb js k).1 : Nat), .int ((jb js k).2.1 : Nat), .int (jb js k).2.2] := fun {k H'} e hk => by
      obtain ⟨b, h1, h2, h3⟩ := bs_at hk hj
      rw [hjs] at h3
      refine ⟨b.1, by rw [List.getElem?_map, h1]; rfl, ?_⟩
      have h4 := e _ _ (hb b h2)
      unfold jL at h4
      rw [h3] at h4
      exact SqL.of h4
    walk_at "go"
    refine ⟨a, rfl, ⟨_, SqL.of ha⟩, fun D hD => lc_L (xs := bs.map fun b => V.ref b.1) (fun i H' => Same H H' ∧ H' D = some (.lst (((js.take i).map (·.2.2)).map V.int))) ⟨same_upd (Same.refl _) hD, upd_same⟩ (fun i H' _ ⟨e, _⟩ => SqL.of (e _ _ ha)) ?_ ?_⟩
    · rintro i x H' hx ⟨e, hu⟩
      have hi : i < bs.length := by
        have := (List.getElem?_eq_some_iff.mp hx).1
        simpa using this
      obtain ⟨p, hp1, hp2⟩ := bat e hi
      rw [hp1] at hx
      have ex := (Option.some.inj hx).symm
      subst ex
      walk_at "go"
      refine ⟨rfl, ?_⟩
      walk_at "go"
      refine ⟨_, hu, Nat.lt_of_lt_of_le (show _ < 100 by simp; omega) (by decide), same_mut e hD, ?_⟩
      have ej : js[i]? = some (jb js i) := by
        unfold jb
        rw [List.getD_eq_getElem?_getD, List.getElem?_eq_getElem (by omega)]
        rfl
      rw [upd_same, List.take_add_one, ej, Option.toList_some, List.map_append, List.map_append]
      rfl
    · rintro H1 ⟨e1, hu⟩
      rw [show (bs.map fun b => V.ref b.1).length = js.length by rw [List.length_map]; omega, List.take_length] at hu
      walk_at "go"
      refine ⟨a, rfl, ⟨_, SqL.of (e1 _ _ ha)⟩, loop_list (xs := bs.map fun b => V.ref b.1) (fun i σ' H' => ∃ (z1 z3 z4 z5 z6 : Option V) (M : Nat), σ' = [some (.ref a), some (.ref ta), z1, some (.ref D), some (.int (M : Int)), z3, z4, z5, z6] ∧ Same H1 H' ∧ M ≤ 200) ⟨_, _, _, _, _, 0, rfl, Same.refl _, by decide⟩ (fun i σ' H' _ ⟨_, _, _, _, _, _, _, e, _⟩ => SqL.of (e _ _ (e1 _ _ ha))) ?_ ?_⟩
      · rintro i x σ' H' hx ⟨z1, z3, z4, z5, z6, M, rfl, e, hM⟩
        have hi : i < bs.length := by
          have := (List.getElem?_eq_some_iff.mp hx).1
          simpa using this
        obtain ⟨p, hp1, hp2⟩ := bat (e1.trans e) hi
        rw [hp1] at hx
        have ex := (Option.some.inj hx).symm
        subst ex
        have h2 : (jb js i).1 ≤ 200 := by
          obtain ⟨b, h1, h2, h3⟩ := bs_at hi hj
          rw [hjs] at h3
          have := h200 b h2
          rw [h3, jN_jI] at this
          exact this
        walk_at "go"
        by_cases cm : (((jb js i).1 : Nat) : Int) > (M : Int)
        · exact ⟨_, _, _, _, _, (jb js i).1, by rw [if_pos cm]; rfl, e, h2⟩
        · exact ⟨_, _, _, _, _, M, by rw [if_neg cm]; rfl, e, hM⟩
      · rintro σ' H2 ⟨z1, z3, z4, z5, z6, M, rfl, e, hM⟩
        have e2 := e1.trans e
        walk_at "go"
        refine ⟨_, rfl, by omega, by omega, ?_⟩
        rw [Int.toNat_natCast]
        refine loop_range (fun i σ' H' => ∃ (z1 z3 z4 z5 z6 : Option V) (l : List Int), σ' = [some (.ref a), some (.ref ta), z1, some (.ref D), some (.int (M : Int)), z3, z4, z5, z6] ∧ Same H H' ∧ H' D = some (.lst (l.map V.int)) ∧ EInv js tb i l) ⟨_, _, _, _, _, _, rfl, e2, e _ _ hu, einv_start J⟩ ?_ ?_
        · rintro i σ' H3 hi ⟨z1, z3, z4, z5, z6, l, rfl, e3, hu3, I⟩
          have hlen := I.len
          walk_at "go"
          rw [Int.zero_add]
          refine ⟨ta, _, rfl, .inl (SqL.of (e3 _ _ hta)), ?_⟩
          rw [List.length_map]
          refine r_I (by omega) ?_
          have em : (i : Int) % (tb.length : Int) = ((i % tb.length : Nat) : Int) := by rw [Int.natCast_emod]
          rw [em]
          refine r_ixL (SqL.of (e3 _ _ hta)) (atI_nat (ints_at (Nat.mod_lt _ (by omega)))) ?_
          walk_at "go"
          refine ⟨a, _, rfl, .inl (SqL.of (e3 _ _ ha)), ?_⟩
          rw [List.length_map]
          refine ⟨_, rfl, by omega, by omega, ?_⟩
          rw [Int.toNat_natCast]
          refine loop_range (fun k σ' H' => ∃ (z1 z5 z6 : Option V), σ' = [some (.ref a), some (.ref ta), z1, some (.ref D), some (.int (M : Int)), some (.int (i : Int)), some (.int (srvTo js i (l, cap tb i) k).2), z5, z6] ∧ Same H H' ∧ H' D = some (.lst ((srvTo js i (l, cap tb i) k).1.map V.int))) ⟨_, _, _, rfl, e3, hu3⟩ ?_ ?_
          · rintro k σ' H4 hk ⟨z1, z5, z6, rfl, e4, hu4⟩
            obtain ⟨p, hp1, hp2⟩ := bat e4 hk
            have hsl := srvTo_len js i (l, cap tb i) k
            have es := srvTo_succ js i (l, cap tb i) k
            generalize srvTo js i (l, cap tb i) k = st at hsl es hu4 ⊢
            have hkl : k < st.1.length := by rw [hsl]; show k < l.length; omega
            walk_at "go"
            rw [Int.zero_add]
            refine r_ixL (SqL.of (e4 _ _ ha)) (atI_nat hp1) ?_
            walk_at "go"
            refine r_ite (fun cc => ?_) (fun cc => ?_)
            · have cc : (jb js k).2.1 ≤ i := by have := of_decide_eq_true cc; omega
              have es' : srv js i st k = (st.1.set k (gl st.1 k - (if gl st.1 k < st.2 then gl st.1 k else st.2)), st.2 - (if gl st.1 k < st.2 then gl st.1 k else st.2)) := by
                unfold srv; rw [if_pos cc]
              walk_at "go"
              refine r_ixL (SqL.of hu4) (atI_nat (ints_at hkl)) ?_
              walk_at "go"
              refine r_ixL (SqL.of hu4) (atI_nat (ints_at hkl)) ?_
              walk_at "go"
              refine r_setL hu4 (by rw [List.length_map]; exact hkl) ?_
              walk_at "go"
              refine ⟨z1, some (.int (k : Int)), some (.int (if gl st.1 k < st.2 then gl st.1 k else st.2)), ?_, same_mut e4 hD, ?_⟩
              · rw [es, es']
                rfl
              · rw [es, es', upd_same, ← List.map_set]
                rfl
            · have cc : ¬ (jb js k).2.1 ≤ i := by have := of_decide_eq_false cc; omega
              have es' : srv js i st k = st := by unfold srv; rw [if_neg cc]
              walk_at "go"
              refine ⟨z1, some (.int (k : Int)), z6, ?_, e4, ?_⟩
              · rw [es, es']
                rfl
              · rw [es, es']
                exact hu4
          · rintro σ' H4 ⟨z1, z5, z6, rfl, e4, hu4⟩
            rw [← hjl] at hu4
            have I2 := einv_step J I
            generalize (srvTo js i (l, cap tb i) js.length).1 = l2 at I2 hu4
            generalize (srvTo js i (l, cap tb i) bs.length).2 = u2
            have hlen2 := I2.len
            walk_at "go"
            refine ⟨a, _, rfl, .inl (SqL.of (e4 _ _ ha)), ?_⟩
            rw [List.length_map]
            refine ⟨_, rfl, by omega, by omega, ?_⟩
            rw [Int.toNat_natCast]
            refine loop_range (fun k σ' H' => ∃ (z1 z5 z6 : Option V), σ' = [some (.ref a), some (.ref ta), z1, some (.ref D), some (.int (M : Int)), some (.int (i : Int)), some (.int u2), z5, z6] ∧ Same H H' ∧ H' D = some (.lst (l2.map V.int))) ⟨_, _, _, rfl, e4, hu4⟩ ?_ ?_
            · rintro k σ' H5 hk ⟨z1, z5, z6, rfl, e5, hu5⟩
              obtain ⟨p, hp1, hp2⟩ := bat e5 hk
              walk_at "go"
              rw [Int.zero_add]
              refine r_ixL (SqL.of (e5 _ _ ha)) (atI_nat hp1) ?_
              walk_at "go"
              refine r_ite (fun cc => ?_) (fun cc => ?_)
              · have cc : (jb js k).1 ≤ i + 1 := by have := of_decide_eq_true cc; omega
                have hno := einv_end J I2 (k := k) (by omega) cc
                walk_at "go"
                refine r_ixL (SqL.of hu5) (atI_nat (ints_at (by omega))) ?_
                walk_at "go"
                refine r_ite (fun c2 => absurd (of_decide_eq_true c2) hno) (fun _ => ?_)
                walk_at "go"
                exact ⟨_, some (.int (k : Int)), _, rfl, e5, hu5⟩
              · walk_at "go"
                exact ⟨_, some (.int (k : Int)), _, rfl, e5, hu5⟩
            · rintro σ' H5 ⟨z1, z5, z6, rfl, e5, hu5⟩
              exact ⟨_, _, _, _, _, l2, rfl, e5, hu5, I2⟩
        · rintro σ' H3 ⟨z1, z3, z4, z5, z6, l, rfl, e3, hu3, I⟩
          walk_at "go"
          exact q _ e3
end
end NL
end
-- part A18
section
set_option Elab.async false
set_option linter.all false
set_option maxRecDepth 100000
set_option maxHeartbeats 4000000
namespace NL
open PySem PySem.Spec PyProof.Rows L2
open He (ga ma)
local macro_rules | `(tactic| walk_at "go1") => `(tactic| first
  | ((with_reducible refine' r_var ?hv ?_); (case hv => rfl))
  | with_reducible refine r_c ?_
  | with_reducible refine r_op ?_
  | with_reducible refine r_un ?_
  | with_reducible refine r_I0 ?_
  | with_reducible refine r_U ?_
  | ((with_reducible refine' r_ixT ?h1 ?h2 ?_); (case h1 => assumption); (case h2 => rfl))
  | ((with_reducible refine' r_ixL ?h1 ?h2 ?_); (case h1 => assumption); (case h2 => rfl))
  | with_reducible refine r_nil ?_
  | with_reducible refine r_cons ?_
  | with_reducible refine r_cb ?_
  | with_reducible refine r_call ?_
  | with_reducible refine r_ck ?_
  | with_reducible refine r_andV ?_
  | with_reducible refine r_callNS ?_
  | with_reducible refine r_seqTry ?_
  | with_reducible refine r_hz ?_
  | with_reducible refine r_raiseU ?_
  | with_reducible refine r_nt ?_
  | with_reducible refine r_nf ?_
  | with_reducible refine r_itS ?_
  | with_reducible refine r_chain ?_
  | with_reducible refine r_inS ?_
  | with_reducible refine r_mkK ?_
  | with_reducible refine r_mk ?_
  | with_reducible refine r_seqSfld ?_
  | with_reducible refine r_sfld ?_
  | with_reducible refine r_ifExp ?_
  | with_reducible refine r_prop ?_
  | with_reducible refine r_gSub ?_
  | ((with_reducible refine' r_seqAug2 ?hv ?_); (case hv => rfl))
  | ((with_reducible refine' r_aug2 ?hv ?_); (case hv => rfl))
  | with_reducible refine r_ipI ?_
  | with_reducible refine r_seqAugS ?_
  | with_reducible refine r_augS ?_
  | with_reducible refine r_cont ?_
  | with_reducible refine r_brk ?_
  | with_reducible refine r_tt ?_
  | with_reducible refine r_ff ?_
  | with_reducible refine r_test ?_
  | with_reducible refine r_B ?_
  | with_reducible refine r_not ?_
  | with_reducible refine r_and ?_
  | with_reducible refine r_or ?_
  | with_reducible refine r_tup ?_
  | with_reducible refine r_lst ?_
  | with_reducible refine r_bl ?_
  | with_reducible refine r_max2 ?_
  | with_reducible refine r_min2 ?_
  | with_reducible refine r_abs ?_
  | with_reducible refine r_int1b ?_
  | with_reducible refine r_isN1 ?_
  | with_reducible refine r_isN2 ?_
  | with_reducible refine r_isN3 ?_
  | with_reducible refine r_notN1 ?_
  | with_reducible refine r_notN2 ?_
  | with_reducible refine r_notN3 ?_
  | with_reducible refine r_isN ?_
  | with_reducible refine r_notN ?_
  | with_reducible refine r_notBl ?_
  | ((with_reducible refine r_eq ?h1 ?_); (case h1 => rfl))
  | ((with_reducible refine r_ne ?h1 ?_); (case h1 => rfl))
  | with_reducible refine r_fld ?_
  | with_reducible refine r_sl ?_
  | with_reducible refine r_noPart ?_
  | with_reducible refine r_part ?_
  | with_reducible refine r_xint ?_
  | with_reducible refine r_bm ?_
  | with_reducible refine r_meth ?_
  | with_reducible refine r_callN ?_
  | ((with_reducible refine' r_lenQ ?h1 ?_); (case h1 => first | assumption | exact Or.inl (by assumption) | exact Or.inr (by assumption)))
  | with_reducible refine r_seqN ?_
  | with_reducible refine r_asgN ?_
  | with_reducible refine r_seqIf ?_
  | with_reducible refine r_seqFor ?_
  | with_reducible refine r_for ?_
  | with_reducible refine r_rng1 ?_
  | with_reducible refine r_rng2 ?_
  | with_reducible refine r_rng3 ?_
  | with_reducible refine r_itL ?_
  | with_reducible refine r_itT ?_
  | with_reducible refine r_lc ?_
  | with_reducible refine r_yes ?_
  | with_reducible refine r_itE ?_
  | with_reducible refine r_itEL ?_
  | with_reducible refine r_gN ?_
  | with_reducible refine r_seqA ?_
  | with_reducible refine r_asgA ?_
  | with_reducible refine r_if ?_
  | with_reducible refine r_retD ?_
  | with_reducible refine r_ret ?_
  | with_reducible refine r_seqDrop ?_
  | with_reducible refine r_drop ?_
  | with_reducible refine r_next ?_)
local macro_rules | `(tactic| walk_at "go") => `(tactic| (repeat walk_at "go1"))

section
variable {P : Program} {w : World} {K : PySem.W.Frag} {mg : Str → Option Value} {base : Heap}
abbrev N_first_miss : List Str := ["system", "horizon", "found", "end", "start", "releases", "task"]
abbrev P_first_miss : List Str := ["system", "horizon"]
theorem sc_first_miss : FnScope N_first_miss P_first_miss (defScope s_first_miss) := ⟨rfl, rfl, rfl, by decide +kernel, rfl, by decide +kernel, by decide +kernel⟩
def sp_first_miss (K : PySem.W.Frag) : Sp := fun vs H Q E => ∃ (a : Addr) (ts : List Tk) (tb : List Int) (h : Nat), vs = [.ref a, .int (h : Int)] ∧ SysAt K H a ts tb ∧ h < 900 ∧ (∀ H', Same H H' → Never ts tb → Q .non H') ∧ (∀ H' (p : Addr), Same H H' → ¬ Never ts tb → Q (.ref p) H') ∧
  ∀ H' (d : Addr), Same H H' → H' d = none → E (.ref (aU K)) (some d) (upd H' d (.xd [(("horizon" : Str), .int (h : Int))]))
theorem has_first_miss (T : Tx K mg) (U : UTx P K mg) : HasKX P w K mg base "first_miss" P_first_miss 1 ["horizon"] 13 (sp_first_miss K) := by
  have h_Miss := has_Miss (P := P) (w := w) (base := base) T
  have h_first_overfull := has_first_overfull (P := P) (w := w) (base := base) T
  have h_heaviest := has_heaviest (P := P) (w := w) (base := base) T
  have h_is_decided := has_is_decided (P := P) (w := w) (base := base) T
  have h_shift := has_shift (P := P) (w := w) (base := base) T
  obtain ⟨fd, F⟩ := T.f_first_miss
  refine ⟨_, fd, T.g_first_miss, F.ok sc_first_miss (fun vs H Q E h => ?_) (fun cdv A outer s H vs Q E hr h => ?_), F.kp, kbn_of F 1 ["horizon"] (fun _ _ _ _ _ _ us ws h1 h2 => match us, ws, h1, h2 with | [_], [_], _, _ => rfl)⟩
  · obtain ⟨_, _, _, _, rfl, _⟩ := h; rfl
  · obtain ⟨a, ts, tb, h, rfl, hs, hh, q0, q1, qE⟩ := h
    refine ⟨_, (pss_cons (ps_set (i := 2) sc_first_miss.nd rfl (.inl rfl) (pe_hk h_first_overfull (hr.mono (by decide)) (by rfl) (pa_cons (pv 0) pa_nil) (pk_cons (pv 1) pk_nil)))
      (pss_cons (ps_if (pt_cmpR op_notNQ (pv 2) pe_non (nomark _)) (pss_cons (ps_asg (pv 2) (k_tupG (K := K) (n := 2) rfl (pgs_cons (pg_name (i := 3) sc_first_miss.nd rfl (.inr rfl)) (pgs_cons (pg_name (i := 4) sc_first_miss.nd rfl (.inr rfl)) pgs_nil))))
      (pss_cons (ps_setLc (i := 5) (own := [("task", 6)]) rfl sc_first_miss.nd rfl rfl (sw_true rfl rfl rfl (by decide +kernel)) (k_tup (K := K) (k_fld (K := K) (pv 0) rfl)) (blkOk_by (own := [("task", 6)]) (N := N_first_miss) (sc := defScope s_first_miss) (by decide +kernel)) (fun _ _ _ _ _ => (pg_name (i := 6) sc_first_miss.nd rfl (.inl rfl))) (fun _ _ _ _ _ => pts_nil) (fun _ _ _ _ _ => (pe_hc h_shift (hr.mono (by decide)) (by rfl) (pa_cons (pe_hc h_heaviest (hr.mono (by decide)) (by rfl) (pa_cons (pv 6) (pa_cons (pe_op op_sub (pv 3) (pv 4)) pa_nil))) (pa_cons (pv 4) pa_nil)))))
      (pss_one (ps_ret (pe_mk h_Miss (hr.mono (by decide)) (by rfl) (pa_cons (pv 3) (pa_cons (pv 4) (pa_cons (pv 5) pa_nil)))))))) pss_nil)
      (pss_cons (ps_if (pt_val (pe_hk h_is_decided (hr.mono (by decide)) (by rfl) (pa_cons (pv 0) pa_nil) (pk_cons (pv 1) pk_nil))) (pss_one (ps_ret pe_non)) pss_nil)
      (pss_one (ps_raiseU rfl U hr (takes_of rfl rfl rfl rfl) (pa_cons (pv 1) pa_nil)))))), ?_⟩
    obtain ⟨n3, l1, l8, nn, dx, tl, tt, tvs, h1, h2, h3, h4, h5⟩ := id hs
    walk_at "go"
    refine ⟨rfl, rfl, a, ts, tb, h, rfl, hs, hh, fun H1 e1 no => ?_, fun H1 p e s' e1 hp he hse hnN => ?_⟩
    · walk_at "go"
      refine ⟨rfl, rfl, a, ts, tb, h, rfl, hs.up e1, hh, fun H2 b e2 hb => ?_⟩
      refine ⟨b, rfl, r_ite (fun c => ?_) (fun c => ?_)⟩
      · walk_at "go"
        exact q0 _ (e1.trans e2) (hb c no)
      · walk_at "go"
        exact ⟨_, rfl, fun d hd => qE _ d (e1.trans e2) hd⟩
    · walk_at "go"
      refine r_tup2 rfl (SqT.of hp) ?_
      walk_at "go"
      refine x_tasks T (e1 _ _ h1) ?_
      have ed : (e : Int) - (s' : Int) = ((e - s' : Nat) : Int) := by omega
      refine ⟨tl, rfl, ⟨tvs, SqT.of (e1 _ _ h2)⟩, fun D hD => lc_T (xs := tvs) (fun i H' => Same H1 H' ∧ ∃ us, H' D = some (.lst us) ∧ us.length = i ∧ (∀ (j : Nat) v, us[j]? = some v → ∃ q xs, v = .ref q ∧ q ≠ D ∧ H' q = some (.lst xs))) ⟨same_upd (Same.refl _) hD, [], upd_same, rfl, fun j v z => by simp at z⟩ (fun i H' _ ⟨e, _⟩ => SqT.of (e _ _ (e1 _ _ h2))) ?_ ?_⟩
      · rintro i v H' hx ⟨e', us, hu, hul, hua⟩
        have hi := (List.getElem?_eq_some_iff.mp hx).1
        obtain ⟨p2, t, rfl, et, hp2⟩ := h5 i v hx
        walk_at "go"
        refine ⟨rfl, ?_⟩
        walk_at "go"
        rw [ed]
        refine ⟨p2, t, e - s', rfl, (hp2.up e1).up e', by omega, fun H2 r rs e2 hr0 hr2 hrl hrp => ?_⟩
        walk_at "go"
        refine ⟨r, rs, _, rfl, hr2, by omega, hrp, fun H3 r2 rs2 e3 hr3 hr4 _ => ?_⟩
        have hu3 := e3 _ _ (e2 _ _ hu)
        have nD : r2 ≠ D := (ne_of_none (e2 _ _ hu) hr3).symm
        refine ⟨us, hu3, Nat.lt_of_lt_of_le (show _ < 100 by omega) (by decide), same_mut ((e'.trans e2).trans e3) hD, us ++ [.ref r2], upd_same, by rw [List.length_append, hul]; rfl, fun j v hj => ?_⟩
        by_cases hji : j < us.length
        · rw [List.getElem?_append_left hji] at hj
          obtain ⟨q', xs, a1, a2, a3⟩ := hua j v hj
          exact ⟨q', xs, a1, a2, by rw [upd_ne a2]; exact e3 _ _ (e2 _ _ a3)⟩
        · have hl' : j = us.length := by
            have := (List.getElem?_eq_some_iff.mp hj).1
            rw [List.length_append, List.length_singleton] at this
            omega
          subst hl'
          rw [List.getElem?_append_right (Nat.le_refl _), Nat.sub_self] at hj
          exact ⟨r2, rs2, (Option.some.inj hj).symm, nD, by rw [upd_ne nD]; exact hr4⟩
      · rintro H2 ⟨e2, us, hu, hul, hua⟩
        walk_at "go"
        intro x dx' hx hdx hne
        have e3 : Same H2 (upd (upd H2 dx' (.own x)) x (.ins (ga K "Miss") dx' [])) := (same_upd (Same.refl _) hdx).trans (same_upd (Same.refl _) (by rw [upd_ne hne.symm]; exact hx))
        have hxx : (upd (upd H2 dx' (.own x)) x (.ins (ga K "Miss") dx' [])) x = some (.ins (ga K "Miss") dx' []) := upd_same
        generalize upd (upd H2 dx' (.own x)) x (.ins (ga K "Miss") dx' []) = H3 at e3 hxx ⊢
        refine ⟨x, dx', _, _, D, us, rfl, hxx, e3 _ _ hu, by omega, fun j v hj => ?_, fun H4 b4 => ⟨rfl, ?_⟩⟩
        · obtain ⟨q', xs, a1, a2, a3⟩ := hua j v hj
          exact ⟨q', xs, a1, e3 _ _ a3⟩
        · refine q1 _ x ((e1.trans e2).trans fun b o hb => b4 b o (ne_of_none hb hx) (e3 _ _ hb)) hnN
end
end NL
end
-- part A19
section
set_option Elab.async false
set_option linter.all false
set_option maxRecDepth 100000
set_option maxHeartbeats 4000000
namespace NL
open PySem PySem.Spec PyProof.Rows L2
open He (ga ma)
local macro_rules | `(tactic| walk_at "go1") => `(tactic| first
  | ((with_reducible refine' r_var ?hv ?_); (case hv => rfl))
  | with_reducible refine r_c ?_
  | with_reducible refine r_op ?_
  | with_reducible refine r_un ?_
  | with_reducible refine r_I0 ?_
  | with_reducible refine r_U ?_
  | ((with_reducible refine' r_ixT ?h1 ?h2 ?_); (case h1 => assumption); (case h2 => rfl))
  | ((with_reducible refine' r_ixL ?h1 ?h2 ?_); (case h1 => assumption); (case h2 => rfl))
  | with_reducible refine r_nil ?_
  | with_reducible refine r_cons ?_
  | with_reducible refine r_cb ?_
  | with_reducible refine r_call ?_
  | with_reducible refine r_ck ?_
  | with_reducible refine r_andV ?_
  | with_reducible refine r_callNS ?_
  | with_reducible refine r_seqTry ?_
  | with_reducible refine r_hz ?_
  | with_reducible refine r_raiseU ?_
  | with_reducible refine r_nt ?_
  | with_reducible refine r_nf ?_
  | with_reducible refine r_itS ?_
  | with_reducible refine r_chain ?_
  | with_reducible refine r_inS ?_
  | with_reducible refine r_mkK ?_
  | with_reducible refine r_mk ?_
  | with_reducible refine r_seqSfld ?_
  | with_reducible refine r_sfld ?_
  | with_reducible refine r_ifExp ?_
  | with_reducible refine r_prop ?_
  | with_reducible refine r_gSub ?_
  | ((with_reducible refine' r_seqAug2 ?hv ?_); (case hv => rfl))
  | ((with_reducible refine' r_aug2 ?hv ?_); (case hv => rfl))
  | with_reducible refine r_ipI ?_
  | with_reducible refine r_seqAugS ?_
  | with_reducible refine r_augS ?_
  | with_reducible refine r_cont ?_
  | with_reducible refine r_brk ?_
  | with_reducible refine r_tt ?_
  | with_reducible refine r_ff ?_
  | with_reducible refine r_test ?_
  | with_reducible refine r_B ?_
  | with_reducible refine r_not ?_
  | with_reducible refine r_and ?_
  | with_reducible refine r_or ?_
  | with_reducible refine r_tup ?_
  | with_reducible refine r_lst ?_
  | with_reducible refine r_bl ?_
  | with_reducible refine r_max2 ?_
  | with_reducible refine r_min2 ?_
  | with_reducible refine r_abs ?_
  | with_reducible refine r_int1b ?_
  | with_reducible refine r_isN1 ?_
  | with_reducible refine r_isN2 ?_
  | with_reducible refine r_isN3 ?_
  | with_reducible refine r_notN1 ?_
  | with_reducible refine r_notN2 ?_
  | with_reducible refine r_notN3 ?_
  | with_reducible refine r_isN ?_
  | with_reducible refine r_notN ?_
  | with_reducible refine r_notBl ?_
  | ((with_reducible refine r_eq ?h1 ?_); (case h1 => rfl))
  | ((with_reducible refine r_ne ?h1 ?_); (case h1 => rfl))
  | with_reducible refine r_fld ?_
  | with_reducible refine r_sl ?_
  | with_reducible refine r_noPart ?_
  | with_reducible refine r_part ?_
  | with_reducible refine r_xint ?_
  | with_reducible refine r_bm ?_
  | with_reducible refine r_meth ?_
  | with_reducible refine r_callN ?_
  | ((with_reducible refine' r_lenQ ?h1 ?_); (case h1 => first | assumption | exact Or.inl (by assumption) | exact Or.inr (by assumption)))
  | with_reducible refine r_seqN ?_
  | with_reducible refine r_asgN ?_
  | with_reducible refine r_seqIf ?_
  | with_reducible refine r_seqFor ?_
  | with_reducible refine r_for ?_
  | with_reducible refine r_rng1 ?_
  | with_reducible refine r_rng2 ?_
  | with_reducible refine r_rng3 ?_
  | with_reducible refine r_itL ?_
  | with_reducible refine r_itT ?_
  | with_reducible refine r_lc ?_
  | with_reducible refine r_yes ?_
  | with_reducible refine r_itE ?_
  | with_reducible refine r_itEL ?_
  | with_reducible refine r_gN ?_
  | with_reducible refine r_seqA ?_
  | with_reducible refine r_asgA ?_
  | with_reducible refine r_if ?_
  | with_reducible refine r_retD ?_
  | with_reducible refine r_ret ?_
  | with_reducible refine r_seqDrop ?_
  | with_reducible refine r_drop ?_
  | with_reducible refine r_next ?_)
local macro_rules | `(tactic| walk_at "go") => `(tactic| (repeat walk_at "go1"))

section
variable {P : Program} {w : World} {K : PySem.W.Frag} {mg : Str → Option Value} {base : Heap}
abbrev N_law_told : List Str := ["_law_tasks", "_law_table", "_law_found", "e"]
abbrev P_law_told : List Str := ["_law_tasks", "_law_table"]
theorem sc_law_told : FnScope N_law_told P_law_told (defScope s_law_told) := ⟨rfl, rfl, rfl, by decide +kernel, rfl, by decide +kernel, by decide +kernel⟩
def sp_law_told (K : PySem.W.Frag) : Sp := fun vs H Q _ => ∃ (ta ba : Addr) (tvs : List V) (zs : List Str) (ts : List Tk) (tb : List Int), vs = [.ref ta, .ref ba] ∧ (H ta = some (.lst tvs) ∧ TasksN K H tvs zs ts ∧ zs.Nodup ∧ ts.length ≤ 3) ∧ (H ba = some (.lst (tb.map V.int)) ∧ 1 ≤ tb.length ∧ tb.length ≤ 8 ∧ ∀ x ∈ tb, 0 ≤ x ∧ x ≤ 1000) ∧
  (∀ H', Same H H' → Q (.str "undecided") H') ∧ (∀ H', Same H H' → Never ts tb → Q (.str "never") H') ∧ (∀ H', Same H H' → ¬ Never ts tb → Q (.str "late") H')
abbrev tb_told (K : PySem.W.Frag) : WX → TS := fun W => tAsg (tCallNS 1 1 (sp_first_miss K) (fun vs zs => vs ++ zs) (WE W) (tCons (tMakeK (ga K "System") 1 1 (sp_S_init K) (fun vs zs => vs ++ zs) E0 (tCons (tCB (rListQ K) (tCons (tVar 0) tNil)) tNil) (tCons (tCB (rListQ K) (tCons (tVar 1) tNil)) tNil)) tNil) (tCons (tC (.int 40)) tNil)) (gName 2)
abbrev ts_told (K : PySem.W.Frag) : Addr → Value → Option Addr → TS := fun a cls d => tRet (tOp (rIxL K) (tLst (tCons (tC (.str "undecided")) (tCons (tC (.str "odd")) tNil))) (tCB rInt1 (tCons (tOp rNe (tHz (aU K) a cls d (tVar 3)) (tC (.int 40))) tNil)))
theorem has_law_told (T : Tx K mg) (U : UTx P K mg) : Has P w K mg base "_law_told" P_law_told 14 (sp_law_told K) := by
  have h_first_miss := has_first_miss (P := P) (w := w) (base := base) T U
  have h_System := has_System (P := P) (w := w) (base := base) T
  obtain ⟨fd, F⟩ := T.f_law_told
  refine has_mk F T.g_law_told (fun _ _ _ _ _ _ us hl => match us, hl with | [_, _], _ => rfl) (F.ok sc_law_told (fun vs H Q E h => ?_) (fun cdv A outer s H vs Q E hr h => ?_))
  · obtain ⟨_, _, _, _, _, _, rfl, _⟩ := h; rfl
  · obtain ⟨ta, ba, tvs, zs, ts, tb, rfl, ⟨hta, hT, hnd, h3⟩, ⟨hba, l1, l8, nn⟩, qU, qN, qL⟩ := h
    refine ⟨_, pss_cons (ps_tryas (K := K) (i := 3) (tb := tb_told K) (ts := ts_told K) (Wout := fun _ _ _ _ => False) rfl rfl sc_law_told.nd rfl rfl ⟨rfl, by decide, Or.inl U.gC⟩ takes0
        (fun W pn xe tk _ => pss_one (ps_set (i := 2) sc_law_told.nd rfl (.inl rfl) (pe_hkS h_first_miss tk hr (by rfl)
          (pa_cons (pe_mkK h_System (hr.mono (by decide)) (by rfl) (pa_cons (pe_callTy (k_listQ (K := K)) (by rfl) T.b_list (by decide +kernel) (pa_cons (pv 0) pa_nil)) pa_nil) (pk_cons (pe_callTy (k_listQ (K := K)) (by rfl) T.b_list (by decide +kernel) (pa_cons (pv 1) pa_nil)) pk_nil)) pa_nil) (pk_cons pe_int pk_nil))))
        (fun a oe cls d pn hz hf => pss_one (ps_ret (pe_ix (k_ixL (K := K)) (pe_lst (pa_cons pe_str (pa_cons pe_str pa_nil))) (pe_callTy call_int1Q (by rfl) T.b_int (by decide +kernel) (pa_cons (pe_cmpR op_ne (pe_hz U hz hf (pv 3)) pe_int (nomark _)) pa_nil)) (fun _ _ => rfl)))))
      (pss_cons (ps_if (pt_cmpR op_isNQ (pv 2) pe_non (nomark _)) (pss_one (ps_ret pe_str)) pss_nil) (pss_one (ps_ret pe_str))), ?_⟩
    walk_at "go"
    refine r_listQ (Sq.lst hta) fun l1' hl1 => ?_
    have e1 := same_upd (o := .lst tvs) (Same.refl H) hl1
    have hl1v : upd H l1' (.lst tvs) l1' = some (.lst tvs) := upd_same
    generalize upd H l1' (.lst tvs) = H1 at e1 hl1v ⊢
    walk_at "go"
    refine r_listQ (Sq.lst (e1 _ _ hba)) fun l2' hl2 => ?_
    have e2 := same_upd (o := .lst (tb.map V.int)) (Same.refl H1) hl2
    have hl2v : upd H1 l2' (.lst (tb.map V.int)) l2' = some (.lst (tb.map V.int)) := upd_same
    generalize upd H1 l2' (.lst (tb.map V.int)) = H2 at e2 hl2v ⊢
    walk_at "go"
    refine ⟨rfl, rfl, fun x dx hx hdx hne => ?_⟩
    have e3 : Same H2 (upd (upd H2 dx (.own x)) x (.ins (ga K "System") dx [])) := (same_upd (Same.refl _) hdx).trans (same_upd (Same.refl _) (by rw [upd_ne hne.symm]; exact hx))
    have hxx : (upd (upd H2 dx (.own x)) x (.ins (ga K "System") dx [])) x = some (.ins (ga K "System") dx []) := upd_same
    generalize upd (upd H2 dx (.own x)) x (.ins (ga K "System") dx []) = H3 at e3 hxx ⊢
    have e03 := (e1.trans e2).trans e3
    refine ⟨x, dx, l1', l2', tvs, zs, ts, tb, rfl, hxx, ⟨e3 _ _ (e2 _ _ hl1v), hT.up e03, hnd, h3⟩, ⟨e3 _ _ hl2v, l1, l8, nn⟩, fun H4 b4 hS => ⟨rfl, ?_⟩⟩
    have e04 : Same H H4 := fun b o hb => b4 b o (ne_of_none ((e1.trans e2) _ _ hb) hx) (e03 _ _ hb)
    walk_at "go"
    refine ⟨rfl, rfl, x, ts, tb, 40, rfl, hS, by decide, fun H5 e5 hN => ?_, fun H5 p e5 hN => ?_, fun H5 d e5 hd => ?_⟩
    · walk_at "go"
      exact qN _ (e04.trans e5) hN
    · walk_at "go"
      exact qL _ (e04.trans e5) hN
    · refine ⟨true, U.te, fun _ a ha => ?_, fun z => by cases z⟩
      walk_at "go"
      refine ⟨by show 2 ≤ sizeLine; decide, fun l hl => ?_⟩
      walk_at "go"
      have hdl : d ≠ l := ne_of_none (o := .xd [(("horizon" : Str), V.int ((40 : Nat) : Int))]) upd_same hl
      refine ⟨rfl, rfl, d, _, rfl, by rw [upd_ne hdl]; exact upd_same, ?_⟩
      walk_at "go"
      refine r_ixL (v := V.str "undecided") (SqL.of upd_same) (by rfl) ?_
      exact qU _ ((e04.trans e5).trans ((same_upd (Same.refl _) hd).trans (same_upd (Same.refl _) hl)))
end
end NL
end
-- part A20
section
set_option Elab.async false
set_option linter.all false
set_option maxRecDepth 100000
set_option maxHeartbeats 4000000
namespace NL
open PySem PySem.Spec PyProof.Rows L2
open He (ga ma)
local macro_rules | `(tactic| walk_at "go1") => `(tactic| first
  | ((with_reducible refine' r_var ?hv ?_); (case hv => rfl))
  | with_reducible refine r_c ?_
  | with_reducible refine r_op ?_
  | with_reducible refine r_un ?_
  | with_reducible refine r_I0 ?_
  | with_reducible refine r_U ?_
  | ((with_reducible refine' r_ixT ?h1 ?h2 ?_); (case h1 => assumption); (case h2 => rfl))
  | ((with_reducible refine' r_ixL ?h1 ?h2 ?_); (case h1 => assumption); (case h2 => rfl))
  | with_reducible refine r_nil ?_
  | with_reducible refine r_cons ?_
  | with_reducible refine r_cb ?_
  | with_reducible refine r_call ?_
  | with_reducible refine r_ck ?_
  | with_reducible refine r_andV ?_
  | with_reducible refine r_callNS ?_
  | with_reducible refine r_seqTry ?_
  | with_reducible refine r_hz ?_
  | with_reducible refine r_raiseU ?_
  | with_reducible refine r_nt ?_
  | with_reducible refine r_nf ?_
  | with_reducible refine r_itS ?_
  | with_reducible refine r_chain ?_
  | with_reducible refine r_inS ?_
  | with_reducible refine r_mkK ?_
  | with_reducible refine r_mk ?_
  | with_reducible refine r_seqSfld ?_
  | with_reducible refine r_sfld ?_
  | with_reducible refine r_ifExp ?_
  | with_reducible refine r_prop ?_
  | with_reducible refine r_gSub ?_
  | ((with_reducible refine' r_seqAug2 ?hv ?_); (case hv => rfl))
  | ((with_reducible refine' r_aug2 ?hv ?_); (case hv => rfl))
  | with_reducible refine r_ipI ?_
  | with_reducible refine r_seqAugS ?_
  | with_reducible refine r_augS ?_
  | with_reducible refine r_cont ?_
  | with_reducible refine r_brk ?_
  | with_reducible refine r_tt ?_
  | with_reducible refine r_ff ?_
  | with_reducible refine r_test ?_
  | with_reducible refine r_B ?_
  | with_reducible refine r_not ?_
  | with_reducible refine r_and ?_
  | with_reducible refine r_or ?_
  | with_reducible refine r_tup ?_
  | with_reducible refine r_lst ?_
  | with_reducible refine r_bl ?_
  | with_reducible refine r_max2 ?_
  | with_reducible refine r_min2 ?_
  | with_reducible refine r_abs ?_
  | with_reducible refine r_int1b ?_
  | with_reducible refine r_isN1 ?_
  | with_reducible refine r_isN2 ?_
  | with_reducible refine r_isN3 ?_
  | with_reducible refine r_notN1 ?_
  | with_reducible refine r_notN2 ?_
  | with_reducible refine r_notN3 ?_
  | with_reducible refine r_isN ?_
  | with_reducible refine r_notN ?_
  | with_reducible refine r_notBl ?_
  | ((with_reducible refine r_eq ?h1 ?_); (case h1 => rfl))
  | ((with_reducible refine r_ne ?h1 ?_); (case h1 => rfl))
  | with_reducible refine r_fld ?_
  | with_reducible refine r_sl ?_
  | with_reducible refine r_noPart ?_
  | with_reducible refine r_part ?_
  | with_reducible refine r_xint ?_
  | with_reducible refine r_bm ?_
  | with_reducible refine r_meth ?_
  | with_reducible refine r_callN ?_
  | ((with_reducible refine' r_lenQ ?h1 ?_); (case h1 => first | assumption | exact Or.inl (by assumption) | exact Or.inr (by assumption)))
  | with_reducible refine r_seqN ?_
  | with_reducible refine r_asgN ?_
  | with_reducible refine r_seqIf ?_
  | with_reducible refine r_seqFor ?_
  | with_reducible refine r_for ?_
  | with_reducible refine r_rng1 ?_
  | with_reducible refine r_rng2 ?_
  | with_reducible refine r_rng3 ?_
  | with_reducible refine r_itL ?_
  | with_reducible refine r_itT ?_
  | with_reducible refine r_lc ?_
  | with_reducible refine r_yes ?_
  | with_reducible refine r_itE ?_
  | with_reducible refine r_itEL ?_
  | with_reducible refine r_gN ?_
  | with_reducible refine r_seqA ?_
  | with_reducible refine r_asgA ?_
  | with_reducible refine r_if ?_
  | with_reducible refine r_retD ?_
  | with_reducible refine r_ret ?_
  | with_reducible refine r_seqDrop ?_
  | with_reducible refine r_drop ?_
  | with_reducible refine r_next ?_)
local macro_rules | `(tactic| walk_at "go") => `(tactic| (repeat walk_at "go1"))

/-! ### the plain law -/
theorem sumTo_take {α : Type} (f : α → Int) (d : α) (l : List α) : ∀ i, i ≤ l.length → sumTo (fun k => f (l.getD k d)) i = ((l.take i).map f).sum
  | 0, _ => by simp [sumTo]
  | i + 1, h => by
    rw [sumTo, sumTo_take f d l i (by omega), List.take_add_one, List.getElem?_eq_getElem (by omega), List.getD_eq_getElem?_getD, List.getElem?_eq_getElem (by omega)]
    simp only [List.map_append, List.sum_append, Option.toList_some, List.map_cons, List.map_nil, List.sum_cons, List.sum_nil, Option.getD_some]
    omega
theorem perm_sum {α : Type} (f : α → Int) {l m : List α} (h : l.Perm m) : (l.map f).sum = (m.map f).sum := by
  induction h with
  | nil => rfl
  | cons x _ ih => rw [List.map_cons, List.map_cons, List.sum_cons, List.sum_cons, ih]
  | swap x y l =>
    simp only [List.map_cons, List.sum_cons]
    omega
  | trans _ _ a b => exact a.trans b
theorem allJ_work (s e : Nat) : ∀ (ts : List Tk) (cs : List (List (Nat × Nat))), cs.length = ts.length → (∀ t ∈ ts, t.Ok) → (∀ (i : Nat) t c, ts[i]? = some t → cs[i]? = some c → Legal t c) →
    ((allJ ts cs).map fun j => if s ≤ j.2.1 ∧ j.1 ≤ e then j.2.2 else 0).sum ≤ sysDem ts (e - s)
  | [], _, _, _, _ => by simp [allJ, sysDem]
  | t :: ts, [], hl, _, _ => by simp at hl
  | t :: ts, c :: cs, hl, hok, hleg => by
    have ih := allJ_work s e ts cs (by simpa using hl) (fun x hx => hok x (List.mem_cons_of_mem _ hx)) (fun i x y a b => hleg (i + 1) x y (by simpa using a) (by simpa using b))
    have w1 := work_dem t (hok t List.mem_cons_self) (s := s) (e := e) c (hleg 0 t c rfl rfl)
    rw [allJ, List.map_append, List.sum_append]
    have e1 : ((jobsOf t c).map fun j => if s ≤ j.2.1 ∧ j.1 ≤ e then j.2.2 else 0).sum = work t c s e := by
      unfold jobsOf work
      rw [List.map_map]
      rfl
    have e2 : sysDem (t :: ts) (e - s) = dem t (e - s) + sysDem ts (e - s) := by
      unfold sysDem
      rw [List.map_cons, List.sum_cons]
    rw [e1, e2]
    omega
theorem allJ_mem : ∀ (ts : List Tk) (cs : List (List (Nat × Nat))), (∀ t ∈ ts, t.Ok) → (∀ (i : Nat) t c, ts[i]? = some t → cs[i]? = some c → (∀ r ∈ c, r.2 < t.n ∧ r.1 ≤ 100)) → ∀ j ∈ allJ ts cs, j.2.1 < j.1 ∧ 0 ≤ j.2.2 ∧ j.1 ≤ 200
  | [], _, _, _, j, hj => by simp [allJ] at hj
  | t :: ts, [], _, _, j, hj => by simp [allJ] at hj
  | t :: ts, c :: cs, hok, h, j, hj => by
    rw [allJ] at hj
    rcases List.mem_append.mp hj with hj | hj
    · unfold jobsOf at hj
      obtain ⟨r, hr, rfl⟩ := List.mem_map.mp hj
      have ok := hok t List.mem_cons_self
      have h1 := h 0 t c rfl rfl r hr
      have h2 := ok.dl h1.1
      have h3 := ok.cost h1.1
      refine ⟨?_, ?_, ?_⟩
      · show r.1 < r.1 + t.dl r.2
        omega
      · show 0 ≤ t.cost r.2
        omega
      · show r.1 + t.dl r.2 ≤ 200
        omega
    · exact allJ_mem ts cs (fun x hx => hok x (List.mem_cons_of_mem _ hx)) (fun i x y a b => h (i + 1) x y (by simpa using a) (by simpa using b)) j hj
theorem legal_all {t : Tk} : ∀ {c : List (Nat × Nat)}, Legal t c → ∀ r ∈ c, r.2 < t.n
  | [], _, r, hr => by cases hr
  | a :: c, h, r, hr => by
    rcases List.mem_cons.mp hr with e | e
    · subst e; exact legal_hd h
    · exact legal_all (legal_tl h) r e
theorem jobs_ok {ts : List Tk} {cs : List (List (Nat × Nat))} {S : List Int} {js : List Job} (hl : cs.length = ts.length) (hok : ∀ t ∈ ts, t.Ok) (hleg : ∀ (i : Nat) t c, ts[i]? = some t → cs[i]? = some c → Legal t c ∧ ∀ r ∈ c, r.1 ≤ 100)
    (hN : Never ts S) (hS : ∀ x ∈ S, 0 ≤ x) (hp : js.Perm (allJ ts cs)) (hs : js.Pairwise (fun x y => x.1 ≤ y.1)) : Jobs js S := by
  have hmem := allJ_mem ts cs hok fun i t c a b r hr => ⟨legal_all (hleg i t c a b).1 r hr, (hleg i t c a b).2 r hr⟩
  have jat : ∀ {k}, k < js.length → jb js k ∈ js := fun {k} hk => by
    unfold jb
    rw [List.getD_eq_getElem?_getD, List.getElem?_eq_getElem hk]
    exact List.getElem_mem _
  refine ⟨fun i k hik hk => ?_, fun k hk => ?_, fun s n => ?_, hS⟩
  · unfold jb
    rw [List.getD_eq_getElem?_getD, List.getD_eq_getElem?_getD, List.getElem?_eq_getElem hk, List.getElem?_eq_getElem (by omega)]
    by_cases e : i = k
    · subst e; exact Nat.le_refl _
    · exact List.pairwise_iff_getElem.mp hs i k (by omega) hk (by omega)
  · have := hmem _ (hp.mem_iff.mp (jat hk))
    exact ⟨this.1, this.2.1⟩
  · have e1 : jwork js s (s + n) = (js.map fun j => if s ≤ j.2.1 ∧ j.1 ≤ s + n then j.2.2 else 0).sum := by
      unfold jwork jb
      have := sumTo_take (fun j : Job => if s ≤ j.2.1 ∧ j.1 ≤ s + n then j.2.2 else 0) (0, 0, 0) js js.length (Nat.le_refl _)
      rw [List.take_length] at this
      exact this
    rw [e1, perm_sum _ hp]
    have a := allJ_work s (s + n) ts cs hl hok fun i t c a b => (hleg i t c a b).1
    have b := hN s n
    rw [show s + n - s = n by omega] at a
    exact Int.le_trans a b
/-! ### the second table -/
theorem rep_len {α : Type} (m : Nat) (R : List α) : (List.replicate m R).flatten.length = m * R.length := by simp
theorem rep_at (R : List Int) : ∀ (m i : Nat), i < m * R.length → (List.replicate m R).flatten.getD i 0 = R.getD (i % R.length) 0
  | 0, i, h => by omega
  | m + 1, i, h => by
    rw [List.replicate_succ, List.flatten_cons]
    by_cases hi : i < R.length
    · rw [Nat.mod_eq_of_lt hi, List.getD_eq_getElem?_getD, List.getElem?_append_left hi, ← List.getD_eq_getElem?_getD]
    · rw [Nat.add_mul, Nat.one_mul] at h
      have ih := rep_at R m (i - R.length) (by omega)
      rw [List.getD_eq_getElem?_getD, List.getElem?_append_right (by omega), ← List.getD_eq_getElem?_getD, ih]
      congr 1
      have : i = (i - R.length) + R.length := by omega
      conv => rhs; rw [this, Nat.add_mod_right]
def rotF (T : List Int) (b : Nat) : List Int := T.drop b ++ T.take b
theorem rot_len (T : List Int) (b : Nat) (hb : b ≤ T.length) : (rotF T b).length = T.length := by
  unfold rotF
  rw [List.length_append, List.length_drop, List.length_take]
  omega
def secF (T : List Int) (b m : Nat) (x : Nat → Int) : List Int := (List.range (m * T.length)).map fun k => ((List.replicate m (rotF T b)).flatten).getD k 0 + x k
theorem sec_dom {T : List Int} {b m : Nat} {x : Nat → Int} (hb : b < T.length) (hm : 0 < m) (hx : ∀ k, 0 ≤ x k) (t : Nat) : cap T (t + b) ≤ cap (secF T b m x) t := by
  have hl : (secF T b m x).length = m * T.length := by simp [secF]
  refine cap_rot hb hm hl (fun i hi => ⟨x i, hx i, ?_⟩) t
  rw [hl] at hi
  have e := rep_at (rotF T b) m i (by rw [rot_len T b (by omega)]; exact hi)
  rw [rot_len T b (by omega)] at e
  unfold secF
  rw [List.getD_eq_getElem?_getD, List.getElem?_map, List.getElem?_range hi]
  show ((List.replicate m (rotF T b)).flatten).getD i 0 + x i = _
  rw [e]
  rfl
theorem rot_mem {T : List Int} {b : Nat} {x : Int} (h : x ∈ rotF T b) : x ∈ T := by
  unfold rotF at h
  rcases List.mem_append.mp h with h | h
  · exact List.mem_of_mem_drop h
  · exact List.mem_of_mem_take h
theorem sec_bd {T : List Int} {b m : Nat} {x : Nat → Int} (hb : b < T.length) (hT : ∀ y ∈ T, 0 ≤ y ∧ y ≤ 720) (hx : ∀ k, 0 ≤ x k ∧ x k ≤ 1) : ∀ y ∈ secF T b m x, 0 ≤ y ∧ y ≤ 1000 := fun y hy => by
  unfold secF at hy
  obtain ⟨k, hk, rfl⟩ := List.mem_map.mp hy
  have hk := List.mem_range.mp hk
  have e := rep_at (rotF T b) m k (by rw [rot_len T b (by omega)]; exact hk)
  rw [rot_len T b (by omega)] at e
  rw [e]
  have hm : k % T.length < T.length := Nat.mod_lt _ (by omega)
  have : (rotF T b).getD (k % T.length) 0 ∈ T := by
    refine rot_mem (b := b) ?_
    rw [List.getD_eq_getElem?_getD, List.getElem?_eq_getElem (by rw [rot_len T b (by omega)]; exact hm)]
    exact List.getElem_mem _
  have h1 := hT _ this
  have h2 := hx k
  omega
/-! ### what is drawn from the numbers -/
def facF (N : List Int) : Int := if nu N 19 % 3 = 0 then 1 else if nu N 19 % 3 = 1 then 17 else 240
theorem fac_bd (N : List Int) : 1 ≤ facF N ∧ facF N ≤ 240 := by
  unfold facF
  split
  · omega
  · split <;> omega
def tkF (N : List Int) (k : Nat) : Tk where
  kinds := (List.range (knF N (20 + 36 * k))).map fun i => (kcF N (20 + 36 * k) i * facF N, kdF N (20 + 36 * k) i)
  ways := (List.range (wnF N (27 + 36 * k))).map fun i => (wsF N (knF N (20 + 36 * k)) (27 + 36 * k) i, wtF N (knF N (20 + 36 * k)) (27 + 36 * k) i, wdF N (27 + 36 * k) i)
theorem tk_n (N : List Int) (k : Nat) : (tkF N k).n = knF N (20 + 36 * k) := by simp [Tk.n, tkF]
theorem tk_m (N : List Int) (k : Nat) : (tkF N k).m = wnF N (27 + 36 * k) := by simp [Tk.m, tkF]
theorem tk_cost (N : List Int) (k : Nat) {i : Nat} (h : i < knF N (20 + 36 * k)) : (tkF N k).cost i = kcF N (20 + 36 * k) i * facF N := by
  unfold Tk.cost tkF
  rw [List.getD_eq_getElem?_getD, List.getElem?_map, List.getElem?_range h]
  rfl
theorem tk_dl (N : List Int) (k : Nat) {i : Nat} (h : i < knF N (20 + 36 * k)) : (tkF N k).dl i = kdF N (20 + 36 * k) i := by
  unfold Tk.dl tkF
  rw [List.getD_eq_getElem?_getD, List.getElem?_map, List.getElem?_range h]
  rfl
theorem tk_way (N : List Int) (k : Nat) {i : Nat} (h : i < wnF N (27 + 36 * k)) : (tkF N k).ways.getD i (0, 0, 0) = (wsF N (knF N (20 + 36 * k)) (27 + 36 * k) i, wtF N (knF N (20 + 36 * k)) (27 + 36 * k) i, wdF N (27 + 36 * k) i) := by
  unfold tkF
  rw [List.getD_eq_getElem?_getD, List.getElem?_map, List.getElem?_range h]
  rfl
theorem kn_bd (N : List Int) (a : Nat) : 1 ≤ knF N a ∧ knF N a ≤ 3 := by
  unfold knF
  have := mod_bd (nu N a) (m := 3) (by decide)
  omega
theorem tk_ok (N : List Int) (k : Nat) : (tkF N k).Ok := by
  have kn := kn_bd N (20 + 36 * k)
  have fb := fac_bd N
  refine ⟨by rw [tk_n]; exact kn.1, by rw [tk_n]; exact kn.2, ?_, fun x hx => ?_, fun x hx => ?_, fun w hw => ?_⟩
  · have := tk_m N k
    unfold Tk.m at this
    rw [this]
    unfold wnF
    have := mod_bd (nu N (27 + 36 * k)) (m := 5) (by decide)
    omega
  · obtain ⟨i, _, rfl⟩ := List.mem_map.mp hx
    show 1 ≤ kcF N (20 + 36 * k) i * facF N ∧ kcF N (20 + 36 * k) i * facF N ≤ 960
    have c : 1 ≤ kcF N (20 + 36 * k) i ∧ kcF N (20 + 36 * k) i ≤ 4 := by
      unfold kcF
      have := mod_bd (nu N (20 + 36 * k + 1 + 2 * i)) (m := 4) (by decide)
      omega
    have h1 := Int.mul_le_mul c.2 fb.2 (by omega) (by decide)
    have h2 := Int.mul_le_mul c.1 fb.1 (by decide) (by omega)
    omega
  · obtain ⟨i, _, rfl⟩ := List.mem_map.mp hx
    show 1 ≤ kdF N (20 + 36 * k) i ∧ kdF N (20 + 36 * k) i ≤ 9
    have := kd_nat N (20 + 36 * k) i
    have := mod_bd (nu N (20 + 36 * k + 2 + 2 * i)) (m := 9) (by decide)
    omega
  · rw [tk_n]
    obtain ⟨i, _, rfl⟩ := List.mem_map.mp hw
    have a := (mod_nat (nu N (27 + 36 * k + 1 + 3 * i)) (n := knF N (20 + 36 * k)) (by omega)).2
    have b := (mod_nat (nu N (27 + 36 * k + 2 + 3 * i)) (n := knF N (20 + 36 * k)) (by omega)).2
    have d := wd_nat N (27 + 36 * k) i
    have e := mod_bd (nu N (27 + 36 * k + 3 + 3 * i)) (m := 6) (by decide)
    exact ⟨a, b, by show 1 ≤ wdF N (27 + 36 * k) i; omega, by show wdF N (27 + 36 * k) i ≤ 6; omega⟩
theorem tk_kF (N : List Int) (k : Nat) {i : Nat} (h : i < knF N (20 + 36 * k)) : kF (tkF N k) i = [.str (nm i), .int (kcF N (20 + 36 * k) i * facF N), .int ((kdF N (20 + 36 * k) i : Nat) : Int)] := by
  unfold kF
  rw [tk_cost N k h, tk_dl N k h]
theorem tk_wF (N : List Int) (k : Nat) {i : Nat} (h : i < wnF N (27 + 36 * k)) : wF (tkF N k) i = [.str (nm (wsF N (knF N (20 + 36 * k)) (27 + 36 * k) i)), .str (nm (wtF N (knF N (20 + 36 * k)) (27 + 36 * k) i)), .int ((wdF N (27 + 36 * k) i : Nat) : Int)] := by
  unfold wF Tk.src Tk.tgt Tk.dst
  rw [tk_way N k h]
/-- names -/
def preF (q : Nat) : Str := if q = 0 then "" else if q = 1 then "t" else "task"
def nmT (q k : Nat) : Str := preF q ++ ⟨#[120 + k]⟩
theorem nmT_ok {q k : Nat} (hq : q < 3) (hk : k < 3) : NmOk (nmT q k) := by
  have e1 : q = 0 ∨ q = 1 ∨ q = 2 := by omega
  have e2 : k = 0 ∨ k = 1 ∨ k = 2 := by omega
  rcases e1 with e | e | e <;> rcases e2 with f | f | f <;> (subst e; subst f; exact ⟨by decide +kernel, by decide +kernel, by decide +kernel⟩)
theorem nmT_nodup {q m : Nat} (hq : q < 3) (hm : m ≤ 3) : ((List.range m).map (nmT q)).Nodup := by
  have e1 : q = 0 ∨ q = 1 ∨ q = 2 := by omega
  have e2 : m = 0 ∨ m = 1 ∨ m = 2 ∨ m = 3 := by omega
  rcases e1 with e | e | e <;> rcases e2 with f | f | f | f <;> (subst e; subst f; decide +kernel)
theorem xyz_at {i : Nat} (h : i < 3) : atI (("xyz" : Str)).cps.toList (i : Int) = some (120 + i) := by
  have : i = 0 ∨ i = 1 ∨ i = 2 := by omega
  rcases this with e | e | e <;> (subst e; decide +kernel)
theorem pre_at {q : Nat} (h : q < 3) : atI [V.str "", V.str "t", V.str "task"] (q : Int) = some (V.str (preF q)) := by
  have : q = 0 ∨ q = 1 ∨ q = 2 := by omega
  rcases this with e | e | e <;> (subst e; rfl)
theorem fac_at (N : List Int) : atI [V.int 1, V.int 17, V.int 240] (nu N 19 % 3) = some (V.int (facF N)) := by
  have b := mod_bd (nu N 19) (m := 3) (by decide)
  have : nu N 19 % 3 = 0 ∨ nu N 19 % 3 = 1 ∨ nu N 19 % 3 = 2 := by omega
  unfold facF
  rcases this with e | e | e <;> (rw [e]; rfl)
end NL
end
-- part A21
section
set_option Elab.async false
set_option linter.all false
set_option maxRecDepth 100000
set_option maxHeartbeats 4000000
namespace NL
open PySem PySem.Spec PyProof.Rows L2
open He (ga ma)
local macro_rules | `(tactic| walk_at "go1") => `(tactic| first
  | ((with_reducible refine' r_var ?hv ?_); (case hv => rfl))
  | with_reducible refine r_c ?_
  | with_reducible refine r_op ?_
  | with_reducible refine r_un ?_
  | with_reducible refine r_I0 ?_
  | with_reducible refine r_U ?_
  | ((with_reducible refine' r_ixT ?h1 ?h2 ?_); (case h1 => assumption); (case h2 => rfl))
  | ((with_reducible refine' r_ixL ?h1 ?h2 ?_); (case h1 => assumption); (case h2 => rfl))
  | with_reducible refine r_nil ?_
  | with_reducible refine r_cons ?_
  | with_reducible refine r_cb ?_
  | with_reducible refine r_call ?_
  | with_reducible refine r_ck ?_
  | with_reducible refine r_andV ?_
  | with_reducible refine r_callNS ?_
  | with_reducible refine r_seqTry ?_
  | with_reducible refine r_hz ?_
  | with_reducible refine r_raiseU ?_
  | with_reducible refine r_nt ?_
  | with_reducible refine r_nf ?_
  | with_reducible refine r_itS ?_
  | with_reducible refine r_chain ?_
  | with_reducible refine r_inS ?_
  | with_reducible refine r_mkK ?_
  | with_reducible refine r_mk ?_
  | with_reducible refine r_seqSfld ?_
  | with_reducible refine r_sfld ?_
  | with_reducible refine r_ifExp ?_
  | with_reducible refine r_prop ?_
  | with_reducible refine r_gSub ?_
  | ((with_reducible refine' r_seqAug2 ?hv ?_); (case hv => rfl))
  | ((with_reducible refine' r_aug2 ?hv ?_); (case hv => rfl))
  | with_reducible refine r_ipI ?_
  | with_reducible refine r_seqAugS ?_
  | with_reducible refine r_augS ?_
  | with_reducible refine r_cont ?_
  | with_reducible refine r_brk ?_
  | with_reducible refine r_tt ?_
  | with_reducible refine r_ff ?_
  | with_reducible refine r_test ?_
  | with_reducible refine r_B ?_
  | with_reducible refine r_not ?_
  | with_reducible refine r_and ?_
  | with_reducible refine r_or ?_
  | with_reducible refine r_tup ?_
  | with_reducible refine r_lst ?_
  | with_reducible refine r_bl ?_
  | with_reducible refine r_max2 ?_
  | with_reducible refine r_min2 ?_
  | with_reducible refine r_abs ?_
  | with_reducible refine r_int1b ?_
  | with_reducible refine r_isN1 ?_
  | with_reducible refine r_isN2 ?_
  | with_reducible refine r_isN3 ?_
  | with_reducible refine r_notN1 ?_
  | with_reducible refine r_notN2 ?_
  | with_reducible refine r_notN3 ?_
  | with_reducible refine r_isN ?_
  | with_reducible refine r_notN ?_
  | with_reducible refine r_notBl ?_
  | ((with_reducible refine r_eq ?h1 ?_); (case h1 => rfl))
  | ((with_reducible refine r_ne ?h1 ?_); (case h1 => rfl))
  | with_reducible refine r_fld ?_
  | with_reducible refine r_sl ?_
  | with_reducible refine r_noPart ?_
  | with_reducible refine r_part ?_
  | with_reducible refine r_xint ?_
  | with_reducible refine r_bm ?_
  | with_reducible refine r_meth ?_
  | with_reducible refine r_callN ?_
  | ((with_reducible refine' r_lenQ ?h1 ?_); (case h1 => first | assumption | exact Or.inl (by assumption) | exact Or.inr (by assumption)))
  | with_reducible refine r_seqN ?_
  | with_reducible refine r_asgN ?_
  | with_reducible refine r_seqIf ?_
  | with_reducible refine r_seqFor ?_
  | with_reducible refine r_for ?_
  | with_reducible refine r_rng1 ?_
  | with_reducible refine r_rng2 ?_
  | with_reducible refine r_rng3 ?_
  | with_reducible refine r_itL ?_
  | with_reducible refine r_itT ?_
  | with_reducible refine r_lc ?_
  | with_reducible refine r_yes ?_
  | with_reducible refine r_itE ?_
  | with_reducible refine r_itEL ?_
  | with_reducible refine r_gN ?_
  | with_reducible refine r_seqA ?_
  | with_reducible refine r_asgA ?_
  | with_reducible refine r_if ?_
  | with_reducible refine r_retD ?_
  | with_reducible refine r_ret ?_
  | with_reducible refine r_seqDrop ?_
  | with_reducible refine r_drop ?_
  | with_reducible refine r_next ?_)
local macro_rules | `(tactic| walk_at "go") => `(tactic| (repeat walk_at "go1"))

/-! ### the law's own heaps -/
theorem TaskN.mut {K : PySem.W.Frag} {H : Hp} {a D : Addr} {z : Str} {t : Tk} {o : HO} {xs : List V} (h : TaskN K H a z t) (hD : H D = some (.lst xs)) : TaskN K (upd H D o) a z t :=
  ⟨h.1.but hD ((But.refl D H).mut), let ⟨dx, kt, wt, q⟩ := h.2; ⟨dx, kt, wt, by rw [upd_ne (ne_of q hD (by simp))]; exact q⟩⟩
theorem TasksN.mut {K : PySem.W.Frag} {H : Hp} {D : Addr} {vs : List V} {zs : List Str} {ts : List Tk} {o : HO} {xs : List V} (h : TasksN K H vs zs ts) (hD : H D = some (.lst xs)) : TasksN K (upd H D o) vs zs ts :=
  ⟨h.1, h.2.1, fun i v q => let ⟨p, z, t, a, b, c, d⟩ := h.2.2 i v q; ⟨p, z, t, a, b, c, d.mut hD⟩⟩
theorem snoc_get {α : Type} {l : List α} {x y : α} {i : Nat} (h : (l ++ [x])[i]? = some y) : (i < l.length ∧ l[i]? = some y) ∨ (i = l.length ∧ y = x) := by
  by_cases hi : i < l.length
  · rw [List.getElem?_append_left hi] at h
    exact .inl ⟨hi, h⟩
  · have hl : i = l.length := by
      have := (List.getElem?_eq_some_iff.mp h).1
      rw [List.length_append, List.length_singleton] at this
      omega
    subst hl
    rw [List.getElem?_append_right (Nat.le_refl _), Nat.sub_self] at h
    exact .inr ⟨rfl, (Option.some.inj h).symm⟩
theorem get_snoc {α : Type} (l : List α) (x : α) : (l ++ [x])[l.length]? = some x := by
  rw [List.getElem?_append_right (Nat.le_refl _), Nat.sub_self]
  rfl
theorem get_snoc' {α : Type} {l : List α} {x y : α} {i : Nat} (h : l[i]? = some y) : (l ++ [x])[i]? = some y := by
  rw [List.getElem?_append_left (List.getElem?_eq_some_iff.mp h).1]
  exact h
theorem TasksN.snoc {K : PySem.W.Frag} {H : Hp} {p : Addr} {z : Str} {t : Tk} {vs : List V} {zs : List Str} {ts : List Tk} (h : TasksN K H vs zs ts) (hp : TaskN K H p z t) : TasksN K H (vs ++ [.ref p]) (zs ++ [z]) (ts ++ [t]) :=
  ⟨by rw [List.length_append, List.length_append, h.1]; rfl, by rw [List.length_append, List.length_append, h.2.1]; rfl, fun i v q => by
    rcases snoc_get q with ⟨_, q⟩ | ⟨e, rfl⟩
    · obtain ⟨p, z, t, a, b, c, d⟩ := h.2.2 i v q
      exact ⟨p, z, t, a, get_snoc' b, get_snoc' c, d⟩
    · refine ⟨p, z, t, rfl, ?_, ?_, hp⟩
      · rw [e, h.1, ← h.2.1]; exact get_snoc _ _
      · rw [e, h.1]; exact get_snoc _ _⟩
structure DrawnN (H : Hp) (D1 D2 : Addr) (ds : List V) (ts : List Tk) (cs : List (List (Nat × Nat))) : Prop where
  l1 : ds.length = ts.length
  l2 : cs.length = ts.length
  ex : ∀ (i : Nat) v, ds[i]? = some v → ∃ (p ka wa ca : Addr) (kvs cvs : List V) (t : Tk) (c : List (Nat × Nat)), (ka ≠ D1 ∧ ka ≠ D2 ∧ ca ≠ D1 ∧ ca ≠ D2) ∧ v = .ref p ∧ H p = some (.tup [.ref ka, .ref wa, .ref ca]) ∧ ts[i]? = some t ∧ cs[i]? = some c ∧ t.Ok ∧ H ka = some (.lst kvs) ∧ KindsT H kvs t ∧ H ca = some (.lst cvs) ∧ cvs.length = c.length ∧ Tups H cvs (cF c) ∧ (∀ r ∈ c, r.2 < t.n) ∧ c.length ≤ 6
theorem DrawnN.at {H : Hp} {D1 D2 : Addr} {ds : List V} {ts : List Tk} {cs : List (List (Nat × Nat))} (h : DrawnN H D1 D2 ds ts cs) : DrawnAt H ds ts cs := ⟨h.l1, h.l2, fun i v q => let ⟨p, ka, wa, ca, kvs, cvs, t, c, _, r⟩ := h.ex i v q; ⟨p, ka, wa, ca, kvs, cvs, t, c, r⟩⟩
theorem DrawnN.up {H H' : Hp} {D1 D2 : Addr} {ds : List V} {ts : List Tk} {cs : List (List (Nat × Nat))} (h : DrawnN H D1 D2 ds ts cs) (e : Same H H') : DrawnN H' D1 D2 ds ts cs := ⟨h.l1, h.l2, fun i v q => by
  obtain ⟨p, ka, wa, ca, kvs, cvs, t, c, a0, a1, a2, a3, a4, a5, a6, a7, a8, a9, a10, a11⟩ := h.ex i v q
  exact ⟨p, ka, wa, ca, kvs, cvs, t, c, a0, a1, e _ _ a2, a3, a4, a5, e _ _ a6, a7.up e, e _ _ a8, a9, a10.up e, a11⟩⟩
theorem KindsT.mut {H : Hp} {vs xs : List V} {t : Tk} {D : Addr} {o : HO} (h : KindsT H vs t) (hD : H D = some (.lst xs)) : KindsT (upd H D o) vs t := ⟨h.1, h.tups.mut hD⟩
theorem DrawnN.mut {H : Hp} {D1 D2 D : Addr} {o : HO} {xs : List V} {ds : List V} {ts : List Tk} {cs : List (List (Nat × Nat))} (h : DrawnN H D1 D2 ds ts cs) (hD : H D = some (.lst xs)) (hd : D = D1 ∨ D = D2) : DrawnN (upd H D o) D1 D2 ds ts cs := ⟨h.l1, h.l2, fun i v q => by
  obtain ⟨p, ka, wa, ca, kvs, cvs, t, c, a0, a1, a2, a3, a4, a5, a6, a7, a8, a9, a10, a11⟩ := h.ex i v q
  have n1 : ka ≠ D := by rcases hd with e | e <;> subst e; exact a0.1; exact a0.2.1
  have n2 : ca ≠ D := by rcases hd with e | e <;> subst e; exact a0.2.2.1; exact a0.2.2.2
  exact ⟨p, ka, wa, ca, kvs, cvs, t, c, a0, a1, by rw [upd_ne (ne_of a2 hD (by simp))]; exact a2, a3, a4, a5, by rw [upd_ne n1]; exact a6, a7.mut hD, by rw [upd_ne n2]; exact a8, a9, a10.mut hD, a11⟩⟩
theorem DrawnN.snoc {H : Hp} {D1 D2 p ka wa ca : Addr} {kvs cvs : List V} {t : Tk} {c : List (Nat × Nat)} {ds : List V} {ts : List Tk} {cs : List (List (Nat × Nat))} (h : DrawnN H D1 D2 ds ts cs)
    (n : ka ≠ D1 ∧ ka ≠ D2 ∧ ca ≠ D1 ∧ ca ≠ D2) (hp : H p = some (.tup [.ref ka, .ref wa, .ref ca])) (ok : t.Ok) (hk : H ka = some (.lst kvs)) (hkt : KindsT H kvs t) (hc : H ca = some (.lst cvs)) (hl : cvs.length = c.length) (ht : Tups H cvs (cF c)) (hn : ∀ r ∈ c, r.2 < t.n) (h6 : c.length ≤ 6) :
    DrawnN H D1 D2 (ds ++ [.ref p]) (ts ++ [t]) (cs ++ [c]) :=
  ⟨by rw [List.length_append, List.length_append, h.l1]; rfl, by rw [List.length_append, List.length_append, h.l2]; rfl, fun i v q => by
    rcases snoc_get q with ⟨_, q⟩ | ⟨e, rfl⟩
    · obtain ⟨p, ka, wa, ca, kvs, cvs, t, c, a0, a1, a2, a3, a4, a5⟩ := h.ex i v q
      exact ⟨p, ka, wa, ca, kvs, cvs, t, c, a0, a1, a2, get_snoc' a3, get_snoc' a4, a5⟩
    · refine ⟨p, ka, wa, ca, kvs, cvs, t, c, n, rfl, hp, ?_, ?_, ok, hk, hkt, hc, hl, ht, hn, h6⟩
      · rw [e, h.l1]; exact get_snoc _ _
      · rw [e, h.l1, ← h.l2]; exact get_snoc _ _⟩
/-! ### what is told -/
def ToldOk (ts : List Tk) (tb : List Int) (x : Str) : Prop := x = "undecided" ∨ (x = "never" ∧ Never ts tb) ∨ (x = "late" ∧ ¬ Never ts tb)
theorem told_odd {ts : List Tk} {tb : List Int} {x : Str} (h : ToldOk ts tb x) : decide (V.str x = V.str "odd") = false := by
  refine decide_eq_false fun z => ?_
  have z := V.str.inj z
  subst z
  rcases h with h | ⟨h, _⟩ | ⟨h, _⟩ <;> (revert h; decide +kernel)
theorem str_dec (x y : Str) : decide (V.str x = V.str y) = decide (x = y) := by
  by_cases e : x = y
  · subst e; rw [decide_eq_true rfl, decide_eq_true rfl]
  · rw [decide_eq_false e, decide_eq_false fun z => e (V.str.inj z)]
theorem cut_lo {α : Type} (f : α → V) (xs : List α) (j : Nat) : cutV (xs.map f) (some (j : Int)) none = (xs.drop j).map f := by
  unfold cutV
  rw [HT.sIx_none, HT.sIx_nat, List.length_map, ← List.map_drop, ← List.map_take]
  congr 1
  by_cases h : j ≤ xs.length
  · rw [Nat.min_eq_left h, List.take_of_length_le (by rw [List.length_drop]; omega)]
  · rw [Nat.min_eq_right (by omega), List.drop_of_length_le (Nat.le_refl _), List.drop_of_length_le (by omega)]
    simp
theorem rep_map {α : Type} (f : α → V) (m : Nat) (l : List α) : (List.replicate m (l.map f)).flatten = ((List.replicate m l).flatten).map f := by
  rw [List.map_flatten, List.map_replicate]
theorem snocR {α : Type} (f : Nat → α) (i : Nat) : (List.range i).map f ++ [f i] = (List.range (i + 1)).map f := by
  rw [List.range_succ, List.map_append]
  rfl
section
variable {P : Program} {w : World} {K : PySem.W.Frag} {mg : Str → Option Value} {base : Heap}
def sp_law_told2 (K : PySem.W.Frag) : Sp := fun vs H Q _ => ∃ (ta ba : Addr) (tvs : List V) (zs : List Str) (ts : List Tk) (tb : List Int), vs = [.ref ta, .ref ba] ∧ (H ta = some (.lst tvs) ∧ TasksN K H tvs zs ts ∧ zs.Nodup ∧ ts.length ≤ 3) ∧ (H ba = some (.lst (tb.map V.int)) ∧ 1 ≤ tb.length ∧ tb.length ≤ 8 ∧ ∀ x ∈ tb, 0 ≤ x ∧ x ≤ 1000) ∧
  ∀ H' x, Same H H' → ToldOk ts tb x → Q (.str x) H'
theorem has_law_told2 (T : Tx K mg) (U : UTx P K mg) : Has P w K mg base "_law_told" P_law_told 14 (sp_law_told2 K) := by
  obtain ⟨f, fd, h1, h2, h3, h4⟩ := has_law_told (P := P) (w := w) (base := base) T U
  refine ⟨f, fd, h1, h2.imp fun vs H Q E h => ?_, h3, h4⟩
  obtain ⟨ta, ba, tvs, zs, ts, tb, e, a, b, q⟩ := h
  exact ⟨ta, ba, tvs, zs, ts, tb, e, a, b, fun H' s => q H' _ s (.inl rfl), fun H' s n => q H' _ s (.inr (.inl ⟨rfl, n⟩)), fun H' s n => q H' _ s (.inr (.inr ⟨rfl, n⟩))⟩
end
end NL
end
-- part A22
section
set_option Elab.async false
set_option linter.all false
set_option maxRecDepth 100000
set_option maxHeartbeats 4000000
namespace NL
open PySem PySem.Spec PyProof.Rows L2
open He (ga ma)
local macro_rules | `(tactic| walk_at "go1") => `(tactic| first
  | ((with_reducible refine' r_var ?hv ?_); (case hv => rfl))
  | with_reducible refine r_c ?_
  | with_reducible refine r_op ?_
  | with_reducible refine r_un ?_
  | with_reducible refine r_I0 ?_
  | with_reducible refine r_U ?_
  | ((with_reducible refine' r_ixT ?h1 ?h2 ?_); (case h1 => assumption); (case h2 => rfl))
  | ((with_reducible refine' r_ixL ?h1 ?h2 ?_); (case h1 => assumption); (case h2 => rfl))
  | with_reducible refine r_nil ?_
  | with_reducible refine r_cons ?_
  | with_reducible refine r_cb ?_
  | with_reducible refine r_call ?_
  | with_reducible refine r_ck ?_
  | with_reducible refine r_andV ?_
  | with_reducible refine r_callNS ?_
  | with_reducible refine r_seqTry ?_
  | with_reducible refine r_hz ?_
  | with_reducible refine r_raiseU ?_
  | with_reducible refine r_nt ?_
  | with_reducible refine r_nf ?_
  | with_reducible refine r_itS ?_
  | with_reducible refine r_chain ?_
  | with_reducible refine r_inS ?_
  | with_reducible refine r_mkK ?_
  | with_reducible refine r_mk ?_
  | with_reducible refine r_seqSfld ?_
  | with_reducible refine r_sfld ?_
  | with_reducible refine r_ifExp ?_
  | with_reducible refine r_prop ?_
  | with_reducible refine r_gSub ?_
  | ((with_reducible refine' r_seqAug2 ?hv ?_); (case hv => rfl))
  | ((with_reducible refine' r_aug2 ?hv ?_); (case hv => rfl))
  | with_reducible refine r_ipI ?_
  | with_reducible refine r_seqAugS ?_
  | with_reducible refine r_augS ?_
  | with_reducible refine r_cont ?_
  | with_reducible refine r_brk ?_
  | with_reducible refine r_tt ?_
  | with_reducible refine r_ff ?_
  | with_reducible refine r_test ?_
  | with_reducible refine r_B ?_
  | with_reducible refine r_not ?_
  | with_reducible refine r_and ?_
  | with_reducible refine r_or ?_
  | with_reducible refine r_tup ?_
  | with_reducible refine r_lst ?_
  | with_reducible refine r_bl ?_
  | with_reducible refine r_max2 ?_
  | with_reducible refine r_min2 ?_
  | with_reducible refine r_abs ?_
  | with_reducible refine r_int1b ?_
  | with_reducible refine r_isN1 ?_
  | with_reducible refine r_isN2 ?_
  | with_reducible refine r_isN3 ?_
  | with_reducible refine r_notN1 ?_
  | with_reducible refine r_notN2 ?_
  | with_reducible refine r_notN3 ?_
  | with_reducible refine r_isN ?_
  | with_reducible refine r_notN ?_
  | with_reducible refine r_notBl ?_
  | ((with_reducible refine r_eq ?h1 ?_); (case h1 => rfl))
  | ((with_reducible refine r_ne ?h1 ?_); (case h1 => rfl))
  | with_reducible refine r_fld ?_
  | with_reducible refine r_sl ?_
  | with_reducible refine r_noPart ?_
  | with_reducible refine r_part ?_
  | with_reducible refine r_xint ?_
  | with_reducible refine r_bm ?_
  | with_reducible refine r_meth ?_
  | with_reducible refine r_callN ?_
  | ((with_reducible refine' r_lenQ ?h1 ?_); (case h1 => first | assumption | exact Or.inl (by assumption) | exact Or.inr (by assumption)))
  | with_reducible refine r_seqN ?_
  | with_reducible refine r_asgN ?_
  | with_reducible refine r_seqIf ?_
  | with_reducible refine r_seqFor ?_
  | with_reducible refine r_for ?_
  | with_reducible refine r_rng1 ?_
  | with_reducible refine r_rng2 ?_
  | with_reducible refine r_rng3 ?_
  | with_reducible refine r_itL ?_
  | with_reducible refine r_itT ?_
  | with_reducible refine r_lc ?_
  | with_reducible refine r_yes ?_
  | with_reducible refine r_itE ?_
  | with_reducible refine r_itEL ?_
  | with_reducible refine r_gN ?_
  | with_reducible refine r_seqA ?_
  | with_reducible refine r_asgA ?_
  | with_reducible refine r_if ?_
  | with_reducible refine r_retD ?_
  | with_reducible refine r_ret ?_
  | with_reducible refine r_seqDrop ?_
  | with_reducible refine r_drop ?_
  | with_reducible refine r_next ?_)
local macro_rules | `(tactic| walk_at "go") => `(tactic| (repeat walk_at "go1"))

theorem pre_len (q : Nat) : (preF q).length + (⟨#[120]⟩ : Str).length ≤ sizeLine := by
  refine Nat.le_trans (show _ ≤ 5 from ?_) (by decide)
  unfold preF
  split
  · decide
  · split <;> decide
theorem str_un : ("undecided" : Str) ≠ "never" := by decide +kernel
theorem str_ln : ("late" : Str) ≠ "never" := by decide +kernel
theorem allOk (N : List Int) (m : Nat) : ∀ t ∈ List.map (tkF N) (List.range m), t.Ok := fun t ht => by
  obtain ⟨i, _, rfl⟩ := List.mem_map.mp ht
  exact tk_ok N i
section
variable {P : Program} {w : World} {K : PySem.W.Frag} {mg : Str → Option Value} {base : Heap}
abbrev N_law : List Str := ["_law_script", "_law_numbers_here", "_law_factor", "_law_tasks", "_law_drawn", "_law_k", "_law_kinds_here", "_law_ways_here", "_law_course_here", "_law_table", "_law_by", "_law_second", "_law_first_told", "_law_second_told", "_law_kind"]
abbrev P_law : List Str := ["_law_script"]
theorem sc_law : FnScope N_law P_law (defScope s_law) := ⟨rfl, rfl, rfl, by decide +kernel, rfl, by decide +kernel, by decide +kernel⟩
def sp_law (K : PySem.W.Frag) : Sp := fun vs H Q _ => ∃ (a : Addr) (cs : List Int), vs = [.ref a] ∧ SqL K H a (cs.map V.int) ∧ ∀ H', Same H H' → Q (.bl true) H'
theorem ok_law (T : Tx K mg) (U : UTx P K mg) {fd : FuncData} (F : FunD K "law" "law" (defArgs s_law) (defBody s_law) (defScope s_law) [] [] (d_law.at_ K) fd) : FnOk P w K mg base CX0 15 (d_law.at_ K) fd P_law (sp_law K) := by
  have h_Task := has_Task (P := P) (w := w) (base := base) T
  have h_dominates := has_dominates (P := P) (w := w) (base := base) T
  have h_law_course := has_law_course (P := P) (w := w) (base := base) T
  have h_law_in_time := has_law_in_time (P := P) (w := w) (base := base) T
  have h_law_jobs := has_law_jobs (P := P) (w := w) (base := base) T
  have h_law_kinds := has_law_kinds (P := P) (w := w) (base := base) T
  have h_law_numbers := has_law_numbers (P := P) (w := w) (base := base) T
  have h_law_told := has_law_told2 (P := P) (w := w) (base := base) T U
  have h_law_ways := has_law_ways (P := P) (w := w) (base := base) T
  refine F.ok sc_law (fun vs H Q E h => ?_) (fun cdv A outer s H vs Q E hr h => ?_)
  · obtain ⟨_, _, rfl, _⟩ := h; rfl
  · obtain ⟨a, cs, rfl, ha, qf⟩ := h
    refine ⟨_, PSs.nox (pss_cons (ps_set (i := 1) sc_law.nd rfl (.inr rfl) (pe_hc h_law_numbers (hr.mono (by decide)) (by rfl) (pa_cons (pv 0) (pa_cons pe_int pa_nil))))
      (pss_cons (ps_set (i := 2) sc_law.nd rfl (.inr rfl) (pe_ix (k_ixL (K := K)) (pe_lst (pa_cons pe_int (pa_cons pe_int (pa_cons pe_int pa_nil)))) (pe_op op_mod (pe_ix (k_ixL (K := K)) (pv 1) pe_int (fun _ _ => rfl)) pe_int) (fun _ _ => rfl)))
      (pss_cons (ps_set (i := 3) sc_law.nd rfl (.inl rfl) (pe_lst pa_nil))
      (pss_cons (ps_set (i := 4) sc_law.nd rfl (.inl rfl) (pe_lst pa_nil))
      (pss_cons (ps_for PassesOwn.never rfl (pi_range1 rfl T.b_range (pa_cons (pe_op op_add pe_int (pe_op op_mod (pe_ix (k_ixL (K := K)) (pv 1) pe_int (fun _ _ => rfl)) pe_int)) pa_nil)) (pg_name (i := 5) sc_law.nd rfl (.inl rfl)) (pss_cons (ps_setLc (i := 6) (own := [("_law_kind", 14)]) rfl sc_law.nd rfl rfl (sw_true rfl rfl rfl (by decide +kernel)) (k_list (K := K) (pe_hc h_law_kinds (hr.mono (by decide)) (by rfl) (pa_cons (pv 1) (pa_cons (pe_op op_add pe_int (pe_op op_mul pe_int (pv 5))) pa_nil)))) (blkOk_by (own := [("_law_kind", 14)]) (N := N_law) (sc := defScope s_law) (by decide +kernel)) (fun _ _ _ _ _ => (pg_name (i := 14) sc_law.nd rfl (.inl rfl))) (fun _ _ _ _ _ => pts_nil) (fun _ _ _ _ _ => (pe_tup (pa_cons (pe_ix (k_ixT (K := K)) (pv 14) pe_int (fun _ _ => rfl)) (pa_cons (pe_op op_mul (pe_ix (k_ixT (K := K)) (pv 14) pe_int (fun _ _ => rfl)) (pv 2)) (pa_cons (pe_ix (k_ixT (K := K)) (pv 14) pe_int (fun _ _ => rfl)) pa_nil))))))
      (pss_cons (ps_set (i := 7) sc_law.nd rfl (.inl rfl) (pe_hc h_law_ways (hr.mono (by decide)) (by rfl) (pa_cons (pv 1) (pa_cons (pe_op op_add pe_int (pe_op op_mul pe_int (pv 5))) (pa_cons (pv 6) pa_nil)))))
      (pss_cons (ps_set (i := 8) sc_law.nd rfl (.inl rfl) (pe_hc h_law_course (hr.mono (by decide)) (by rfl) (pa_cons (pv 1) (pa_cons (pe_op op_add pe_int (pe_op op_mul pe_int (pv 5))) (pa_cons (pv 6) (pa_cons (pv 7) (pa_cons (pe_op op_mod (pe_ix (k_ixL (K := K)) (pv 1) (pe_op op_add pe_int (pv 5)) (fun _ _ => rfl)) pe_int) pa_nil)))))))
      (pss_cons (ps_expr (k_bm (K := K) PySem.F.plainAttrs_list PySem.F.slot_list_append PySem.F.type_list_append mt_append (pv 3) (pa_cons (pe_mkK h_Task (hr.mono (by decide)) (by rfl) (pa_cons (pe_op op_add_strQ (pe_ix (k_ixL (K := K)) (pe_lst (pa_cons pe_str (pa_cons pe_str (pa_cons pe_str pa_nil)))) (pe_op op_mod (pe_op op_fdiv (pe_ix (k_ixL (K := K)) (pv 1) pe_int (fun _ _ => rfl)) pe_int) pe_int) (fun _ _ => rfl)) (pe_ix ix_str pe_str (pv 5) (fun _ _ => rfl))) pa_nil) (pk_cons (pv 6) (pk_cons (pv 7) pk_nil))) pa_nil)))
      (pss_one (ps_expr (k_bm (K := K) PySem.F.plainAttrs_list PySem.F.slot_list_append PySem.F.type_list_append mt_append (pv 4) (pa_cons (pe_tup (pa_cons (pv 6) (pa_cons (pv 7) (pa_cons (pv 8) pa_nil)))) pa_nil)))))))))
      (pss_cons (ps_setLc (i := 9) (own := [("_law_k", 5)]) rfl sc_law.nd rfl rfl (sw_true rfl rfl rfl (by decide +kernel)) (pi_range1 rfl T.b_range (pa_cons (pe_op op_add pe_int (pe_op op_mod (pe_ix (k_ixL (K := K)) (pv 1) pe_int (fun _ _ => rfl)) pe_int)) pa_nil)) (blkOk_by (own := [("_law_k", 5)]) (N := N_law) (sc := defScope s_law) (by decide +kernel)) (fun _ _ _ _ _ => (pg_name (i := 5) sc_law.nd rfl (.inl rfl))) (fun _ _ _ _ _ => pts_nil) (fun _ _ _ _ _ => (pe_op op_mul (pe_op op_mod (pe_ix (k_ixL (K := K)) (pv 1) (pe_op op_add pe_int (pv 5)) (fun _ _ => rfl)) pe_int) (pv 2))))
      (pss_cons (ps_set (i := 10) sc_law.nd rfl (.inl rfl) (pe_op op_mod (pe_ix (k_ixL (K := K)) (pv 1) pe_int (fun _ _ => rfl)) (pe_callB (k_len (K := K)) (by rfl) T.b_len PySem.boot_len (pa_cons (pv 9) pa_nil))))
      (pss_cons (ps_set (i := 11) sc_law.nd rfl (.inr rfl) (pe_op op_rep (pe_op op_cat (pe_slice (k_slL (K := K)) (pv 9) (po_some (pv 10)) po_none) (pe_slice (k_slL (K := K)) (pv 9) po_none (po_some (pv 10)))) (pe_op op_add pe_int (pe_op op_mod (pe_ix (k_ixL (K := K)) (pv 1) pe_int (fun _ _ => rfl)) pe_int))))
      (pss_cons (ps_set (i := 11) sc_law.nd rfl (.inr rfl) (pe_lc (own := [("_law_k", 5)]) rfl sc_law.nd (pi_range1 rfl T.b_range (pa_cons (pe_callB (k_len (K := K)) (by rfl) T.b_len PySem.boot_len (pa_cons (pv 11) pa_nil)) pa_nil)) (blkOk_by (own := [("_law_k", 5)]) (N := N_law) (sc := defScope s_law) (by decide +kernel)) (fun _ _ _ _ _ => (pg_name (i := 5) sc_law.nd rfl (.inl rfl))) (fun _ _ _ _ _ => pts_nil) (fun _ _ _ _ _ => (pe_op op_add (pe_ix (k_ixL (K := K)) (pv 11) (pv 5) (fun _ _ => rfl)) (pe_op op_fdiv (pe_op op_mod (pe_ix (k_ixL (K := K)) (pv 1) (pe_op op_add pe_int (pe_op op_mod (pv 5) pe_int)) (fun _ _ => rfl)) pe_int) pe_int)))))
      (pss_cons (ps_if (pt_cmpR op_notBl (pe_hc h_dominates (hr.mono (by decide)) (by rfl) (pa_cons (pe_callTy (k_listQ (K := K)) (by rfl) T.b_list (by decide +kernel) (pa_cons (pv 11) pa_nil)) (pa_cons (pe_callTy (k_listQ (K := K)) (by rfl) T.b_list (by decide +kernel) (pa_cons (pv 9) pa_nil)) pa_nil))) pe_bl (nomark _)) (pss_one (ps_ret pe_bl)) pss_nil)
      (pss_cons (ps_set (i := 12) sc_law.nd rfl (.inl rfl) (pe_hc h_law_told (hr.mono (by decide)) (by rfl) (pa_cons (pv 3) (pa_cons (pv 9) pa_nil))))
      (pss_cons (ps_set (i := 13) sc_law.nd rfl (.inl rfl) (pe_hc h_law_told (hr.mono (by decide)) (by rfl) (pa_cons (pv 3) (pa_cons (pv 11) pa_nil))))
      (pss_cons (ps_if (PW.pt (pw_or (pt_cmpR op_eq (pv 12) pe_str (nomark _)) (pw_or1 (pt_cmpR op_eq (pv 13) pe_str (nomark _))))) (pss_one (ps_ret pe_bl)) pss_nil)
      (pss_cons (ps_if (PW.pt (pw_and (pt_cmpR op_ne (pv 12) pe_str (nomark _)) (pw_and1 (pt_cmpR op_eq (pv 13) pe_str (nomark _))))) (pss_one (ps_ret (pe_cmpR op_eq (pv 12) pe_str (nomark _)))) pss_nil)
      (pss_cons (ps_if (pt_cmpR op_eq (pv 12) pe_str (nomark _)) (pss_one (ps_ret (pe_and (pe_cmpR op_ne (pv 13) pe_str (nomark _)) (pe_one (pe_hc h_law_in_time (hr.mono (by decide)) (by rfl) (pa_cons (pe_hc h_law_jobs (hr.mono (by decide)) (by rfl) (pa_cons (pv 4) pa_nil)) (pa_cons (pv 11) pa_nil))))))) pss_nil)
      (pss_one (ps_ret pe_bl))))))))))))))))), ?_⟩
    walk_at "go"
    refine ⟨a, cs, rfl, ha, fun H1 np N e1 hn0 hN1 hN150 hlow => ?_⟩
    have hN := hN1
    walk_at "go"
    refine ⟨by show 3 ≤ sizeLine; decide, fun l0 hl0 => ?_⟩
    have e2 := same_upd (o := .lst [V.int 1, V.int 17, V.int 240]) (Same.refl H1) hl0
    have hl0v : upd H1 l0 (.lst [V.int 1, V.int 17, V.int 240]) l0 = some (.lst [V.int 1, V.int 17, V.int 240]) := upd_same
    generalize upd H1 l0 (.lst [V.int 1, V.int 17, V.int 240]) = H2 at e2 hl0v ⊢
    walk_at "go"
    refine r_ixL (SqL.of (e2 _ _ hN)) (atI_nat (j := 19) (nu_at hN150 (by omega))) ?_
    walk_at "go"
    refine r_I (by decide) ?_
    refine r_ixL (SqL.of hl0v) (fac_at N) ?_
    have fb := fac_bd N
    walk_at "go"
    refine ⟨by decide, fun D1 hD1 => ?_⟩
    have e3 := same_upd (o := .lst []) (Same.refl H2) hD1
    have hD1v : upd H2 D1 (.lst []) D1 = some (.lst []) := upd_same
    have hD1n : H1 D1 = none := e2.free hD1
    generalize upd H2 D1 (.lst []) = H3 at e3 hD1v ⊢
    walk_at "go"
    refine ⟨by decide, fun D2 hD2 => ?_⟩
    have e4 := same_upd (o := .lst []) (Same.refl H3) hD2
    have hD2v : upd H3 D2 (.lst []) D2 = some (.lst []) := upd_same
    have hD2n : H1 D2 = none := (e2.trans e3).free hD2
    have hD12 : D1 ≠ D2 := ne_of_none hD1v hD2
    have hD1v4 := e4 _ _ hD1v
    have e14 := (e2.trans e3).trans e4
    generalize upd H3 D2 (.lst []) = H4 at e4 hD2v hD1v4 e14 ⊢
    walk_at "go"
    refine r_ixL (SqL.of (e14 _ _ hN)) (atI_nat (j := 0) (nu_at hN150 (by omega))) ?_
    walk_at "go"
    refine r_I (by decide) ?_
    walk_at "go"
    have kb := kn_bd N 0
    have ek : 1 + nu N 0 % 3 = ((knF N 0 : Nat) : Int) := by
      unfold knF
      have := mod_bd (nu N 0) (m := 3) (by decide)
      omega
    rw [ek]
    refine ⟨_, rfl, by omega, by omega, ?_⟩
    rw [Int.toNat_natCast]
    have q3 := mod_nat (nu N 19 / 3) (n := 3) (by decide)
    refine loop_range (fun i σ' H' => ∃ (z5 z6 z7 z8 : Option V) (tvs dvs : List V) (css : List (List (Nat × Nat))), σ' = [some (.ref a), some (.ref np), some (.int (facF N)), some (.ref D1), some (.ref D2), z5, z6, z7, z8, none, none, none, none, none, none] ∧ Same H1 H' ∧
      H' D1 = some (.lst tvs) ∧ TasksN K H' tvs ((List.range i).map (nmT (nu N 19 / 3 % 3).toNat)) ((List.range i).map (tkF N)) ∧ H' D2 = some (.lst dvs) ∧ DrawnN H' D1 D2 dvs ((List.range i).map (tkF N)) css ∧
      ∀ (j : Nat) t c, ((List.range i).map (tkF N))[j]? = some t → css[j]? = some c → Legal t c ∧ ∀ r ∈ c, r.1 ≤ 100) ⟨_, _, _, _, [], [], [], rfl, e14, hD1v4, ⟨rfl, rfl, fun i v q => by simp at q⟩, hD2v, ⟨rfl, rfl, fun i v q => by simp at q⟩, fun j t c h => by simp at h⟩ ?_ ?_
    · rintro i σ' H' hi ⟨z5, z6, z7, z8, tvs, dvs, css, rfl, e, hd1, hTN, hd2, hDN, hleg⟩
      walk_at "go"
      rw [Int.zero_add]
      refine r_I (.inl ⟨by decide, by decide⟩) ?_
      walk_at "go"
      rw [show (20 : Int) + 36 * (i : Int) = ((20 + 36 * i : Nat) : Int) by omega]
      refine ⟨np, N, 20 + 36 * i, rfl, e _ _ hN, hN150, by omega, fun H5 kp ku e5 hkp0 hkp hkul hkut => ?_⟩
      have kn := kn_bd N (20 + 36 * i)
      refine ⟨kp, rfl, ⟨ku, SqL.of hkp⟩, fun D hD => lc_L (xs := ku) (fun j H' => Same H5 H' ∧ ∃ ks, H' D = some (.lst ks) ∧ ks.length = j ∧ Tups H' ks (fun i' => [.str (nm i'), .int (kcF N (20 + 36 * i) i' * facF N), .int ((kdF N (20 + 36 * i) i' : Nat) : Int)])) ⟨same_upd (Same.refl _) hD, [], upd_same, rfl, Tups.nil⟩ (fun j H' _ ⟨e, _⟩ => SqL.of (e _ _ hkp)) ?_ ?_⟩
      · rintro j v H6 hv ⟨e6, ks, hks, hksl, hkst⟩
        obtain ⟨pk, rfl, hpk⟩ := hkut j v hv
        have hj := (List.getElem?_eq_some_iff.mp hv).1
        have hpk6 := SqT.of (K := K) (e6 _ _ hpk)
        walk_at "go"
        refine ⟨rfl, ?_⟩
        walk_at "go"
        refine r_I (.inr ⟨by omega, by omega⟩) ?_
        walk_at "go"
        refine ⟨by show 3 ≤ sizeLine; decide, fun p2 hp2 => ?_⟩
        have nD : D ≠ p2 := ne_of_none hks hp2
        have hks2 : upd H6 p2 (.tup [V.str (nm j), V.int (kcF N (20 + 36 * i) j * facF N), V.int ((kdF N (20 + 36 * i) j : Nat) : Int)]) D = some (.lst ks) := by rw [upd_ne nD]; exact hks
        refine ⟨ks, hks2, Nat.lt_of_lt_of_le (show _ < 100 by omega) (by decide), same_mut (same_upd e6 hp2) hD, ks ++ [.ref p2], upd_same, by rw [List.length_append, hksl]; rfl, ?_⟩
        refine Tups.mut (Tups.snoc (hkst.up (same_upd (Same.refl _) hp2)) ?_) hks2
        rw [hksl]
        exact upd_same
      · rintro H6 ⟨e6, ks, hks, hksl, hkst⟩
        rw [hkul] at hksl
        have hKT : KindsT H6 ks (tkF N i) := ⟨by rw [hksl, tk_n], Tups.congr hkst fun i' h => (tk_kF N i (by omega)).symm⟩
        have nDD1 : D ≠ D1 := (ne_of_none (e5 _ _ hd1) hD).symm
        have nDD2 : D ≠ D2 := (ne_of_none (e5 _ _ hd2) hD).symm
        have e56 := e5.trans e6
        walk_at "go"
        refine r_I (.inl ⟨by decide, by decide⟩) ?_
        walk_at "go"
        rw [show (27 : Int) + 36 * (i : Int) = ((27 + 36 * i : Nat) : Int) by omega]
        refine ⟨np, N, 27 + 36 * i, D, ks, _, _, rfl, (e.trans e56) _ _ hN, hN150, by omega, hks, by omega, by omega, hkst, fun H7 wp wu e7 hwp0 hwp hwul hwut => ?_⟩
        rw [hksl] at hwut
        have hWT : WaysT H7 wu (tkF N i) := ⟨by rw [hwul, tk_m], Tups.congr hwut fun i' h => (tk_wF N i (by omega)).symm⟩
        walk_at "go"
        refine r_I (.inl ⟨by decide, by decide⟩) ?_
        walk_at "go"
        rw [show (40 : Int) + 36 * (i : Int) = ((40 + 36 * i : Nat) : Int) by omega, show (1 : Int) + (i : Int) = ((1 + i : Nat) : Int) by omega]
        refine r_ixL (SqL.of ((e.trans (e56.trans e7)) _ _ hN)) (atI_nat (nu_at hN150 (by omega))) ?_
        walk_at "go"
        refine r_I (by decide) ?_
        walk_at "go"
        obtain ⟨m7, m8⟩ := mod_nat (nu N (1 + i)) (n := 7) (by decide)
        rw [show (7 : Int) = ((7 : Nat) : Int) from rfl, m7]
        refine ⟨np, N, 40 + 36 * i, D, wp, ks, wu, tkF N i, _, rfl, ⟨(e.trans (e56.trans e7)) _ _ hN, hN150, by omega, by omega⟩, ⟨tk_ok N i, e7 _ _ hks, hKT.up e7, hwp, hWT⟩, fun H8 cp cu c e8 hcp0 hcp hcul hcut hcleg hc6 hc100 => ?_⟩
        have e58 := e56.trans (e7.trans e8)
        have nC1 : cp ≠ D1 := (ne_of_none (e7 _ _ (e56 _ _ hd1)) hcp0).symm
        have nC2 : cp ≠ D2 := (ne_of_none (e7 _ _ (e56 _ _ hd2)) hcp0).symm
        have hd1' := e58 _ _ hd1
        have hd2' := e58 _ _ hd2
        have hTN8 := hTN.up e58
        have hDN8 := hDN.up e58
        have hks8 := e8 _ _ (e7 _ _ hks)
        have hwp8 := e8 _ _ hwp
        have hKT8 := (hKT.up e7).up e8
        have hWT8 := hWT.up e8
        walk_at "go"
        refine ty_list hd1' ?_
        walk_at "go"
        refine ⟨by show 3 ≤ sizeLine; decide, fun l1 hl1 => ?_⟩
        have e9 := same_upd (o := .lst [V.str "", V.str "t", V.str "task"]) (Same.refl H8) hl1
        have hl1v : upd H8 l1 (.lst [V.str "", V.str "t", V.str "task"]) l1 = some (.lst [V.str "", V.str "t", V.str "task"]) := upd_same
        generalize upd H8 l1 (.lst [V.str "", V.str "t", V.str "task"]) = H9 at e9 hl1v ⊢
        walk_at "go"
        refine r_ixL (SqL.of ((e.trans (e58.trans e9)) _ _ hN)) (atI_nat (j := 19) (nu_at hN150 (by omega))) ?_
        walk_at "go"
        refine r_I ⟨by decide, by decide⟩ ?_
        walk_at "go"
        refine r_I (by decide) ?_
        have q31 : nu N 19 / 3 % 3 = (((nu N 19 / 3 % 3).toNat : Nat) : Int) := q3.1
        have q32 : (nu N 19 / 3 % 3).toNat < 3 := q3.2
        generalize (nu N 19 / 3 % 3).toNat = qq at q31 q32 hTN hTN8 ⊢
        rw [q31]
        refine r_ixL (SqL.of hl1v) (pre_at q32) ?_
        walk_at "go"
        refine r_ixS (by decide +kernel) (xyz_at (by omega)) ?_
        walk_at "go"
        refine r_addStr (pre_len qq) ?_
        walk_at "go"
        refine ⟨rfl, rfl, fun x dx hx hdx hne => ?_⟩
        have e10 : Same H9 (upd (upd H9 dx (.own x)) x (.ins (ga K "Task") dx [])) := (same_upd (Same.refl _) hdx).trans (same_upd (Same.refl _) (by rw [upd_ne hne.symm]; exact hx))
        have hxx : (upd (upd H9 dx (.own x)) x (.ins (ga K "Task") dx [])) x = some (.ins (ga K "Task") dx []) := upd_same
        generalize upd (upd H9 dx (.own x)) x (.ins (ga K "Task") dx []) = H10 at e10 hxx ⊢
        have e810 := e9.trans e10
        refine ⟨x, dx, nmT qq i, D, wp, ks, wu, tkF N i, rfl, hxx, nmT_ok q32 (by omega), tk_ok N i, ⟨e810 _ _ hks8, hKT8.up e810⟩, ⟨e810 _ _ hwp8, hWT8.up e810⟩, fun H11 b11 hTx => ⟨rfl, ?_⟩⟩
        have e811 : Same H8 H11 := fun b o hb => b11 b o (ne_of_none (e9 _ _ hb) hx) (e810 _ _ hb)
        have hd1'' := e811 _ _ hd1'
        have hd2'' := e811 _ _ hd2'
        have hTN11 := (hTN8.up e811).snoc hTx
        have hDN11 := hDN8.up e811
        have hl3 : tvs.length ≤ 3 := by have := hTN8.1; simp at this; omega
        walk_at "go"
        refine r_append hd1'' (Nat.lt_of_lt_of_le (show _ < 100 by omega) (by decide)) ?_
        walk_at "go"
        have hTN12 := hTN11.mut (o := .lst (tvs ++ [V.ref x])) hd1''
        have hDN12 := hDN11.mut (o := .lst (tvs ++ [V.ref x])) hd1'' (.inl rfl)
        have b12 : But D1 H11 (upd H11 D1 (.lst (tvs ++ [V.ref x]))) := (But.refl _ _).mut
        have hd1v : upd H11 D1 (.lst (tvs ++ [V.ref x])) D1 = some (.lst (tvs ++ [V.ref x])) := upd_same
        have hd2v : upd H11 D1 (.lst (tvs ++ [V.ref x])) D2 = some (.lst dvs) := by rw [upd_ne hD12.symm]; exact hd2''
        have hks12 := b12 _ _ nDD1 (e811 _ _ hks8)
        have hcp12 := b12 _ _ nC1 (e811 _ _ hcp)
        have hKT12 := (hKT8.up e811).mut (o := .lst (tvs ++ [V.ref x])) hd1''
        have hcut12 := (hcut.up e811).mut (o := .lst (tvs ++ [V.ref x])) hd1''
        have e012 : Same H1 (upd H11 D1 (.lst (tvs ++ [V.ref x]))) := same_mut ((e.trans e58).trans e811) hD1n
        generalize upd H11 D1 (.lst (tvs ++ [V.ref x])) = H12 at hTN12 hDN12 b12 hd1v hd2v hks12 hcp12 hKT12 hcut12 e012 ⊢
        refine ty_list hd2v ?_
        walk_at "go"
        refine ⟨by show 3 ≤ sizeLine; decide, fun p3 hp3 => ?_⟩
        have e13 := same_upd (o := .tup [V.ref D, V.ref wp, V.ref cp]) (Same.refl H12) hp3
        have hp3v : upd H12 p3 (.tup [V.ref D, V.ref wp, V.ref cp]) p3 = some (.tup [V.ref D, V.ref wp, V.ref cp]) := upd_same
        generalize upd H12 p3 (.tup [V.ref D, V.ref wp, V.ref cp]) = H13 at e13 hp3v ⊢
        have hl4 : dvs.length ≤ 3 := by have := hDN8.l1; simp at this; omega
        walk_at "go"
        refine r_append (e13 _ _ hd2v) (Nat.lt_of_lt_of_le (show _ < 100 by omega) (by decide)) ?_
        refine ⟨_, _, _, _, tvs ++ [.ref x], dvs ++ [.ref p3], css ++ [c], rfl, same_mut (e012.trans e13) hD2n, by rw [upd_ne hD12]; exact e13 _ _ hd1v, ?_, upd_same, ?_, fun j t c' h1 h2 => ?_⟩
        · rw [← snocR, ← snocR]
          exact (hTN12.up e13).mut (e13 _ _ hd2v)
        · rw [← snocR]
          exact DrawnN.mut ((hDN12.up e13).snoc ⟨nDD1, nDD2, nC1, nC2⟩ hp3v (tk_ok N i) (e13 _ _ hks12) (hKT12.up e13) (e13 _ _ hcp12) hcul (hcut12.up e13) (legal_all hcleg) hc6) (e13 _ _ hd2v) (.inr rfl)
        · rw [← snocR] at h1
          rcases snoc_get h1 with ⟨h3, h4⟩ | ⟨h3, h4⟩
          · rcases snoc_get h2 with ⟨h5, h6⟩ | ⟨h5, h6⟩
            · exact hleg j t c' h4 h6
            · have := hDN8.l2
              simp at this h3
              omega
          · rcases snoc_get h2 with ⟨h5, h6⟩ | ⟨h5, h6⟩
            · have := hDN8.l2
              simp at this h3
              omega
            · subst h4; subst h6
              exact ⟨hcleg, hc100⟩
    · rintro σ' H' ⟨z5, z6, z7, z8, tvs, dvs, css, rfl, e, hd1, hTN, hd2, hDN, hleg⟩
      walk_at "go"
      refine r_ixL (SqL.of (e _ _ hN)) (atI_nat (j := 4) (nu_at hN150 (by omega))) ?_
      walk_at "go"
      refine r_I (by decide) ?_
      walk_at "go"
      obtain ⟨n4, hn4⟩ : ∃ n4 : Nat, n4 = (1 + nu N 4 % 4).toNat := ⟨_, rfl⟩
      have b4 := mod_bd (nu N 4) (m := 4) (by decide)
      have en4 : 1 + nu N 4 % 4 = (n4 : Int) := by omega
      rw [en4]
      have n41 : 1 ≤ n4 := by omega
      have n44 : n4 ≤ 4 := by omega
      clear hn4 en4
      have tbd : ∀ k, 0 ≤ nu N (5 + k) % 4 * facF N ∧ nu N (5 + k) % 4 * facF N ≤ 720 := fun k => by
        have b := mod_bd (nu N (5 + k)) (m := 4) (by decide)
        have h1 := Int.mul_le_mul (show nu N (5 + k) % 4 ≤ 3 by omega) fb.2 (by omega) (by decide)
        have h2 := Int.mul_nonneg b.1 (show 0 ≤ facF N by omega)
        omega
      refine ⟨_, rfl, by omega, by omega, ?_⟩
      rw [Int.toNat_natCast]
      refine fun Dt hDt => lc_R (fun j H6 => Same H' H6 ∧ H6 Dt = some (.lst (((List.range j).map fun k => nu N (5 + k) % 4 * facF N).map V.int))) ⟨same_upd (Same.refl _) hDt, upd_same⟩ ?_ ?_
      · rintro j H6 hj ⟨e6, hu⟩
        walk_at "go"
        refine ⟨rfl, ?_⟩
        walk_at "go"
        rw [Int.zero_add, show (5 : Int) + (j : Int) = ((5 + j : Nat) : Int) by omega]
        refine r_ixL (SqL.of ((e.trans e6) _ _ hN)) (atI_nat (nu_at hN150 (by omega))) ?_
        walk_at "go"
        refine r_I (by decide) ?_
        walk_at "go"
        refine r_I (.inr ⟨by omega, by omega⟩) ?_
        refine ⟨_, hu, Nat.lt_of_lt_of_le (show _ < 100 by simp; omega) (by decide), same_mut e6 hDt, ?_⟩
        rw [snoc_map (fun k => nu N (5 + k) % 4 * facF N)]
        exact upd_same
      · rintro H6 ⟨e6, hT6⟩
        obtain ⟨TT, hTT⟩ : ∃ TT, TT = (List.range n4).map fun k => nu N (5 + k) % 4 * facF N := ⟨_, rfl⟩
        rw [← hTT] at hT6
        have hTl : TT.length = n4 := by rw [hTT]; simp
        have hTb : ∀ y ∈ TT, 0 ≤ y ∧ y ≤ 720 := fun y hy => by
          rw [hTT] at hy
          obtain ⟨k, _, rfl⟩ := List.mem_map.mp hy
          exact tbd k
        clear hTT
        have hd1 := e6 _ _ hd1
        have hd2 := e6 _ _ hd2
        have hTN := hTN.up e6
        have hDN := hDN.up e6
        have e := e.trans e6
        walk_at "go"
        refine r_ixL (SqL.of (e _ _ hN)) (atI_nat (j := 9) (nu_at hN150 (by omega))) ?_
        walk_at "go"
        refine ⟨Dt, _, rfl, .inl (SqL.of hT6), ?_⟩
        rw [List.length_map]
        refine r_I (by omega) ?_
        obtain ⟨m9, hb⟩ := mod_nat (nu N 9) (n := TT.length) (by omega)
        rw [m9]
        generalize (nu N 9 % (TT.length : Int)).toNat = b at hb ⊢
        walk_at "go"
        refine r_slL (SqL.of hT6) fun p1 hp1 => ?_
        rw [cut_lo]
        have e7 := same_upd (o := .lst ((TT.drop b).map V.int)) (Same.refl H6) hp1
        have hp1v : upd H6 p1 (.lst ((TT.drop b).map V.int)) p1 = some (.lst ((TT.drop b).map V.int)) := upd_same
        generalize upd H6 p1 (.lst ((TT.drop b).map V.int)) = H7 at e7 hp1v ⊢
        walk_at "go"
        refine r_slL (SqL.of (e7 _ _ hT6)) fun p2 hp2 => ?_
        rw [cut_hi]
        have e8 := same_upd (o := .lst ((TT.take b).map V.int)) (Same.refl H7) hp2
        have hp2v : upd H7 p2 (.lst ((TT.take b).map V.int)) p2 = some (.lst ((TT.take b).map V.int)) := upd_same
        generalize upd H7 p2 (.lst ((TT.take b).map V.int)) = H8 at e8 hp2v ⊢
        have hrl := rot_len TT b (by omega)
        refine ⟨p1, p2, _, _, rfl, rfl, e8 _ _ hp1v, hp2v, Nat.le_trans (show _ ≤ 100 by simp; omega) (by decide), fun p3 hp3 => ?_⟩
        rw [← List.map_append]
        have e9 := same_upd (o := .lst ((TT.drop b ++ TT.take b).map V.int)) (Same.refl H8) hp3
        have hp3v : upd H8 p3 (.lst ((TT.drop b ++ TT.take b).map V.int)) p3 = some (.lst ((rotF TT b).map V.int)) := upd_same
        generalize upd H8 p3 (.lst ((TT.drop b ++ TT.take b).map V.int)) = H9 at e9 hp3v ⊢
        have e69 := e7.trans (e8.trans e9)
        walk_at "go"
        refine r_ixL (SqL.of ((e.trans e69) _ _ hN)) (atI_nat (j := 10) (nu_at hN150 (by omega))) ?_
        walk_at "go"
        refine r_I (by decide) ?_
        have b2 := mod_bd (nu N 10) (m := 2) (by decide)
        walk_at "go"
        obtain ⟨m, hm⟩ : ∃ m : Nat, m = (1 + nu N 10 % 2).toNat := ⟨_, rfl⟩
        have hm1 : 1 ≤ m := by omega
        have hm2 : m ≤ 2 := by omega
        have hmR : m * (rotF TT b).length ≤ 8 := by
          rw [hrl]
          have := Nat.mul_le_mul hm2 (show TT.length ≤ 4 by omega)
          omega
        refine ⟨p3, _, _, rfl, rfl, hp3v, by omega, by omega, ?_, fun p4 hp4 => ?_⟩
        · rw [List.length_map, ← hm, Nat.mul_comm]
          exact Nat.le_trans hmR (by decide)
        rw [← hm, rep_map]
        have e10 := same_upd (o := .lst (((List.replicate m (rotF TT b)).flatten).map V.int)) (Same.refl H9) hp4
        have hp4v : upd H9 p4 (.lst (((List.replicate m (rotF TT b)).flatten).map V.int)) p4 = some (.lst (((List.replicate m (rotF TT b)).flatten).map V.int)) := upd_same
        generalize upd H9 p4 (.lst (((List.replicate m (rotF TT b)).flatten).map V.int)) = H10 at e10 hp4v ⊢
        have hrep := rep_len m (rotF TT b)
        walk_at "go"
        refine ⟨p4, _, rfl, .inl (SqL.of hp4v), ?_⟩
        rw [List.length_map, hrep]
        refine ⟨_, rfl, by omega, by omega, ?_⟩
        rw [Int.toNat_natCast]
        have e610 := e69.trans e10
        have xbd : ∀ k : Nat, 0 ≤ nu N (11 + k % 8) % 5 / 3 ∧ nu N (11 + k % 8) % 5 / 3 ≤ 1 := fun k => by
          have := mod_bd (nu N (11 + k % 8)) (m := 5) (by decide)
          omega
        refine fun Ds hDs => lc_R (fun j H6 => Same H10 H6 ∧ H6 Ds = some (.lst (((List.range j).map fun k => ((List.replicate m (rotF TT b)).flatten).getD k 0 + nu N (11 + k % 8) % 5 / 3).map V.int))) ⟨same_upd (Same.refl _) hDs, upd_same⟩ ?_ ?_
        · rintro j H11 hj ⟨e11, hu⟩
          walk_at "go"
          refine ⟨rfl, ?_⟩
          walk_at "go"
          rw [Int.zero_add]
          refine r_ixL (SqL.of (e11 _ _ hp4v)) (atI_nat (ints_at (by omega))) ?_
          walk_at "go"
          refine r_I (by decide) ?_
          walk_at "go"
          rw [show (11 : Int) + (j : Int) % 8 = ((11 + j % 8 : Nat) : Int) by omega]
          refine r_ixL (SqL.of ((e.trans (e610.trans e11)) _ _ hN)) (atI_nat (nu_at hN150 (by omega))) ?_
          walk_at "go"
          refine r_I (by decide) ?_
          walk_at "go"
          refine r_I ⟨by decide, by decide⟩ ?_
          walk_at "go"
          refine ⟨_, hu, Nat.lt_of_lt_of_le (show _ < 100 by simp; omega) (by decide), same_mut e11 hDs, ?_⟩
          rw [snoc_map (fun k => ((List.replicate m (rotF TT b)).flatten).getD k 0 + nu N (11 + k % 8) % 5 / 3)]
          exact upd_same
        · rintro H11 ⟨e11, hS⟩
          rw [hrl] at hS
          have hS' : H11 Ds = some (.lst ((secF TT b m fun k => nu N (11 + k % 8) % 5 / 3).map V.int)) := hS
          have hdom := sec_dom (T := TT) (x := fun k => nu N (11 + k % 8) % 5 / 3) hb (show 0 < m by omega) (fun k => (xbd k).1)
          have hSb := sec_bd (T := TT) (m := m) (x := fun k => nu N (11 + k % 8) % 5 / 3) hb hTb xbd
          have hSl : (secF TT b m fun k => nu N (11 + k % 8) % 5 / 3).length = m * TT.length := by simp [secF]
          generalize (secF TT b m fun k => nu N (11 + k % 8) % 5 / 3) = SS at hS' hdom hSb hSl
          clear hS
          rw [hrl] at hmR
          have hml : 1 ≤ m * TT.length := Nat.mul_pos hm1 (by omega)
          have e611 := e610.trans e11
          have hd1 := e611 _ _ hd1
          have hd2 := e611 _ _ hd2
          have hTN := hTN.up e611
          have hDN := hDN.up e611
          have hT := e611 _ _ hT6
          have e := e.trans e611
          walk_at "go"
          refine r_listQ (Sq.lst hS') fun q1 hq1 => ?_
          have e12 := same_upd (o := .lst (SS.map V.int)) (Same.refl H11) hq1
          have hq1v : upd H11 q1 (.lst (SS.map V.int)) q1 = some (.lst (SS.map V.int)) := upd_same
          generalize upd H11 q1 (.lst (SS.map V.int)) = H12 at e12 hq1v ⊢
          walk_at "go"
          refine r_listQ (Sq.lst (e12 _ _ hT)) fun q2 hq2 => ?_
          have e13 := same_upd (o := .lst (TT.map V.int)) (Same.refl H12) hq2
          have hq2v : upd H12 q2 (.lst (TT.map V.int)) q2 = some (.lst (TT.map V.int)) := upd_same
          generalize upd H12 q2 (.lst (TT.map V.int)) = H13 at e13 hq2v ⊢
          walk_at "go"
          refine ⟨q1, q2, SS, TT, rfl, Sq.lst (e13 _ _ hq1v), Sq.lst hq2v, ⟨by omega, by omega, by omega, by omega⟩, fun n => least_dom (b := b) (by omega) hdom n, fun H14 e14' => ?_⟩
          walk_at "go"
          refine r_ite (fun c => by simp at c) (fun _ => ?_)
          have e1114 := (e12.trans e13).trans e14'
          have hl3 : (List.map (tkF N) (List.range (knF N 0))).length ≤ 3 := by simp; omega
          have hnd := nmT_nodup q3.2 kb.2
          have hTb' : ∀ y ∈ TT, 0 ≤ y ∧ y ≤ 1000 := fun y hy => by have := hTb y hy; omega
          walk_at "go"
          refine ⟨D1, Dt, tvs, _, _, TT, rfl, ⟨e1114 _ _ hd1, hTN.up e1114, hnd, hl3⟩, ⟨e1114 _ _ hT, by omega, by omega, hTb'⟩, fun H15 x e15 hx => ?_⟩
          have e1115 := e1114.trans e15
          walk_at "go"
          refine ⟨D1, Ds, tvs, _, _, SS, rfl, ⟨e1115 _ _ hd1, hTN.up e1115, hnd, hl3⟩, ⟨e1115 _ _ hS', by omega, by omega, hSb⟩, fun H16 y e16 hy => ?_⟩
          have e1116 := e1115.trans e16
          have e16' := e.trans e1116
          have hstep : Never (List.map (tkF N) (List.range (knF N 0))) TT → y ≠ "late" := fun hN z => by
            subst z
            rcases hy with h | ⟨h, _⟩ | ⟨_, h⟩
            · revert h; decide +kernel
            · revert h; decide +kernel
            · exact h (never_dom hN hdom)
          walk_at "go"
          rw [told_odd hx]
          walk_at "go"
          rw [told_odd hy]
          walk_at "go"
          refine r_ite (fun c1 => ?_) (fun c1 => ?_)
          · walk_at "go"
            rw [str_dec]
            refine r_ite (fun c2 => ?_) (fun c2 => ?_)
            · walk_at "go"
              rw [str_dec]
              have hxU : x = "undecided" := by
                rcases hx with h | ⟨_, h⟩ | ⟨h, _⟩
                · exact h
                · exact absurd (of_decide_eq_true c2) (hstep h)
                · rw [h, decide_eq_true rfl] at c1
                  cases c1
              rw [decide_eq_true hxU]
              exact qf _ (e1.trans e16')
            · walk_at "go"
              rw [str_dec]
              refine r_ite (fun c3 => ?_) (fun _ => ?_)
              · have hxN : x = "never" := of_decide_eq_true c3
                have hN : Never (List.map (tkF N) (List.range (knF N 0))) TT := by
                  rcases hx with h | ⟨_, h⟩ | ⟨h, _⟩
                  · exact absurd (h.symm.trans hxN) str_un
                  · exact h
                  · exact absurd (h.symm.trans hxN) str_ln
                walk_at "go"
                rw [str_dec, decide_eq_false (hstep hN)]
                walk_at "go"
                refine ⟨D2, dvs, _, css, rfl, e1116 _ _ hd2, hl3, (hDN.up e1116).at, fun H17 jp bs e17 hjp hjb hjI hperm hlen hpw => ?_⟩
                walk_at "go"
                refine ⟨jp, Ds, bs, SS, rfl, hjp, hjb, hjI, hlen, fun bb hbb => ?_, (e1116.trans e17) _ _ hS', by omega, jobs_ok hDN.l2 (allOk N _) hleg (never_dom hN hdom) (fun z hz => (hSb z hz).1) hperm hpw, fun H18 e18 => ?_⟩
                · have hm : jN bb.2 ∈ allJ (List.map (tkF N) (List.range (knF N 0))) css := hperm.mem_iff.mp (List.mem_map_of_mem (f := fun b : JR => jN b.2) hbb)
                  exact (allJ_mem _ _ (allOk N _) (fun i t c a b r hr => ⟨legal_all (hleg i t c a b).1 r hr, (hleg i t c a b).2 r hr⟩) _ hm).2.2
                · walk_at "go"
                  exact qf _ (e1.trans ((e16'.trans e17).trans e18))
              · walk_at "go"
                exact qf _ (e1.trans e16')
          · walk_at "go"
            rw [str_dec]
            refine r_ite (fun c3 => ?_) (fun _ => ?_)
            · have hxN : x = "never" := of_decide_eq_true c3
              have hN : Never (List.map (tkF N) (List.range (knF N 0))) TT := by
                rcases hx with h | ⟨_, h⟩ | ⟨h, _⟩
                · exact absurd (h.symm.trans hxN) str_un
                · exact h
                · exact absurd (h.symm.trans hxN) str_ln
              walk_at "go"
              rw [str_dec, decide_eq_false (hstep hN)]
              walk_at "go"
              refine ⟨D2, dvs, _, css, rfl, e1116 _ _ hd2, hl3, (hDN.up e1116).at, fun H17 jp bs e17 hjp hjb hjI hperm hlen hpw => ?_⟩
              walk_at "go"
              refine ⟨jp, Ds, bs, SS, rfl, hjp, hjb, hjI, hlen, fun bb hbb => ?_, (e1116.trans e17) _ _ hS', by omega, jobs_ok hDN.l2 (allOk N _) hleg (never_dom hN hdom) (fun z hz => (hSb z hz).1) hperm hpw, fun H18 e18 => ?_⟩
              · have hm : jN bb.2 ∈ allJ (List.map (tkF N) (List.range (knF N 0))) css := hperm.mem_iff.mp (List.mem_map_of_mem (f := fun b : JR => jN b.2) hbb)
                exact (allJ_mem _ _ (allOk N _) (fun i t c a b r hr => ⟨legal_all (hleg i t c a b).1 r hr, (hleg i t c a b).2 r hr⟩) _ hm).2.2
              · walk_at "go"
                exact qf _ (e1.trans ((e16'.trans e17).trans e18))
            · walk_at "go"
              exact qf _ (e1.trans e16')
end
end NL
end
-- part Z4
section
set_option Elab.async false
set_option linter.all false
set_option maxRecDepth 100000
set_option maxHeartbeats 4000000
namespace NL
open PySem PySem.Spec PyProof.Rows L2
open He (ga ma eqO ba eqO_ok)
theorem all_at {α : Type} {l : List α} {p : α → Bool} (h : l.all p = true) {i : Nat} {x : α} (e : l[i]? = some x) : p x = true := List.all_eq_true.mp h x (List.mem_of_getElem? e)
theorem tx_of {K : PySem.W.Frag} {h : Heap} {mg : Str → Option Value} (X : K.In h) (G : h.Ns mainGlobals mg) (c : obsZ K = valZ) : Tx K mg := by
  have c1 : facts K = true := congrArg Prod.fst c
  have c2 : (fnZ K (iU K) :: fns.map fun d => fnZ K (d.at_ K)) = valU :: fns.map Df.val := congrArg Prod.snd c
  have c3 : (fns.map fun d => fnZ K (d.at_ K)) = fns.map Df.val := (List.cons.inj c2).2
  unfold facts at c1
  obtain ⟨_, c1⟩ := ba c1
  obtain ⟨fa, c1⟩ := ba c1
  obtain ⟨fb, c1⟩ := ba c1
  obtain ⟨fc, c1⟩ := ba c1
  obtain ⟨fd, c1⟩ := ba c1
  obtain ⟨fe, c1⟩ := ba c1
  obtain ⟨ff, c1⟩ := ba c1
  obtain ⟨fg, c1⟩ := ba c1
  obtain ⟨fh, c1⟩ := ba c1
  obtain ⟨fi, c1⟩ := ba c1
  obtain ⟨fj, c1⟩ := ba c1
  obtain ⟨fk, fl⟩ := ba c1
  have cl : ∀ {i : Nat} {x : Str}, ([("Task" : Str), "System", "Miss"])[i]? = some x → (He.Fa.cls x).ok K = true ∧ (He.Fa.mkr x).ok K = true := fun e => ba (all_at fh e)
  refine ⟨fun {i x} e => ?_, fun {i x} e => He.glo_ok X G (all_at fb e), fun {i x} e => He.free_ok X G (all_at fc e), fun {i p} e => He.int_ok X G (all_at fd e), He.str_ok X G fe, PySem.W.mg_of X G (eqO_ok ff), PySem.W.mg_of X G (eqO_ok fg),
    He.cls_ok (cl (i := 0) rfl).1, He.cls_ok (cl (i := 1) rfl).1, He.cls_ok (cl (i := 2) rfl).1, He.mkr_ok (cl (i := 0) rfl).2, He.mkr_ok (cl (i := 1) rfl).2, He.mkr_ok (cl (i := 2) rfl).2,
    He.meth_ok (all_at fi (i := 0) rfl), He.meth_ok (all_at fi (i := 1) rfl), He.meth_ok (all_at fi (i := 2) rfl), He.meth_ok (all_at fi (i := 3) rfl),
    He.noat_ok (all_at fj (i := 0) rfl), He.noat_ok (all_at fj (i := 1) rfl), He.noat_ok (all_at fj (i := 2) rfl), He.noat_ok (all_at fj (i := 3) rfl), He.noat_ok (all_at fj (i := 4) rfl), He.noat_ok (all_at fj (i := 5) rfl), He.noat_ok (all_at fj (i := 6) rfl), He.noat_ok (all_at fj (i := 7) rfl),
    propB_ok fk, propB_ok fl⟩
  have e2 : (fns.map fun d => fnZ K (d.at_ K))[i]? = (fns.map Df.val)[i]? := by rw [c3]
  rw [List.getElem?_map, List.getElem?_map, e] at e2
  exact Df.funD (Option.some.inj e2) (all_at fa e)
/-! ### Undecided -/
theorem clsUB_ok {K : PySem.W.Frag} (h : clsUB K = true) : ∃ nm q N bs bm sn sub ab col dd k0 k1 k2 k3 k5, K.lookup (aU K) = some (excClassObj nm q (aU K) N bs bm true sn sub ab col dd k0 k1 k2 k3 k5 "ValueError.__new__") ∧ PySem.HandSPX.refsVE bm = true := by
  unfold clsUB at h
  cases e : K.lookup (aU K) with
  | none => rw [e] at h; cases h
  | some o =>
    obtain ⟨oc, od, dt, sl⟩ := o
    rw [e] at h
    cases dt with
    | cls cd =>
      obtain ⟨nm, bs, mro, N, q, hd, sn, sub, ab, col, del⟩ := cd
      obtain ⟨h1, g2⟩ := ba h
      obtain ⟨h2, g3⟩ := ba g2
      obtain ⟨h3, g4⟩ := ba g3
      obtain ⟨h4, h5⟩ := ba g4
      have e1 : oc = .type "type" := of_decide_eq_true h1
      subst e1
      have e3 : hd = true := h3
      subst e3
      have e4 : del = false := by
        have h4' : (!del) = true := h4
        cases del with
        | false => rfl
        | true => cases h4'
      subst e4
      obtain ⟨sl⟩ := sl
      match mro, h2, sl, h5 with
      | .ref C' :: bm, h2, [k0, k1, k2, k3, some v, k5], h5 =>
        obtain ⟨h6, h7⟩ := ba (show (decide (C' = aU K) && PySem.HandSPX.refsVE bm) = true from h2)
        have e6 : C' = aU K := of_decide_eq_true h6
        have e7 : v = .builtin "ValueError.__new__" := of_decide_eq_true h5
        subst e7
        subst e6
        exact ⟨nm, q, N, bs, bm, sn, sub, ab, col, od, k0, k1, k2, k3, k5, rfl, h7⟩
    | _ => cases h
theorem fnU_ok {K : PySem.W.Frag} (e : fnZ K (iU K) = valU) (c : fnUB K = true) : ∃ (oc : Value) (od : Option Addr) (kV doc pm : Value) (an : Option Addr) (cda cc : Addr) (ct : Value) (osl : Array (Option Value)) (ccl cl : Value) (cdd cld : Option Addr) (vs : Array Value) (ccs csl : Array (Option Value)) (file : Str) (tf : Tok),
    K.lookup (iU K) = some ⟨oc, od, .func (PySem.W.ksFn "__init__" "Undecided.__init__" (L2.defArgs s_U_init) (L2.defBody s_U_init) (L2.defScope s_U_init) .none kV doc pm an (.ref cda) ct cc), osl⟩ ∧ PySem.W.codeIn K (.ref cda) "Undecided.__init__" = true ∧
    K.lookup cda = some ⟨ccl, cdd, .fields vs, ccs⟩ ∧ vs[2]? = some (.str file tf) ∧ (fileZ == file) = true ∧ K.lookup cc = some ⟨cl, cld, .cell (some (.ref (aU K))), csl⟩ := by
  unfold fnZ at e
  unfold fnUB at c
  cases q : K.lookup (iU K) with
  | none =>
    rw [q] at c
    cases c
  | some o =>
    obtain ⟨oc, od, dt, osl⟩ := o
    rw [q] at c e
    cases dt with
    | func fd =>
      obtain ⟨n1, n2, n3, n4, n5, n6, n7, n8, n9, n10, n11, n12, n13, n14, n15⟩ := fd
      have e2 : (some (n1, n2, n3, n4, n5, n6, n7.map (·.1), n15) : FnZ) = valU := e
      unfold valU at e2
      simp only [Option.some.injEq, Prod.mk.injEq] at e2
      obtain ⟨h1, h2, h3, h4, h5, h6, h7, h8⟩ := e2
      subst h1 h2 h3 h4 h5 h6 h8
      have c3 : (cellUB K n7 && (isNone n8 && codeUB K n13)) = true := c
      obtain ⟨k1, k2⟩ := ba c3
      obtain ⟨k2, k3⟩ := ba k2
      have k4 : n8 = .none := by
        cases n8 with
        | none => rfl
        | _ => cases k2
      subst k4
      match n7, h7, k1 with
      | [(y, cc)], h7, k1 =>
        have ey : y = ("__class__" : Str) := by
          have : [y] = [("__class__" : Str)] := h7
          exact (List.cons.inj this).1
        subst ey
        unfold cellUB at k1
        cases q2 : K.lookup cc with
        | none => simp only [q2] at k1; cases k1
        | some o2 =>
          obtain ⟨cl, cld, dt2, csl⟩ := o2
          simp only [q2] at k1
          cases dt2 with
          | cell w =>
            cases w with
            | none => cases k1
            | some v =>
              have ev : v = .ref (aU K) := of_decide_eq_true k1
              subst ev
              cases n13 with
              | ref cda =>
                unfold codeUB at k3
                obtain ⟨k5, k6⟩ := ba k3
                cases q3 : K.lookup cda with
                | none => simp only [q3] at k6; cases k6
                | some o3 =>
                  obtain ⟨ccl, cdd, dt3, ccs⟩ := o3
                  simp only [q3] at k6
                  cases dt3 with
                  | fields vs =>
                    simp only at k6
                    cases q4 : vs[2]? with
                    | none => simp only [q4] at k6; cases k6
                    | some z =>
                      simp only [q4] at k6
                      cases z with
                      | str f tf =>
                        have ef : f = fileZ := of_decide_eq_true k6
                        subst ef
                        exact ⟨_, _, _, _, _, _, cda, cc, _, _, _, _, _, _, vs, _, _, fileZ, tf, rfl, k5, q3, q4, beq_self_eq_true _, q2⟩
                      | _ => cases k6
                  | _ => cases k6
              | _ => cases k3
          | _ => cases k1
    | _ => cases c
theorem utx_of {K : PySem.W.Frag} {h : Heap} {mg : Str → Option Value} (X : K.In h) (G : h.Ns mainGlobals mg) (c : obsZ K = valZ) {P : Program} (hf : (P.main.file : Str) = fileZ) (ht : (P.main.scope.names.lookup ("super" : Str)).isSome = false) : UTx P K mg := by
  have T := tx_of X G c
  have c1 : facts K = true := congrArg Prod.fst c
  have c2 : (fnZ K (iU K) :: fns.map fun d => fnZ K (d.at_ K)) = valU :: fns.map Df.val := congrArg Prod.snd c
  have c3 : fnZ K (iU K) = valU := (List.cons.inj c2).1
  unfold facts at c1
  obtain ⟨u, _⟩ := ba c1
  unfold undB at u
  obtain ⟨u1, u⟩ := ba u
  obtain ⟨u2, u⟩ := ba u
  obtain ⟨u3, u⟩ := ba u
  obtain ⟨u4, u⟩ := ba u
  obtain ⟨u5, u⟩ := ba u
  obtain ⟨u6, u⟩ := ba u
  obtain ⟨u7, u⟩ := ba u
  obtain ⟨u8, u⟩ := ba u
  obtain ⟨u9, u⟩ := ba u
  obtain ⟨u10, u⟩ := ba u
  obtain ⟨u11, u⟩ := ba u
  obtain ⟨u12, u⟩ := ba u
  obtain ⟨u13, u⟩ := ba u
  obtain ⟨u14, u⟩ := ba u
  obtain ⟨u15, u⟩ := ba u
  obtain ⟨u16, u17⟩ := ba u
  have hfn := fnU_ok c3 u2
  rw [← hf] at hfn
  exact { gC := T.g (i := 6) (x := "Undecided") rfl, sup := T.fr (i := 13) (x := "super") rfl, cls := clsUB_ok u1, sa := eqO_ok u3, ga := eqO_ok u4, gg := eqO_ok u5, noN := eqO_ok u6, iC := eqO_ok u7, tC := of_decide_eq_true u8, kC := u9, exC := of_decide_eq_true u10, tyC := of_decide_eq_true u11, hdC := u12, te := of_decide_eq_true u13, opq := eqO_ok u14, supI := eqO_ok u15, subV := of_decide_eq_true u16, mroC := of_decide_eq_true u17, htop := ht, fn := hfn }
end NL
end
-- part Z5
section
set_option Elab.async false
set_option linter.all false
set_option maxRecDepth 100000
set_option maxHeartbeats 0
open PySem PySem.W PySem.Calls PyProof.Rows
theorem PySem.Challenge.cw_neverlate_k84_whole_dominating_tables_ke_holds : PySem.Challenge.rw_neverlate_k84_whole_dominating_tables_ke.Holds := by
  w_on; o_law
  refine HandSHeadRun.head_imp (r := NL.RR) (q := NL.qv) (H := NL.hookZ 8) (ob := NL.obZ) (M := 6000) (loose := NL.names) (d := HandSHeadRun.topDef NL.RR.prog 82) (kwd := []) NL.obZ_eq
    NL.run (by kernel_rfl) (by kernel_rfl) (by kernel_rfl) (by rfl) (by first | assumption | decide +kernel) (by decide +kernel) ⟨rfl, rfl, rfl, rfl, rfl, by decide +kernel⟩ ?hw ?hc
  case hw => w_witness2
  case hc =>
    refine L2.walk_ofE (l := PySem.Challenge.rw_neverlate_k84_whole_dominating_tables_ke) (n := 63) (k := 15) (x := "_law_script") (CX := L2.CX0) rfl (by decide) (by kernel_rfl) ⟨rfl, by decide, by decide⟩ ?F (fun _ _ _ _ z => z)
    intro w mg fa h Y G hmg0
    obtain ⟨K, KX, c⟩ := Y
    have hmg : mg ("law" : PySem.Str) = some (.ref fa) := by
      have e : (HandSHeadRun.topDef NL.RR.prog 82).name = ("law" : PySem.Str) := by kernel_rfl
      rw [← e]
      exact hmg0
    have T := NL.tx_of KX G c
    have U : NL.UTx (PySem.Challenge.rw_neverlate_k84_whole_dominating_tables_ke).prog K mg := NL.utx_of KX G c rfl (by kernel_rfl)
    obtain ⟨fd, F⟩ := T.f_law
    have e := hmg.symm.trans T.g_law
    cases e
    have b := L2.FunD.bindsA (ps := ["_law_script"]) F fun _ _ _ _ _ _ us hl => match us, hl with | [_], _ => rfl
    exact ⟨K, fd, NL.sp_law K, KX, fun s v => b s [v] rfl, fun H a ns hl _ hS => ⟨a, ns, rfl, hS, fun _ _ => rfl⟩, fun base _ _ => NL.ok_law T U F⟩
end
