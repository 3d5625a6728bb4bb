import PyProof.Rows.All
import HandS.HeadHook4
import HandS.HeadWalk
import HandS.Head0
import HandS.Head1
import HandS.Head2
import KE.KStateDown
import PySem.Challenge.RW_translatory_k50_whole_through_counters_b
import HandS.ForMost
import HandS.Defaults
import HandS.Codes
import HandS.TryOnly
import HandS.IsInst
import HandS.AnyAll
import HandS.TupMul
import HandS.TupAny
import HandS.NoneIn
import HandS.Zip
import PyProof.EnumMake
import HandS.Conv
import KE.GoesNew
import KE.KTupSum
import HandS.OwnEq
import HandS.DictTup
import KE.KDictSum
import HandS.Style
import HandS.Walk
set_option Elab.async false
set_option linter.all false
set_option maxRecDepth 100000
set_option maxHeartbeats 0
namespace K5
open PySem PySem.Spec PyProof.Rows L2
def top (i : Nat) : Stmt := PySem.Challenge.pw_translatory_k50_whole_through_counters_b.main.body.getD i (.Pass ⟨0, 0, 0, 0⟩)
def inClass (t : Stmt) (j : Nat) : Stmt := match t with
  | .ClassDef _ _ _ b _ _ _ _ _ _ _ => b.getD j (.Pass ⟨0, 0, 0, 0⟩)
  | _ => .Pass ⟨0, 0, 0, 0⟩
def fn0 : List He.DefD := [⟨("Chain", some "__init__"), "__init__", "Chain.__init__", defArgs (inClass (top 11) 0), defBody (inClass (top 11) 0), defScope (inClass (top 11) 0), [], [("limit", .int 100000)]⟩, ⟨("Chain", some "picture"), "picture", "Chain.picture", defArgs (inClass (top 11) 1), defBody (inClass (top 11) 1), defScope (inClass (top 11) 1), [], []⟩, ⟨("Chain", some "read_back"), "read_back", "Chain.read_back", defArgs (inClass (top 11) 2), defBody (inClass (top 11) 2), defScope (inClass (top 11) 2), [], []⟩, ⟨("Chain", some "cost"), "cost", "Chain.cost", defArgs (inClass (top 11) 3), defBody (inClass (top 11) 3), defScope (inClass (top 11) 3), [], []⟩, ⟨("Chain", some "last_steps"), "last_steps", "Chain.last_steps", defArgs (inClass (top 11) 4), defBody (inClass (top 11) 4), defScope (inClass (top 11) 4), [], []⟩, ⟨("Chain", some "moved_on"), "moved_on", "Chain.moved_on", defArgs (inClass (top 11) 5), defBody (inClass (top 11) 5), defScope (inClass (top 11) 5), [], []⟩, ⟨("Chain", some "steps_from"), "steps_from", "Chain.steps_from", defArgs (inClass (top 11) 6), defBody (inClass (top 11) 6), defScope (inClass (top 11) 6), [], []⟩, ⟨("Turing", some "__init__"), "__init__", "Turing.__init__", defArgs (inClass (top 17) 0), defBody (inClass (top 17) 0), defScope (inClass (top 17) 0), [], []⟩]
def fn1 : List He.DefD := [⟨("Turing", some "__eq__"), "__eq__", "Turing.__eq__", defArgs (inClass (top 17) 1), defBody (inClass (top 17) 1), defScope (inClass (top 17) 1), [], []⟩, ⟨("Turing", some "rule"), "rule", "Turing.rule", defArgs (inClass (top 17) 2), defBody (inClass (top 17) 2), defScope (inClass (top 17) 2), [], []⟩, ⟨("Registers", some "__init__"), "__init__", "Registers.__init__", defArgs (inClass (top 30) 0), defBody (inClass (top 30) 0), defScope (inClass (top 30) 0), [], []⟩, ⟨("Registers", some "__eq__"), "__eq__", "Registers.__eq__", defArgs (inClass (top 30) 1), defBody (inClass (top 30) 1), defScope (inClass (top 30) 1), [], []⟩, ⟨("Registers", some "step"), "step", "Registers.step", defArgs (inClass (top 30) 2), defBody (inClass (top 30) 2), defScope (inClass (top 30) 2), [], []⟩, ⟨("Writer", some "__init__"), "__init__", "Writer.__init__", defArgs (inClass (top 31) 0), defBody (inClass (top 31) 0), defScope (inClass (top 31) 0), [], []⟩, ⟨("Writer", some "mark"), "mark", "Writer.mark", defArgs (inClass (top 31) 1), defBody (inClass (top 31) 1), defScope (inClass (top 31) 1), [], []⟩, ⟨("Writer", some "inc"), "inc", "Writer.inc", defArgs (inClass (top 31) 2), defBody (inClass (top 31) 2), defScope (inClass (top 31) 2), [], []⟩]
def fn2 : List He.DefD := [⟨("Writer", some "dec"), "dec", "Writer.dec", defArgs (inClass (top 31) 3), defBody (inClass (top 31) 3), defScope (inClass (top 31) 3), [], []⟩, ⟨("Writer", some "end"), "end", "Writer.end", defArgs (inClass (top 31) 4), defBody (inClass (top 31) 4), defScope (inClass (top 31) 4), [], []⟩, ⟨("Writer", some "add"), "add", "Writer.add", defArgs (inClass (top 31) 5), defBody (inClass (top 31) 5), defScope (inClass (top 31) 5), [], []⟩, ⟨("Writer", some "move"), "move", "Writer.move", defArgs (inClass (top 31) 6), defBody (inClass (top 31) 6), defScope (inClass (top 31) 6), [], []⟩, ⟨("Writer", some "place"), "place", "Writer.place", defArgs (inClass (top 31) 7), defBody (inClass (top 31) 7), defScope (inClass (top 31) 7), [], []⟩, ⟨("Writer", some "program"), "program", "Writer.program", defArgs (inClass (top 31) 8), defBody (inClass (top 31) 8), defScope (inClass (top 31) 8), [], []⟩, ⟨("CountersToTuring", some "__init__"), "__init__", "CountersToTuring.__init__", defArgs (inClass (top 39) 0), defBody (inClass (top 39) 0), defScope (inClass (top 39) 0), [], []⟩, ⟨("CountersToTuring", some "new_states"), "new_states", "CountersToTuring.new_states", defArgs (inClass (top 39) 1), defBody (inClass (top 39) 1), defScope (inClass (top 39) 1), [], []⟩]
def fn3 : List He.DefD := [⟨("CountersToTuring", some "growing"), "growing", "CountersToTuring.growing", defArgs (inClass (top 39) 2), defBody (inClass (top 39) 2), defScope (inClass (top 39) 2), [], []⟩, ⟨("CountersToTuring", some "shrinking"), "shrinking", "CountersToTuring.shrinking", defArgs (inClass (top 39) 3), defBody (inClass (top 39) 3), defScope (inClass (top 39) 3), [], []⟩, ⟨("CountersToTuring", some "picture"), "picture", "CountersToTuring.picture", defArgs (inClass (top 39) 4), defBody (inClass (top 39) 4), defScope (inClass (top 39) 4), [], []⟩, ⟨("CountersToTuring", some "read_back"), "read_back", "CountersToTuring.read_back", defArgs (inClass (top 39) 5), defBody (inClass (top 39) 5), defScope (inClass (top 39) 5), [], []⟩, ⟨("CountersToTuring", some "cost"), "cost", "CountersToTuring.cost", defArgs (inClass (top 39) 6), defBody (inClass (top 39) 6), defScope (inClass (top 39) 6), [], []⟩, ⟨("CountersToTuring", some "last_steps"), "last_steps", "CountersToTuring.last_steps", defArgs (inClass (top 39) 7), defBody (inClass (top 39) 7), defScope (inClass (top 39) 7), [], []⟩, ⟨("TuringToRegisters", some "__init__"), "__init__", "TuringToRegisters.__init__", defArgs (inClass (top 79) 0), defBody (inClass (top 79) 0), defScope (inClass (top 79) 0), [], []⟩, ⟨("TuringToRegisters", some "write_pair"), "write_pair", "TuringToRegisters.write_pair", defArgs (inClass (top 79) 1), defBody (inClass (top 79) 1), defScope (inClass (top 79) 1), [], []⟩]
def fn4 : List He.DefD := [⟨("TuringToRegisters", some "write_push"), "write_push", "TuringToRegisters.write_push", defArgs (inClass (top 79) 2), defBody (inClass (top 79) 2), defScope (inClass (top 79) 2), [], []⟩, ⟨("TuringToRegisters", some "write_pop"), "write_pop", "TuringToRegisters.write_pop", defArgs (inClass (top 79) 3), defBody (inClass (top 79) 3), defScope (inClass (top 79) 3), [], []⟩, ⟨("TuringToRegisters", some "picture"), "picture", "TuringToRegisters.picture", defArgs (inClass (top 79) 4), defBody (inClass (top 79) 4), defScope (inClass (top 79) 4), [], []⟩, ⟨("TuringToRegisters", some "read_back"), "read_back", "TuringToRegisters.read_back", defArgs (inClass (top 79) 5), defBody (inClass (top 79) 5), defScope (inClass (top 79) 5), [], []⟩, ⟨("TuringToRegisters", some "cost"), "cost", "TuringToRegisters.cost", defArgs (inClass (top 79) 6), defBody (inClass (top 79) 6), defScope (inClass (top 79) 6), [], []⟩, ⟨("TuringToRegisters", some "last_steps"), "last_steps", "TuringToRegisters.last_steps", defArgs (inClass (top 79) 7), defBody (inClass (top 79) 7), defScope (inClass (top 79) 7), [], []⟩, ⟨("RegistersToCounters", some "__init__"), "__init__", "RegistersToCounters.__init__", defArgs (inClass (top 83) 0), defBody (inClass (top 83) 0), defScope (inClass (top 83) 0), [], []⟩, ⟨("RegistersToCounters", some "write_instruction"), "write_instruction", "RegistersToCounters.write_instruction", defArgs (inClass (top 83) 1), defBody (inClass (top 83) 1), defScope (inClass (top 83) 1), [], []⟩]
def fn5 : List He.DefD := [⟨("RegistersToCounters", some "write_division"), "write_division", "RegistersToCounters.write_division", defArgs (inClass (top 83) 2), defBody (inClass (top 83) 2), defScope (inClass (top 83) 2), [], []⟩, ⟨("RegistersToCounters", some "picture"), "picture", "RegistersToCounters.picture", defArgs (inClass (top 83) 3), defBody (inClass (top 83) 3), defScope (inClass (top 83) 3), [], []⟩, ⟨("RegistersToCounters", some "read_back"), "read_back", "RegistersToCounters.read_back", defArgs (inClass (top 83) 4), defBody (inClass (top 83) 4), defScope (inClass (top 83) 4), [], []⟩, ⟨("RegistersToCounters", some "cost"), "cost", "RegistersToCounters.cost", defArgs (inClass (top 83) 5), defBody (inClass (top 83) 5), defScope (inClass (top 83) 5), [], []⟩, ⟨("RegistersToCounters", some "last_steps"), "last_steps", "RegistersToCounters.last_steps", defArgs (inClass (top 83) 6), defBody (inClass (top 83) 6), defScope (inClass (top 83) 6), [], []⟩, ⟨("number_of", none), "number_of", "number_of", defArgs (top 21), defBody (top 21), defScope (top 21), [], []⟩, ⟨("symbols_of", none), "symbols_of", "symbols_of", defArgs (top 22), defBody (top 22), defScope (top 22), [], []⟩, ⟨("check_picture", none), "check_picture", "check_picture", defArgs (top 34), defBody (top 34), defScope (top 34), [], []⟩]
def fn6 : List He.DefD := [⟨("primes", none), "primes", "primes", defArgs (top 44), defBody (top 44), defScope (top 44), [], []⟩, ⟨("is_prime_beside", none), "is_prime_beside", "is_prime_beside", defArgs (top 45), defBody (top 45), defScope (top 45), [], []⟩, ⟨("power", none), "power", "power", defArgs (top 46), defBody (top 46), defScope (top 46), [], []⟩, ⟨("product_of", none), "product_of", "product_of", defArgs (top 47), defBody (top 47), defScope (top 47), [], []⟩, ⟨("exponent", none), "exponent", "exponent", defArgs (top 48), defBody (top 48), defScope (top 48), [], []⟩, ⟨("_law_cell", none), "_law_cell", "_law_cell", defArgs (top 128), defBody (top 128), defScope (top 128), [], []⟩, ⟨("_law_draws", none), "_law_draws", "_law_draws", defArgs (top 129), defBody (top 129), defScope (top 129), [], []⟩, ⟨("_law_like", none), "_law_like", "_law_like", defArgs (top 130), defBody (top 130), defScope (top 130), [], []⟩]
def fn7 : List He.DefD := [⟨("_law_strip", none), "_law_strip", "_law_strip", defArgs (top 131), defBody (top 131), defScope (top 131), [], []⟩, ⟨("_law_rules", none), "_law_rules", "_law_rules", defArgs (top 132), defBody (top 132), defScope (top 132), [], []⟩, ⟨("_law_turing_step", none), "_law_turing_step", "_law_turing_step", defArgs (top 133), defBody (top 133), defScope (top 133), [], []⟩, ⟨("_law_table", none), "_law_table", "_law_table", defArgs (top 134), defBody (top 134), defScope (top 134), [], []⟩, ⟨("_law_runner", none), "_law_runner", "_law_runner", defArgs (top 140), defBody (top 140), defScope (top 140), [], []⟩, ⟨("_law_go", none), "_law_go", "_law_go", defArgs (top 141), defBody (top 141), defScope (top 141), [], []⟩, ⟨("_law_many", none), "_law_many", "_law_many", defArgs (top 142), defBody (top 142), defScope (top 142), [], []⟩, ⟨("_law_follows", none), "_law_follows", "_law_follows", defArgs (top 143), defBody (top 143), defScope (top 143), [], []⟩]
def fn8 : List He.DefD := [⟨("_law_is_count", none), "_law_is_count", "_law_is_count", defArgs (top 144), defBody (top 144), defScope (top 144), [], []⟩, ⟨("_law_drawn_turing", none), "_law_drawn_turing", "_law_drawn_turing", defArgs (top 145), defBody (top 145), defScope (top 145), [], []⟩, ⟨("_law_fits", none), "_law_fits", "_law_fits", defArgs (top 146), defBody (top 146), defScope (top 146), [], []⟩, ⟨("law", none), "law", "law", defArgs (top 147), defBody (top 147), defScope (top 147), [], []⟩]
def fn : List He.DefD := fn0 ++ (fn1 ++ (fn2 ++ (fn3 ++ (fn4 ++ (fn5 ++ (fn6 ++ (fn7 ++ (fn8))))))))
def fa0 : List He.Fa := [.glo "number_of", .glo "symbols_of", .glo "check_picture", .glo "primes", .glo "is_prime_beside", .glo "power", .glo "product_of", .glo "exponent", .glo "_law_cell", .glo "_law_draws", .glo "_law_like", .glo "_law_strip", .glo "_law_rules", .glo "_law_turing_step", .glo "_law_table", .glo "_law_runner", .glo "_law_go", .glo "_law_many", .glo "_law_follows", .glo "_law_is_count", .glo "_law_drawn_turing", .glo "_law_fits", .glo "law", .glo "Chain"]
def fa1 : List He.Fa := [.glo "Turing", .glo "Registers", .glo "Writer", .glo "CountersToTuring", .glo "TuringToRegisters", .glo "RegistersToCounters", .glo "Strings", .glo "NotFitting", .int "MOST_STATES_turing" 20000, .int "MOST_SYMBOLS_turing" 400, .int "MOST_REGISTERS_registers" 2000, .int "MOST_INSTRUCTIONS_registers" 100000, .int "MOST_PICTURE" 100000, .int "MOST_INSTRUCTIONS_countertapes" 3000, .int "MARK" 1, .int "MIDDLE" 2, .int "MOST_STATES_tapenumbers" 100, .int "MOST_SYMBOLS_tapenumbers" 8, .int "LEFT_tapenumbers" 0, .int "RIGHT_tapenumbers" 1, .int "HELPER" 2, .int "MOST_REGISTERS_twocounters" 8, .int "MOST_INSTRUCTIONS_twocounters" 400, .free "len"]
def fa2 : List He.Fa := [.free "range", .free "abs", .free "int", .free "isinstance", .free "tuple", .free "list", .free "sum", .free "zip", .free "enumerate", .free "sorted", .free "all", .free "any", .free "bool", .free "str", .cls "Chain", .mkr "Chain", .noat "Chain" "translations", .noat "Chain" "limit", .noat "Chain" "source", .noat "Chain" "target", .meth "Chain" "picture", .meth "Chain" "read_back", .meth "Chain" "cost", .meth "Chain" "last_steps"]
def fa3 : List He.Fa := [.meth "Chain" "moved_on", .meth "Chain" "steps_from", .cls "Turing", .mkr "Turing", .noat "Turing" "states", .noat "Turing" "symbols", .noat "Turing" "table", .noat "Turing" "rules", .meth "Turing" "__eq__", .meth "Turing" "rule", .cls "Registers", .mkr "Registers", .noat "Registers" "count", .noat "Registers" "instructions", .meth "Registers" "__eq__", .meth "Registers" "step", .cls "Writer", .mkr "Writer", .noat "Writer" "instructions", .noat "Writer" "places", .meth "Writer" "mark", .meth "Writer" "inc", .meth "Writer" "dec", .meth "Writer" "end"]
def fa4 : List He.Fa := [.meth "Writer" "add", .meth "Writer" "move", .meth "Writer" "place", .meth "Writer" "program", .cls "CountersToTuring", .mkr "CountersToTuring", .noat "CountersToTuring" "source", .noat "CountersToTuring" "states", .noat "CountersToTuring" "target", .meth "CountersToTuring" "new_states", .meth "CountersToTuring" "growing", .meth "CountersToTuring" "shrinking", .meth "CountersToTuring" "picture", .meth "CountersToTuring" "read_back", .meth "CountersToTuring" "cost", .meth "CountersToTuring" "last_steps", .cls "TuringToRegisters", .mkr "TuringToRegisters", .noat "TuringToRegisters" "source", .noat "TuringToRegisters" "places", .noat "TuringToRegisters" "pairs", .noat "TuringToRegisters" "target", .meth "TuringToRegisters" "write_pair", .meth "TuringToRegisters" "write_push"]
def fa5 : List He.Fa := [.meth "TuringToRegisters" "write_pop", .meth "TuringToRegisters" "picture", .meth "TuringToRegisters" "read_back", .meth "TuringToRegisters" "cost", .meth "TuringToRegisters" "last_steps", .cls "RegistersToCounters", .mkr "RegistersToCounters", .noat "RegistersToCounters" "source", .noat "RegistersToCounters" "primes", .noat "RegistersToCounters" "places", .noat "RegistersToCounters" "target", .meth "RegistersToCounters" "write_instruction", .meth "RegistersToCounters" "write_division", .meth "RegistersToCounters" "picture", .meth "RegistersToCounters" "read_back", .meth "RegistersToCounters" "cost", .meth "RegistersToCounters" "last_steps"]
def fa : List He.Fa := fa0 ++ (fa1 ++ (fa2 ++ (fa3 ++ (fa4 ++ (fa5)))))
def names0 : List PySem.Str := ["_wall", "TranslatoryError", "InvalidMachine", "TooLong", "TooLarge", "NotFitting", "MOST_RULES", "Strings", "Chain", "BLANK", "MOST_STATES_turing", "MOST_SYMBOLS_turing", "stripped", "Turing", "moved", "start", "content", "number_of", "symbols_of", "MOST_STATES_binarytapes", "MOST_SYMBOLS_binarytapes", "TuringToBinary", "MOST_REGISTERS_registers", "MOST_INSTRUCTIONS_registers", "Registers", "Writer", "MOST_PICTURE", "check_picture"]
def names1 : List PySem.Str := ["MOST_INSTRUCTIONS_countertapes", "MARK", "MIDDLE", "CountersToTuring", "MOST_FRACTIONS_fractions", "common_divisor", "Fractions", "primes", "is_prime_beside", "power", "product_of", "exponent", "MOST_REGISTERS_fractionrun", "MOST_INSTRUCTIONS_fractionrun", "MOST_FRACTIONS_fractionrun", "MOST_NUMBER", "MOST_PRIMES", "RegistersToFractions", "prime_factors", "own_primes", "FractionsToRegisters", "MOST_STATES_stringtapes", "MOST_SYMBOLS_stringtapes", "TuringToStrings", "MOST_SYMBOLS_tags", "Tags", "MOST_STATES_tagtapes", "MOST_TAGS"]
def names2 : List PySem.Str := ["MOST_LETTERS", "FILLER", "TuringToTags", "TagsToTuring", "MOST_STATES_tapenumbers", "MOST_SYMBOLS_tapenumbers", "LEFT_tapenumbers", "RIGHT_tapenumbers", "HELPER", "TuringToRegisters", "MOST_REGISTERS_twocounters", "MOST_INSTRUCTIONS_twocounters", "RegistersToCounters", "MOST_STATES_universal", "NOTHING", "OPEN", "CLOSE", "ROW", "ACTIVE", "UNIT", "MARKED", "ZERO", "ONE", "LEFT_universal", "STAY", "RIGHT_universal", "COMMA", "MISSING"]
def names3 : List PySem.Str := ["SIGNS", "MOVES", "Builder", "write_reading", "write_writing", "write_choosing", "write_moving", "universal", "ToUniversal", "LETTERS", "NEEDED", "MOST_SIZE", "check_size", "spine", "applied", "used", "next_step", "advance", "rebuilt", "Combinators", "replaced", "SKK", "WithoutI", "unfolded", "folded", "_law_cell", "_law_draws", "_law_like"]
def names4 : List PySem.Str := ["_law_strip", "_law_rules", "_law_turing_step", "_law_table", "_law_registers_step", "_law_fractions_step", "_law_tags_step", "_law_strings_step", "_law_term_step", "_law_runner", "_law_go", "_law_many", "_law_follows", "_law_is_count", "_law_drawn_turing", "_law_fits"]
def names : List PySem.Str := names0 ++ (names1 ++ (names2 ++ (names3 ++ (names4))))
def roots0 : List PySem.Str := ["number_of", "symbols_of", "check_picture", "primes", "is_prime_beside", "power", "product_of", "exponent", "_law_cell", "_law_draws", "_law_like", "_law_strip", "_law_rules", "_law_turing_step", "_law_table", "_law_runner", "_law_go", "_law_many", "_law_follows", "_law_is_count", "_law_drawn_turing", "_law_fits", "law", "Chain", "Turing", "Registers", "Writer", "CountersToTuring"]
def roots1 : List PySem.Str := ["TuringToRegisters", "RegistersToCounters", "Strings", "NotFitting"]
def roots : List PySem.Str := roots0 ++ (roots1)
def isiB (K : PySem.W.Frag) (x : Str) : Bool := He.eqO (PySem.W.findIn K (.ref (He.ga K x)) "__class__") (some (some (.builtin "object.__class__"))) && (decide (PySem.W.mroIn K (He.ga K x) (.type "object") = some true))
def kitTo (K : PySem.W.Frag) (x y : Str) (b : Bool) : Bool := decide (PySem.W.kitOne K (.ref (He.ga K x)) (.ref (He.ga K y)) = some b)
def neB (K : PySem.W.Frag) : Bool := He.eqO (PySem.W.findIn K (.ref (He.ga K "Registers")) "__ne__") (some (some (.builtin "object.__ne__")))
def baseB (K : PySem.W.Frag) : Bool := He.eqO (PySem.W.specialIn K (.builtin "object.__class__") "__get__") (some (some (.builtin "getset_descriptor.__get__"))) && decide (PySem.W.takesIn K (.builtin "object.__class__") = some true)
def more (K : PySem.W.Frag) : Bool := isiB K "Turing" && (isiB K "Registers" && (kitTo K "Turing" "Turing" true && (kitTo K "Registers" "Registers" true && (kitTo K "Registers" "Strings" false && (kitTo K "Turing" "Strings" false && (neB K && baseB K))))))
abbrev tf : List He.Defn := [("Registers", some "__init__"), ("Chain", some "__init__")]
/-- what the needed names reach -/
def stepA (g : Addr → Option Obj) (as : List Addr) : List Addr := as.flatMap fun a => match g a with
  | some o => He.refsD o
  | none => []
def asW (g : Addr → Option Obj) : List Addr :=
  let r0 := roots.map (He.ga (He.frG g [mainGlobals]))
  let r1 := stepA g r0
  let r2 := stepA g r1
  let r3 := stepA g r2
  let r4 := stepA g r3
  mainGlobals :: (r0 ++ (r1 ++ (r2 ++ (r3 ++ r4))))
def frW (g : Addr → Option Obj) : PySem.W.Frag := He.frT g (asW g)
def obsW (g : Addr → Option Obj) : He.AlX := (He.obsT fa fn [] (frW g), more (frW g) && He.tabsB g tf (frW g))
end K5
namespace K5
open PySem PySem.Spec PyProof.Rows L2
theorem saysW_of {w : World} {h : Heap} (e : obsW h.get? = He.valX fn [] w) : He.SaysX fa fn [] tf more w h (frW h.get?) := by
  have z1 : He.obsT fa fn [] (frW h.get?) = He.valT fn [] w := congrArg (fun z : He.AlX => z.1) e
  have z2 : (more (frW h.get?) && He.tabsB h.get? tf (frW h.get?)) = true := congrArg (fun z : He.AlX => z.2) e
  obtain ⟨h1, h2⟩ := He.ba z2
  have known : ∀ q ∈ tf, PySem.W.codeHdIn (frW h.get?) (He.cT (frW h.get?) q).1 (He.cT (frW h.get?) q).2 = true ∧ ∃ u, h.get? (He.cT (frW h.get?) q).2 = some u ∧ He.emptyTab u = true := fun q hq => by
    obtain ⟨h3, h4⟩ := He.ba (List.all_eq_true.mp h2 q hq)
    refine ⟨h3, ?_⟩
    cases z : h.get? (He.cT (frW h.get?) q).2 with
    | none => rw [z] at h4; cases h4
    | some u => rw [z] at h4; exact ⟨u, rfl, h4⟩
  refine ⟨z1, h1, fun q hq => (known q hq).1, fun q hq => ?_, fun q hq => ?_⟩
  · obtain ⟨_, u, z, t⟩ := known q hq
    exact He.frT_none z t
  · obtain ⟨_, u, z, t⟩ := known q hq
    rw [z, He.emptyTab_eq t]
def hookW : PySem.W.Hook where
  α := He.AlX
  obs := fun s => obsW s.heap.get?
  val := fun v => He.valX fn [] v
  says := fun v h => ∃ K : PySem.W.Frag, K.In h ∧ He.SaysX fa fn [] tf more v h K
  of := fun _ _ z => ⟨_, He.frT_in, saysW_of z⟩
  keeps := fun _ _ _ ⟨K, hK, z⟩ k => ⟨K, PySem.W.Frag.In.keeps hK k, ⟨z.t, z.more, z.hd, z.out, fun q hq => k _ _ (z.empty q hq)⟩⟩
abbrev RW : PySem.W.OpenRow := PySem.W.OpenLaw.row PySem.Challenge.rw_translatory_k50_whole_through_counters_b
abbrev qvW : Program := PySem.W.view RW.prog [147]
def obW (s : PySem.W.SharedT) : He.AlX := obsW (HandSHeadRun.getT s)
theorem obW_eq (s : PySem.W.SharedT) : obW s = hookW.obs s.abs := by
  have z : HandSHeadRun.getT s = s.abs.heap.get? := funext (HandSHeadRun.getT_eq s)
  show obsW (HandSHeadRun.getT s) = obsW s.abs.heap.get?
  rw [z]
def fnA : List He.DefD := fn0
def fnM : List He.DefD := fn1 ++ fn2
def fnB : List He.DefD := fn3 ++ (fn4 ++ (fn5 ++ (fn6 ++ (fn7 ++ fn8))))
theorem fn_split : fn = fnA ++ (fnM ++ fnB) := rfl
theorem run_join {v : World} {o : Option PySem.W.SharedT} {A : PySem.W.SharedT → Bool} {β : Type} {G : PySem.W.SharedT → β} {b : β} (p1 : o.map G = some b)
    (p0 : o.map (fun s => (A s, (fnA.all fun d => d.ok (frW (HandSHeadRun.getT s))), fnA.map fun d => He.fnW (frW (HandSHeadRun.getT s)) d.at_)) = some (true, true, fnA.map He.DefD.val))
    (p2 : o.map (fun s => ((fa.all fun f => f.ok (frW (HandSHeadRun.getT s))), more (frW (HandSHeadRun.getT s)) && He.tabsB (HandSHeadRun.getT s) tf (frW (HandSHeadRun.getT s)), (fnM.all fun d => d.ok (frW (HandSHeadRun.getT s))), fnM.map fun d => He.fnW (frW (HandSHeadRun.getT s)) d.at_)) = some (true, true, true, fnM.map He.DefD.val))
    (p3 : o.map (fun s => ((fnB.all fun d => d.ok (frW (HandSHeadRun.getT s))), fnB.map fun d => He.fnW (frW (HandSHeadRun.getT s)) d.at_)) = some (true, fnB.map He.DefD.val)) : o.map (fun s => (A s, G s, obW s)) = some (true, b, hookW.val v) := by
  obtain ⟨s, rfl, q3⟩ := Option.map_eq_some_iff.mp p1
  obtain ⟨q2, q0⟩ := Prod.mk.inj (Option.some.inj p0)
  obtain ⟨qa, qb⟩ := Prod.mk.inj q0
  obtain ⟨q4, q8⟩ := Prod.mk.inj (Option.some.inj p2)
  obtain ⟨q5, q9⟩ := Prod.mk.inj q8
  obtain ⟨qc, qd⟩ := Prod.mk.inj q9
  obtain ⟨q6, q7⟩ := Prod.mk.inj (Option.some.inj p3)
  show some (A s, G s, obW s) = _
  rw [q2, q3]
  refine congrArg (fun z => some (true, b, z)) ?_
  show ((((fa.all fun f => f.ok (frW (HandSHeadRun.getT s))) && (fn.all fun d => d.ok (frW (HandSHeadRun.getT s))), fn.map fun d => He.fnW (frW (HandSHeadRun.getT s)) d.at_), []), more (frW (HandSHeadRun.getT s)) && He.tabsB (HandSHeadRun.getT s) tf (frW (HandSHeadRun.getT s))) = (((true, fn.map He.DefD.val), []), true)
  rw [fn_split, List.all_append, List.all_append, List.map_append, List.map_append, List.map_append, List.map_append, qa, qb, qc, qd, q4, q5, q6, q7]
  rfl
noncomputable abbrev runO (v : World) (k : Bool) (os : OsState) : Option PySem.W.SharedT := HandSHeadRun.endF (HandSHeadRun.stepQ (HandSHeadRun.denQ HandSHeadRun.tabQ) RW.prog (v.withFollow "special-get-raises" k)) 30000 RW.prog (v.withFollow "special-get-raises" k) os
end K5
namespace K5
open PySem PySem.W PySem.Calls PyProof.Rows
theorem bareW : RW.prog.bare := ⟨rfl, rfl, rfl, rfl, rfl, by decide +kernel⟩
theorem okW : (chainsOk qvW && opensWell RW.prog && (frees RW.toRowW && RW.within.isEmpty)) = true := by decide +kernel
theorem promW : RW.toRowW.promised := by w_witness2
theorem holdsW (h : RW.wellSaid = true → RW.Holds) : PySem.Challenge.rw_translatory_k50_whole_through_counters_b.Holds := by
  w_on; o_law
  exact h (by assumption)
end K5
namespace K5
open PySem PySem.W PySem.Calls PyProof.Rows
theorem run02 (v : World) (os : OsState) : (runO v false os).map (fun s => ((fa.all fun f => f.ok (frW (HandSHeadRun.getT s))), more (frW (HandSHeadRun.getT s)) && He.tabsB (HandSHeadRun.getT s) tf (frW (HandSHeadRun.getT s)), (fnM.all fun d => d.ok (frW (HandSHeadRun.getT s))), fnM.map fun d => He.fnW (frW (HandSHeadRun.getT s)) d.at_)) = some (true, true, true, fnM.map He.DefD.val) := by
  kernel_rfl
theorem run03 (v : World) (os : OsState) : (runO v false os).map (fun s => ((fnB.all fun d => d.ok (frW (HandSHeadRun.getT s))), fnB.map fun d => He.fnW (frW (HandSHeadRun.getT s)) d.at_)) = some (true, fnB.map He.DefD.val) := by
  kernel_rfl
theorem run01 (v : World) (os : OsState) : (runO v false os).map (fun s => HandSHeadRun.seenQ qvW names (importedModules RW.prog.main.body) (fun s => xlAt qvW [] s && recOk RW.toRowW.records s) s.abs) = some (openGood qvW names) := by
  kernel_rfl
theorem run00 (v : World) (os : OsState) : (runO v false os).map (fun s => (HandSHeadRun.looksF RW.prog (boot_heap (v.withFollow "special-get-raises" false).params) s.abs, (fnA.all fun d => d.ok (frW (HandSHeadRun.getT s))), fnA.map fun d => He.fnW (frW (HandSHeadRun.getT s)) d.at_)) = some (true, true, fnA.map He.DefD.val) := by
  kernel_rfl
theorem run12 (v : World) (os : OsState) : (runO v true os).map (fun s => ((fa.all fun f => f.ok (frW (HandSHeadRun.getT s))), more (frW (HandSHeadRun.getT s)) && He.tabsB (HandSHeadRun.getT s) tf (frW (HandSHeadRun.getT s)), (fnM.all fun d => d.ok (frW (HandSHeadRun.getT s))), fnM.map fun d => He.fnW (frW (HandSHeadRun.getT s)) d.at_)) = some (true, true, true, fnM.map He.DefD.val) := by
  kernel_rfl
theorem run13 (v : World) (os : OsState) : (runO v true os).map (fun s => ((fnB.all fun d => d.ok (frW (HandSHeadRun.getT s))), fnB.map fun d => He.fnW (frW (HandSHeadRun.getT s)) d.at_)) = some (true, fnB.map He.DefD.val) := by
  kernel_rfl
theorem run11 (v : World) (os : OsState) : (runO v true os).map (fun s => HandSHeadRun.seenQ qvW names (importedModules RW.prog.main.body) (fun s => xlAt qvW [] s && recOk RW.toRowW.records s) s.abs) = some (openGood qvW names) := by
  kernel_rfl
theorem run10 (v : World) (os : OsState) : (runO v true os).map (fun s => (HandSHeadRun.looksF RW.prog (boot_heap (v.withFollow "special-get-raises" true).params) s.abs, (fnA.all fun d => d.ok (frW (HandSHeadRun.getT s))), fnA.map fun d => He.fnW (frW (HandSHeadRun.getT s)) d.at_)) = some (true, true, fnA.map He.DefD.val) := by
  kernel_rfl
theorem runW (w : World) : HandSHeadRun.RunEq RW qvW hookW obW 30000 names w := PySem.W.byRow2 "special-get-raises" (P := fun v => HandSHeadRun.RunEq RW qvW hookW obW 30000 names v)
  (fun v os => run_join (v := v.withFollow "special-get-raises" false) (A := fun s => HandSHeadRun.looksF RW.prog (boot_heap (v.withFollow "special-get-raises" false).params) s.abs) (G := fun s => HandSHeadRun.seenQ qvW names (importedModules RW.prog.main.body) (fun s => xlAt qvW [] s && recOk RW.toRowW.records s) s.abs) (run01 v os) (run00 v os) (run02 v os) (run03 v os))
  (fun v os => run_join (v := v.withFollow "special-get-raises" true) (A := fun s => HandSHeadRun.looksF RW.prog (boot_heap (v.withFollow "special-get-raises" true).params) s.abs) (G := fun s => HandSHeadRun.seenQ qvW names (importedModules RW.prog.main.body) (fun s => xlAt qvW [] s && recOk RW.toRowW.records s) s.abs) (run11 v os) (run10 v os) (run12 v os) (run13 v os)) w
end K5
namespace K5
open PySem PySem.Spec PyProof.Rows L2
/-- data: what a Python value is, down to its leaves; ref a: the object at a, whatever it is -/
inductive D where
  | non | bl (b : Bool) | int (i : Int) | str (x : Str) | ref (a : Addr) | tup (ds : List D) | lst (ds : List D)
mutual
def Dat (H : Hp) : D → V → Prop
  | .non, v => v = .non
  | .bl b, v => v = .bl b
  | .int i, v => v = .int i
  | .str x, v => v = .str x
  | .ref a, v => v = .ref a
  | .tup ds, v => ∃ a xs, v = .ref a ∧ H a = some (.tup xs) ∧ DatL H ds xs
  | .lst ds, v => ∃ a xs, v = .ref a ∧ H a = some (.lst xs) ∧ DatL H ds xs
def DatL (H : Hp) : List D → List V → Prop
  | [], xs => xs = []
  | d :: ds, xs => ∃ x r, xs = x :: r ∧ Dat H d x ∧ DatL H ds r
end
mutual
/-- no list in it -/
def noL : D → Bool
  | .lst _ => false
  | .tup ds => noLs ds
  | .non => true
  | .bl _ => true
  | .int _ => true
  | .str _ => true
  | .ref _ => true
def noLs : List D → Bool
  | [] => true
  | d :: ds => noL d && noLs ds
end
def SameT (H H' : Hp) : Prop := ∀ a xs, H a = some (.tup xs) → H' a = some (.tup xs)
def isTb : HO → Bool
  | .tbl _ => true
  | _ => false
/-- what stood stands; the tables of code objects may have grown -/
structure Sx (H H' : Hp) : Prop where
  k : ∀ a o, isTb o = false → H a = some o → H' a = some o
  t : ∀ p, GxR.TabG H p → GxR.TabG H' p
  n : ∀ p, H p ≠ none → H' p ≠ none
theorem Sx.refl (H : Hp) : Sx H H := ⟨fun _ _ _ e => e, fun _ e => e, fun _ e => e⟩
theorem Sx.trans {H H1 H2 : Hp} (a : Sx H H1) (b : Sx H1 H2) : Sx H H2 := ⟨fun c o i e => b.k c o i (a.k c o i e), fun p e => b.t p (a.t p e), fun p e => b.n p (a.n p e)⟩
theorem Sx.tt {H H' : Hp} (h : Sx H H') : SameT H H' := fun a xs e => h.k a _ rfl e
theorem SameT.refl (H : Hp) : SameT H H := fun _ _ e => e
theorem SameT.trans {H H1 H2 : Hp} (a : SameT H H1) (b : SameT H1 H2) : SameT H H2 := fun c xs e => b c xs (a c xs e)
theorem tabG_upd {H : Hp} {p q : Addr} {o : HO} (h : H p = none) (g : GxR.TabG H q) : GxR.TabG (upd H p o) q := by
  obtain ⟨ps, e, r⟩ := g
  exact ⟨ps, by rw [upd_ne (ne_of_none e h)]; exact e, r⟩
theorem Sx.new {H : Hp} {p : Addr} {o : HO} (h : H p = none) : Sx H (upd H p o) := ⟨fun a u _ e => by
  rw [upd_ne (ne_of_none e h)]
  exact e, fun q g => tabG_upd h g, fun q e => by
  by_cases hq : q = p
  · rw [hq, upd_same]
    simp
  · rw [upd_ne hq]
    exact e⟩
theorem Sx.free {H H' : Hp} (s : Sx H H') {p : Addr} (h : H' p = none) : H p = none := by
  cases q : H p with
  | none => rfl
  | some o =>
    cases hb : isTb o with
    | false =>
      rw [s.k p o hb q] at h
      cases h
    | true =>
      cases o with
      | tbl ps => exact absurd h (s.n p (by rw [q]; simp))
      | _ => cases hb
mutual
theorem Dat.mono {H H' : Hp} (s : Sx H H') : ∀ (d : D) (v : V), Dat H d v → Dat H' d v
  | .non, _, h => h
  | .bl _, _, h => h
  | .int _, _, h => h
  | .str _, _, h => h
  | .ref _, _, h => h
  | .tup ds, _, h => by
    obtain ⟨a, xs, e, h1, h2⟩ := h
    exact ⟨a, xs, e, s.k _ _ rfl h1, DatL.mono s ds xs h2⟩
  | .lst ds, _, h => by
    obtain ⟨a, xs, e, h1, h2⟩ := h
    exact ⟨a, xs, e, s.k _ _ rfl h1, DatL.mono s ds xs h2⟩
theorem DatL.mono {H H' : Hp} (s : Sx H H') : ∀ (ds : List D) (xs : List V), DatL H ds xs → DatL H' ds xs
  | [], _, h => h
  | d :: ds, _, h => by
    obtain ⟨x, r, e, h1, h2⟩ := h
    exact ⟨x, r, e, Dat.mono s d x h1, DatL.mono s ds r h2⟩
end
mutual
theorem Dat.monoT {H H' : Hp} (s : SameT H H') : ∀ (d : D) (v : V), noL d = true → Dat H d v → Dat H' d v
  | .non, _, _, h => h
  | .bl _, _, _, h => h
  | .int _, _, _, h => h
  | .str _, _, _, h => h
  | .ref _, _, _, h => h
  | .tup ds, _, n, h => by
    obtain ⟨a, xs, e, h1, h2⟩ := h
    exact ⟨a, xs, e, s _ _ h1, DatL.monoT s ds xs n h2⟩
  | .lst ds, _, n, h => by cases n
theorem DatL.monoT {H H' : Hp} (s : SameT H H') : ∀ (ds : List D) (xs : List V), noLs ds = true → DatL H ds xs → DatL H' ds xs
  | [], _, _, h => h
  | d :: ds, _, n, h => by
    obtain ⟨x, r, e, h1, h2⟩ := h
    have n2 : (noL d && noLs ds) = true := n
    obtain ⟨n3, n4⟩ := Bool.and_eq_true_iff.mp n2
    exact ⟨x, r, e, Dat.monoT s d x n3 h1, DatL.monoT s ds r n4 h2⟩
end
theorem DatL.length {H : Hp} : ∀ {ds : List D} {xs : List V}, DatL H ds xs → ds.length = xs.length
  | [], _, h => by rw [show _ = [] from h]; rfl
  | d :: ds, _, h => by
    obtain ⟨x, r, e, h1, h2⟩ := h
    rw [e, List.length_cons, List.length_cons, DatL.length h2]
theorem DatL.get {H : Hp} : ∀ {ds : List D} {xs : List V} {i : Nat} {d : D}, DatL H ds xs → ds[i]? = some d → ∃ x, xs[i]? = some x ∧ Dat H d x
  | [], _, i, d, _, e => by simp at e
  | d0 :: ds, _, 0, d, h, e => by
    obtain ⟨x, r, e1, h1, h2⟩ := h
    simp at e
    subst e e1
    exact ⟨x, rfl, h1⟩
  | d0 :: ds, _, i + 1, d, h, e => by
    obtain ⟨x, r, e1, h1, h2⟩ := h
    subst e1
    obtain ⟨y, q1, q2⟩ := DatL.get (i := i) (d := d) h2 (by simpa using e)
    exact ⟨y, by simpa using q1, q2⟩
theorem DatL.get' {H : Hp} : ∀ {ds : List D} {xs : List V} {i : Nat} {x : V}, DatL H ds xs → xs[i]? = some x → ∃ d, ds[i]? = some d ∧ Dat H d x
  | [], _, i, d, h, e => by
    rw [show _ = [] from h] at e
    simp at e
  | d0 :: ds, _, 0, d, h, e => by
    obtain ⟨x, r, e1, h1, h2⟩ := h
    subst e1
    simp at e
    subst e
    exact ⟨d0, rfl, h1⟩
  | d0 :: ds, _, i + 1, d, h, e => by
    obtain ⟨x, r, e1, h1, h2⟩ := h
    subst e1
    obtain ⟨y, q1, q2⟩ := DatL.get' (i := i) (x := d) h2 (by simpa using e)
    exact ⟨y, by simpa using q1, q2⟩
theorem DatL.nil {H : Hp} : DatL H [] [] := rfl
theorem DatL.cons {H : Hp} {d : D} {ds : List D} {x : V} {xs : List V} (h : Dat H d x) (t : DatL H ds xs) : DatL H (d :: ds) (x :: xs) := ⟨x, xs, rfl, h, t⟩
theorem DatL.append {H : Hp} : ∀ {ds es : List D} {xs ys : List V}, DatL H ds xs → DatL H es ys → DatL H (ds ++ es) (xs ++ ys)
  | [], _, _, _, h, t => by
    rw [show _ = [] from h]
    exact t
  | d :: ds, _, _, _, h, t => by
    obtain ⟨x, r, e, h1, h2⟩ := h
    subst e
    exact ⟨x, _, rfl, h1, DatL.append h2 t⟩
theorem DatL.drop {H : Hp} : ∀ {ds : List D} {xs : List V} (n : Nat), DatL H ds xs → DatL H (ds.drop n) (xs.drop n)
  | _, _, 0, h => h
  | [], _, n + 1, h => by
    rw [show _ = [] from h]
    rfl
  | d :: ds, _, n + 1, h => by
    obtain ⟨x, r, e, h1, h2⟩ := h
    subst e
    exact DatL.drop n h2
theorem DatL.take {H : Hp} : ∀ {ds : List D} {xs : List V} (n : Nat), DatL H ds xs → DatL H (ds.take n) (xs.take n)
  | _, _, 0, h => rfl
  | [], _, n + 1, h => by
    rw [show _ = [] from h]
    rfl
  | d :: ds, _, n + 1, h => by
    obtain ⟨x, r, e, h1, h2⟩ := h
    subst e
    exact ⟨x, _, rfl, h1, DatL.take n h2⟩
theorem DatL.reverse {H : Hp} : ∀ {ds : List D} {xs : List V}, DatL H ds xs → DatL H ds.reverse xs.reverse
  | [], _, h => by
    rw [show _ = [] from h]
    rfl
  | d :: ds, _, h => by
    obtain ⟨x, r, e, h1, h2⟩ := h
    subst e
    (rw [List.reverse_cons, List.reverse_cons])
    exact DatL.append (DatL.reverse h2) (DatL.cons h1 DatL.nil)
theorem DatL.ints {H : Hp} : ∀ {ns : List Int} {xs : List V}, DatL H (ns.map D.int) xs → xs = ns.map V.int
  | [], _, h => h
  | n :: ns, _, h => by
    obtain ⟨x, r, e, h1, h2⟩ := h
    rw [e, show x = V.int n from h1, DatL.ints h2]
    rfl
theorem DatL.ofInts {H : Hp} : ∀ {ns : List Int}, DatL H (ns.map D.int) (ns.map V.int)
  | [] => rfl
  | n :: ns => ⟨_, _, rfl, rfl, DatL.ofInts⟩
theorem DatL.one {H : Hp} {d : D} {xs : List V} (h : DatL H [d] xs) : ∃ x, xs = [x] ∧ Dat H d x := by
  obtain ⟨x, r, e, h1, h2⟩ := h
  rw [show r = [] from h2] at e
  exact ⟨x, e, h1⟩
theorem DatL.two {H : Hp} {d d' : D} {xs : List V} (h : DatL H [d, d'] xs) : ∃ x y, xs = [x, y] ∧ Dat H d x ∧ Dat H d' y := by
  obtain ⟨x, r, e, h1, h2⟩ := h
  obtain ⟨y, e2, h3⟩ := DatL.one h2
  rw [e2] at e
  exact ⟨x, y, e, h1, h3⟩
theorem DatL.rep {H : Hp} {d : D} {x : V} (h : Dat H d x) : ∀ n : Nat, DatL H (List.replicate n d) (List.replicate n x)
  | 0 => rfl
  | n + 1 => ⟨x, _, rfl, h, DatL.rep h n⟩
abbrev Rho := List (Option D)
def Rep (H : Hp) (σ : L2.St) (ρ : Rho) : Prop := σ.length = ρ.length ∧ ∀ (i : Nat) (d : D), ρ[i]? = some (some d) → ∃ v, σ[i]? = some (some v) ∧ Dat H d v
theorem Rep.mono {H H' : Hp} {σ : L2.St} {ρ : Rho} (r : Rep H σ ρ) (s : Sx H H') : Rep H' σ ρ := ⟨r.1, fun i d e => by
  obtain ⟨v, q1, q2⟩ := r.2 i d e
  exact ⟨v, q1, Dat.mono s d v q2⟩⟩
/-- no slot holds a list by its items -/
def Plain (ρ : Rho) : Prop := ∀ (i : Nat) d, ρ[i]? = some (some d) → noL d = true
theorem Rep.monoT {H H' : Hp} {σ : L2.St} {ρ : Rho} (r : Rep H σ ρ) (n : Plain ρ) (s : SameT H H') : Rep H' σ ρ := ⟨r.1, fun i d e => by
  obtain ⟨v, q1, q2⟩ := r.2 i d e
  exact ⟨v, q1, Dat.monoT s d v (n i d e) q2⟩⟩
theorem Plain.nil : Plain [] := fun i d e => by simp at e
theorem Plain.cons {d : D} {ρ : Rho} (h : noL d = true) (t : Plain ρ) : Plain (some d :: ρ) := fun i e q => by
  cases i with
  | zero =>
    simp at q
    subst q
    exact h
  | succ i => exact t i e (by simpa using q)
theorem Plain.skip {ρ : Rho} (t : Plain ρ) : Plain (none :: ρ) := fun i e q => by
  cases i with
  | zero => simp at q
  | succ i => exact t i e (by simpa using q)
theorem Rep.set {H : Hp} {σ : L2.St} {ρ : Rho} (r : Rep H σ ρ) (i : Nat) {d : D} {v : V} (h : Dat H d v) : Rep H (σ.set i (some v)) (ρ.set i (some d)) := by
  refine ⟨by rw [List.length_set, List.length_set, r.1], fun j e q => ?_⟩
  rw [List.getElem?_set] at q
  by_cases hj : i = j
  · subst hj
    rw [if_pos rfl] at q
    by_cases hl : i < ρ.length
    · rw [if_pos hl] at q
      have q2 : d = e := by simpa using q
      subst q2
      exact ⟨v, by rw [List.getElem?_set, if_pos rfl, if_pos (by rw [r.1]; exact hl)], h⟩
    · rw [if_neg hl] at q
      cases q
  · rw [if_neg hj] at q
    obtain ⟨u, q1, q2⟩ := r.2 j e q
    exact ⟨u, by rw [List.getElem?_set, if_neg hj]; exact q1, q2⟩
/-- knowing less -/
inductive Wk : Rho → Rho → Prop
  | nil : Wk [] []
  | same {o : Option D} {a b : Rho} : Wk a b → Wk (o :: a) (o :: b)
  | drop {o : Option D} {a b : Rho} : Wk a b → Wk (o :: a) (none :: b)
theorem Wk.refl : ∀ ρ : Rho, Wk ρ ρ
  | [] => .nil
  | _ :: r => .same (Wk.refl r)
theorem Wk.length {a b : Rho} (w : Wk a b) : a.length = b.length := by
  induction w with
  | nil => rfl
  | same _ ih => simp [ih]
  | drop _ ih => simp [ih]
theorem Wk.get {a b : Rho} (w : Wk a b) : ∀ {i : Nat} {d : D}, b[i]? = some (some d) → a[i]? = some (some d) := by
  induction w with
  | nil => intro i d e; simp at e
  | same _ ih =>
    intro i d e
    cases i with
    | zero => exact e
    | succ i => exact ih (i := i) (by simpa using e)
  | drop _ ih =>
    intro i d e
    cases i with
    | zero => simp at e
    | succ i => exact ih (i := i) (by simpa using e)
theorem Rep.weak {H : Hp} {σ : L2.St} {ρ ρ' : Rho} (r : Rep H σ ρ) (w : Wk ρ ρ') : Rep H σ ρ' := ⟨r.1.trans w.length, fun i d e => r.2 i d (w.get e)⟩
section
variable (X : Cx)
def wE (e : Expr) : TE := fun σ H Q => ∀ pins s, Inv X pins σ H s → wpAny (model X.prog X.w) X.A (eval e X.env) (EP X pins σ Q) X.xe s
def wT (e : Expr) : TT := fun σ H Q => ∀ pins s, Inv X pins σ H s → wpAny (model X.prog X.w) X.A (isTrue e X.env (eval e X.env)) (TP X pins σ Q) X.xe s
def wW (e : Expr) : TT := fun σ H Q => ∀ (whole : Sem Value) pins s, Inv X pins σ H s → wpAny (model X.prog X.w) X.A (isTrue e X.env whole) (TP X pins σ Q) X.xe s
def wA (es : List Expr) : TA := fun σ H Q => ∀ (pos : Pos) pins s, Inv X pins σ H s → wpAny (model X.prog X.w) X.A (spliced (backTo pos (starEach es X.env))) (AP X pins σ Q) X.xe s
def wS (st : Stmt) : TS := fun Dn σ H => ∀ pins s, Inv X pins σ H s → wpAny (model X.prog X.w) X.A (exec st X.env) (SP X pins Dn) X.xe s
def wSs (sts : List Stmt) : TS := fun Dn σ H => ∀ pins s, Inv X pins σ H s → wpAny (model X.prog X.w) X.A (execs sts X.env) (SP X pins Dn) X.xe s
end
section
variable {X : Cx} {e : Expr} {es : List Expr} {st : Stmt} {sts : List Stmt} {σ : L2.St} {H : Hp}
theorem pe_w : PE X e (wE X e) := ⟨fun pins s _ _ _ I h => h pins s I⟩
theorem pt_w : PT X e (wT X e) := ⟨fun pins s _ _ _ I h => h pins s I⟩
theorem pw_w : PW X e (wW X e) := ⟨fun whole pins s _ _ _ I h => h whole pins s I⟩
theorem pa_w : PA X es (wA X es) := ⟨fun pos pins s _ _ _ I h => h pos pins s I⟩
theorem ps_w : PS X st (wS X st) := ⟨fun pins s _ _ _ I h => h pins s I⟩
theorem pss_w : PSs X sts (wSs X sts) := ⟨fun pins s _ _ _ I h => h pins s I⟩
theorem wE_of {te : TE} {Q : VK} (p : PE X e te) (h : te σ H Q) : wE X e σ H Q := fun pins s I => p.run pins s σ H Q I h
theorem wT_of {t : TT} {Q : Bool → Hp → Prop} (p : PT X e t) (h : t σ H Q) : wT X e σ H Q := fun pins s I => p.run pins s σ H Q I h
theorem wW_of {t : TT} {Q : Bool → Hp → Prop} (p : PW X e t) (h : t σ H Q) : wW X e σ H Q := fun whole pins s I => p.run whole pins s σ H Q I h
theorem wA_of {t : TA} {Q : List V → Hp → Prop} (p : PA X es t) (h : t σ H Q) : wA X es σ H Q := fun pos pins s I => p.run pos pins s σ H Q I h
theorem wS_of {t : TS} {Dn : Ends} (p : PS X st t) (h : t Dn σ H) : wS X st Dn σ H := fun pins s I => p.run pins s σ H Dn I h
theorem wSs_of {t : TS} {Dn : Ends} (p : PSs X sts t) (h : t Dn σ H) : wSs X sts Dn σ H := fun pins s I => p.run pins s σ H Dn I h
end
section
variable (X : Cx)
def DE (e : Expr) (ρ : Rho) (B : Hp) (d : D) : Prop := ∀ σ H, Sx B H → Rep H σ ρ → ∀ Q : VK, (∀ v H', Sx H H' → Dat H' d v → Q v H') → wE X e σ H Q
def DT (e : Expr) (ρ : Rho) (B : Hp) (b : Bool) : Prop := ∀ σ H, Sx B H → Rep H σ ρ → ∀ Q : Bool → Hp → Prop, (∀ H', Sx H H' → Q b H') → wT X e σ H Q
def DW (e : Expr) (ρ : Rho) (B : Hp) (b : Bool) : Prop := ∀ σ H, Sx B H → Rep H σ ρ → ∀ Q : Bool → Hp → Prop, (∀ H', Sx H H' → Q b H') → wW X e σ H Q
def DA (es : List Expr) (ρ : Rho) (B : Hp) (ds : List D) : Prop := ∀ σ H, Sx B H → Rep H σ ρ → ∀ Q : List V → Hp → Prop, (∀ vs H', Sx H H' → DatL H' ds vs → Q vs H') → wA X es σ H Q
/-- an expression that may change the heap: P of its datum and the heap behind -/
def DX (e : Expr) (ρ : Rho) (B : Hp) (P : D → Hp → Prop) : Prop := ∀ σ H, Sx B H → Rep H σ ρ → ∀ Q : VK, (∀ d v H', P d H' → Dat H' d v → Rep H' σ ρ → Q v H') → wE X e σ H Q
/-- statements: N at the end (slots, heap), R at a return -/
def DS (st : Stmt) (ρ : Rho) (B : Hp) (N : Rho → Hp → Prop) (R : D → Hp → Prop) : Prop :=
  ∀ σ H, Sx B H → Rep H σ ρ → ∀ Dn : Ends, (∀ ρ' σ' H', N ρ' H' → Rep H' σ' ρ' → Dn.nx σ' H') → (∀ d v H', R d H' → Dat H' d v → Dn.rt v H') → wS X st Dn σ H
def DSs (sts : List Stmt) (ρ : Rho) (B : Hp) (N : Rho → Hp → Prop) (R : D → Hp → Prop) : Prop :=
  ∀ σ H, Sx B H → Rep H σ ρ → ∀ Dn : Ends, (∀ ρ' σ' H', N ρ' H' → Rep H' σ' ρ' → Dn.nx σ' H') → (∀ d v H', R d H' → Dat H' d v → Dn.rt v H') → wSs X sts Dn σ H
end
section
variable {X : Cx} {e a b c o i : Expr} {es : List Expr} {st : Stmt} {sts rest : List Stmt} {ρ ρ' : Rho} {B B' : Hp} {d d1 d2 : D} {ds : List D} {P : D → Hp → Prop} {N N' : Rho → Hp → Prop} {R R' : D → Hp → Prop} {pos px : Pos}
theorem DE.mono (h : DE X e ρ B d) (s : Sx B B') : DE X e ρ B' d := fun σ H q => h σ H (s.trans q)
theorem DX.mono (h : DX X e ρ B P) (s : Sx B B') : DX X e ρ B' P := fun σ H q => h σ H (s.trans q)
theorem DSs.mono (h : DSs X sts ρ B N R) (s : Sx B B') : DSs X sts ρ B' N R := fun σ H q => h σ H (s.trans q)
theorem DSs.weak (h : DSs X sts ρ' B N R) (w : Wk ρ ρ') : DSs X sts ρ B N R := fun σ H q r => h σ H q (r.weak w)
theorem DSs.imp (h : DSs X sts ρ B N R) (hN : ∀ r H, N r H → N' r H) (hR : ∀ d H, R d H → R' d H) : DSs X sts ρ B N' R' :=
  fun σ H q r Dn k1 k2 => h σ H q r Dn (fun ρ' σ' H' n => k1 ρ' σ' H' (hN _ _ n)) fun d v H' x => k2 d v H' (hR _ _ x)
theorem DE.mk {te : TE} (p : PE X e te) (h : ∀ σ H, Sx B H → Rep H σ ρ → ∀ Q : VK, (∀ v H', Sx H H' → Dat H' d v → Q v H') → te σ H Q) : DE X e ρ B d := fun σ H s r Q q => wE_of p (h σ H s r Q q)
theorem DX.mk {te : TE} (p : PE X e te) (h : ∀ σ H, Sx B H → Rep H σ ρ → ∀ Q : VK, (∀ d v H', P d H' → Dat H' d v → Rep H' σ ρ → Q v H') → te σ H Q) : DX X e ρ B P := fun σ H s r Q q => wE_of p (h σ H s r Q q)
theorem DE.x (h : DE X e ρ B d) : DX X e ρ B (fun d' H' => d' = d ∧ Sx B H') := fun σ H s r Q q => h σ H s r Q fun v H' s' hv => q d v H' ⟨rfl, s.trans s'⟩ hv (r.mono s')
theorem de_var (i : Nat) {x : Str} (hr : ρ[i]? = some (some d)) (hN : X.N[i]? = some x := by rfl) (hv : Vis X.env.scope x := by first | exact Or.inl rfl | exact Or.inr (Or.inl rfl) | exact Or.inr (Or.inr rfl))
    (hd : (x == ("__debug__" : Str)) = false := by decide) (hcd : (x == ("__classdict__" : Str)) = false := by decide) : DE X (.Name x pos) ρ B d :=
  DE.mk (pe_var hN hv hd hcd) fun σ H s r Q q => by
    obtain ⟨v, e1, e2⟩ := r.2 i d hr
    exact ⟨v, e1, q v H (Sx.refl H) e2⟩
theorem de_int {n : Int} {j : Nat} : DE X (.Constant (.int n) j pos) ρ B (.int n) := DE.mk pe_int fun σ H s r Q q => q _ H (Sx.refl H) rfl
theorem de_str {x : Str} {j : Nat} : DE X (.Constant (.str x) j pos) ρ B (.str x) := DE.mk pe_str fun σ H s r Q q => q _ H (Sx.refl H) rfl
theorem de_bl {x : Bool} {j : Nat} : DE X (.Constant (.bool x) j pos) ρ B (.bl x) := DE.mk pe_bl fun σ H s r Q q => q _ H (Sx.refl H) rfl
theorem de_non {j : Nat} : DE X (.Constant .none j pos) ρ B .non := DE.mk pe_non fun σ H s r Q q => q _ H (Sx.refl H) rfl
theorem de_gint {x : Str} {n : Int} (hm : ∃ t, X.mg x = some (.int n t)) (hg : Gl X x := by rfl) (hd : (x == ("__debug__" : Str)) = false := by decide) : DE X (.Name x pos) ρ B (.int n) := by
  obtain ⟨t, hm⟩ := hm
  exact DE.mk (pe_glob hg hm (v := .int n) ⟨t, rfl⟩ hd) fun σ H s r Q q => q _ H (Sx.refl H) rfl
theorem two (ha : DE X a ρ B d1) (hb : DE X b ρ B d2) {σ : L2.St} {H : Hp} (s : Sx B H) (r : Rep H σ ρ) {K : V → V → Hp → Prop} (k : ∀ x y H', Sx H H' → Dat H' d1 x → Dat H' d2 y → K x y H') :
    wE X a σ H fun x H1 => wE X b σ H1 fun y H2 => K x y H2 :=
  ha σ H s r _ fun x H1 s1 e1 => hb σ H1 (s.trans s1) (r.mono s1) _ fun y H2 s2 e2 => k x y H2 (s1.trans s2) (Dat.mono s2 d1 x e1) e2
theorem de_op {op : Operator} {r2 : R2} (ho : OpR X (binaryOp op) r2) (ha : DE X a ρ B d1) (hb : DE X b ρ B d2)
    (hr : ∀ H x y, Sx B H → Dat H d1 x → Dat H d2 y → ∀ Q : VK, (∀ v H', Sx H H' → Dat H' d v → Q v H') → r2 x y H Q) : DE X (.BinOp a op b pos) ρ B d :=
  DE.mk (pe_op ho pe_w pe_w) fun σ H s r Q q => two ha hb s r fun x y H' s' e1 e2 => hr H' x y (s.trans s') e1 e2 Q fun v H2 s2 hv => q v H2 (s'.trans s2) hv
theorem de_cmp {op : CmpOp} {r2 : R2} (ho : OpR X (compareOp op) r2) (hm : behindInMarks op b = false) (ha : DE X a ρ B d1) (hb : DE X b ρ B d2)
    (hr : ∀ H x y, Sx B H → Dat H d1 x → Dat H d2 y → ∀ Q : VK, (∀ v H', Sx H H' → Dat H' d v → Q v H') → r2 x y H Q) : DE X (.Compare a [op] [b] pos) ρ B d :=
  DE.mk (pe_cmpR ho pe_w pe_w hm) fun σ H s r Q q => two ha hb s r fun x y H' s' e1 e2 => hr H' x y (s.trans s') e1 e2 Q fun v H2 s2 hv => q v H2 (s'.trans s2) hv
theorem dt_cmp {op : CmpOp} {r2 : R2} {k : Bool} (ho : OpR X (compareOp op) r2) (hm : behindInMarks op b = false) (ha : DE X a ρ B d1) (hb : DE X b ρ B d2)
    (hr : ∀ H x y, Sx B H → Dat H d1 x → Dat H d2 y → ∀ Q : VK, (∀ H', Sx H H' → Q (.bl k) H') → r2 x y H Q) : DT X (.Compare a [op] [b] pos) ρ B k :=
  fun σ H s r Q q => wT_of (pt_cmpR ho pe_w pe_w hm) (two ha hb s r fun x y H' s' e1 e2 => hr H' x y (s.trans s') e1 e2 _ fun H2 s2 => ⟨k, rfl, q H2 (s'.trans s2)⟩)
variable {m n : Int}
theorem de_add (ha : DE X a ρ B (.int m)) (hb : DE X b ρ B (.int n)) : DE X (.BinOp a .Add b pos) ρ B (.int (m + n)) := de_op op_add ha hb fun H x y _ e1 e2 Q q => ⟨m, n, e1, e2, q _ H (Sx.refl H) rfl⟩
theorem de_sub (ha : DE X a ρ B (.int m)) (hb : DE X b ρ B (.int n)) : DE X (.BinOp a .Sub b pos) ρ B (.int (m - n)) := de_op op_sub ha hb fun H x y _ e1 e2 Q q => ⟨m, n, e1, e2, q _ H (Sx.refl H) rfl⟩
theorem de_mul (ha : DE X a ρ B (.int m)) (hb : DE X b ρ B (.int n)) (hc : (-(2 ^ 64) < m ∧ m < 2 ^ 64) ∨ (-(2 ^ 64) < n ∧ n < 2 ^ 64)) : DE X (.BinOp a .Mult b pos) ρ B (.int (m * n)) :=
  de_op op_mul ha hb fun H x y _ e1 e2 Q q => ⟨m, n, e1, e2, hc, q _ H (Sx.refl H) rfl⟩
theorem de_fdiv (ha : DE X a ρ B (.int m)) (hb : DE X b ρ B (.int n)) (hc : 0 < n ∧ n < 1073741824) : DE X (.BinOp a .FloorDiv b pos) ρ B (.int (m / n)) :=
  de_op op_fdiv ha hb fun H x y _ e1 e2 Q q => ⟨m, n, e1, e2, hc, q _ H (Sx.refl H) rfl⟩
theorem de_mod (ha : DE X a ρ B (.int m)) (hb : DE X b ρ B (.int n)) (hc : 0 < n) : DE X (.BinOp a .Mod b pos) ρ B (.int (m % n)) :=
  de_op op_mod ha hb fun H x y _ e1 e2 Q q => ⟨m, n, e1, e2, hc, q _ H (Sx.refl H) rfl⟩
theorem de_neg (ha : DE X a ρ B (.int m)) : DE X (.UnaryOp .USub a pos) ρ B (.int (-m)) :=
  DE.mk (pe_un un_neg pe_w) fun σ H s r Q q => ha σ H s r _ fun x H1 s1 e1 => ⟨m, e1, q _ H1 s1 rfl⟩
theorem de_lt (ha : DE X a ρ B (.int m)) (hb : DE X b ρ B (.int n)) : DE X (.Compare a [.Lt] [b] pos) ρ B (.bl (decide (m < n))) := de_cmp op_lt (nomark _) ha hb fun H x y _ e1 e2 Q q => ⟨m, n, e1, e2, q _ H (Sx.refl H) rfl⟩
theorem de_le (ha : DE X a ρ B (.int m)) (hb : DE X b ρ B (.int n)) : DE X (.Compare a [.LtE] [b] pos) ρ B (.bl (decide (m ≤ n))) := de_cmp op_le (nomark _) ha hb fun H x y _ e1 e2 Q q => ⟨m, n, e1, e2, q _ H (Sx.refl H) rfl⟩
theorem de_gt (ha : DE X a ρ B (.int m)) (hb : DE X b ρ B (.int n)) : DE X (.Compare a [.Gt] [b] pos) ρ B (.bl (decide (n < m))) := de_cmp op_gt (nomark _) ha hb fun H x y _ e1 e2 Q q => ⟨m, n, e1, e2, q _ H (Sx.refl H) rfl⟩
theorem de_ge (ha : DE X a ρ B (.int m)) (hb : DE X b ρ B (.int n)) : DE X (.Compare a [.GtE] [b] pos) ρ B (.bl (decide (n ≤ m))) := de_cmp op_ge (nomark _) ha hb fun H x y _ e1 e2 Q q => ⟨m, n, e1, e2, q _ H (Sx.refl H) rfl⟩
theorem scal_ii : scal (.int m) (.int n) = true := rfl
theorem de_eq (ha : DE X a ρ B (.int m)) (hb : DE X b ρ B (.int n)) : DE X (.Compare a [.Eq] [b] pos) ρ B (.bl (decide (m = n))) := de_cmp op_eq (nomark _) ha hb fun H x y _ e1 e2 Q q => by
  cases e1
  cases e2
  exact ⟨rfl, q _ H (Sx.refl H) (congrArg V.bl (decide_eq_decide.mpr ⟨fun h => V.int.inj h, fun h => congrArg V.int h⟩))⟩
theorem de_ne (ha : DE X a ρ B (.int m)) (hb : DE X b ρ B (.int n)) : DE X (.Compare a [.NotEq] [b] pos) ρ B (.bl (!decide (m = n))) := de_cmp op_ne (nomark _) ha hb fun H x y _ e1 e2 Q q => by
  cases e1
  cases e2
  exact ⟨rfl, q _ H (Sx.refl H) (congrArg (fun z => V.bl (!z)) (decide_eq_decide.mpr ⟨fun h => V.int.inj h, fun h => congrArg V.int h⟩))⟩
variable {x y : Str}
theorem de_eqS (ha : DE X a ρ B (.str x)) (hb : DE X b ρ B (.str y)) : DE X (.Compare a [.Eq] [b] pos) ρ B (.bl (decide (x = y))) := de_cmp op_eq (nomark _) ha hb fun H x y _ e1 e2 Q q => by
  cases e1
  cases e2
  exact ⟨rfl, q _ H (Sx.refl H) (congrArg V.bl (decide_eq_decide.mpr ⟨fun h => V.str.inj h, fun h => congrArg V.str h⟩))⟩
theorem de_neS (ha : DE X a ρ B (.str x)) (hb : DE X b ρ B (.str y)) : DE X (.Compare a [.NotEq] [b] pos) ρ B (.bl (!decide (x = y))) := de_cmp op_ne (nomark _) ha hb fun H x y _ e1 e2 Q q => by
  cases e1
  cases e2
  exact ⟨rfl, q _ H (Sx.refl H) (congrArg (fun z => V.bl (!z)) (decide_eq_decide.mpr ⟨fun h => V.str.inj h, fun h => congrArg V.str h⟩))⟩
variable {k k1 k2 : Bool}
theorem de_neB (ha : DE X a ρ B (.bl k1)) (hb : DE X b ρ B (.bl k2)) : DE X (.Compare a [.NotEq] [b] pos) ρ B (.bl (!decide (k1 = k2))) := de_cmp op_ne (nomark _) ha hb fun H x y _ e1 e2 Q q => by
  cases e1
  cases e2
  exact ⟨rfl, q _ H (Sx.refl H) (congrArg (fun z => V.bl (!z)) (decide_eq_decide.mpr ⟨fun h => V.bl.inj h, fun h => congrArg V.bl h⟩))⟩
/-- is None -/
def isN : D → Bool
  | .non => true
  | _ => false
theorem Dat.isN {H : Hp} {v : V} : ∀ {d : D}, Dat H d v → decide (v = V.non) = K5.isN d
  | .non, h => by rw [show v = V.non from h]; rfl
  | .bl _, h => by rw [show v = V.bl _ from h]; rfl
  | .int _, h => by rw [show v = V.int _ from h]; rfl
  | .str _, h => by rw [show v = V.str _ from h]; rfl
  | .ref _, h => by rw [show v = V.ref _ from h]; rfl
  | .tup _, h => by
    obtain ⟨a, xs, e, _⟩ := h
    rw [e]
    rfl
  | .lst _, h => by
    obtain ⟨a, xs, e, _⟩ := h
    rw [e]
    rfl
theorem de_isN (ha : DE X a ρ B d) {j : Nat} {p2 : Pos} : DE X (.Compare a [.Is] [.Constant .none j p2] pos) ρ B (.bl (isN d)) :=
  de_cmp op_isN (nomark _) ha de_non fun H x y _ e1 e2 Q q => ⟨e2, q _ H (Sx.refl H) (congrArg V.bl e1.isN)⟩
theorem de_notN (ha : DE X a ρ B d) {j : Nat} {p2 : Pos} : DE X (.Compare a [.IsNot] [.Constant .none j p2] pos) ρ B (.bl (!isN d)) :=
  de_cmp op_notN (nomark _) ha de_non fun H x y _ e1 e2 Q q => ⟨e2, q _ H (Sx.refl H) (congrArg (fun z => V.bl (!z)) e1.isN)⟩
/-- a value that is a bool, as a test -/
theorem dt_val (h : DE X e ρ B (.bl k)) (he : ∀ whole, isTrue e X.env whole = (do let v ← whole; standAt e.pos; holding [v] (truthy v)) := by intro _; rfl) : DT X e ρ B k :=
  fun σ H s r Q q => wT_of (pt_val pe_w he) (h σ H s r _ fun v H' s' hv => ⟨k, hv, q H' s'⟩)
theorem dt_not (h : DT X a ρ B k) : DT X (.UnaryOp .Not a pos) ρ B (!k) := fun σ H s r Q q => wT_of (pt_not pt_w) (h σ H s r _ fun H' s' => q H' s')
theorem DW.t (h : DW X e ρ B k) : DT X e ρ B k := fun σ H s r Q q => wT_of pw_w.pt (h σ H s r Q q)
theorem dw_and1 (h : DT X a ρ B k) : DW X (.BoolOp .And [a] pos) ρ B k := fun σ H s r Q q => wW_of (pw_and1 pt_w) (h σ H s r Q q)
theorem dw_or1 (h : DT X a ρ B k) : DW X (.BoolOp .Or [a] pos) ρ B k := fun σ H s r Q q => wW_of (pw_or1 pt_w) (h σ H s r Q q)
theorem dw_and (h : DT X a ρ B k1) (h2 : k1 = true → DW X (.BoolOp .And (b :: es) pos) ρ B k2) : DW X (.BoolOp .And (a :: b :: es) pos) ρ B (k1 && k2) := fun σ H s r Q q =>
  wW_of (pw_and pt_w pw_w) (h σ H s r _ fun H' s' => by
    cases k1 with
    | true =>
      rw [if_pos rfl]
      exact h2 rfl σ H' (s.trans s') (r.mono s') _ fun H2 s2 => q H2 (s'.trans s2)
    | false =>
      (rw [if_neg Bool.false_ne_true])
      exact q H' s')
theorem dw_or (h : DT X a ρ B k1) (h2 : k1 = false → DW X (.BoolOp .Or (b :: es) pos) ρ B k2) : DW X (.BoolOp .Or (a :: b :: es) pos) ρ B (k1 || k2) := fun σ H s r Q q =>
  wW_of (pw_or pt_w pw_w) (h σ H s r _ fun H' s' => by
    cases k1 with
    | false =>
      (rw [if_neg Bool.false_ne_true])
      exact h2 rfl σ H' (s.trans s') (r.mono s') _ fun H2 s2 => q H2 (s'.trans s2)
    | true =>
      rw [if_pos rfl]
      exact q H' s')
theorem DT.is {k' : Bool} (h : DT X e ρ B k) (q : k = k') : DT X e ρ B k' := q ▸ h
theorem DE.is {d' : D} (h : DE X e ρ B d) (q : d = d') : DE X e ρ B d' := q ▸ h
/-- and, or, not as values -/
theorem de_one {op : BoolOp} (h : DE X a ρ B d) : DE X (.BoolOp op [a] pos) ρ B d := DE.mk (pe_one pe_w) fun σ H s r Q q => h σ H s r Q q
theorem de_and (h : DE X a ρ B (.bl k1)) (h2 : k1 = true → DE X (.BoolOp .And (b :: es) pos) ρ B (.bl k2)) : DE X (.BoolOp .And (a :: b :: es) pos) ρ B (.bl (k1 && k2)) :=
  DE.mk (pe_and pe_w pe_w) fun σ H s r Q q => h σ H s r _ fun v H' s' hv => ⟨k1, hv, by
    cases k1 with
    | true =>
      rw [if_pos rfl]
      exact h2 rfl σ H' (s.trans s') (r.mono s') _ fun v2 H2 s2 hv2 => q v2 H2 (s'.trans s2) hv2
    | false =>
      (rw [if_neg Bool.false_ne_true])
      exact q _ H' s' rfl⟩
theorem de_notV (h : DE X a ρ B (.bl k)) : DE X (.UnaryOp .Not a pos) ρ B (.bl (!k)) := DE.mk (pe_not pe_w) fun σ H s r Q q => h σ H s r _ fun v H' s' hv => ⟨k, hv, q _ H' s' rfl⟩
theorem de_ifExp (hc : DT X c ρ B k) (ha : k = true → DE X a ρ B d) (hb : k = false → DE X b ρ B d) : DE X (.IfExp c a b pos) ρ B d :=
  DE.mk (pe_ifExp pt_w pe_w pe_w) fun σ H s r Q q => hc σ H s r _ fun H' s' => by
    cases k with
    | true =>
      rw [if_pos rfl]
      exact ha rfl σ H' (s.trans s') (r.mono s') _ fun v2 H2 s2 hv2 => q v2 H2 (s'.trans s2) hv2
    | false =>
      (rw [if_neg Bool.false_ne_true])
      exact hb rfl σ H' (s.trans s') (r.mono s') _ fun v2 H2 s2 hv2 => q v2 H2 (s'.trans s2) hv2
/-- a < b < c of ints, as a test -/
theorem dt_chain {op op' : CmpOp} {p p' : Int → Int → Bool} {l : Int} (ho : OpR X (compareOp op) (rI0 fun i j => .bl (p i j))) (ho' : OpR X (compareOp op') (rI0 fun i j => .bl (p' i j)))
    (ha : DE X a ρ B (.int m)) (hb : DE X b ρ B (.int n)) (hc : DE X c ρ B (.int l)) (t : PT X (.Compare a [op, op'] [b, c] pos) (tTest (tChain (rI0 fun i j => .bl (p i j)) (rI0 fun i j => .bl (p' i j)) (wE X a) (wE X b) (wE X c)))) :
    DT X (.Compare a [op, op'] [b, c] pos) ρ B (p m n && p' n l) := fun σ H s r Q q => wT_of t (by
  refine ha σ H s r _ fun x H1 s1 e1 => hb σ H1 (s.trans s1) (r.mono s1) _ fun y H2 s2 e2 => ?_
  have e1' := Dat.mono s2 _ _ e1
  refine ⟨m, n, e1', e2, p m n, rfl, ?_⟩
  cases hp : p m n with
  | true =>
    refine hc σ H2 ((s.trans s1).trans s2) (r.mono (s1.trans s2)) _ fun z H3 s3 e3 => ?_
    exact ⟨n, l, Dat.mono s3 _ _ e2, e3, p' n l, rfl, by
      have := q H3 ((s1.trans s2).trans s3)
      rw [hp] at this
      exact this⟩
  | false =>
    refine ⟨false, rfl, ?_⟩
    have := q H2 (s1.trans s2)
    rw [hp] at this
    exact this)
end
end K5
namespace K5
open PySem PySem.Spec PyProof.Rows L2
/-- all stands but what is at A -/
structure But (A : List Addr) (H H' : Hp) : Prop where
  k : ∀ a o, a ∉ A → isTb o = false → H a = some o → H' a = some o
  t : ∀ p, GxR.TabG H p → GxR.TabG H' p
  n : ∀ p, H p ≠ none → H' p ≠ none
theorem Sx.but {A : List Addr} {H H' : Hp} (s : Sx H H') : But A H H' := ⟨fun a o _ => s.k a o, s.t, s.n⟩
theorem But.refl {A : List Addr} (H : Hp) : But A H H := (Sx.refl H).but
theorem But.trans {A : List Addr} {H H1 H2 : Hp} (a : But A H H1) (b : But A H1 H2) : But A H H2 := ⟨fun c o m i e => b.k c o m i (a.k c o m i e), fun p e => b.t p (a.t p e), fun p e => b.n p (a.n p e)⟩
theorem But.sx {A : List Addr} {H H1 H2 : Hp} (a : But A H H1) (b : Sx H1 H2) : But A H H2 := a.trans b.but
theorem Sx.thenBut {A : List Addr} {H H1 H2 : Hp} (a : Sx H H1) (b : But A H1 H2) : But A H H2 := a.but.trans b
theorem But.sub {A A' : List Addr} {H H' : Hp} (s : But A H H') (h : ∀ a ∈ A, a ∈ A') : But A' H H' := ⟨fun a o m => s.k a o fun z => m (h a z), s.t, s.n⟩
/-- where nothing stood at A before, all stands -/
theorem But.same {A : List Addr} {H0 H H' : Hp} (s : Sx H0 H) (b : But A H H') (h : ∀ a ∈ A, H0 a = none) : Sx H0 H' :=
  ⟨fun a o i e => b.k a o (fun m => by rw [h a m] at e; cases e) i (s.k a o i e), fun p e => b.t p (s.t p e), fun p e => b.n p (s.n p e)⟩
theorem upd_there {H : Hp} {a p : Addr} {o : HO} (e : H p ≠ none) : L2.upd H a o p ≠ none := by
  by_cases hp : p = a
  · rw [hp, upd_same]
    simp
  · rw [upd_ne hp]
    exact e
theorem But.upd {H : Hp} {a : Addr} {o : HO} (hb : ∀ u, H a = some u → isTb u = false) : But [a] H (L2.upd H a o) where
  k := fun b u m _ e => by
    rw [upd_ne (by simpa using m)]
    exact e
  t := fun p g => by
    obtain ⟨ps, e, r⟩ := g
    refine ⟨ps, ?_, r⟩
    rw [upd_ne ?_]
    · exact e
    · intro z
      subst z
      have h1 := hb _ e
      cases h1
  n := fun p e => upd_there e
/-- tuples and lists stand -/
structure SameL (H H' : Hp) : Prop where
  t : SameT H H'
  l : ∀ a xs, H a = some (.lst xs) → H' a = some (.lst xs)
theorem Sx.l {H H' : Hp} (s : Sx H H') : SameL H H' := ⟨s.tt, fun a xs e => s.k a _ rfl e⟩
mutual
theorem Dat.monoL {H H' : Hp} (s : SameL H H') : ∀ (d : D) (v : V), Dat H d v → Dat H' d v
  | .non, _, h => h
  | .bl _, _, h => h
  | .int _, _, h => h
  | .str _, _, h => h
  | .ref _, _, h => h
  | .tup ds, _, h => by
    obtain ⟨a, xs, e, h1, h2⟩ := h
    exact ⟨a, xs, e, s.t _ _ h1, DatL.monoL s ds xs h2⟩
  | .lst ds, _, h => by
    obtain ⟨a, xs, e, h1, h2⟩ := h
    exact ⟨a, xs, e, s.l _ _ h1, DatL.monoL s ds xs h2⟩
theorem DatL.monoL {H H' : Hp} (s : SameL H H') : ∀ (ds : List D) (xs : List V), DatL H ds xs → DatL H' ds xs
  | [], _, h => h
  | d :: ds, _, h => by
    obtain ⟨x, r, e, h1, h2⟩ := h
    exact ⟨x, r, e, Dat.monoL s d x h1, DatL.monoL s ds r h2⟩
end
theorem Rep.monoL {H H' : Hp} {σ : L2.St} {ρ : Rho} (r : Rep H σ ρ) (s : SameL H H') : Rep H' σ ρ := ⟨r.1, fun i d e => by
  obtain ⟨v, q1, q2⟩ := r.2 i d e
  exact ⟨v, q1, Dat.monoL s d v q2⟩⟩
theorem SameL.upd {H : Hp} {a : Addr} {o : HO} (h1 : ∀ xs, H a ≠ some (.tup xs)) (h2 : ∀ xs, H a ≠ some (.lst xs)) : SameL H (L2.upd H a o) :=
  ⟨fun b xs e => by rw [upd_ne (by intro z; subst z; exact h1 xs e)]; exact e, fun b xs e => by rw [upd_ne (by intro z; subst z; exact h2 xs e)]; exact e⟩
theorem SameT.upd {H : Hp} {a : Addr} {o : HO} (h1 : ∀ xs, H a ≠ some (.tup xs)) : SameT H (L2.upd H a o) := fun b xs e => by
  rw [upd_ne (by intro z; subst z; exact h1 xs e)]
  exact e
def LstAt (H : Hp) (a : Addr) (ds : List D) : Prop := ∃ xs, H a = some (.lst xs) ∧ DatL H ds xs
theorem LstAt.mono {H H' : Hp} {a : Addr} {ds : List D} (h : LstAt H a ds) (s : Sx H H') : LstAt H' a ds := by
  obtain ⟨xs, e, r⟩ := h
  exact ⟨xs, s.k _ _ rfl e, DatL.mono s ds xs r⟩
theorem LstAt.ne {H : Hp} {a : Addr} {ds : List D} (h : LstAt H a ds) : H a ≠ none := by
  obtain ⟨xs, e, r⟩ := h
  rw [e]
  simp
theorem LstAt.but {H H' : Hp} {A : List Addr} {a : Addr} {ds : List D} (h : LstAt H a ds) (s : But A H H') (hA : a ∉ A) (n : noLs ds = true) (t : SameT H H') : LstAt H' a ds := by
  obtain ⟨xs, e, r⟩ := h
  exact ⟨xs, s.k _ _ hA rfl e, DatL.monoT t ds xs n r⟩
/-- the attributes' data, in order -/
def FD (H : Hp) : List (Str × V) → List (Str × D) → Prop
  | [], gs => gs = []
  | (f, v) :: fs, gs => ∃ d r, gs = (f, d) :: r ∧ Dat H d v ∧ FD H fs r
def putD (f : Str) (d : D) : List (Str × D) → List (Str × D)
  | [] => [(f, d)]
  | (g, e) :: r => if g = f then (g, d) :: r else (g, e) :: putD f d r
theorem FD.nil {H : Hp} : FD H [] [] := rfl
theorem FD.monoL {H H' : Hp} (s : SameL H H') : ∀ {fs : List (Str × V)} {gs : List (Str × D)}, FD H fs gs → FD H' fs gs
  | [], _, h => h
  | (f, v) :: fs, _, h => by
    obtain ⟨d, r, e, h1, h2⟩ := h
    exact ⟨d, r, e, Dat.monoL s d v h1, FD.monoL s h2⟩
def noLf (gs : List (Str × D)) : Bool := gs.all fun g => noL g.2
theorem FD.monoT {H H' : Hp} (s : SameT H H') : ∀ {fs : List (Str × V)} {gs : List (Str × D)}, noLf gs = true → FD H fs gs → FD H' fs gs
  | [], _, _, h => h
  | (f, v) :: fs, _, n, h => by
    obtain ⟨d, r, e, h1, h2⟩ := h
    subst e
    have n1 : (noL d && noLf r) = true := n
    obtain ⟨n2, n3⟩ := Bool.and_eq_true_iff.mp n1
    exact ⟨d, r, rfl, Dat.monoT s d v n2 h1, FD.monoT s n3 h2⟩
theorem FD.length {H : Hp} : ∀ {fs : List (Str × V)} {gs : List (Str × D)}, FD H fs gs → fs.length = gs.length
  | [], _, h => by
    rw [show _ = [] from h]
    rfl
  | (f, v) :: fs, _, h => by
    obtain ⟨d, r, e, h1, h2⟩ := h
    rw [e, List.length_cons, List.length_cons, FD.length h2]
theorem FD.put {H : Hp} {f : Str} {v : V} {d : D} (hv : Dat H d v) : ∀ {fs : List (Str × V)} {gs : List (Str × D)}, FD H fs gs → FD H (putF f v fs) (putD f d gs)
  | [], _, h => by
    rw [show _ = [] from h]
    exact ⟨d, [], rfl, hv, rfl⟩
  | (g, u) :: fs, _, h => by
    obtain ⟨e, r, q, h1, h2⟩ := h
    subst q
    unfold putF putD
    by_cases hg : g = f
    · rw [if_pos hg, if_pos hg]
      exact ⟨d, r, rfl, hv, h2⟩
    · rw [if_neg hg, if_neg hg]
      exact ⟨e, _, rfl, h1, FD.put hv h2⟩
theorem FD.get {H : Hp} {f : Str} {d : D} : ∀ {fs : List (Str × V)} {gs : List (Str × D)}, FD H fs gs → gs.lookup f = some d → ∃ v, fs.lookup f = some v ∧ Dat H d v
  | [], _, h, e => by
    rw [show _ = [] from h] at e
    cases e
  | (g, u) :: fs, _, h, e => by
    obtain ⟨d', r, q, h1, h2⟩ := h
    subst q
    rw [List.lookup_cons] at e ⊢
    cases hb : (f == g) with
    | true =>
      rw [hb] at e
      have e2 : d' = d := Option.some.inj e
      subst e2
      exact ⟨u, rfl, h1⟩
    | false =>
      rw [hb] at e
      exact FD.get h2 e
theorem FD.none {H : Hp} {f : Str} : ∀ {fs : List (Str × V)} {gs : List (Str × D)}, FD H fs gs → gs.lookup f = none → fs.lookup f = none
  | [], _, h, e => rfl
  | (g, u) :: fs, _, h, e => by
    obtain ⟨d', r, q, h1, h2⟩ := h
    subst q
    rw [List.lookup_cons] at e ⊢
    cases hb : (f == g) with
    | true =>
      rw [hb] at e
      cases e
    | false =>
      rw [hb] at e
      exact FD.none h2 e
/-- an instance of the class at C with these attributes -/
def Ins (H : Hp) (a C : Addr) (gs : List (Str × D)) : Prop := ∃ dx fs, H a = some (.ins C dx fs) ∧ FD H fs gs
theorem Ins.mono {H H' : Hp} {a C : Addr} {gs : List (Str × D)} (h : Ins H a C gs) (s : Sx H H') : Ins H' a C gs := by
  obtain ⟨dx, fs, e, r⟩ := h
  exact ⟨dx, fs, s.k _ _ rfl e, r.monoL s.l⟩
theorem Ins.butL {H H' : Hp} {A : List Addr} {a C : Addr} {gs : List (Str × D)} (h : Ins H a C gs) (s : But A H H') (hA : a ∉ A) (t : SameL H H') : Ins H' a C gs := by
  obtain ⟨dx, fs, e, r⟩ := h
  exact ⟨dx, fs, s.k _ _ hA rfl e, r.monoL t⟩
theorem Ins.but {H H' : Hp} {A : List Addr} {a C : Addr} {gs : List (Str × D)} (h : Ins H a C gs) (s : But A H H') (hA : a ∉ A) (n : noLf gs = true) (t : SameT H H') : Ins H' a C gs := by
  obtain ⟨dx, fs, e, r⟩ := h
  exact ⟨dx, fs, s.k _ _ hA rfl e, r.monoT t n⟩
theorem Ins.ne {H : Hp} {a C : Addr} {gs : List (Str × D)} (h : Ins H a C gs) : H a ≠ none := by
  obtain ⟨dx, fs, e, r⟩ := h
  rw [e]
  simp
section
variable {X : Cx} {e a b c o i tg iter : Expr} {es body els : List Expr} {st : Stmt} {sts rest bd el : List Stmt} {ρ ρ' ρ1 : Rho} {B B' : Hp} {d d1 d2 : D} {ds : List D} {P : D → Hp → Prop} {N N' N1 : Rho → Hp → Prop} {R R' : D → Hp → Prop} {pos px apos : Pos} {k j : Nat} {p C : Addr} {x m : Str} {gs : List (Str × D)}
theorem de_fld {f : Str} (ho : DE X o ρ B (.ref p)) (hi : Ins B p C gs) (hc : Cls X.K C) (hn : NoAttr X.K C f) (hl : gs.lookup f = some d) (hb : attributeBase o f X.env (eval o X.env) = eval o X.env := by rfl) : DE X (.Attribute o f pos) ρ B d :=
  DE.mk (pe_fld pe_w hb) fun σ H s r Q q => ho σ H s r _ fun v H1 s1 e1 => by
    obtain ⟨dx, fs, eH, rf⟩ := hi.mono (s.trans s1)
    obtain ⟨u, l, du⟩ := rf.get hl
    exact ⟨p, C, dx, fs, u, e1, eH, hc, hn, l, q u H1 s1 du⟩
theorem da_nil : DA X [] ρ B [] := fun σ H s r Q q => wA_of pa_nil (q [] H (Sx.refl H) rfl)
theorem da_cons (h : DE X e ρ B d) (t : DA X es ρ B ds) (hs : starEach (e :: es) X.env = (false, eval e X.env) :: starEach es X.env := by rfl) : DA X (e :: es) ρ B (d :: ds) := fun σ H s r Q q =>
  wA_of (pa_cons pe_w pa_w hs) (h σ H s r _ fun v H1 s1 e1 => t σ H1 (s.trans s1) (r.mono s1) _ fun vs H2 s2 e2 => q (v :: vs) H2 (s1.trans s2) ⟨v, vs, rfl, Dat.mono s2 _ _ e1, e2⟩)
theorem de_tup {x1} (h : DA X es ρ B ds) (hl : ds.length ≤ 100000 := by decide) : DE X (.Tuple es x1 pos) ρ B (.tup ds) :=
  DE.mk (pe_tup pa_w) fun σ H s r Q q => h σ H s r _ fun vs H1 s1 e1 => ⟨Nat.le_trans (by rw [← e1.length]; exact hl) (by decide), fun p hp => q _ _ (s1.trans (Sx.new hp)) ⟨p, vs, rfl, upd_same, DatL.mono (Sx.new hp) _ _ e1⟩⟩
theorem de_lst (h : DA X es ρ B ds) (hl : ds.length ≤ 100000 := by decide) : DE X (.List es pos) ρ B (.lst ds) :=
  DE.mk (pe_lst pa_w) fun σ H s r Q q => h σ H s r _ fun vs H1 s1 e1 => ⟨Nat.le_trans (by rw [← e1.length]; exact hl) (by decide), fun p hp => q _ _ (s1.trans (Sx.new hp)) ⟨p, vs, rfl, upd_same, DatL.mono (Sx.new hp) _ _ e1⟩⟩
/-- a new list, by its address -/
def NewL (B : Hp) (ds : List D) (d : D) (H : Hp) : Prop := ∃ p, d = .ref p ∧ B p = none ∧ LstAt H p ds ∧ Sx B H
theorem dx_lst (h : DA X es ρ B ds) (hl : ds.length ≤ 100000 := by decide) : DX X (.List es pos) ρ B (NewL B ds) :=
  DX.mk (pe_lst pa_w) fun σ H s r Q q => h σ H s r _ fun vs H1 s1 e1 => ⟨Nat.le_trans (by rw [← e1.length]; exact hl) (by decide), fun p hp =>
    q (.ref p) _ _ ⟨p, rfl, (s.trans s1).free hp, ⟨vs, upd_same, DatL.mono (Sx.new hp) _ _ e1⟩, (s.trans s1).trans (Sx.new hp)⟩ rfl (r.mono (s1.trans (Sx.new hp)))⟩
theorem ixN_atI {α β : Type} {xs : List α} {ys : List β} {i : Int} {n : Nat} {v : α} (hl : xs.length = ys.length) (h : ixN ys.length i = some n) (hv : xs[n]? = some v) : atI xs i = some v := by
  unfold atI
  rw [hl, h]
  exact hv
theorem de_ixT {n : Int} {t : Nat} (ha : DE X a ρ B (.tup ds)) (hb : DE X b ρ B (.int n)) (hn : ixN ds.length n = some t) (ht : ds[t]? = some d) (hs : PlainIx b := by intro _ _; rfl) : DE X (.Subscript a b pos) ρ B d :=
  DE.mk (pe_ix ix_tup pe_w pe_w hs) fun σ H s r Q q => two ha hb s r fun x y H' s' e1 e2 => by
    obtain ⟨p, xs, ex, hp, hx⟩ := e1
    obtain ⟨v, hv, dv⟩ := hx.get ht
    exact ⟨p, xs, n, v, ex, e2, SqT.of hp, ixN_atI (ys := ds) hx.length.symm hn hv, q v H' s' dv⟩
theorem de_ixL {n : Int} {t : Nat} (ha : DE X a ρ B (.lst ds)) (hb : DE X b ρ B (.int n)) (hn : ixN ds.length n = some t) (ht : ds[t]? = some d) (hs : PlainIx b := by intro _ _; rfl) : DE X (.Subscript a b pos) ρ B d :=
  DE.mk (pe_ix ix_list pe_w pe_w hs) fun σ H s r Q q => two ha hb s r fun x y H' s' e1 e2 => by
    obtain ⟨p, xs, ex, hp, hx⟩ := e1
    obtain ⟨v, hv, dv⟩ := hx.get ht
    exact ⟨p, xs, n, v, ex, e2, SqL.of hp, ixN_atI (ys := ds) hx.length.symm hn hv, q v H' s' dv⟩
/-- an item of a list at an address -/
theorem de_ixA {n : Int} {t : Nat} (ha : DE X a ρ B (.ref p)) (hb : DE X b ρ B (.int n)) (hL : LstAt B p ds) (hn : ixN ds.length n = some t) (ht : ds[t]? = some d) (hs : PlainIx b := by intro _ _; rfl) : DE X (.Subscript a b pos) ρ B d :=
  DE.mk (pe_ix ix_list pe_w pe_w hs) fun σ H s r Q q => two ha hb s r fun x y H' s' e1 e2 => by
    obtain ⟨xs, hp, hx⟩ := hL.mono (s.trans s')
    obtain ⟨v, hv, dv⟩ := hx.get ht
    exact ⟨p, xs, n, v, e1, e2, SqL.of hp, ixN_atI (ys := ds) hx.length.symm hn hv, q v H' s' dv⟩
theorem ixN_nat {n i : Nat} (hj : i < n) : ixN n (i : Int) = some i := by
  unfold ixN
  (rw [if_pos (by omega), if_pos (by omega)])
  simp
theorem ixN_last {n : Nat} (h : 0 < n) : ixN n (-1) = some (n - 1) := by
  unfold ixN
  rw [if_neg (by omega), if_pos (by omega)]
  congr 1
  omega
/-- a part of a slice -/
def DO (X : Cx) (e : Option Expr) (ρ : Rho) (B : Hp) (o : Option Int) : Prop := (e = none ∧ o = none) ∨ ∃ z n, e = some z ∧ o = some n ∧ DE X z ρ B (.int n)
theorem do_no : DO X none ρ B none := Or.inl ⟨rfl, rfl⟩
theorem do_so {n : Int} (h : DE X e ρ B (.int n)) : DO X (some e) ρ B (some n) := Or.inr ⟨e, n, rfl, rfl, h⟩
def tOf (X : Cx) : Option Expr → TO
  | none => tNoPart
  | some z => tPart (wE X z)
theorem po_of : ∀ {e : Option Expr}, PO X e (tOf X e)
  | none => po_none
  | some z => po_some pe_w
theorem DO.run {oe : Option Expr} {oi : Option Int} (h : DO X oe ρ B oi) {σ : L2.St} {H : Hp} (s : Sx B H) (r : Rep H σ ρ) {Q : Option Int → Hp → Prop} (q : ∀ H', Sx H H' → Q oi H') : tOf X oe σ H Q := by
  rcases h with ⟨rfl, rfl⟩ | ⟨z, n, rfl, rfl, hz⟩
  · exact q H (Sx.refl H)
  · exact hz σ H s r _ fun v H1 s1 e1 => ⟨n, e1, q H1 s1⟩
def cutD (xs : List D) (lo hi : Option Int) : List D := (xs.drop (HT.sIx xs.length 0 lo)).take (HT.sIx xs.length xs.length hi - HT.sIx xs.length 0 lo)
theorem DatL.cut {H : Hp} {ds : List D} {xs : List V} (h : DatL H ds xs) (lo hi : Option Int) : DatL H (cutD ds lo hi) (cutV xs lo hi) := by
  unfold cutD cutV
  rw [h.length]
  exact (h.drop _).take _
theorem de_sliceT {lo hi : Option Expr} {l u : Option Int} {p2 : Pos} (ha : DE X a ρ B (.tup ds)) (hl : DO X lo ρ B l) (hu : DO X hi ρ B u) : DE X (.Subscript a (.Slice lo hi none p2) pos) ρ B (.tup (cutD ds l u)) :=
  DE.mk (pe_slice sl_tupA pe_w po_of po_of) fun σ H s r Q q => ha σ H s r _ fun v H1 s1 e1 => hl.run (s.trans s1) (r.mono s1) fun H2 s2 => hu.run ((s.trans s1).trans s2) (r.mono (s1.trans s2)) fun H3 s3 => by
    have s13 := s2.trans s3
    obtain ⟨p, xs, ex, hp, hx⟩ := Dat.mono s13 _ _ e1
    subst ex
    refine ⟨p, xs, rfl, SqT.of hp, ?_⟩
    have z := hx.cut l u
    refine ⟨fun hz => q _ _ (s1.trans s13) ⟨p, xs, rfl, hp, ?_⟩, fun _ p' hp' => q _ _ ((s1.trans s13).trans (Sx.new hp')) ⟨p', _, rfl, upd_same, DatL.mono (Sx.new hp') _ _ z⟩⟩
    have e2 : cutV xs l u = xs := by
      unfold cutV
      rw [hz.1, hz.2, List.drop_zero, Nat.sub_zero, List.take_length]
    rw [e2] at z
    exact z
theorem de_sliceL {lo hi : Option Expr} {l u : Option Int} {p2 : Pos} (ha : DE X a ρ B (.lst ds)) (hl : DO X lo ρ B l) (hu : DO X hi ρ B u) : DE X (.Subscript a (.Slice lo hi none p2) pos) ρ B (.lst (cutD ds l u)) :=
  DE.mk (pe_slice sl_list pe_w po_of po_of) fun σ H s r Q q => ha σ H s r _ fun v H1 s1 e1 => hl.run (s.trans s1) (r.mono s1) fun H2 s2 => hu.run ((s.trans s1).trans s2) (r.mono (s1.trans s2)) fun H3 s3 => by
    have s13 := s2.trans s3
    obtain ⟨p, xs, ex, hp, hx⟩ := Dat.mono s13 _ _ e1
    exact ⟨p, xs, ex, SqL.of hp, fun p' hp' => q _ _ ((s1.trans s13).trans (Sx.new hp')) ⟨p', _, rfl, upd_same, DatL.mono (Sx.new hp') _ _ (hx.cut l u)⟩⟩
end
end K5
namespace K5
open PySem PySem.Spec PyProof.Rows L2
theorem noLs_mem : ∀ {ds : List D} {d : D}, noLs ds = true → d ∈ ds → noL d = true
  | z :: zs, d, hn, m => by
    obtain ⟨n1, n2⟩ := Bool.and_eq_true_iff.mp (show (noL z && noLs zs) = true from hn)
    rcases List.mem_cons.mp m with h | hm
    · rw [h]
      exact n1
    · exact noLs_mem n2 hm
section
variable (X : Cx)
def wG (tg : Expr) : TG := fun v σ H Q => ∀ pins s u, Inv X pins σ H s → RelV v u → wpAny (model X.prog X.w) X.A (assign tg X.env u) (fun _ s' => ∃ σ' H', Inv X pins σ' H' s' ∧ Q σ' H') X.xe s
def wGs (ts : List Expr) : TGs := fun vs σ H Q => ∀ pins s us, Inv X pins σ H s → Vals vs us → wpAny (model X.prog X.w) X.A (assignInOrder ((assignEach ts X.env).map (·.2)) us) (fun _ s' => ∃ σ' H', Inv X pins σ' H' s' ∧ Q σ' H') X.xe s
/-- the target takes the datum d: slots from ρ to ρ1 -/
def DG (tg : Expr) (d : D) (ρ ρ1 : Rho) : Prop := ∀ σ H v, Rep H σ ρ → Dat H d v → ∀ Q : L2.St → Hp → Prop, (∀ σ', Rep H σ' ρ1 → Q σ' H) → wG X tg v σ H Q
def DGs (ts : List Expr) (ds : List D) (ρ ρ1 : Rho) : Prop := ∀ σ H vs, Rep H σ ρ → DatL H ds vs → ∀ Q : L2.St → Hp → Prop, (∀ σ', Rep H σ' ρ1 → Q σ' H) → wGs X ts vs σ H Q
end
section
variable {X : Cx} {e a b c o i tg iter : Expr} {es body els ts : List Expr} {st : Stmt} {sts rest bd el : List Stmt} {ρ ρ' ρ1 ρ2 : Rho} {B B' : Hp} {d d1 d2 : D} {ds : List D} {P : D → Hp → Prop} {N N' N1 : Rho → Hp → Prop} {R R' : D → Hp → Prop} {pos px apos pos' : Pos} {k j : Nat} {p C : Addr} {x m : Str} {gs : List (Str × D)} {kb : Bool} {n n1 n2 : Int}
theorem pg_w : PG X tg (wG X tg) := ⟨fun pins s _ _ _ u _ I r h => h pins s u I r⟩
theorem pgs_w : PGs X ts (wGs X ts) := ⟨fun pins s _ _ _ us _ I r h => h pins s us I r⟩
theorem wG_of {t : TG} {v : V} {σ : L2.St} {H : Hp} {Q : L2.St → Hp → Prop} (q : PG X tg t) (h : t v σ H Q) : wG X tg v σ H Q := fun pins s u I r => q.run pins s σ H v u Q I r h
theorem wGs_of {t : TGs} {vs : List V} {σ : L2.St} {H : Hp} {Q : L2.St → Hp → Prop} (q : PGs X ts t) (h : t vs σ H Q) : wGs X ts vs σ H Q := fun pins s us I r => q.run pins s σ H vs us Q I r h
theorem dg_name (i : Nat) (nd : X.N.Nodup) (hi : X.N[i]? = some x := by rfl) (hx : Loc X.env.scope x := by first | exact Or.inl rfl | exact Or.inr rfl) (hf : X.fn x = true ∨ X.env.scope.names.lookup x = some .local := by first | exact .inl rfl | exact .inr rfl) : DG X (.Name x px) d ρ (ρ.set i (some d)) :=
  fun σ H v r h Q q => wG_of (pg_name nd hi hx hf) (q _ (r.set i h))
theorem dgs_nil : DGs X [] [] ρ ρ := fun σ H vs r h Q q => wGs_of pgs_nil ⟨h, q σ r⟩
theorem dgs_cons (h1 : DG X e d ρ ρ1) (h2 : DGs X es ds ρ1 ρ2) (hs : (assignEach (e :: es) X.env).map (·.2) = assign e X.env :: (assignEach es X.env).map (·.2) := by rfl) : DGs X (e :: es) (d :: ds) ρ ρ2 := fun σ H vs r h Q q => by
  obtain ⟨v, vr, ev, hv, hr⟩ := h
  exact wGs_of (pgs_cons pg_w pgs_w hs) ⟨v, vr, ev, h1 σ H v r hv _ fun σ1 r1 => h2 σ1 H vr r1 hr Q q⟩
theorem dg_tup {kk : Nat} (h : DGs X es ds ρ ρ1) (hc : X.calm = true := by rfl) (hn : (assignEach es X.env).length = ds.length := by rfl) (hst : (assignEach es X.env).findIdx? (·.1) = none := by rfl) : DG X (.Tuple es kk pos) (.tup ds) ρ ρ1 := fun σ H v r hv Q q => by
  obtain ⟨a, xs, ev, ha, hx⟩ := hv
  exact wG_of (pg_tup hc pgs_w hn hst) ⟨a, xs, ev, SqT.of ha, hx.length.symm, h σ H xs r hx Q q⟩
theorem dg_lst {kk : Nat} (h : DGs X es ds ρ ρ1) (hc : X.calm = true := by rfl) (hn : (assignEach es X.env).length = ds.length := by rfl) (hst : (assignEach es X.env).findIdx? (·.1) = none := by rfl) : DG X (.Tuple es kk pos) (.lst ds) ρ ρ1 := fun σ H v r hv Q q => by
  obtain ⟨a, xs, ev, ha, hx⟩ := hv
  exact wG_of (pg_unl hc pgs_w hn hst) ⟨a, xs, ev, SqL.of ha, hx.length.symm, h σ H xs r hx Q q⟩
theorem dss_nil (h : ∀ H, Sx B H → N ρ H) : DSs X [] ρ B N R := fun σ H s r Dn k1 k2 => wSs_of pss_nil (k1 ρ σ H (h H s) r)
theorem dss_cons (h1 : DS X st ρ B N1 R) (h2 : ∀ ρ1 H1, N1 ρ1 H1 → DSs X rest ρ1 H1 N R) : DSs X (st :: rest) ρ B N R := fun σ H s r Dn k1 k2 =>
  wSs_of (pss_cons ps_w pss_w) (h1 σ H s r { Dn with nx := wSs X rest Dn } (fun ρ' σ' H' n r' => h2 ρ' H' n σ' H' (Sx.refl H') r' Dn k1 k2) k2)
/-- what follows a statement whose term is t -/
theorem dss_of {t : TS} (q : PS X st t) (h : ∀ σ H, Sx B H → Rep H σ ρ → ∀ Dn : Ends, (∀ ρ' σ' H', N ρ' H' → Rep H' σ' ρ' → Dn.nx σ' H') → (∀ d v H', R d H' → Dat H' d v → Dn.rt v H') → t { Dn with nx := wSs X rest Dn } σ H) : DSs X (st :: rest) ρ B N R :=
  fun σ H s r Dn k1 k2 => wSs_of (pss_cons q pss_w) (h σ H s r Dn k1 k2)
theorem go_on (h : DSs X rest ρ1 B' N R) {σ : L2.St} {H : Hp} (s : Sx B' H) (r : Rep H σ ρ1) {Dn : Ends} (k1 : ∀ ρ' σ' H', N ρ' H' → Rep H' σ' ρ' → Dn.nx σ' H') (k2 : ∀ d v H', R d H' → Dat H' d v → Dn.rt v H') : wSs X rest Dn σ H := h σ H s r Dn k1 k2
theorem dss_asg (i : Nat) (nd : X.N.Nodup) (he : DE X e ρ B d) (h : DSs X rest (ρ.set i (some d)) B N R) (hi : X.N[i]? = some x := by rfl) (hx : Loc X.env.scope x := by first | exact Or.inl rfl | exact Or.inr rfl)
    (hs : swapsWith e (some (.Name x pos')) pos.line X.env = pure false := by rfl) (hf : X.fn x = true ∨ X.env.scope.names.lookup x = some .local := by first | exact .inl rfl | exact .inr rfl) : DSs X (.Assign [.Name x pos'] e pos :: rest) ρ B N R :=
  dss_of (ps_set nd hi hx pe_w hs hf) fun σ H s r Dn k1 k2 => he σ H s r _ fun v H1 s1 e1 => go_on h (s.trans s1) ((r.mono s1).set i e1) k1 k2
theorem dss_asgX (i : Nat) (nd : X.N.Nodup) (he : DX X e ρ B P) (h : ∀ d H1, P d H1 → DSs X rest (ρ.set i (some d)) H1 N R) (hi : X.N[i]? = some x := by rfl) (hx : Loc X.env.scope x := by first | exact Or.inl rfl | exact Or.inr rfl)
    (hs : swapsWith e (some (.Name x pos')) pos.line X.env = pure false := by rfl) (hf : X.fn x = true ∨ X.env.scope.names.lookup x = some .local := by first | exact .inl rfl | exact .inr rfl) : DSs X (.Assign [.Name x pos'] e pos :: rest) ρ B N R :=
  dss_of (ps_set nd hi hx pe_w hs hf) fun σ H s r Dn k1 k2 => he σ H s r _ fun d v H1 p1 e1 r1 => go_on (h d H1 p1) (Sx.refl H1) (r1.set i e1) k1 k2
theorem dss_unp (he : DE X e ρ B d) (hg : DG X tg d ρ ρ1) (h : DSs X rest ρ1 B N R) (hs : swapsWithSole [tg] e pos.line X.env = pure false := by rfl) (hw : swappedStores [tg] e X.env = pure none := by rfl)
    (h1 : (assignEach [tg] X.env).map (·.2) = [assign tg X.env] := by rfl) : DSs X (.Assign [tg] e pos :: rest) ρ B N R :=
  dss_of (ps_asg pe_w pg_w hs hw h1) fun σ H s r Dn k1 k2 => he σ H s r _ fun v H1 s1 e1 => hg σ H1 v (r.mono s1) e1 _ fun σ' r' => go_on h (s.trans s1) r' k1 k2
theorem dss_unpX (he : DX X e ρ B P) (h : ∀ d H1, P d H1 → ∃ ρ1, DG X tg d ρ ρ1 ∧ DSs X rest ρ1 H1 N R) (hs : swapsWithSole [tg] e pos.line X.env = pure false := by rfl) (hw : swappedStores [tg] e X.env = pure none := by rfl)
    (h1 : (assignEach [tg] X.env).map (·.2) = [assign tg X.env] := by rfl) : DSs X (.Assign [tg] e pos :: rest) ρ B N R :=
  dss_of (ps_asg pe_w pg_w hs hw h1) fun σ H s r Dn k1 k2 => he σ H s r _ fun d v H1 p1 e1 r1 => by
    obtain ⟨ρ1, hg, hr⟩ := h d H1 p1
    exact hg σ H1 v r1 e1 _ fun σ' r' => go_on hr (Sx.refl H1) r' k1 k2
theorem dss_aug (i : Nat) (nd : X.N.Nodup) (hx0 : ρ[i]? = some (some (.int n1))) (he : DE X e ρ B (.int n2)) (h : DSs X rest (ρ.set i (some (.int (n1 + n2)))) B N R) (hi : X.N[i]? = some x := by rfl) (hx : Loc X.env.scope x := by first | exact Or.inl rfl | exact Or.inr rfl)
    (hf : X.fn x = true ∨ X.env.scope.names.lookup x = some .local := by first | exact .inl rfl | exact .inr rfl) : DSs X (.AugAssign (.Name x pos') .Add e pos :: rest) ρ B N R :=
  dss_of (ps_aug nd hi hx pe_w ip_add hf) fun σ H s r Dn k1 k2 => by
    obtain ⟨v, e1, e2⟩ := r.2 i _ hx0
    exact ⟨v, e1, he σ H s r _ fun u H1 s1 e3 => ⟨n1, n2, e2, e3, go_on h (s.trans s1) ((r.mono s1).set i rfl) k1 k2⟩⟩
theorem dss_ret (he : DE X e ρ B d) (h : ∀ H, Sx B H → R d H) : DSs X (.Return (some e) pos :: rest) ρ B N R :=
  dss_of (ps_ret pe_w) fun σ H s r Dn k1 k2 => he σ H s r _ fun v H1 s1 e1 => k2 d v H1 (h H1 (s.trans s1)) e1
theorem dss_retX (he : DX X e ρ B P) (h : ∀ d H, P d H → R d H) : DSs X (.Return (some e) pos :: rest) ρ B N R :=
  dss_of (ps_ret pe_w) fun σ H s r Dn k1 k2 => he σ H s r _ fun d v H1 p1 e1 r1 => k2 d v H1 (h d H1 p1) e1
theorem dss_retN (h : ∀ H, Sx B H → R .non H) : DSs X (.Return none pos :: rest) ρ B N R :=
  dss_of ps_retN fun σ H s r Dn k1 k2 => k2 .non .non H (h H s) rfl
theorem dss_expr (he : DE X e ρ B d) (h : DSs X rest ρ B N R) (hs : swapsWith e none pos.line X.env = pure false := by rfl) : DSs X (.Expr e pos :: rest) ρ B N R :=
  dss_of (ps_expr pe_w hs) fun σ H s r Dn k1 k2 => he σ H s r _ fun v H1 s1 e1 => go_on h (s.trans s1) (r.mono s1) k1 k2
theorem dss_exprX (he : DX X e ρ B P) (h : ∀ d H1, P d H1 → DSs X rest ρ H1 N R) (hs : swapsWith e none pos.line X.env = pure false := by rfl) : DSs X (.Expr e pos :: rest) ρ B N R :=
  dss_of (ps_expr pe_w hs) fun σ H s r Dn k1 k2 => he σ H s r _ fun d v H1 p1 e1 r1 => go_on (h d H1 p1) (Sx.refl H1) r1 k1 k2
theorem dss_par (i j : Nat) {y : Str} {px py pt : Pos} {kt k2' : Nat} {pt2 : Pos} (nd : X.N.Nodup) (ha : DA X [a, b] ρ B [d1, d2]) (h : DSs X rest ((ρ.set i (some d1)).set j (some d2)) B N R) (hij : i ≠ j)
    (hi : X.N[i]? = some x := by rfl) (hj : X.N[j]? = some y := by rfl) (hx : X.env.scope.names.lookup x = some .local := by rfl) (hy : X.env.scope.names.lookup y = some .local := by rfl) (hc : X.calm = true := by rfl)
    (hw : swappedStores [.Tuple [.Name x px, .Name y py] kt pt] (.Tuple [a, b] k2' pt2) X.env = pure (some [x, y]) := by rfl)
    (hs : swapsWithSole [.Tuple [.Name x px, .Name y py] kt pt] (.Tuple [a, b] k2' pt2) pos.line X.env = pure false := by rfl) : DSs X (.Assign [.Tuple [.Name x px, .Name y py] kt pt] (.Tuple [a, b] k2' pt2) pos :: rest) ρ B N R :=
  dss_of (ps_par hc nd hi hj hij hx hy pa_w hw hs) fun σ H s r Dn k1 k2 => ha σ H s r _ fun vs H1 s1 e1 => by
    obtain ⟨v, w, ev, h1, h2⟩ := e1.two
    exact ⟨v, w, ev, go_on h (s.trans s1) (((r.mono s1).set i h1).set j h2) k1 k2⟩
theorem dss_ifT (hc : DT X c ρ B true) (hb : DSs X bd ρ B N1 R) (h : ∀ ρ1 H1, N1 ρ1 H1 → DSs X rest ρ1 H1 N R) : DSs X (.If c bd el pos :: rest) ρ B N R :=
  dss_of (ps_if pt_w pss_w pss_never) fun σ H s r Dn k1 k2 => hc σ H s r _ fun H1 s1 => by
    rw [if_pos rfl]
    exact hb σ H1 (s.trans s1) (r.mono s1) _ (fun ρ' σ' H' n r' => h ρ' H' n σ' H' (Sx.refl H') r' Dn k1 k2) k2
theorem dss_ifF (hc : DT X c ρ B false) (hb : DSs X el ρ B N1 R) (h : ∀ ρ1 H1, N1 ρ1 H1 → DSs X rest ρ1 H1 N R) : DSs X (.If c bd el pos :: rest) ρ B N R :=
  dss_of (ps_if pt_w pss_never pss_w) fun σ H s r Dn k1 k2 => hc σ H s r _ fun H1 s1 => by
    (rw [if_neg Bool.false_ne_true])
    exact hb σ H1 (s.trans s1) (r.mono s1) _ (fun ρ' σ' H' n r' => h ρ' H' n σ' H' (Sx.refl H') r' Dn k1 k2) k2
/-- if c: .. without else, not taken -/
theorem dss_skip (hc : DT X c ρ B false) (h : DSs X rest ρ B N R) : DSs X (.If c bd [] pos :: rest) ρ B N R :=
  dss_ifF hc (dss_nil (N := fun r H => r = ρ ∧ Sx B H) fun H s => ⟨rfl, s⟩) fun ρ1 H1 q => by
    obtain ⟨rfl, s⟩ := q
    exact h.mono s
/-- if c: .. return -/
theorem dss_leave (hc : DT X c ρ B true) (hb : DSs X bd ρ B (fun _ _ => False) R) : DSs X (.If c bd el pos :: rest) ρ B N R :=
  dss_ifT hc hb fun _ _ z => z.elim
theorem dss_guard (hc : DT X c ρ B kb) (hb : kb = true → DSs X bd ρ B (fun _ _ => False) R) (h : kb = false → DSs X rest ρ B N R) : DSs X (.If c bd [] pos :: rest) ρ B N R := by
  cases kb with
  | true => exact dss_leave hc (hb rfl)
  | false => exact dss_skip hc (h rfl)
abbrev LP := Hp → Nat → Rho → Hp → Prop
theorem dss_forT (P : LP) (he : DE X iter ρ B (.tup ds)) (hn : noLs ds = true) (h0 : ∀ H, Sx B H → ∃ ρ0, Wk ρ ρ0 ∧ P H 0 ρ0 H) (hT : ∀ H0 i ρ' H', P H0 i ρ' H' → SameT H0 H')
    (hs : ∀ H0, Sx B H0 → ∀ i d ρ' H', ds[i]? = some d → P H0 i ρ' H' → ∃ ρ1, DG X tg d ρ' ρ1 ∧ DSs X bd ρ1 H' (fun ρ2 H2 => ∃ ρ3, Wk ρ2 ρ3 ∧ P H0 (i + 1) ρ3 H2) R)
    (hd : ∀ H0, Sx B H0 → ∀ ρ' H', P H0 ds.length ρ' H' → DSs X rest ρ' H' N R) (hp : PassesOwn (model X.prog X.w) X.A X.env X.xe := by exact PassesOwn.never) (hc : X.calm = true := by rfl)
    (hfs : ∀ x, foldedSetIterable iter X.env x = pure x := by intro _; rfl) : DSs X (.For tg iter bd [] pos :: rest) ρ B N R :=
  dss_of (ps_for hp hc (pi_tup pe_w) pg_w pss_w hfs) fun σ H s r Dn k1 k2 => he σ H s r _ fun v H1 s1 e1 => by
    obtain ⟨a, xs, ex, ha, hx⟩ := e1
    refine ⟨a, ex, ⟨xs, SqT.of ha⟩, for_tup (K := X.K) (a := a) (xs := xs) (fun i σ' H' => ∃ ρ', Rep H' σ' ρ' ∧ P H1 i ρ' H') ?_ ?_ ?_ ?_⟩
    · obtain ⟨ρ0, w, q⟩ := h0 H1 (s.trans s1)
      exact ⟨ρ0, (r.mono s1).weak w, q⟩
    · rintro i σ' H' _ ⟨ρ', _, q⟩
      exact SqT.of (hT _ _ _ _ q a xs ha)
    · rintro i y σ' H' hi ⟨ρ', r', q⟩
      obtain ⟨d, hd1, dd⟩ := hx.get' hi
      have hnd : noL d = true := noLs_mem hn (List.mem_of_getElem? hd1)
      obtain ⟨ρ1, g, b⟩ := hs H1 (s.trans s1) i d ρ' H' hd1 q
      refine g σ' H' y r' (Dat.monoT (hT _ _ _ _ q) d y hnd dd) _ fun σ2 r2 => b σ2 H' (Sx.refl H') r2 _ (fun ρ2 σ3 H3 n3 r3 => ?_) k2
      obtain ⟨ρ3, w3, p3⟩ := n3
      exact ⟨ρ3, r3.weak w3, p3⟩
    · rintro σ' H' ⟨ρ', r', q⟩
      rw [← hx.length] at q
      exact go_on (hd H1 (s.trans s1) ρ' H' q) (Sx.refl H') r' k1 k2
theorem dss_forL (P : LP) (he : DE X iter ρ B (.lst ds)) (h0 : ∀ H, Sx B H → ∃ ρ0, Wk ρ ρ0 ∧ P H 0 ρ0 H) (hT : ∀ H0 i ρ' H', P H0 i ρ' H' → SameL H0 H')
    (hs : ∀ H0, Sx B H0 → ∀ i d ρ' H', ds[i]? = some d → P H0 i ρ' H' → ∃ ρ1, DG X tg d ρ' ρ1 ∧ DSs X bd ρ1 H' (fun ρ2 H2 => ∃ ρ3, Wk ρ2 ρ3 ∧ P H0 (i + 1) ρ3 H2) R)
    (hd : ∀ H0, Sx B H0 → ∀ ρ' H', P H0 ds.length ρ' H' → DSs X rest ρ' H' N R) (hp : PassesOwn (model X.prog X.w) X.A X.env X.xe := by exact PassesOwn.never) (hc : X.calm = true := by rfl)
    (hfs : ∀ x, foldedSetIterable iter X.env x = pure x := by intro _; rfl) : DSs X (.For tg iter bd [] pos :: rest) ρ B N R :=
  dss_of (ps_for hp hc (pi_list pe_w) pg_w pss_w hfs) fun σ H s r Dn k1 k2 => he σ H s r _ fun v H1 s1 e1 => by
    obtain ⟨a, xs, ex, ha, hx⟩ := e1
    refine ⟨a, ex, ⟨xs, SqL.of ha⟩, for_list (K := X.K) (a := a) (xs := xs) (fun i σ' H' => ∃ ρ', Rep H' σ' ρ' ∧ P H1 i ρ' H') ?_ ?_ ?_ ?_⟩
    · obtain ⟨ρ0, w, q⟩ := h0 H1 (s.trans s1)
      exact ⟨ρ0, (r.mono s1).weak w, q⟩
    · rintro i σ' H' _ ⟨ρ', _, q⟩
      exact SqL.of ((hT _ _ _ _ q).l a xs ha)
    · rintro i y σ' H' hi ⟨ρ', r', q⟩
      obtain ⟨d, hd1, dd⟩ := hx.get' hi
      obtain ⟨ρ1, g, b⟩ := hs H1 (s.trans s1) i d ρ' H' hd1 q
      refine g σ' H' y r' (Dat.monoL (hT _ _ _ _ q) d y dd) _ fun σ2 r2 => b σ2 H' (Sx.refl H') r2 _ (fun ρ2 σ3 H3 n3 r3 => ?_) k2
      obtain ⟨ρ3, w3, p3⟩ := n3
      exact ⟨ρ3, r3.weak w3, p3⟩
    · rintro σ' H' ⟨ρ', r', q⟩
      rw [← hx.length] at q
      exact go_on (hd H1 (s.trans s1) ρ' H' q) (Sx.refl H') r' k1 k2
/-- over a list that stands at an address -/
theorem dss_forA (P : LP) (he : DE X iter ρ B (.ref p)) (hL : LstAt B p ds) (hn : noLs ds = true) (h0 : ∀ H, Sx B H → ∃ ρ0, Wk ρ ρ0 ∧ P H 0 ρ0 H) (hT : ∀ H0 i ρ' H', P H0 i ρ' H' → SameT H0 H' ∧ ∀ xs, H0 p = some (.lst xs) → H' p = some (.lst xs))
    (hs : ∀ H0, Sx B H0 → ∀ i d ρ' H', ds[i]? = some d → P H0 i ρ' H' → ∃ ρ1, DG X tg d ρ' ρ1 ∧ DSs X bd ρ1 H' (fun ρ2 H2 => ∃ ρ3, Wk ρ2 ρ3 ∧ P H0 (i + 1) ρ3 H2) R)
    (hd : ∀ H0, Sx B H0 → ∀ ρ' H', P H0 ds.length ρ' H' → DSs X rest ρ' H' N R) (hp : PassesOwn (model X.prog X.w) X.A X.env X.xe := by exact PassesOwn.never) (hc : X.calm = true := by rfl)
    (hfs : ∀ x, foldedSetIterable iter X.env x = pure x := by intro _; rfl) : DSs X (.For tg iter bd [] pos :: rest) ρ B N R :=
  dss_of (ps_for hp hc (pi_list pe_w) pg_w pss_w hfs) fun σ H s r Dn k1 k2 => he σ H s r _ fun v H1 s1 e1 => by
    obtain ⟨xs, ha, hx⟩ := hL.mono (s.trans s1)
    refine ⟨p, e1, ⟨xs, SqL.of ha⟩, for_list (K := X.K) (a := p) (xs := xs) (fun i σ' H' => ∃ ρ', Rep H' σ' ρ' ∧ P H1 i ρ' H') ?_ ?_ ?_ ?_⟩
    · obtain ⟨ρ0, w, q⟩ := h0 H1 (s.trans s1)
      exact ⟨ρ0, (r.mono s1).weak w, q⟩
    · rintro i σ' H' _ ⟨ρ', _, q⟩
      exact SqL.of ((hT _ _ _ _ q).2 xs ha)
    · rintro i y σ' H' hi ⟨ρ', r', q⟩
      obtain ⟨d, hd1, dd⟩ := hx.get' hi
      have hnd : noL d = true := noLs_mem hn (List.mem_of_getElem? hd1)
      obtain ⟨ρ1, g, b⟩ := hs H1 (s.trans s1) i d ρ' H' hd1 q
      refine g σ' H' y r' (Dat.monoT (hT _ _ _ _ q).1 d y hnd dd) _ fun σ2 r2 => b σ2 H' (Sx.refl H') r2 _ (fun ρ2 σ3 H3 n3 r3 => ?_) k2
      obtain ⟨ρ3, w3, p3⟩ := n3
      exact ⟨ρ3, r3.weak w3, p3⟩
    · rintro σ' H' ⟨ρ', r', q⟩
      rw [← hx.length] at q
      exact go_on (hd H1 (s.trans s1) ρ' H' q) (Sx.refl H') r' k1 k2
/-- for i in range(n) -/
theorem dss_forR (P : LP) (he : DE X a ρ B (.int n)) (hb : -(2 ^ 62) ≤ n ∧ n < 2 ^ 62) (h0 : ∀ H, Sx B H → ∃ ρ0, Wk ρ ρ0 ∧ P H 0 ρ0 H)
    (hs : ∀ H0, Sx B H0 → ∀ (i : Nat) ρ' H', (i : Int) < n → P H0 i ρ' H' → ∃ ρ1, DG X tg (.int (i : Int)) ρ' ρ1 ∧ DSs X bd ρ1 H' (fun ρ2 H2 => ∃ ρ3, Wk ρ2 ρ3 ∧ P H0 (i + 1) ρ3 H2) R)
    (hd : ∀ H0, Sx B H0 → ∀ ρ' H', P H0 n.toNat ρ' H' → DSs X rest ρ' H' N R) (hm : X.mg "range" = none) (hp : PassesOwn (model X.prog X.w) X.A X.env X.xe := by exact PassesOwn.never) (hc : X.calm = true := by rfl) (hg : Gl X "range" := by rfl)
    (hst : starEach [a] X.env = [(false, eval a X.env)] := by rfl) (hfs : ∀ x, foldedSetIterable (.Call (.Name "range" px) [a] [] apos) X.env x = pure x := by intro _; rfl) : DSs X (.For tg (.Call (.Name "range" px) [a] [] apos) bd [] pos :: rest) ρ B N R :=
  dss_of (ps_for hp hc (pi_range1 hg hm pa_w hst) pg_w pss_w hfs) fun σ H s r Dn k1 k2 => (da_cons he da_nil (by rw [hst]; rfl)) σ H s r _ fun vs H1 s1 e1 => by
    obtain ⟨v, ev, dv⟩ := e1.one
    rw [show v = V.int n from dv] at ev
    refine ⟨n, ev, hb.1, hb.2, for_range (lo := 0) (n := n.toNat) (fun i σ' H' => ∃ ρ', Rep H' σ' ρ' ∧ P H1 i ρ' H') ?_ ?_ ?_⟩
    · obtain ⟨ρ0, w, q⟩ := h0 H1 (s.trans s1)
      exact ⟨ρ0, (r.mono s1).weak w, q⟩
    · rintro i σ' H' hi ⟨ρ', r', q⟩
      obtain ⟨ρ1, g, b⟩ := hs H1 (s.trans s1) i ρ' H' (by omega) q
      refine g σ' H' _ r' (by rw [Int.zero_add]; rfl) _ fun σ2 r2 => b σ2 H' (Sx.refl H') r2 _ (fun ρ2 σ3 H3 n3 r3 => ?_) k2
      obtain ⟨ρ3, w3, p3⟩ := n3
      exact ⟨ρ3, r3.weak w3, p3⟩
    · rintro σ' H' ⟨ρ', r', q⟩
      exact go_on (hd H1 (s.trans s1) ρ' H' q) (Sx.refl H') r' k1 k2
/-- for i in range(lo, hi) -/
theorem dss_forR2 (P : LP) (he : DE X a ρ B (.int n1)) (he2 : DE X b ρ B (.int n2)) (hb : 0 ≤ n1 ∧ n1 < 2 ^ 62 ∧ -(2 ^ 62) ≤ n2 ∧ n2 < 2 ^ 62) (h0 : ∀ H, Sx B H → ∃ ρ0, Wk ρ ρ0 ∧ P H 0 ρ0 H)
    (hs : ∀ H0, Sx B H0 → ∀ (i : Nat) ρ' H', n1 + (i : Int) < n2 → P H0 i ρ' H' → ∃ ρ1, DG X tg (.int (n1 + (i : Int))) ρ' ρ1 ∧ DSs X bd ρ1 H' (fun ρ2 H2 => ∃ ρ3, Wk ρ2 ρ3 ∧ P H0 (i + 1) ρ3 H2) R)
    (hd : ∀ H0, Sx B H0 → ∀ ρ' H', P H0 (n2 - n1).toNat ρ' H' → DSs X rest ρ' H' N R) (hm : X.mg "range" = none) (hp : PassesOwn (model X.prog X.w) X.A X.env X.xe := by exact PassesOwn.never) (hc : X.calm = true := by rfl) (hg : Gl X "range" := by rfl)
    (hst : starEach [a, b] X.env = [(false, eval a X.env), (false, eval b X.env)] := by rfl) (hst2 : starEach [b] X.env = [(false, eval b X.env)] := by rfl) (hfs : ∀ x, foldedSetIterable (.Call (.Name "range" px) [a, b] [] apos) X.env x = pure x := by intro _; rfl) : DSs X (.For tg (.Call (.Name "range" px) [a, b] [] apos) bd [] pos :: rest) ρ B N R :=
  dss_of (ps_for hp hc (pi_range2 hg hm pa_w hst hst2) pg_w pss_w hfs) fun σ H s r Dn k1 k2 => (da_cons he (da_cons he2 da_nil (by rw [hst2]; rfl)) (by rw [hst, hst2])) σ H s r _ fun vs H1 s1 e1 => by
    obtain ⟨v, w, ev, dv, dw⟩ := e1.two
    rw [show v = V.int n1 from dv, show w = V.int n2 from dw] at ev
    refine ⟨n1, n2, ev, ⟨by omega, by omega, by omega, by omega⟩, for_range (lo := n1) (n := (n2 - n1).toNat) (fun i σ' H' => ∃ ρ', Rep H' σ' ρ' ∧ P H1 i ρ' H') ?_ ?_ ?_⟩
    · obtain ⟨ρ0, w, q⟩ := h0 H1 (s.trans s1)
      exact ⟨ρ0, (r.mono s1).weak w, q⟩
    · rintro i σ' H' hi ⟨ρ', r', q⟩
      obtain ⟨ρ1, g, b⟩ := hs H1 (s.trans s1) i ρ' H' (by omega) q
      refine g σ' H' _ r' rfl _ fun σ2 r2 => b σ2 H' (Sx.refl H') r2 _ (fun ρ2 σ3 H3 n3 r3 => ?_) k2
      obtain ⟨ρ3, w3, p3⟩ := n3
      exact ⟨ρ3, r3.weak w3, p3⟩
    · rintro σ' H' ⟨ρ', r', q⟩
      exact go_on (hd H1 (s.trans s1) ρ' H' q) (Sx.refl H') r' k1 k2
theorem dss_while (W : Nat → Rho → Hp → Prop) (h0 : ∀ H, Sx B H → ∃ m ρ0, Wk ρ ρ0 ∧ W m ρ0 H)
    (hs : ∀ m ρ' H', W m ρ' H' → ∃ kb, DT X c ρ' H' kb ∧ (kb = true → DSs X bd ρ' H' (fun ρ2 H2 => ∃ m' ρ3, m' < m ∧ Wk ρ2 ρ3 ∧ W m' ρ3 H2) R) ∧ (kb = false → DSs X rest ρ' H' N R)) (hp : PassesOwn (model X.prog X.w) X.A X.env X.xe := by exact PassesOwn.never) :
    DSs X (.While c bd [] pos :: rest) ρ B N R :=
  dss_of (ps_while hp pt_w pss_w) fun σ H s r Dn k1 k2 => by
    refine ⟨fun m σ' H' => ∃ ρ', Rep H' σ' ρ' ∧ W m ρ' H', ?_, ?_⟩
    · obtain ⟨m, ρ0, w, q⟩ := h0 H s
      exact ⟨m, ρ0, r.weak w, q⟩
    · rintro m σ' H' ⟨ρ', r', q⟩
      obtain ⟨kb, ht, hy, hn⟩ := hs m ρ' H' q
      refine ht σ' H' (Sx.refl H') r' _ fun H2 s2 => ?_
      cases kb with
      | true =>
        rw [if_pos rfl]
        refine ⟨fun σ3 H3 => ∃ m', m' < m ∧ ∃ ρ3, Rep H3 σ3 ρ3 ∧ W m' ρ3 H3, fun σ3 H3 z => z, hy rfl σ' H2 s2 (r'.mono s2) _ (fun ρ2 σ3 H3 n3 r3 => ?_) k2⟩
        obtain ⟨m', ρ3, hm, w3, p3⟩ := n3
        exact ⟨m', hm, ρ3, r3.weak w3, p3⟩
      | false =>
        (rw [if_neg Bool.false_ne_true])
        exact go_on (hn rfl) s2 (r'.mono s2) k1 k2
end
end K5
namespace K5
open PySem PySem.Spec PyProof.Rows L2
/-- a def that gives a datum and makes but new things -/
def spF (S : Hp → List D → D → Prop) : Sp := fun vs H Q _ => ∃ ds d, DatL H ds vs ∧ S H ds d ∧ ∀ v H', Sx H H' → Dat H' d v → Q v H'
/-- a def that changes the heap: Ψ of what it gives and of the heap behind; tuples stand -/
def spX (S : Hp → List D → (D → Hp → Prop) → Prop) : Sp := fun vs H Q _ => ∃ ds Ψ, DatL H ds vs ∧ S H ds Ψ ∧ ∀ d v H', Ψ d H' → Dat H' d v → SameT H H' → Q v H'
/-- an __init__ of the class at C: at a bare instance x; all but x stands -/
def spI (C : Addr) (S : Hp → Addr → List D → (Hp → Prop) → Prop) : Sp := fun vs H Q _ => ∃ x ds us Ψ, vs = .ref x :: us ∧ DatL H ds us ∧ Ins H x C [] ∧ S H x ds Ψ ∧ ∀ H', Ψ H' → But [x] H H' → Q .non H'
structure Cal (P : Program) (w : World) (K : PySem.W.Frag) (mg : Str → Option Value) (base : Heap) (k : Nat) (x : Str) (sp : Sp) : Prop where
  ex : ∃ (f : Addr) (fd : FuncData) (ps : List Str), FnOk P w K mg base CX0 k f fd ps sp ∧ mg x = some (.ref f) ∧ PySem.W.keepIn K (.ref f) = true ∧ Binds K fd ps []
structure Met (P : Program) (w : World) (K : PySem.W.Frag) (mg : Str → Option Value) (base : Heap) (k : Nat) (C : Addr) (m : Str) (sp : Sp) : Prop where
  ex : ∃ (f : Addr) (fd : FuncData) (ps : List Str), Cls K C ∧ Meth K C m f ∧ FnOk P w K mg base CX0 k f fd ps sp ∧ Binds K fd ps []
structure Mak (P : Program) (w : World) (K : PySem.W.Frag) (mg : Str → Option Value) (base : Heap) (k : Nat) (x : Str) (C : Addr) (pr : Sp) (dv : List V) : Prop where
  ex : ∃ (f : Addr) (fd : FuncData) (ps : List Str) (us : List Value), Mk K C f ∧ FnOk P w K mg base CX0 k f fd ps pr ∧ mg x = some (.ref C) ∧ Binds K fd ps us ∧ Vals dv us
section
variable {X : Cx} {e a b c o i tg iter : Expr} {es body els ts : List Expr} {st : Stmt} {sts rest bd el : List Stmt} {ρ ρ' ρ1 ρ2 : Rho} {B B' : Hp} {d d1 d2 : D} {ds : List D} {P : D → Hp → Prop} {N N' N1 : Rho → Hp → Prop} {R R' : D → Hp → Prop} {pos px apos pos' : Pos} {k j : Nat} {p C : Addr} {x m : Str} {gs : List (Str × D)} {kb : Bool} {n n1 n2 : Int}
theorem de_callB {id : String} {r : List V → Hp → VK → Prop} (hc : CallR X (.builtin id) r) (hm : X.mg x = none) (hv : bootBuiltins x = some (.builtin id)) (ha : DA X (e :: es) ρ B ds)
    (hr : ∀ H vs, Sx B H → DatL H ds vs → ∀ Q : VK, (∀ v H', Sx H H' → Dat H' d v → Q v H') → r vs H Q) (hg : Gl X x := by rfl) (hn : x ≠ "__name__" := by decide) (hdb : (x == ("__debug__" : Str)) = false := by decide)
    (he : starEach (e :: es) X.env = (false, eval e X.env) :: starEach es X.env := by rfl) (hpl : (backTo pos (starEach es X.env)).any (·.1) = false := by rfl) : DE X (.Call (.Name x px) (e :: es) [] pos) ρ B d :=
  DE.mk (pe_callB hc hg hm hv pa_w hn hdb he hpl) fun σ H s r' Q q => ha σ H s r' _ fun vs H1 s1 e1 => hr H1 vs (s.trans s1) e1 Q fun v H2 s2 => q v H2 (s1.trans s2)
theorem de_callTy {T : String} {r : List V → Hp → VK → Prop} (hc : CallR X (.type T) r) (hm : X.mg x = none) (hv : bootBuiltins x = some (.type T)) (ha : DA X (e :: es) ρ B ds)
    (hr : ∀ H vs, Sx B H → DatL H ds vs → ∀ Q : VK, (∀ v H', Sx H H' → Dat H' d v → Q v H') → r vs H Q) (hg : Gl X x := by rfl) (hn : x ≠ "__name__" := by decide) (hdb : (x == ("__debug__" : Str)) = false := by decide)
    (he : starEach (e :: es) X.env = (false, eval e X.env) :: starEach es X.env := by rfl) (hpl : (backTo pos (starEach es X.env)).any (·.1) = false := by rfl) : DE X (.Call (.Name x px) (e :: es) [] pos) ρ B d :=
  DE.mk (pe_callTy hc hg hm hv pa_w hn hdb he hpl) fun σ H s r' Q q => ha σ H s r' _ fun vs H1 s1 e1 => hr H1 vs (s.trans s1) e1 Q fun v H2 s2 => q v H2 (s1.trans s2)
theorem de_int1 (hm : X.mg "int" = none) (ha : DE X a ρ B (.int n)) (hg : Gl X "int" := by rfl) (he : starEach (a :: []) X.env = (false, eval a X.env) :: starEach [] X.env := by rfl) (hpl : (backTo pos (starEach [] X.env)).any (·.1) = false := by rfl) : DE X (.Call (.Name "int" px) [a] [] pos) ρ B (.int n) :=
  de_callTy call_int1 hm (by decide +kernel) (da_cons ha da_nil he) (fun H vs s e1 Q q => by
    obtain ⟨v, ev, dv⟩ := e1.one
    rw [show v = V.int n from dv] at ev
    exact .inl ⟨n, ev, q _ H (Sx.refl H) rfl⟩) hg (by decide) (by decide) he hpl
theorem de_intB (hm : X.mg "int" = none) (ha : DE X a ρ B (.bl kb)) (hg : Gl X "int" := by rfl) (he : starEach (a :: []) X.env = (false, eval a X.env) :: starEach [] X.env := by rfl) (hpl : (backTo pos (starEach [] X.env)).any (·.1) = false := by rfl) : DE X (.Call (.Name "int" px) [a] [] pos) ρ B (.int (if kb then 1 else 0)) :=
  de_callTy call_int1 hm (by decide +kernel) (da_cons ha da_nil he) (fun H vs s e1 Q q => by
    obtain ⟨v, ev, dv⟩ := e1.one
    rw [show v = V.bl kb from dv] at ev
    exact .inr ⟨kb, ev, q _ H (Sx.refl H) rfl⟩) hg (by decide) (by decide) he hpl
theorem de_abs (hm : X.mg "abs" = none) (ha : DE X a ρ B (.int n)) (hg : Gl X "abs" := by rfl) (he : starEach (a :: []) X.env = (false, eval a X.env) :: starEach [] X.env := by rfl) (hpl : (backTo pos (starEach [] X.env)).any (·.1) = false := by rfl) : DE X (.Call (.Name "abs" px) [a] [] pos) ρ B (.int (if n < 0 then -n else n)) :=
  de_callB call_abs hm (by decide +kernel) (da_cons ha da_nil he) (fun H vs s e1 Q q => by
    obtain ⟨v, ev, dv⟩ := e1.one
    rw [show v = V.int n from dv] at ev
    exact ⟨n, ev, q _ H (Sx.refl H) rfl⟩) hg (by decide) (by decide) he hpl
/-- len: of a tuple, of a list by its items, of a list at an address -/
theorem de_lenT (hm : X.mg "len" = none) (ha : DE X a ρ B (.tup ds)) (hg : Gl X "len" := by rfl) (he : starEach (a :: []) X.env = (false, eval a X.env) :: starEach [] X.env := by rfl) (hpl : (backTo pos (starEach [] X.env)).any (·.1) = false := by rfl) : DE X (.Call (.Name "len" px) [a] [] pos) ρ B (.int (ds.length : Int)) :=
  de_callB call_len_seq hm boot_len (da_cons ha da_nil he) (fun H vs s e1 Q q => by
    obtain ⟨v, ev, a', xs, ev2, h1, h2⟩ := e1.one
    rw [ev2] at ev
    exact ⟨a', xs, ev, .inr (SqT.of h1), q _ H (Sx.refl H) (by rw [h2.length]; rfl)⟩) hg (by decide) (by decide) he hpl
theorem de_lenL (hm : X.mg "len" = none) (ha : DE X a ρ B (.lst ds)) (hg : Gl X "len" := by rfl) (he : starEach (a :: []) X.env = (false, eval a X.env) :: starEach [] X.env := by rfl) (hpl : (backTo pos (starEach [] X.env)).any (·.1) = false := by rfl) : DE X (.Call (.Name "len" px) [a] [] pos) ρ B (.int (ds.length : Int)) :=
  de_callB call_len_seq hm boot_len (da_cons ha da_nil he) (fun H vs s e1 Q q => by
    obtain ⟨v, ev, a', xs, ev2, h1, h2⟩ := e1.one
    rw [ev2] at ev
    exact ⟨a', xs, ev, .inl (SqL.of h1), q _ H (Sx.refl H) (by rw [h2.length]; rfl)⟩) hg (by decide) (by decide) he hpl
theorem de_lenA (hm : X.mg "len" = none) (ha : DE X a ρ B (.ref p)) (hL : LstAt B p ds) (hg : Gl X "len" := by rfl) (he : starEach (a :: []) X.env = (false, eval a X.env) :: starEach [] X.env := by rfl) (hpl : (backTo pos (starEach [] X.env)).any (·.1) = false := by rfl) : DE X (.Call (.Name "len" px) [a] [] pos) ρ B (.int (ds.length : Int)) :=
  de_callB call_len_seq hm boot_len (da_cons ha da_nil he) (fun H vs s e1 Q q => by
    obtain ⟨v, ev, dv⟩ := e1.one
    rw [show v = V.ref p from dv] at ev
    obtain ⟨xs, h1, h2⟩ := hL.mono s
    exact ⟨p, xs, ev, .inl (SqL.of h1), q _ H (Sx.refl H) (by rw [h2.length]; rfl)⟩) hg (by decide) (by decide) he hpl
theorem boot_tuple' : bootBuiltins "tuple" = some (.type "tuple") := by decide +kernel
theorem boot_list' : bootBuiltins "list" = some (.type "list") := by decide +kernel
theorem de_tupleL (hm : X.mg "tuple" = none) (ha : DE X a ρ B (.lst ds)) (hg : Gl X "tuple" := by rfl) (he : starEach (a :: []) X.env = (false, eval a X.env) :: starEach [] X.env := by rfl) (hpl : (backTo pos (starEach [] X.env)).any (·.1) = false := by rfl) : DE X (.Call (.Name "tuple" px) [a] [] pos) ρ B (.tup ds) :=
  de_callTy call_tuple_of hm boot_tuple' (da_cons ha da_nil he) (fun H vs s e1 Q q => by
    obtain ⟨v, ev, a', xs, ev2, h1, h2⟩ := e1.one
    rw [ev2] at ev
    exact ⟨a', xs, ev, .inl ⟨SqL.of h1, fun l hl => q _ _ (Sx.new hl) ⟨l, xs, rfl, upd_same, DatL.mono (Sx.new hl) _ _ h2⟩⟩⟩) hg (by decide) (by decide) he hpl
theorem de_tupleA (hm : X.mg "tuple" = none) (ha : DE X a ρ B (.ref p)) (hL : LstAt B p ds) (hg : Gl X "tuple" := by rfl) (he : starEach (a :: []) X.env = (false, eval a X.env) :: starEach [] X.env := by rfl) (hpl : (backTo pos (starEach [] X.env)).any (·.1) = false := by rfl) : DE X (.Call (.Name "tuple" px) [a] [] pos) ρ B (.tup ds) :=
  de_callTy call_tuple_of hm boot_tuple' (da_cons ha da_nil he) (fun H vs s e1 Q q => by
    obtain ⟨v, ev, dv⟩ := e1.one
    rw [show v = V.ref p from dv] at ev
    obtain ⟨xs, h1, h2⟩ := hL.mono s
    exact ⟨p, xs, ev, .inl ⟨SqL.of h1, fun l hl => q _ _ (Sx.new hl) ⟨l, xs, rfl, upd_same, DatL.mono (Sx.new hl) _ _ h2⟩⟩⟩) hg (by decide) (by decide) he hpl
theorem de_tupleT (hm : X.mg "tuple" = none) (ha : DE X a ρ B (.tup ds)) (hg : Gl X "tuple" := by rfl) (he : starEach (a :: []) X.env = (false, eval a X.env) :: starEach [] X.env := by rfl) (hpl : (backTo pos (starEach [] X.env)).any (·.1) = false := by rfl) : DE X (.Call (.Name "tuple" px) [a] [] pos) ρ B (.tup ds) :=
  de_callTy call_tuple_of hm boot_tuple' (da_cons ha da_nil he) (fun H vs s e1 Q q => by
    obtain ⟨v, ev, a', xs, ev2, h1, h2⟩ := e1.one
    rw [ev2] at ev
    exact ⟨a', xs, ev, .inr ⟨SqT.of h1, q _ H (Sx.refl H) ⟨a', xs, rfl, h1, h2⟩⟩⟩) hg (by decide) (by decide) he hpl
theorem de_listL (hm : X.mg "list" = none) (ha : DE X a ρ B (.lst ds)) (hg : Gl X "list" := by rfl) (he : starEach (a :: []) X.env = (false, eval a X.env) :: starEach [] X.env := by rfl) (hpl : (backTo pos (starEach [] X.env)).any (·.1) = false := by rfl) : DE X (.Call (.Name "list" px) [a] [] pos) ρ B (.lst ds) :=
  de_callTy call_list_of hm boot_list' (da_cons ha da_nil he) (fun H vs s e1 Q q => by
    obtain ⟨v, ev, a', xs, ev2, h1, h2⟩ := e1.one
    rw [ev2] at ev
    exact ⟨a', xs, ev, .inl (SqL.of h1), fun l hl => q _ _ (Sx.new hl) ⟨l, xs, rfl, upd_same, DatL.mono (Sx.new hl) _ _ h2⟩⟩) hg (by decide) (by decide) he hpl
theorem de_call {S : Hp → List D → D → Prop} (cl : Cal X.prog X.w X.K X.mg X.base k x (spF S)) (hr : Room j X.A) (hk : k ≤ j) (ha : DA X (e :: es) ρ B ds) (hS : ∀ H, Sx B H → S H ds d) (hg : Gl X x := by rfl) (hdb : (x == ("__debug__" : Str)) = false := by decide)
    (he : starEach (e :: es) X.env = (false, eval e X.env) :: starEach es X.env := by rfl) (hpl : (backTo pos (starEach es X.env)).any (·.1) = false := by rfl) : DE X (.Call (.Name x px) (e :: es) [] pos) ρ B d := by
  obtain ⟨f, fd, ps, F, hm, kp, b⟩ := cl.ex
  exact DE.mk (pe_call F (hr.mono hk) hg hm kp b .nil pass0 pa_w hdb he hpl) fun σ H s r Q q => ha σ H s r _ fun vs H1 s1 e1 => ⟨ds, d, by rw [List.append_nil]; exact e1, hS H1 (s.trans s1), fun v H2 s2 => q v H2 (s1.trans s2)⟩
theorem dx_call {S : Hp → List D → (D → Hp → Prop) → Prop} (cl : Cal X.prog X.w X.K X.mg X.base k x (spX S)) (hr : Room j X.A) (hk : k ≤ j) (ha : DA X (e :: es) ρ B ds) (pl : Plain ρ) (hS : ∀ H, Sx B H → S H ds P) (hg : Gl X x := by rfl) (hdb : (x == ("__debug__" : Str)) = false := by decide)
    (he : starEach (e :: es) X.env = (false, eval e X.env) :: starEach es X.env := by rfl) (hpl : (backTo pos (starEach es X.env)).any (·.1) = false := by rfl) : DX X (.Call (.Name x px) (e :: es) [] pos) ρ B P := by
  obtain ⟨f, fd, ps, F, hm, kp, b⟩ := cl.ex
  exact DX.mk (pe_call F (hr.mono hk) hg hm kp b .nil pass0 pa_w hdb he hpl) fun σ H s r Q q => ha σ H s r _ fun vs H1 s1 e1 => ⟨ds, P, by rw [List.append_nil]; exact e1, hS H1 (s.trans s1), fun d v H2 p2 e2 t2 => q d v H2 p2 e2 ((r.mono s1).monoT pl t2)⟩
/-- a new instance -/
def Made (B : Hp) (P : Addr → Hp → Prop) (d : D) (H : Hp) : Prop := ∃ x, d = .ref x ∧ B x = none ∧ Sx B H ∧ P x H
theorem made_ins {H : Hp} {x dx C : Addr} : Ins (upd (upd H dx (.own x)) x (.ins C dx [])) x C [] := ⟨dx, [], upd_same, rfl⟩
theorem made_sx {H : Hp} {x dx C : Addr} (nx : H x = none) (nd : H dx = none) (ne : dx ≠ x) : Sx H (upd (upd H dx (.own x)) x (.ins C dx [])) :=
  (Sx.new nd).trans (Sx.new (by rw [upd_ne ne.symm]; exact nx))
theorem dx_make {S : Hp → Addr → List D → (Hp → Prop) → Prop} {dvs : List V} {des : List D} {Pm : Addr → Hp → Prop} (mk : Mak X.prog X.w X.K X.mg X.base k x C (spI C S) dvs) (hr : Room j X.A) (hk : k + 1 ≤ j) (ha : DA X (e :: es) ρ B ds) (hdv : ∀ H, DatL H des dvs)
    (hS : ∀ H y, Sx B H → B y = none → Ins H y C [] → S H y (ds ++ des) (Pm y)) (hg : Gl X x := by rfl) (hdb : (x == ("__debug__" : Str)) = false := by decide)
    (he : starEach (e :: es) X.env = (false, eval e X.env) :: starEach es X.env := by rfl) (hpl : (backTo pos (starEach es X.env)).any (·.1) = false := by rfl) : DX X (.Call (.Name x px) (e :: es) [] pos) ρ B (Made B Pm) := by
  obtain ⟨f, fd, ps, dsv, M, F, hm, b, dv⟩ := mk.ex
  exact DX.mk (pe_make M F (hr.mono hk) hg hm b dv pass0 pa_w hdb he hpl) fun σ H s r Q q => ha σ H s r _ fun vs H1 s1 e1 y dy ny nd nex => by
    have s2 := made_sx (C := C) ny nd nex
    have by0 : B y = none := (s.trans s1).free ny
    refine ⟨y, ds ++ des, vs ++ dvs, Pm y, rfl, (DatL.mono s2 _ _ e1).append (hdv _), made_ins, hS _ y ((s.trans s1).trans s2) by0 made_ins, fun H3 p3 b3 => ⟨rfl, ?_⟩⟩
    have s13 : Sx H1 H3 := b3.same s2 (fun a ha => by rw [show a = y by simpa using ha]; exact ny)
    exact q (.ref y) _ H3 ⟨y, rfl, by0, (s.trans s1).trans s13, p3⟩ rfl (r.mono (s1.trans s13))
def tMtG (X : Cx) (j : Nat) (m : Str) (ta : TE) (t : TA) : TE := fun σ H Q => ta σ H fun x H1 => ∃ (a C dx : Addr) (fs : List (Str × V)) (k : Nat) (sp : Sp), x = .ref a ∧ H1 a = some (.ins C dx fs) ∧ fs.lookup m = none ∧ k ≤ j ∧ Met X.prog X.w X.K X.mg X.base k C m sp ∧
  t σ H1 fun vs H2 => sp (x :: vs) H2 Q E0
theorem pe_mtG {ta : TE} {t : TA} {pl : Sem Bool} (he : PE X o ta) (hr : Room j X.A) (ha : PA X (e :: es) t) (hst : starEach (e :: es) X.env = (false, eval e X.env) :: starEach es X.env := by rfl) (hpl : (backTo pos (starEach es X.env)).any (·.1) = false := by rfl)
    (hev : eval (.Call (.Attribute o m apos) (e :: es) [] pos) X.env = (do
      let ov ← eval o X.env
      standAt apos.atName
      let (g, fst) ← holding [ov] (getMethod ov m pl)
      callWith pos g fst (backTo pos (starEach (e :: es) X.env)) (backToKw pos (keywordEach [] X.env))) := by rfl) : PE X (.Call (.Attribute o m apos) (e :: es) [] pos) (tMtG X j m ta t) := by
  refine ⟨fun pins s σ H Q I hₖ => ?_⟩
  refine PySem.W.methodCall_KW (pl := pl) (thn (he.run pins s σ H _ I hₖ) fun u s1 ⟨y, H1ₖ, I1, ryₖ, a, C, dx, fs, k, sp, ex, ea, l, hk, M, q⟩ => ?_) hev
  obtain ⟨f, fd, ps, cl, hm, F, b⟩ := M.ex
  subst ex
  obtain rfl : u = Value.ref a := ryₖ
  refine getmeth_ok I1 ea cl hm l ?_
  refine PySem.W.callWith_K (first := [.ref a]) (h₀ := X.base) I.ok.mod.kin hm.kp (thn (ha.run pos pins s1 σ H1ₖ _ I1 q) fun us s2 ⟨vs, H2, I2, r, q2⟩ => ⟨I2.kIn, ?_⟩) hst hpl
  exact run_fn (us := .ref a :: us) (vs := .ref a :: vs) F (hr.mono hk) b .nil pass0 I2 (.cons rfl r) (by rw [List.append_nil]; exact q2)
theorem pe_mtG0 {ta : TE} {pl : Sem Bool} (he : PE X o ta) (hr : Room j X.A) (ht : eval (.Call (.Attribute o m apos) [] [] pos) X.env = (do
      let ov ← eval o X.env
      standAt apos.atName
      let (g, fst) ← holding [ov] (getMethod ov m pl)
      callWith pos g fst (backTo pos (starEach [] X.env)) (backToKw pos (keywordEach [] X.env))) := by rfl) : PE X (.Call (.Attribute o m apos) [] [] pos) (tMtG X j m ta tNil) := by
  refine ⟨fun pins s σ H Q I hₖ => ?_⟩
  refine PySem.W.methodCall_KW (pl := pl) (thn (he.run pins s σ H _ I hₖ) fun u s1 ⟨y, H1, I1, ryₖ, a, C, dx, fs, k, sp, ex, ea, l, hk, M, q⟩ => ?_) ht
  obtain ⟨f, fd, ps, cl, hm, F, b⟩ := M.ex
  subst ex
  obtain rfl : u = Value.ref a := ryₖ
  refine getmeth_ok I1 ea cl hm l ?_
  exact PySem.W.callWith_K0 (first := [.ref a]) I1.kIn hm.kp (run_fn (us := [.ref a]) (vs := [.ref a]) F (hr.mono hk) b .nil pass0 I1 (.cons rfl .nil) q)
theorem de_meth {pl : Sem Bool} {S : Hp → List D → D → Prop} (mt : Met X.prog X.w X.K X.mg X.base k C m (spF S)) (hr : Room j X.A) (hk : k ≤ j) (ho : DE X o ρ B (.ref p)) (hi : Ins B p C gs) (hl : gs.lookup m = none) (ha : DA X (e :: es) ρ B ds) (hS : ∀ H, Sx B H → S H (.ref p :: ds) d)
    (hst : (starEach (e :: es) X.env = (false, eval e X.env) :: starEach es X.env ) := by rfl) (hpl : (backTo pos (starEach es X.env)).any (·.1) = false := by rfl)
    (hev : eval (.Call (.Attribute o m apos) (e :: es) [] pos) X.env = (do
      let ov ← eval o X.env
      standAt apos.atName
      let (g, fst) ← holding [ov] (getMethod ov m pl)
      callWith pos g fst (backTo pos (starEach (e :: es) X.env)) (backToKw pos (keywordEach [] X.env))) := by rfl) : DE X (.Call (.Attribute o m apos) (e :: es) [] pos) ρ B d :=
  DE.mk (pe_mtG (pl := pl) pe_w hr pa_w hst hpl hev) fun σ H s r Q q => ho σ H s r _ fun v H1 s1 e1 => by
    obtain ⟨dx, fs, eH, rf⟩ := hi.mono (s.trans s1)
    refine ⟨p, C, dx, fs, k, _, e1, eH, rf.none hl, hk, mt, ha σ H1 (s.trans s1) (r.mono s1) _ fun vs H2 s2 e2 => ?_⟩
    exact ⟨.ref p :: ds, d, ⟨v, vs, rfl, e1, e2⟩, hS H2 ((s.trans s1).trans s2), fun u H3 s3 => q u H3 ((s1.trans s2).trans s3)⟩
theorem de_meth0 {pl : Sem Bool} {S : Hp → List D → D → Prop} (mt : Met X.prog X.w X.K X.mg X.base k C m (spF S)) (hr : Room j X.A) (hk : k ≤ j) (ho : DE X o ρ B (.ref p)) (hi : Ins B p C gs) (hl : gs.lookup m = none) (hS : ∀ H, Sx B H → S H [.ref p] d)
    (hev : eval (.Call (.Attribute o m apos) [] [] pos) X.env = (do
      let ov ← eval o X.env
      standAt apos.atName
      let (g, fst) ← holding [ov] (getMethod ov m pl)
      callWith pos g fst (backTo pos (starEach [] X.env)) (backToKw pos (keywordEach [] X.env))) := by rfl) : DE X (.Call (.Attribute o m apos) [] [] pos) ρ B d :=
  DE.mk (pe_mtG0 (pl := pl) pe_w hr hev) fun σ H s r Q q => ho σ H s r _ fun v H1 s1 e1 => by
    obtain ⟨dx, fs, eH, rf⟩ := hi.mono (s.trans s1)
    refine ⟨p, C, dx, fs, k, _, e1, eH, rf.none hl, hk, mt, ?_⟩
    exact ⟨[.ref p], d, ⟨v, [], rfl, e1, rfl⟩, hS H1 (s.trans s1), fun u H3 s3 => q u H3 (s1.trans s3)⟩
theorem dx_meth {pl : Sem Bool} {S : Hp → List D → (D → Hp → Prop) → Prop} (mt : Met X.prog X.w X.K X.mg X.base k C m (spX S)) (hr : Room j X.A) (hk : k ≤ j) (ho : DE X o ρ B (.ref p)) (hi : Ins B p C gs) (hl : gs.lookup m = none) (ha : DA X (e :: es) ρ B ds) (pn : Plain ρ) (hS : ∀ H, Sx B H → S H (.ref p :: ds) P)
    (hst : (starEach (e :: es) X.env = (false, eval e X.env) :: starEach es X.env ) := by rfl) (hpl : (backTo pos (starEach es X.env)).any (·.1) = false := by rfl)
    (hev : eval (.Call (.Attribute o m apos) (e :: es) [] pos) X.env = (do
      let ov ← eval o X.env
      standAt apos.atName
      let (g, fst) ← holding [ov] (getMethod ov m pl)
      callWith pos g fst (backTo pos (starEach (e :: es) X.env)) (backToKw pos (keywordEach [] X.env))) := by rfl) : DX X (.Call (.Attribute o m apos) (e :: es) [] pos) ρ B P :=
  DX.mk (pe_mtG (pl := pl) pe_w hr pa_w hst hpl hev) fun σ H s r Q q => ho σ H s r _ fun v H1 s1 e1 => by
    obtain ⟨dx, fs, eH, rf⟩ := hi.mono (s.trans s1)
    refine ⟨p, C, dx, fs, k, _, e1, eH, rf.none hl, hk, mt, ha σ H1 (s.trans s1) (r.mono s1) _ fun vs H2 s2 e2 => ?_⟩
    exact ⟨.ref p :: ds, P, ⟨v, vs, rfl, e1, e2⟩, hS H2 ((s.trans s1).trans s2), fun d u H3 p3 e3 t3 => q d u H3 p3 e3 ((r.mono (s1.trans s2)).monoT pn t3)⟩
theorem dx_meth0 {pl : Sem Bool} {S : Hp → List D → (D → Hp → Prop) → Prop} (mt : Met X.prog X.w X.K X.mg X.base k C m (spX S)) (hr : Room j X.A) (hk : k ≤ j) (ho : DE X o ρ B (.ref p)) (hi : Ins B p C gs) (hl : gs.lookup m = none) (pn : Plain ρ) (hS : ∀ H, Sx B H → S H [.ref p] P)
    (hev : eval (.Call (.Attribute o m apos) [] [] pos) X.env = (do
      let ov ← eval o X.env
      standAt apos.atName
      let (g, fst) ← holding [ov] (getMethod ov m pl)
      callWith pos g fst (backTo pos (starEach [] X.env)) (backToKw pos (keywordEach [] X.env))) := by rfl) : DX X (.Call (.Attribute o m apos) [] [] pos) ρ B P :=
  DX.mk (pe_mtG0 (pl := pl) pe_w hr hev) fun σ H s r Q q => ho σ H s r _ fun v H1 s1 e1 => by
    obtain ⟨dx, fs, eH, rf⟩ := hi.mono (s.trans s1)
    refine ⟨p, C, dx, fs, k, _, e1, eH, rf.none hl, hk, mt, ?_⟩
    exact ⟨[.ref p], P, ⟨v, [], rfl, e1, rfl⟩, hS H1 (s.trans s1), fun d u H3 p3 e3 t3 => q d u H3 p3 e3 ((r.mono s1).monoT pn t3)⟩
/-- o.f = e, o the instance at p -/
theorem dss_fld {f : Str} (ho : DE X o ρ B (.ref p)) (he : DE X e ρ B d) (hi : Ins B p C gs) (hc : Cls X.K C) (hn : NoAttr X.K C f) (hz : gs.length < 1000) (h : ∀ H1, But [p] B H1 → SameL B H1 → Ins H1 p C (putD f d gs) → DSs X rest ρ H1 N R)
    (hs : swapsWith e (some (.Attribute o f pos')) pos.line X.env = pure false := by rfl) : DSs X (.Assign [.Attribute o f pos'] e pos :: rest) ρ B N R :=
  dss_of (ps_fld pe_w pe_w hs) fun σ H s r Dn k1 k2 => he σ H s r _ fun v H1 s1 e1 => ho σ H1 (s.trans s1) (r.mono s1) _ fun u H2 s2 e2 => by
    have s02 := (s.trans s1).trans s2
    obtain ⟨dx, fs, eH, rf⟩ := hi.mono s02
    have sl : SameL H2 (upd H2 p (.ins C dx (putF f v fs))) := SameL.upd (fun xs z => by rw [eH] at z; cases z) (fun xs z => by rw [eH] at z; cases z)
    have bt : But [p] H2 (upd H2 p (.ins C dx (putF f v fs))) := But.upd (fun u z => by rw [eH] at z; cases z; rfl)
    refine ⟨p, C, dx, fs, e2, eH, hc, hn, by rw [rf.length]; exact hz, ?_⟩
    refine go_on (h _ (s02.thenBut bt) ⟨fun a xs z => sl.t a xs (s02.tt a xs z), fun a xs z => sl.l a xs (s02.l.l a xs z)⟩ ⟨dx, _, upd_same, (rf.put (Dat.mono s2 d v e1)).monoL sl⟩) (Sx.refl _) ((r.mono (s1.trans s2)).monoL sl) k1 k2
/-- o.append(e), o the list at p -/
theorem dss_append {a2 : Expr} (ho : DE X o ρ B (.ref p)) (he : DE X e ρ B d) (hL : LstAt B p ds) (hz : ds.length < 100000) (pn : Plain ρ) (hn : noLs ds = true) (hd : noL d = true) (h : ∀ H1, But [p] B H1 → SameT B H1 → LstAt H1 p (ds ++ [d]) → DSs X rest ρ H1 N R)
    (hp : PE X (.Call (.Attribute o "append" apos) [e] [] pos') (tBM X.K "list" rAppend (wE X o) (tCons (wE X e) tNil)))
    (hs : swapsWith (.Call (.Attribute o "append" apos) [e] [] pos') none pos.line X.env = pure false := by rfl) : DSs X (.Expr (.Call (.Attribute o "append" apos) [e] [] pos') pos :: rest) ρ B N R :=
  dss_of (ps_expr hp hs) fun σ H s r Dn k1 k2 => ho σ H s r _ fun v H1 s1 e1 => by
    obtain ⟨xs1, hx1, _⟩ := hL.mono (s.trans s1)
    refine ⟨?_, he σ H1 (s.trans s1) (r.mono s1) _ fun u H2 s2 e2 => ?_⟩
    · rw [show v = V.ref p from e1]
      exact .inl ⟨rfl, xs1, SqL.of hx1⟩
    · have s02 := (s.trans s1).trans s2
      obtain ⟨xs, hx, dx⟩ := hL.mono s02
      have st : SameT H2 (upd H2 p (.lst (xs ++ [u]))) := SameT.upd (fun ys z => by rw [hx] at z; cases z)
      have bt : But [p] H2 (upd H2 p (.lst (xs ++ [u]))) := But.upd (fun y z => by rw [hx] at z; cases z; rfl)
      refine ⟨p, xs, u, e1, rfl, hx, Nat.lt_of_lt_of_le (by rw [← dx.length]; exact hz) (by decide), ?_⟩
      exact go_on (h _ (s02.thenBut bt) (s02.tt.trans st) ⟨_, upd_same, (DatL.monoT st _ _ hn dx).append ⟨u, [], rfl, Dat.monoT st d u hd e2, rfl⟩⟩) (Sx.refl _) ((r.mono (s1.trans s2)).monoT pn st) k1 k2
end
section
variable {P : Program} {w : World} {K : PySem.W.Frag} {mg : Str → Option Value} {base : Heap} {x qual : Str} {st : Stmt} {f C : Addr} {fd : FuncData} {Ns ps : List Str} {k : Nat}
theorem rep_start {H : Hp} {ds : List D} {vs : List V} (h : DatL H ds vs) (hN : ds.length ≤ Ns.length) : Rep H (L2.start Ns vs) (ds.map some ++ List.replicate (Ns.length - ds.length) none) := by
  unfold L2.start
  have hl := h.length
  refine ⟨by simp; omega, fun i d eₖ => ?_⟩
  by_cases hi : i < ds.length
  · rw [List.getElem?_append_left (by simpa using hi)] at eₖ
    rw [List.getElem?_append_left (by simp; omega)]
    rw [List.getElem?_map] at eₖ ⊢
    cases q : ds[i]? with
    | none => rw [q] at eₖ; cases eₖ
    | some d' =>
      rw [q] at eₖ
      have e2 : d' = d := by simpa using eₖ
      subst e2
      obtain ⟨v, h1, h2⟩ := h.get q
      exact ⟨v, by rw [h1]; rfl, h2⟩
  · rw [List.getElem?_append_right (by simp; omega), List.getElem?_replicate] at eₖ
    split at eₖ <;> cases eₖ
abbrev cxD (P : Program) (w : World) (K : PySem.W.Frag) (mg : Str → Option Value) (base : Heap) (Ns : List Str) (qual : Str) (st : Stmt) (f : Addr) (cdv : Value) (A : Around) (outer : List Env) (s : Shared) (H : Hp) (E : XK) : Cx := (cxOf CX0 P w K mg base Ns qual (defScope st) f cdv A outer s H E).nox
abbrev slots (Ns : List Str) (ds : List D) : Rho := ds.map some ++ List.replicate (Ns.length - ds.length) none
theorem okF {S : Hp → List D → D → Prop} (F : Fun K x qual st f fd) (sc : FnScope Ns ps (defScope st)) (hps : ps.length ≤ Ns.length) (hl : ∀ H ds d, S H ds d → ds.length = ps.length)
    (h : ∀ (cdv : Value) (A : Around) (outer : List Env) (s : Shared) (H : Hp) (E : XK), Room k (A.deeper (envOfC qual (defScope st) s.heap.objs.size f cdv)) → ∀ ds d, S H ds d →
      DSs (cxD P w K mg base Ns qual st f cdv A outer s H E) (defBody st) (slots Ns ds) H (fun _ H' => d = .non ∧ Sx H H') (fun d' H' => d' = d ∧ Sx H H')) : FnOk P w K mg base CX0 (k + 1) f fd ps (spF S) := by
  refine F.ok sc (fun vs H Q E hs => ?_) (fun cdv A outer s H vs Q E hr hs => ?_)
  · obtain ⟨ds, d, h1, h2, _⟩ := hs
    rw [← h1.length, hl _ _ _ h2]
  · obtain ⟨ds, d, h1, h2, hq⟩ := hs
    refine ⟨_, pss_w, h cdv A outer s H E hr ds d h2 (L2.start Ns vs) H (Sx.refl H) (rep_start h1 (by rw [hl _ _ _ h2]; exact hps)) _ (fun ρ' σ' H' n r => ?_) fun d' v H' z e => ?_⟩
    · obtain ⟨rfl, s'⟩ := n
      exact hq .non H' s' rfl
    · obtain ⟨rfl, s'⟩ := z
      exact hq v H' s' e
theorem okX {S : Hp → List D → (D → Hp → Prop) → Prop} (F : Fun K x qual st f fd) (sc : FnScope Ns ps (defScope st)) (hps : ps.length ≤ Ns.length) (hl : ∀ H ds Ψ, S H ds Ψ → ds.length = ps.length)
    (h : ∀ (cdv : Value) (A : Around) (outer : List Env) (s : Shared) (H : Hp) (E : XK), Room k (A.deeper (envOfC qual (defScope st) s.heap.objs.size f cdv)) → ∀ ds Ψ, S H ds Ψ →
      DSs (cxD P w K mg base Ns qual st f cdv A outer s H E) (defBody st) (slots Ns ds) H (fun _ H' => Ψ .non H' ∧ SameT H H') (fun d' H' => Ψ d' H' ∧ SameT H H')) : FnOk P w K mg base CX0 (k + 1) f fd ps (spX S) := by
  refine F.ok sc (fun vs H Q E hs => ?_) (fun cdv A outer s H vs Q E hr hs => ?_)
  · obtain ⟨ds, Ψ, h1, h2, _⟩ := hs
    rw [← h1.length, hl _ _ _ h2]
  · obtain ⟨ds, Ψ, h1, h2, hq⟩ := hs
    refine ⟨_, pss_w, h cdv A outer s H E hr ds Ψ h2 (L2.start Ns vs) H (Sx.refl H) (rep_start h1 (by rw [hl _ _ _ h2]; exact hps)) _ (fun ρ' σ' H' n r => ?_) fun d' v H' z e => ?_⟩
    · exact hq .non .non H' n.1 rfl n.2
    · exact hq d' v H' z.1 e z.2
theorem okI {S : Hp → Addr → List D → (Hp → Prop) → Prop} (F : Fun K x qual st f fd) (sc : FnScope Ns ps (defScope st)) (hps : ps.length ≤ Ns.length) (hl : ∀ H y ds Ψ, S H y ds Ψ → ds.length + 1 = ps.length)
    (h : ∀ (cdv : Value) (A : Around) (outer : List Env) (s : Shared) (H : Hp) (E : XK), Room k (A.deeper (envOfC qual (defScope st) s.heap.objs.size f cdv)) → ∀ y ds Ψ, Ins H y C [] → S H y ds Ψ →
      DSs (cxD P w K mg base Ns qual st f cdv A outer s H E) (defBody st) (slots Ns (.ref y :: ds)) H (fun _ H' => Ψ H' ∧ But [y] H H') (fun d' H' => d' = .non ∧ Ψ H' ∧ But [y] H H')) : FnOk P w K mg base CX0 (k + 1) f fd ps (spI C S) := by
  refine F.ok sc (fun vs H Q E hs => ?_) (fun cdv A outer s H vs Q E hr hs => ?_)
  · obtain ⟨y, ds, us, Ψ, ev, h1, hi, h2, _⟩ := hs
    rw [ev, List.length_cons, ← h1.length, hl _ _ _ _ h2]
  · obtain ⟨y, ds, us, Ψ, ev, h1, hi, h2, hq⟩ := hs
    subst ev
    refine ⟨_, pss_w, h cdv A outer s H E hr y ds Ψ hi h2 (L2.start Ns (.ref y :: us)) H (Sx.refl H) (rep_start (DatL.cons rfl h1) (by rw [List.length_cons, hl _ _ _ _ h2]; exact hps)) _ (fun ρ' σ' H' n r => ?_) fun d' v H' z e => ?_⟩
    · exact hq H' n.1 n.2
    · obtain ⟨rfl, z1, z2⟩ := z
      rw [show v = V.non from e]
      exact hq H' z1 z2
end
end K5
namespace K5
open PySem PySem.Spec PyProof.Rows L2
theorem adj_back (n : Nat) : Builtin.Slice.sliceAdjust none none (-1) (n : Int) = ((n : Int) - 1, -1) := by
  (unfold Builtin.Slice.sliceAdjust)
  simp
theorem places_back (n : Nat) : Builtin.Slice.slicePlaces ((n : Int) - 1) (-1) (-1) = n := by
  (unfold Builtin.Slice.slicePlaces)
  have h1 : ¬ ((-1 : Int) > 0) := by omega
  simp only [h1, if_false]
  by_cases hₖ : (n : Int) - 1 > -1
  · rw [if_pos hₖ]
    have e : ((n : Int) - 1 - -1 - 1) / (- -1) = (n : Int) - 1 := by
      (rw [show (- -1 : Int) = 1 by decide, Int.ediv_one])
      omega
    rw [e]
    omega
  · rw [if_neg hₖ]
    omega
theorem pick_back (xs : Array Value) : ((List.range xs.size).filterMap fun (k : Nat) => xs[((xs.size : Int) - 1 + (k : Int) * (-1)).toNat]?).toArray = xs.toList.reverse.toArray := by
  have e : ((List.range xs.size).filterMap fun (k : Nat) => xs[((xs.size : Int) - 1 + (k : Int) * (-1)).toNat]?) = (List.range xs.size).filterMap ((fun j => xs[j]?) ∘ fun k => xs.size - 1 - k) := by
    congr 1
    funext k
    show xs[((xs.size : Int) - 1 + (k : Int) * (-1)).toNat]? = xs[xs.size - 1 - k]?
    congr 1
    omega
  rw [e, ← List.filterMap_map, PySem.W.krv_range, List.filterMap_reverse, PySem.W.krv_all]
section
variable {w : World} {prog : Program} {A : Around} {E : Value → Shared → Prop} {s : Shared}
theorem applied_back {sl : Addr} {vs : Value} {n : Nat} {Q : Int × Int × Nat → Shared → Prop} (hs : s.heap.IsSliceOf sl .none .none vs) (ps : IsPart vs (some (-1))) (h : Q ((n : Int) - 1, -1, n) s) : wpAny (model prog w) A (Builtin.Slice.sliceApplied (.ref sl) (pure (n : Int))) Q E s := by
  obtain ⟨os, hos, hcsₖ, hds⟩ := id hs
  (unfold Builtin.Slice.sliceApplied Builtin.Slice.sliceFields)
  refine wpAny_bind (wpAny_bind (wpAny_field hos hds (x := .none) rfl (wpAny_bind (wpAny_field hos hds (x := .none) rfl (wpAny_bind (wpAny_field hos hds (x := vs) rfl (wpAny_pure ?_)))))))
  refine wpAny_bind (HT.slicePart_ ps ?_)
  show wpAny _ _ (if ((-1 : Int) == 0) = true then _ else _) _ _ s
  rw [if_neg (by decide)]
  refine wpAny_bind (HT.slicePart_ .none (wpAny_bind (HT.slicePart_ .none (wpAny_bind (wpAny_pure ?_)))))
  show wpAny _ _ (match Builtin.Slice.sliceAdjust none none (-1) (n : Int) with | (lo, hi) => pure (lo, (-1 : Int), Builtin.Slice.slicePlaces lo hi (-1))) _ _ s
  rw [adj_back]
  show wpAny _ _ (pure ((n : Int) - 1, (-1 : Int), Builtin.Slice.slicePlaces ((n : Int) - 1) (-1) (-1))) _ _ s
  rw [places_back]
  exact wpAny_pure h
theorem getItem_back {t sl : Addr} {items : Array Value} {vs : Value} {Q : Value → Shared → Prop} (ht : IsTup s.heap t items) (hs : s.heap.IsSliceOf sl .none .none vs) (ps : IsPart vs (some (-1)))
    (h : Q (.ref s.heap.objs.size) { s with heap := s.heap.push { cls := .type "tuple", data := .seq items.toList.reverse.toArray } }) (hsz : items.size ≤ sizeLine) : wpAny (model prog w) A (getItem (.ref t) (.ref sl)) Q E s := by
  have hok : sizeOk (.seq items.toList.reverse.toArray) := by
    show items.toList.reverse.toArray.size ≤ sizeLine
    rw [List.size_toArray, List.length_reverse, Array.length_toList]
    exact hsz
  obtain ⟨os, hos, hcsₖ, hds⟩ := id hs
  have hTsₖ : s.TypeIs (.ref sl) "slice" := ⟨os, hos, hcsₖ⟩
  unfold getItem
  (try with_reducible refine wpAny_holding ?_)
  (first | refine wpAny_bind (wpAny_pure ?_) | skip)
  refine wpAny_bind (wpAny_sequenceKey ht.typeIs (by decide) (wpAny_bind (wpAny_callSpecial?_slot (name := Str.ofString "__getitem__") ht.typeIs PyProof.Rows.slot_tuple_getitem (wpAny_call_entry PyProof.Rows.slot_tuple_getitem ht.typeIs entry_tuple_getitem ?_ (args_tuple_getitem _ _)))))
  show (wpAny _ _ (Builtin.Tuple.tupleItemsOf (.ref t) >>= _) _ _ s)
  refine wpAny_bind (tupleItemsOf_ ht (wpAny_bind (wpAny_typeOf hTsₖ ?_)))
  rw [if_pos (by decide)]
  refine wpAny_bind (applied_back hs ps ?_)
  show wpAny _ _ (if (((items.size : Int) - 1) == 0 && (-1 : Int) == 1 && items.size == items.size) = true then _ else _) _ _ s
  rw [if_neg (by simp), pick_back]
  first
    | exact wpAny_bind (m := Builtin.Tuple.tupleExact _) (wpAny_newObj_type (wpAny_pure ⟨_, rfl, wpAny_pure h⟩) hok)
    | exact wpAny_bind (m := Builtin.Tuple.tupleExact _) (wpAny_newObj_type (wpAny_bind (wpAny_pure (wpAny_pure ⟨_, rfl, wpAny_pure h⟩))) hok)
    | exact wpAny_bind (wpAny_bind (m := Builtin.Tuple.tupleExact _) (wpAny_newObj_type (wpAny_pure (wpAny_pure ⟨_, rfl, wpAny_pure h⟩)) hok))
    | exact wpAny_bind (wpAny_bind (m := Builtin.Tuple.tupleExact _) (wpAny_newObj_type (wpAny_pure ⟨_, rfl, wpAny_pure h⟩) hok))
end
section
variable {X : Cx}
def tRevT (K : PySem.W.Frag) (te : TE) : TE := fun σ H Q => te σ H fun x H1 => ∃ a xs, x = .ref a ∧ SqT K H1 a xs ∧ ∀ p, H1 p = none → Q (.ref p) (upd H1 p (.tup xs.reverse))
theorem pe_revT {e : Expr} {te : TE} {k : Nat} {p1 p2 p3 pos : Pos} (he : PE X e te) : PE X (.Subscript e (.Slice none none (some (.UnaryOp .USub (.Constant (.int 1) k p1) p2)) p3) pos) (tRevT X.K te) := by
  refine ⟨fun pins s σ H Q I h => Subscript_ (thn (he.run pins s σ H _ I h) fun v s1 z => ?_)⟩
  obtain ⟨x, H1, I1, r1, a, xs, ex, hx, q⟩ := z
  subst ex
  cases r1
  have hstₖ : PO X (some (.UnaryOp .USub (.Constant (.int 1) k p1) p2)) (tPart (tUn (rU fun i => .int (-i)) (tC (.int 1)))) := po_some (pe_un un_neg pe_int)
  refine wpAny_Slice (thn (po_none.run pins s1 σ H1 (fun o H2 => o = none ∧ H2 = H1) I1 ⟨rfl, rfl⟩) fun vl s2 z2 => ?_)
  obtain ⟨l, H2, I2, pl, el, e2⟩ := z2
  subst el e2
  refine thn (po_none.run pins s2 σ H2 (fun o H3 => o = none ∧ H3 = H2) I2 ⟨rfl, rfl⟩) fun vu s3 z3 => ?_
  obtain ⟨u, H3, I3, pu, eu, e3⟩ := z3
  subst eu e3
  refine thn (hstₖ.run pins s3 σ H3 (fun o H4 => o = some (-1) ∧ H4 = H3) I3 ⟨1, rfl, -1, rfl, rfl, rfl⟩) fun vs s4 z4 => ?_
  obtain ⟨o, H4, I4, ps, eo, e4⟩ := z4
  subst eo e4
  obtain rfl : vl = Value.none := by cases pl; rfl
  obtain rfl : vu = Value.none := by cases pu; rfl
  have I5 : Inv X pins σ H4 { s4 with heap := s4.heap.push { cls := .type "slice", data := .fields #[.none, .none, vs] } } := I4.kept (t' := s4.toks) fun b ob q => Heap.get?_push_of_some _ q
  obtain ⟨its, r, ht, hz⟩ := I5.tuple hx
  have hlen := r.length
  show wpAny (model X.prog X.w) X.A (subscriptTail e (.Slice none none (some (.UnaryOp .USub (.Constant (.int 1) k p1) p2)) p3) (.ref a) (.ref s4.heap.objs.size)) (EP X pins σ Q) X.xe { s4 with heap := s4.heap.push { cls := .type "slice", data := .fields #[.none, .none, vs] } }
  refine tail_any (ops := [.ref a, .ref s4.heap.objs.size]) ht.typeIs (PyProof.Rows.slot_tuple_getitem.lookup) ?_ (by with_unfolding_all rfl)
  refine getItem_back ht (Heap.IsSliceOf.new _ .none .none vs) ps ?_ (by rw [List.size_toArray]; omega)
  refine ⟨.ref _, _, I5.laid (t' := s4.toks) (o := .tup xs.reverse) (fun b ob q => Heap.get?_push_of_some _ q) (Nat.le_refl _) ?_, rfl, q _ (I5.hok.fresh (Nat.le_refl _))⟩
  exact ⟨by rw [List.length_reverse]; exact hz, _, r.reverse, IsTup.new _ _⟩
theorem de_revT {e : Expr} {k : Nat} {p1 p2 p3 pos : Pos} {ρ : Rho} {B : Hp} {ds : List D} (he : DE X e ρ B (.tup ds)) : DE X (.Subscript e (.Slice none none (some (.UnaryOp .USub (.Constant (.int 1) k p1) p2)) p3) pos) ρ B (.tup ds.reverse) :=
  DE.mk (pe_revT pe_w) fun σ H s r Q q => he σ H s r _ fun v H1 s1 e1 => by
    obtain ⟨a, xs, ev, ha, hx⟩ := e1
    exact ⟨a, xs, ev, SqT.of ha, fun p hp => q _ _ (s1.trans (Sx.new hp)) ⟨p, _, rfl, upd_same, DatL.mono (Sx.new hp) _ _ hx.reverse⟩⟩
end
theorem tuple_mul1 (l : Addr) (items : Array Value) (n : Nat) (dd : Option Addr) (sl : Array (Option Value)) (u : Tok) :
    Meets (Builtin.«tuple.__mul__» ⟨[.ref l, .int 1 u], []⟩) (fun _ R s => s.heap.get? l = some { cls := .type "tuple", dict := dd, data := .seq items n, slots := sl } ∧ R (.ok (.ret (Value.ref l))) s) :=
  .of_wp fun prog w A R s hₖ => by
    obtain ⟨hpₖ, g, d, tk, os⟩ := s
    obtain ⟨hlₖ, hₖ⟩ := hₖ
    have f1 := AutoSeq1.idx_int
    have c0ₖ : (decide ((1 : Int) < -(2 ^ 63)) || decide ((1 : Int) ≥ 2 ^ 63)) = false := by decide
    have c1 : (items.isEmpty || (1 : Int) == 1) = true := by simp
    wp_walk using wpAny_loadPart' hlₖ
    repeat (first
      | exact ⟨_, rfl, hₖ⟩
      | (refine wpAny_ite_false (decide_eq_false (by rw [c0ₖ]; exact Bool.false_ne_true)) ?_; wp_walk using wpAny_loadPart' hlₖ)
      | (refine wpAny_ite_true (decide_eq_true (by rw [c1])) ?_; wp_walk using wpAny_loadPart' hlₖ))
theorem tuple_mul0 (l : Addr) (items : Array Value) (n : Nat) (dd : Option Addr) (sl : Array (Option Value)) (u : Tok) (hi : items.isEmpty = false) :
    Meets (Builtin.«tuple.__mul__» ⟨[.ref l, .int 0 u], []⟩) (fun _ R s => s.heap.get? l = some { cls := .type "tuple", dict := dd, data := .seq items n, slots := sl } ∧
      R (.ok (.ret (Value.ref s.heap.objs.size))) { s with heap := s.heap.push { cls := Value.type "tuple", data := Data.seq #[] }, toks := s.toks }) :=
  .of_wp fun prog w A R s hₖ => by
    obtain ⟨hpₖ, g, d, tk, os⟩ := s
    obtain ⟨hlₖ, hₖ⟩ := hₖ
    have f1 := AutoSeq1.idx_int
    have c0ₖ : (decide ((0 : Int) < -(2 ^ 63)) || decide ((0 : Int) ≥ 2 ^ 63)) = false := by decide
    have c1ₖ : (items.isEmpty || (0 : Int) == 1) = false := by rw [hi]; rfl
    have c2 : (decide ((0 : Int) ≤ 0) || items.isEmpty) = true := by simp
    wp_walk using wpAny_loadPart' hlₖ
    repeat (first
      | exact ⟨_, rfl, hₖ⟩
      | (refine wpAny_ite_false (decide_eq_false (by rw [c0ₖ]; exact Bool.false_ne_true)) ?_; wp_walk using wpAny_loadPart' hlₖ)
      | (refine wpAny_ite_false (decide_eq_false (by rw [c1ₖ]; exact Bool.false_ne_true)) ?_; wp_walk using wpAny_loadPart' hlₖ)
      | (refine wpAny_ite_true (decide_eq_true (by rw [c2])) ?_; wp_walk using wpAny_loadPart' hlₖ)
      | (refine wpAny_ite_false (decide_eq_false (by simp)) ?_; wp_walk using wpAny_loadPart' hlₖ))
def rRepA (K : PySem.W.Frag) : R2 := fun x y H Q => ∃ l k xs, x = .ref l ∧ y = .int k ∧ SqT K H l xs ∧ xs ≠ [] ∧ 0 ≤ k ∧ k ≤ 1000000 ∧ xs.length ≤ 10 ∧ (k = 1 → Q (.ref l) H) ∧ (k ≠ 1 → ∀ p, H p = none → Q (.ref p) (upd H p (.tup (List.replicate k.toNat xs).flatten)))
section
variable {X : Cx}
theorem op_repA : OpR X (binaryOp .Mult) (rRepA X.K) := by
  intro pins s σ H x y v u Q I rxₖ ry h
  obtain ⟨l, k, xs, rfl, rfl, hT, hneₖ, h1, h2, hz, q1, q2⟩ := h
  cases rxₖ
  obtain ⟨t, rfl⟩ := ry
  obtain ⟨itsₖ, r, ⟨⟨cls, dd, data, sl⟩, hoₖ, hc, n, hd⟩, hs⟩ := I.tuple hT
  simp only at hc hd
  subst hc hd
  have hleₖ : itsₖ.length = xs.length := r.length.symm
  have hn : itsₖ ≠ [] := fun e => hneₖ (by
    rw [e] at hleₖ
    exact List.eq_nil_of_length_eq_zero hleₖ.symm)
  have hi : itsₖ.toArray.isEmpty = false := by
    cases itsₖ with
    | nil => exact absurd rfl hn
    | cons a b => rfl
  refine wpAny_binaryOp_repeat_ref (T := "tuple") (U := "int") (by decide) ⟨_, hoₖ, rfl⟩ (fun s' => typeIs_int s' k t) noFill_tuple_mul F.fills_int_mul F.slot_int_rmul repeat_tuple F.slot_int_index.lookup
    (call_meets F.slot_int_rmul (typeIs_int s k t) F.entry_int_rmul (F.args_int_rmul_2 _ _) (int_rmul_tuple k t l itsₖ.toArray n dd sl) ⟨hoₖ, rfl, ⟨_, hoₖ, rfl⟩, ?_⟩)
  by_cases k1 : k = 1
  · subst k1
    exact call_meets F.slot_tuple_mul ⟨_, hoₖ, rfl⟩ F.entry_tuple_mul (F.args_tuple_mul_2 _ _) (tuple_mul1 l itsₖ.toArray n dd sl t) ⟨hoₖ, ⟨.ref l, H, I, rfl, q1 rfl⟩⟩
  by_cases k0 : k = 0
  · subst k0
    refine call_meets F.slot_tuple_mul ⟨_, hoₖ, rfl⟩ F.entry_tuple_mul (F.args_tuple_mul_2 _ _) (tuple_mul0 l itsₖ.toArray n dd sl t hi) ⟨hoₖ, ?_⟩
    refine ⟨.ref s.heap.objs.size, _, I.laid (t' := s.toks) (o := .tup []) (fun b ob q => Heap.get?_push_of_some _ q) (Nat.le_refl _) ?_, rfl, q2 k1 _ (I.hok.fresh (Nat.le_refl _))⟩
    exact ⟨Nat.zero_le _, [], .nil, IsTup.new _ _⟩
  have hsz0ₖ : itsₖ.toArray.size = xs.length := by rw [List.size_toArray, hleₖ]
  have hm : ((itsₖ.toArray.size : Nat) : Int) * k ≤ 10000000 := by
    rw [hsz0ₖ]
    have a1 : ((xs.length : Nat) : Int) * k ≤ 10 * k := Int.mul_le_mul_of_nonneg_right (by omega) (by omega)
    omega
  have flenX : (List.replicate k.toNat xs).flatten.length ≤ sizeLine := by
    rw [PyProof.Rows.lm_len_rep_flat, sizeLine_eq]
    have a1 : k.toNat * xs.length ≤ 1000000 * 10 := Nat.mul_le_mul (by omega) hz
    omega
  have flenₖ : (List.replicate k.toNat itsₖ).flatten.length ≤ sizeLine := by
    rw [PyProof.Rows.lm_len_rep_flat, hleₖ, ← PyProof.Rows.lm_len_rep_flat]
    exact flenX
  have c0ₖ : (decide (k < -(2 ^ 63)) || decide (k ≥ 2 ^ 63)) = false := by
    (rw [decide_eq_false (by omega), decide_eq_false (by omega)] <;> rfl)
  have c1 : (itsₖ.toArray.isEmpty || k == 1) = false := by
    rw [hi, Bool.false_or]
    exact beq_eq_false_iff_ne.mpr k1
  have c2 : (decide (k ≤ 0) || itsₖ.toArray.isEmpty) = false := by
    rw [hi, Bool.or_false]
    exact (decide_eq_false (by omega))
  have c4 : Builtin.Tuple.tupleTooMany (((itsₖ.toArray.size : Nat) : Int) * k) = false := by
    (unfold Builtin.Tuple.tupleTooMany)
    rw [sizeLine_eq]
    exact (decide_eq_false (by omega))
  refine call_meets F.slot_tuple_mul ⟨_, hoₖ, rfl⟩ F.entry_tuple_mul (F.args_tuple_mul_2 _ _) (tuple_mulW l itsₖ.toArray n dd sl k t c0ₖ c1 c2 (by omega) c4 (by rw [size_rep, List.size_toArray]; exact flenₖ)) ⟨hoₖ, ?_⟩
  rw [size_rep]
  exact ⟨.ref s.heap.objs.size, _, I.laid (t' := s.toks) (o := .tup (List.replicate k.toNat xs).flatten) (fun b ob q => Heap.get?_push_of_some _ q) (Nat.le_refl _) ⟨flenX, _, r.rep k.toNat, IsTup.new _ _⟩, rfl, q2 k1 _ (I.hok.fresh (Nat.le_refl _))⟩
theorem flat_rep1 {α : Type} (x : α) (n : Nat) : (List.replicate n [x]).flatten = List.replicate n x := by
  induction n with
  | zero => rfl
  | succ n ih => rw [List.replicate_succ, List.flatten_cons, ih]; rfl
/-- (x,) * n -/
theorem de_rep1 {a b : Expr} {pos : Pos} {ρ : Rho} {B : Hp} {d : D} {n : Nat} (ha : DE X a ρ B (.tup [d])) (hb : DE X b ρ B (.int (n : Int))) (hn : n ≤ 1000000) : DE X (.BinOp a .Mult b pos) ρ B (.tup (List.replicate n d)) :=
  de_op op_repA ha hb fun H x y s e1 e2 Q q => by
    obtain ⟨p, xs, ex, hp, hx⟩ := e1
    obtain ⟨v, ev, dv⟩ := hx.one
    subst ev
    refine ⟨p, n, [v], ex, e2, SqT.of hp, by simp, by omega, by omega, by simp, fun h1 => ?_, fun _ p' hp' => ?_⟩
    · have : n = 1 := by omega
      subst this
      exact q _ H (Sx.refl H) ⟨p, [v], rfl, hp, hx⟩
    · rw [Int.toNat_natCast, flat_rep1]
      exact q _ _ (Sx.new hp') ⟨p', _, rfl, upd_same, DatL.rep (Dat.mono (Sx.new hp') d v dv) n⟩
theorem cr_sumT (hc : X.calm = true) : CallR X (.builtin "sum") (fun vs H Q => ∃ (a : Addr) (ns : List Int), vs = [V.ref a] ∧ SqT X.K H a (ns.map V.int) ∧ Q (.int ns.sum) H) := by
  intro pins s σ H vs usₖ Q I r h
  obtain ⟨a, ns, rfl, hsₖ, q⟩ := h
  obtain ⟨its, rv, hl, _⟩ := I.tuple hsₖ
  rw [Vals.ref1 r]
  obtain ⟨xs, hx⟩ := rv.ints.allInts.items
  have hnₖ : numsOf (intItems xs).toList = ns := by rw [← hx]; exact rv.ints.numsOf
  rw [nums_intItems] at hnₖ
  have hl' : s.heap.IsTuple a (intItems xs) := hx ▸ hl
  refine PySem.W.ktm_sumG (I.ok.hd hc) hl' fun h' tk t' hk => ?_
  refine ⟨.int _, H, I.kept hk, ⟨t', ?_⟩, q⟩
  rw [preSum_eq, List.take_of_length_le (by simp), hnₖ]
theorem boot_sum' : bootBuiltins "sum" = some (.builtin "sum") := by decide +kernel
theorem de_sumT {a : Expr} {px pos : Pos} {ρ : Rho} {B : Hp} {ns : List Int} (hm : X.mg "sum" = none) (ha : DE X a ρ B (.tup (ns.map D.int))) (hc : X.calm = true := by rfl) (hg : Gl X "sum" := by rfl) (he : starEach (a :: []) X.env = (false, eval a X.env) :: starEach [] X.env := by rfl) (hpl : (backTo pos (starEach [] X.env)).any (·.1) = false := by rfl) :
    DE X (.Call (.Name "sum" px) [a] [] pos) ρ B (.int ns.sum) :=
  de_callB (cr_sumT hc) hm boot_sum' (da_cons ha da_nil he) (fun H vs s e1 Q q => by
    obtain ⟨v, ev, a', xs, ev2, h1, h2⟩ := e1.one
    rw [ev2] at ev
    exact ⟨a', ns, ev, SqT.of (by rw [← h2.ints]; exact h1), q _ H (Sx.refl H) rfl⟩) hg (by decide) (by decide) he hpl
end
/-- the tuple at a, each item in a new pair -/
def IteT (K : PySem.W.Frag) (a : Addr) : It :=
  ⟨fun i H => ∃ (xs : List V) (x : V), SqT K H a xs ∧ xs[i]? = some x, fun i H v H' => ∃ T x, v = .ref T ∧ H T = none ∧ H' = upd H T (.tup [.int (i : Nat), x]) ∧ ∀ xs, SqT K H a xs → xs[i]? = some x, fun i H => ∃ xs : List V, SqT K H a xs ∧ xs.length = i⟩
theorem pair_tup {P : Program} {w : World} {H : Hp} {h : Heap} {T : Addr} {x y : V} {u v : Value} (hT : h.IsTuple T #[u, v]) (r1 : RelV x u) (r2 : RelV y v) : ObjOk P w H h T (.tup [x, y]) :=
  ⟨by show 2 ≤ sizeLine; decide, [u, v], .cons r1 (.cons r2 .nil), hT⟩
theorem turn_enumT {P : Program} {w : World} {K : PySem.W.Frag} {elts : List Expr} {kk : Nat} {tpos : Pos} (a e it : Addr) :
    Turn P w K (.Tuple elts kk tpos) (IteT K a) [e, it] e (fun i h => (∃ oldₖ, IsEnum h e it ((0 : Int) + (i : Int)) oldₖ) ∧ h.IsTupleIter it a i ∧ e ≠ it) where
  mem := by simp
  obj := fun i h st b hb => by
    obtain ⟨⟨oldₖ, he⟩, ⟨o, ho, hc, hd⟩, _⟩ := st
    rcases (by simpa using hb : b = e ∨ b = it) with z | z
    · exact z ▸ ⟨_, he, fun v q => nomatch q⟩
    · exact z ▸ ⟨o, ho, fun v q => by rw [hd] at q; cases q⟩
  keep := fun i h h' st k => ⟨st.1.elim fun oldₖ he => ⟨oldₖ, k e (by simp) _ he⟩, st.2.1.at fun o q => k it (by simp) o q, st.2.2⟩
  item := by
    intro X hP hw hKₖ hc i pins s σ H E I hf st hg
    subst hP hw hKₖ
    obtain ⟨he, hit, hne⟩ := st
    obtain ⟨xs, x, hq, hx⟩ := hg
    obtain ⟨itsₖ, rv, p, hz⟩ := I.tuple hq
    have hil : i < itsₖ.length := by rw [← rv.length]; exact (List.getElem?_eq_some_iff.mp hx).1
    obtain ⟨op, hop, _⟩ := id p
    have hee : H e = none := (hf e (by simp)).1
    have hti : a ≠ it := fun z => by
      obtain ⟨o, q, c, _⟩ := hit
      obtain ⟨o2, q2, c2, _⟩ := id p
      rw [z, q] at q2
      cases q2
      rw [c] at c2
      exact absurd (Value.type.inj c2) (by decide)
    have hta : a ≠ e := fun z => by
      obtain ⟨oldₖ, q⟩ := he
      obtain ⟨o2, q2, c2, _⟩ := id p
      rw [z, q] at q2
      cases q2
      exact absurd (Value.type.inj c2) (by decide)
    have G := GoesN.enumFrom (prog := X.prog) (w := X.w) (A := X.A) (elts := elts) (x1 := kk) (pos := tpos) 0 (Draws.tuple (prog := X.prog) (w := X.w) (A := X.A.in1) (I.ok.hd hc) it a hti itsₖ.toArray) e hne (by simp [hne, hta.symm]) (by simp)
    refine G.goes i s _ E (by simpa using hil) ⟨he, hit, p⟩ fun v h' tk hY hst hk htk => ?_
    obtain ⟨T, t, y, ev, hTn, hy, hT⟩ := hY
    obtain ⟨u, huₖ, ru⟩ := rv.get hx
    obtain rfl : y = u := by
      have h1ₖ : itsₖ[i]? = some y := by simpa using hy
      rw [huₖ] at h1ₖ
      exact (Option.some.inj h1ₖ).symm
    have new : ObjOk X.prog X.w (upd H T (.tup [.int (i : Nat), x])) h' T (.tup [.int (i : Nat), x]) := pair_tup hT ⟨t, by rw [Int.zero_add]⟩ ru
    have I1 := I.turnedNew (t' := tk) (ch := [e, it]) (fun b o hb q => hk b o hb q) hf hTn new
    refine ⟨.ref T, _, I1, ev, ⟨T, x, rfl, I.hok.fresh hTn, rfl, fun ys hy => by rw [I.tuple_inj hy hq]; exact hx⟩, ⟨hst.1, hst.2.1, hne⟩, fun b hb => ?_⟩
    have hbT : b ≠ T := fun z => by
      have : b < s.heap.objs.size := by
        rcases (by simpa using hb : b = e ∨ b = it) with q | q
        · obtain ⟨oldₖ, q2⟩ := he
          rw [q]
          exact Heap.lt_size q2
        · obtain ⟨o, q2, _⟩ := hit
          rw [q]
          exact Heap.lt_size q2
      rw [z] at this
      exact absurd (Nat.lt_of_lt_of_le this hTn) (Nat.lt_irrefl _)
    rw [upd_ne hbT]
    exact (hf b hb).1
  done := by
    intro X hP hw hKₖ hc i pins s σ H E I hf st hg
    subst hP hw hKₖ
    obtain ⟨he, hit, hne⟩ := st
    obtain ⟨xs, hq, hx⟩ := hg
    obtain ⟨itsₖ, rv, p, hz⟩ := I.tuple hq
    have hl : itsₖ.toArray.size = i := by rw [List.size_toArray, ← rv.length, hx]
    have hti : a ≠ it := fun z => by
      obtain ⟨o, q, c, _⟩ := hit
      obtain ⟨o2, q2, c2, _⟩ := id p
      rw [z, q] at q2
      cases q2
      rw [c] at c2
      exact absurd (Value.type.inj c2) (by decide)
    have hta : a ≠ e := fun z => by
      obtain ⟨oldₖ, q⟩ := he
      obtain ⟨o2, q2, c2, _⟩ := id p
      rw [z, q] at q2
      cases q2
      exact absurd (Value.type.inj c2) (by decide)
    have G := GoesN.enumFrom (prog := X.prog) (w := X.w) (A := X.A) (elts := elts) (x1 := kk) (pos := tpos) 0 (Draws.tuple (prog := X.prog) (w := X.w) (A := X.A.in1) (I.ok.hd hc) it a hti itsₖ.toArray) e hne (by simp [hne, hta.symm]) (by simp)
    subst hl
    exact G.stops s _ E ⟨he, hit, p⟩ fun h' tk hk htk => I.turnedL (t' := tk) (ch := [e, it]) (fun b o hb q => hk b o hb q) hf
  self := fun A i s Q E st h => st.1.elim fun oldₖ he => wpAny_pyIter_enum he h
theorem meets_enum_newT (l : Addr) (items : Array Value) (n : Nat) (dct : Option Addr) (sl : Array (Option Value)) :
    Meets (Builtin.«enumerate.__new__» ⟨[.type "enumerate", .ref l], []⟩) (fun _ R s => s.heap.get? l = some { cls := .type "tuple", dict := dct, data := .seq items n, slots := sl } ∧
      R (.ok (.ret (.ref (s.heap.push { cls := .type "tuple_iterator", data := .fields #[.ref l, .int 0 0] }).objs.size)))
        { s with heap := (s.heap.push { cls := .type "tuple_iterator", data := .fields #[.ref l, .int 0 0] }).push { cls := .type "enumerate", data := .fields #[.none, .bool false, .ref s.heap.objs.size, rawInt 0, .none, .none] } }) :=
  .of_wp fun prog w A R s hₖ => by
    obtain ⟨hp, g, d, tk, os⟩ := s; obtain ⟨hlₖ, hₖ⟩ := hₖ
    have hsub := sub_enumerate
    have hL : Heap.IsTuple (Shared.heap ⟨hp, g, d, tk, os⟩) l items := ⟨_, hlₖ, rfl, n, rfl⟩
    wp_walk using wpAny_loadPart' hlₖ
    refine wpAny_stack_any fun stₖ => wpAny_pure ?_
    split
    · rename_i c _ _ _ _ _
      (cases (c == Value.type "enumerate"))
      · wp_walk using wpAny_loadPart' hlₖ, wpAny_pyIter_tuple hL
        exact ⟨_, rfl, hₖ⟩
      · wp_walk using wpAny_loadPart' hlₖ, wpAny_pyIter_tuple hL
        exact ⟨_, rfl, hₖ⟩
    · wp_walk using wpAny_loadPart' hlₖ, wpAny_pyIter_tuple hL
      exact ⟨_, rfl, hₖ⟩
theorem call_enumT {prog : Program} {w : World} {A : Around} {E : Value → Shared → Prop} {s : Shared} {l : Addr} {items : Array Value} {Q : Value → Shared → Prop} (hL : IsTup s.heap l items)
    (h : ∀ h', IsEnum h' (s.heap.objs.size + 1) s.heap.objs.size 0 .none → h'.IsTupleIter s.heap.objs.size l 0 → h'.objs.size = s.heap.objs.size + 2 → (∀ b o, s.heap.get? b = some o → h'.get? b = some o) → Q (.ref (s.heap.objs.size + 1)) { s with heap := h' }) : wpAny (model prog w) A (call (.type "enumerate") [.ref l]) Q E s := by
  obtain ⟨⟨c, dctₖ, dtₖ, sl⟩, hl, hc, n, hd⟩ := hL
  replace hc : c = .type "tuple" := hc
  replace hd : dtₖ = .seq items n := hd
  subst hc hd
  refine callType_new F.called_enumerate (by decide) (F.typeCall_enumerate_1 _) (F.newCall_enumerate_1 _) (fun obj => F.args_object_init_2 obj _) F.entry_enumerate_new (meets_enum_newT l items n dctₖ sl) ⟨hl, ?_⟩
  have hz : (s.heap.push { cls := .type "tuple_iterator", data := .fields #[.ref l, .int 0 0] }).objs.size = s.heap.objs.size + 1 := Heap.size_push ..
  show _ ∧ _
  rw [hz]
  have he : IsEnum ((s.heap.push { cls := .type "tuple_iterator", data := .fields #[.ref l, .int 0 0] }).push { cls := .type "enumerate", data := .fields #[.none, .bool false, .ref s.heap.objs.size, rawInt 0, .none, .none] }) (s.heap.objs.size + 1) s.heap.objs.size 0 .none := by
    have z := Heap.get?_push_size (s.heap.push { cls := .type "tuple_iterator", data := .fields #[.ref l, .int 0 0] }) (o := { cls := .type "enumerate", data := .fields #[.none, .bool false, .ref s.heap.objs.size, rawInt 0, .none, .none] }) rfl
    rw [hz] at z; exact z
  exact ⟨⟨_, he, rfl⟩, h _ he ⟨_, Heap.get?_push_of_some _ (Heap.get?_push_size _ rfl), rfl, rfl⟩ (by rw [Heap.size_push, hz]) fun b o x => Heap.get?_push_of_some _ (Heap.get?_push_of_some _ x)⟩
def iEnumT (K : PySem.W.Frag) (ta : TA) : TI := fun σ H R => ta σ H fun vs H1 => ∃ a xs, vs = [.ref a] ∧ SqT K H1 a xs ∧ R (IteT K a) H1
theorem pi_enumT {X : Cx} {e : Expr} {ta : TA} {p pos tpos : Pos} {elts : List Expr} {kk : Nat} (hg : Gl X "enumerate") (hm : X.mg "enumerate" = none) (ha : PA X [e] ta) (hs : starEach [e] X.env = [(false, eval e X.env)] := by rfl) :
    PI X (.Tuple elts kk tpos) (.Call (.Name "enumerate" p) [e] [] pos) (iEnumT X.K ta) := by
  refine ⟨fun pins s σ H R I h => Call_ (ld_blt I hg hm boot_enumerate (PyProof.Rows.callWith_type1 (thn (ha.run pos pins s σ H _ I h) fun us s1 zₖ => ?_) hs rfl))⟩
  obtain ⟨vs, H1ₖ, I1, r1, a, xs, ex, hq, q⟩ := zₖ
  subst ex
  cases r1 with
  | cons r rr =>
    cases rr
    cases r
    obtain ⟨its, rv, p', hz⟩ := I1.tuple hq
    refine call_enumT p' fun h' he hit hsz hk => wpAny_pyIter_enum he ?_
    have I2 : Inv X pins σ H1ₖ { s1 with heap := h' } := I1.kept (t' := s1.toks) hk
    refine ⟨s1.heap.objs.size + 1, [s1.heap.objs.size + 1, s1.heap.objs.size], _, _, H1ₖ, rfl, I2, turn_enumT a (s1.heap.objs.size + 1) s1.heap.objs.size, ⟨⟨.none, by rw [show (0 : Int) + ((0 : Nat) : Int) = 0 by rfl]; exact he⟩, hit, Nat.succ_ne_self _⟩, fun b hb => ?_, q⟩
    have hleₖ : s1.heap.objs.size ≤ b := by
      rcases (by simpa using hb : b = s1.heap.objs.size + 1 ∨ b = s1.heap.objs.size) with zₖ | zₖ
      · rw [zₖ]; exact Nat.le_add_right _ _
      · rw [zₖ]; exact Nat.le_refl _
    exact I1.fpOk hleₖ (I1.hok.fresh hleₖ)
end K5
namespace K5
open PySem PySem.Spec PyProof.Rows L2
/-- the list at a and the tuple at b, of one length, the items in new pairs -/
def ItzM (K : PySem.W.Frag) (a b : Addr) : It :=
  ⟨fun i H => ∃ (xs ys : List V) (x y : V), SqL K H a xs ∧ SqT K H b ys ∧ xs.length = ys.length ∧ xs[i]? = some x ∧ ys[i]? = some y,
    fun i H v H' => ∃ T x y, v = .ref T ∧ H T = none ∧ H' = upd H T (.tup [x, y]) ∧ (∀ xs, SqL K H a xs → xs[i]? = some x) ∧ ∀ ys, SqT K H b ys → ys[i]? = some y,
    fun i H => ∃ xs ys : List V, SqL K H a xs ∧ SqT K H b ys ∧ xs.length = i ∧ ys.length = i⟩
theorem mem5 {N c : Nat} (h : c ∈ [N + 4, N + 3, N, N + 1]) : c ∈ [N + 4, N + 2, N + 3, N, N + 1] := by
  simp only [List.mem_cons, List.not_mem_nil, or_false] at h ⊢
  omega
theorem lt5 {N c S : Nat} (h : c ∈ [N + 4, N + 2, N + 3, N, N + 1]) (l : N + 4 < S) : c < S := by
  simp only [List.mem_cons, List.not_mem_nil, or_false] at h
  omega
theorem ge5 {N c : Nat} (h : c ∈ [N + 4, N + 2, N + 3, N, N + 1]) : N ≤ c := by
  simp only [List.mem_cons, List.not_mem_nil, or_false] at h
  omega
theorem turn_zipM {P : Program} {w : World} {K : PySem.W.Frag} {elts : List Expr} {kk : Nat} {tpos : Pos} (a b N : Addr) (ha : a < N) (hb : b < N) :
    Turn P w K (.Tuple elts kk tpos) (ItzM K a b) [N + 4, N + 2, N + 3, N, N + 1] (N + 4) (fun i h => IsZip h (N + 4) (N + 2) (N + 3) .none ∧ IsTupOf2 h (N + 2) (.ref N) (.ref (N + 1)) ∧ (∃ a1 a2, IsTupOf2 h (N + 3) a1 a2) ∧ h.IsListIter N a i ∧ h.IsTupleIter (N + 1) b i) where
  mem := by simp
  obj := fun i h stₖ c hc => by
    obtain ⟨hz, hTIₖ, ⟨x, y, hTO⟩, ⟨o1, e1, _, d1⟩, ⟨o2, e2, _, d2⟩⟩ := stₖ
    rcases (by simpa using hc : c = N + 4 ∨ c = N + 2 ∨ c = N + 3 ∨ c = N ∨ c = N + 1) with qₖ | qₖ | qₖ | qₖ | qₖ
    · exact qₖ ▸ ⟨_, hz, fun v qₖ => nomatch qₖ⟩
    · exact qₖ ▸ ⟨_, hTIₖ, fun v qₖ => nomatch qₖ⟩
    · exact qₖ ▸ ⟨_, hTO, fun v qₖ => nomatch qₖ⟩
    · exact qₖ ▸ ⟨o1, e1, fun v qₖ => by rw [d1] at qₖ; cases qₖ⟩
    · exact qₖ ▸ ⟨o2, e2, fun v qₖ => by rw [d2] at qₖ; cases qₖ⟩
  keep := fun i h h' stₖ k => by
    obtain ⟨hz, hTIₖ, ⟨x, y, hTO⟩, h1, h2⟩ := stₖ
    exact ⟨k (N + 4) (by simp) _ hz, k (N + 2) (by simp) _ hTIₖ, ⟨x, y, k (N + 3) (by simp) _ hTO⟩, h1.at fun o qₖ => k N (by simp) o qₖ, h2.at fun o qₖ => k (N + 1) (by simp) o qₖ⟩
  item := by
    intro X hP hw hKₖ hc i pins s σ H E I hf stₖ hg
    subst hP hw hKₖ
    obtain ⟨hz, hTIₖ, hTO, h1, h2⟩ := stₖ
    obtain ⟨xs, ys, x, y, hqxₖ, hqy, hle, hx, hy⟩ := hg
    obtain ⟨its, rv, p, _⟩ := I.list hqxₖ
    obtain ⟨its2ₖ, rv2, p2, _⟩ := I.tuple hqy
    obtain ⟨u, huₖ, ru⟩ := rv.get hx
    obtain ⟨u2, hu2ₖ, ru2⟩ := rv2.get hy
    have hil : i < its.length := by rw [← rv.length]; exact (List.getElem?_eq_some_iff.mp hx).1
    have hil2 : i < its2ₖ.length := by rw [← rv2.length]; exact (List.getElem?_eq_some_iff.mp hy).1
    have S := zip_sep2 (N := N) (fp1 := [a]) (fp2 := [b]) (by simpa using ha) (by simpa using hb)
    have G := GoesN.zip2 (prog := X.prog) (w := X.w) (A := X.A) (elts := elts) (x1 := kk) (pos := tpos) S (Draws.list (prog := X.prog) (w := X.w) (A := X.A.in1) (I.ok.hd hc) N a (Nat.ne_of_lt ha) its.toArray) (Draws.tuple (prog := X.prog) (w := X.w) (A := X.A.in1) (I.ok.hd hc) (N + 1) b (Nat.ne_of_lt (Nat.lt_succ_of_lt hb)) its2ₖ.toArray)
    have hzl : N + 4 < s.heap.objs.size := Heap.lt_size hz
    refine G.goes i s _ E (by rw [List.size_toArray, List.size_toArray]; exact Nat.lt_min.mpr ⟨hil, hil2⟩) ⟨hz, hTIₖ, hTO, ⟨h1, p.isList⟩, h2, p2⟩ fun v h' tk hY hst hk htk => ?_
    obtain ⟨T, x', y', ev, hTn, hx', hy', hT⟩ := hY
    obtain rfl : x' = u := by
      have qₖ : its[i]? = some x' := by simpa using hx'
      rw [huₖ] at qₖ
      exact (Option.some.inj qₖ).symm
    obtain rfl : y' = u2 := by
      have qₖ : its2ₖ[i]? = some y' := by simpa using hy'
      rw [hu2ₖ] at qₖ
      exact (Option.some.inj qₖ).symm
    have new : ObjOk X.prog X.w (upd H T (.tup [x, y])) h' T (.tup [x, y]) := pair_tup hT ru ru2
    have I1 := I.turnedNew (t' := tk) (ch := [N + 4, N + 2, N + 3, N, N + 1]) (fun c o hc' qₖ => hk c o (fun m => hc' (mem5 m)) qₖ) hf hTn new
    refine ⟨.ref T, _, I1, ev, ⟨T, x, y, rfl, I.hok.fresh hTn, rfl, fun l hl => by rw [I.list_inj hl hqxₖ]; exact hx, fun l hl => by rw [I.tuple_inj hl hqy]; exact hy⟩, ⟨hst.1, hst.2.1, hst.2.2.1, hst.2.2.2.1.1, hst.2.2.2.2.1⟩, fun c hcm => ?_⟩
    have hltₖ : c < T := Nat.lt_of_lt_of_le (lt5 hcm hzl) hTn
    rw [upd_ne (Nat.ne_of_lt hltₖ)]
    exact (hf c hcm).1
  done := by
    intro X hP hw hKₖ hc i pins s σ H E I hf stₖ hg
    subst hP hw hKₖ
    obtain ⟨hz, hTIₖ, hTO, h1, h2⟩ := stₖ
    obtain ⟨xs, ys, hqxₖ, hqy, hx, hy⟩ := hg
    obtain ⟨its, rv, p, _⟩ := I.list hqxₖ
    obtain ⟨its2ₖ, rv2, p2, _⟩ := I.tuple hqy
    have l1 : its.toArray.size = i := by rw [List.size_toArray, ← rv.length, hx]
    have l2 : its2ₖ.toArray.size = i := by rw [List.size_toArray, ← rv2.length, hy]
    have S := zip_sep2 (N := N) (fp1 := [a]) (fp2 := [b]) (by simpa using ha) (by simpa using hb)
    have G := GoesN.zip2 (prog := X.prog) (w := X.w) (A := X.A) (elts := elts) (x1 := kk) (pos := tpos) S (Draws.list (prog := X.prog) (w := X.w) (A := X.A.in1) (I.ok.hd hc) N a (Nat.ne_of_lt ha) its.toArray) (Draws.tuple (prog := X.prog) (w := X.w) (A := X.A.in1) (I.ok.hd hc) (N + 1) b (Nat.ne_of_lt (Nat.lt_succ_of_lt hb)) its2ₖ.toArray)
    rw [l1, l2, Nat.min_self] at G
    exact G.stops s _ E ⟨hz, hTIₖ, hTO, ⟨h1, p.isList⟩, h2, p2⟩ fun h' tk hk htk => I.turnedL (t' := tk) (ch := [N + 4, N + 2, N + 3, N, N + 1]) (fun c o hc' qₖ => hk c o (fun m => hc' (mem5 m)) qₖ) hf
  self := fun A i s Q E stₖ h => wpAny_pyIter_zip stₖ.1 h
def iZipM (K : PySem.W.Frag) (ta : TA) : TI := fun σ H R => ta σ H fun vs H1 => ∃ a b xs ys, vs = [.ref a, .ref b] ∧ SqL K H1 a xs ∧ SqT K H1 b ys ∧ R (ItzM K a b) H1
theorem pi_zipM {X : Cx} {e e2 : Expr} {ta : TA} {p pos tpos : Pos} {elts : List Expr} {kk : Nat} (hg : Gl X "zip") (hm : X.mg "zip" = none) (ha : PA X [e, e2] ta) (hs : starEach [e, e2] X.env = (false, eval e X.env) :: starEach [e2] X.env := by rfl)
    (hpl : (backTo pos (starEach [e2] X.env)).any (·.1) = false := by rfl) : PI X (.Tuple elts kk tpos) (.Call (.Name "zip" p) [e, e2] [] pos) (iZipM X.K ta) := by
  refine ⟨fun pins s σ H R I h => Call_ (ld_blt I hg hm PyProof.Rows.boot_zip (PyProof.Rows.callWith_type1 (thn (ha.run pos pins s σ H _ I h) fun us s1 z => ?_) hs hpl))⟩
  obtain ⟨vs, H1ₖ, I1, r1, a, b, xs, ys, ex, hqxₖ, hqy, q⟩ := z
  subst ex
  cases r1 with
  | cons r rr =>
    cases rr with
    | cons r' rr =>
      cases rr
      cases r
      cases r'
      obtain ⟨its, rv, p1, _⟩ := I1.list hqxₖ
      obtain ⟨its2ₖ, rv2, p2, _⟩ := I1.tuple hqy
      obtain ⟨o2, ho2, _⟩ := id p2
      refine zip_begins2 (begins_list a its.toArray) (begins_tuple b its2ₖ.toArray) p1.isList p2 fun h' hz hTI hTO h1 h2 hsz hk => wpAny_pyIter_zip hz ?_
      have I2 : Inv X pins σ H1ₖ { s1 with heap := h' } := I1.kept (t' := s1.toks) hk
      refine ⟨s1.heap.objs.size + 4, [s1.heap.objs.size + 4, s1.heap.objs.size + 2, s1.heap.objs.size + 3, s1.heap.objs.size, s1.heap.objs.size + 1], _, _, H1ₖ, rfl, I2, turn_zipM a b s1.heap.objs.size p1.lt (Heap.lt_size ho2), ⟨hz, hTI, ⟨_, _, hTO⟩, ⟨_, h1, rfl, rfl⟩, ⟨_, h2, rfl, rfl⟩⟩, fun c hcm => ?_, q⟩
      have hleₖ : s1.heap.objs.size ≤ c := ge5 hcm
      exact I1.fpOk hleₖ (I1.hok.fresh hleₖ)
section
variable {X : Cx} {e a b c o i tg iter : Expr} {es body els ts elts : List Expr} {sts rest bd el : List Stmt} {ρ ρ' ρ1 ρ2 : Rho} {B B' : Hp} {d d1 d2 : D} {ds ds2 : List D} {N N' N1 : Rho → Hp → Prop} {R R' : D → Hp → Prop} {pos px apos pos' tpos : Pos} {kk : Nat}
/-- for i, x in enumerate(t), t a tuple -/
theorem dss_forE (P : LP) (he : DE X a ρ B (.tup ds)) (hn : noLs ds = true) (h0 : ∀ H, Sx B H → ∃ ρ0, Wk ρ ρ0 ∧ P H 0 ρ0 H) (hT : ∀ H0 i ρ' H', P H0 i ρ' H' → SameT H0 H') (hX : ∀ H0 i ρ' H' H'', P H0 i ρ' H' → Sx H' H'' → P H0 i ρ' H'')
    (hs : ∀ H0, Sx B H0 → ∀ i d ρ' H', ds[i]? = some d → P H0 i ρ' H' → ∃ ρ1, DG X (.Tuple elts kk tpos) (.tup [.int (i : Int), d]) ρ' ρ1 ∧ DSs X bd ρ1 H' (fun ρ2 H2 => ∃ ρ3, Wk ρ2 ρ3 ∧ P H0 (i + 1) ρ3 H2) R)
    (hd : ∀ H0, Sx B H0 → ∀ ρ' H', P H0 ds.length ρ' H' → DSs X rest ρ' H' N R) (hm : X.mg "enumerate" = none) (hg : Gl X "enumerate" := by rfl) (hp : PassesOwn (model X.prog X.w) X.A X.env X.xe := by exact PassesOwn.never) (hc : X.calm = true := by rfl)
    (hst : starEach [a] X.env = [(false, eval a X.env)] := by rfl) (hfs : ∀ x, foldedSetIterable (.Call (.Name "enumerate" px) [a] [] apos) X.env x = pure x := by intro _; rfl) : DSs X (.For (.Tuple elts kk tpos) (.Call (.Name "enumerate" px) [a] [] apos) bd [] pos :: rest) ρ B N R :=
  dss_of (ps_for hp hc (pi_enumT hg hm pa_w hst) pg_w pss_w hfs) fun σ H s r Dn k1 k2 => (da_cons he da_nil (by rw [hst]; rfl)) σ H s r _ fun vs H1 s1 e1 => by
    obtain ⟨v, ev, a', xsₖ, ev2, ha, hx⟩ := e1.one
    rw [ev2] at ev
    refine ⟨a', xsₖ, ev, SqT.of ha, fun i m σ' H' => m = xsₖ.length - i ∧ i ≤ xsₖ.length ∧ ∃ ρ', Rep H' σ' ρ' ∧ P H1 i ρ' H', ⟨xsₖ.length, rfl, Nat.zero_le _, ?_⟩, ?_⟩
    · obtain ⟨ρ0, w, q⟩ := h0 H1 (s.trans s1)
      exact ⟨ρ0, (r.mono s1).weak w, q⟩
    · rintro i m σ' H' ⟨rfl, hi, ρ', r', q⟩
      have hq : SqT X.K H' a' xsₖ := SqT.of (hT _ _ _ _ q a' xsₖ ha)
      by_cases hlt : i < xsₖ.length
      · have hx1 : xsₖ[i]? = some xsₖ[i] := List.getElem?_eq_getElem hlt
        obtain ⟨d, hd1, dd⟩ := hx.get' hx1
        refine .inr ⟨⟨xsₖ, xsₖ[i], hq, hx1⟩, fun σ3 H3 => ∃ ρ3, Rep H3 σ3 ρ3 ∧ P H1 (i + 1) ρ3 H3, fun σ3 H3 z => ⟨xsₖ.length - (i + 1), by omega, rfl, hlt, z⟩, fun y H3 hy => ?_⟩
        obtain ⟨T, x', rfl, hTn, rfl, f1⟩ := hy
        obtain rfl : xsₖ[i] = x' := Option.some.inj (hx1.symm.trans (f1 xsₖ hq))
        have sn := Sx.new (o := .tup [.int (i : Int), xsₖ[i]]) hTn
        obtain ⟨ρ1, g, b⟩ := hs H1 (s.trans s1) i d ρ' _ hd1 (hX _ _ _ _ _ q sn)
        have dd' := Dat.monoT ((hT _ _ _ _ q).trans sn.tt) d _ (noLs_mem hn (List.mem_of_getElem? hd1)) dd
        refine g σ' _ (.ref T) (r'.mono sn) ⟨T, _, rfl, upd_same, _, _, rfl, rfl, _, _, rfl, dd', rfl⟩ _ fun σ2 r2 => b σ2 _ (Sx.refl _) r2 _ (fun ρ2 σ3 H3 n3 r3 => ?_) k2
        obtain ⟨ρ3, w3, p3⟩ := n3
        exact ⟨ρ3, r3.weak w3, p3⟩
      · have e : i = xsₖ.length := by omega
        subst e
        rw [← hx.length] at q
        exact .inl ⟨⟨xsₖ, hq, rfl⟩, go_on (hd H1 (s.trans s1) ρ' H' q) (Sx.refl H') r' k1 k2⟩
/-- for x, y in zip(l, t), l a list, t a tuple, of one length; the body makes but new things -/
theorem dss_forZ (P : LP) (he : DE X a ρ B (.lst ds)) (he2 : DE X b ρ B (.tup ds2)) (hle : ds.length = ds2.length) (h0 : ∀ H, Sx B H → ∃ ρ0, Wk ρ ρ0 ∧ P H 0 ρ0 H) (hT : ∀ H0 i ρ' H', P H0 i ρ' H' → Sx H0 H') (hX : ∀ H0 i ρ' H' H'', P H0 i ρ' H' → Sx H' H'' → P H0 i ρ' H'')
    (hs : ∀ H0, Sx B H0 → ∀ i d d2 ρ' H', ds[i]? = some d → ds2[i]? = some d2 → P H0 i ρ' H' → ∃ ρ1, DG X (.Tuple elts kk tpos) (.tup [d, d2]) ρ' ρ1 ∧ DSs X bd ρ1 H' (fun ρ2 H2 => ∃ ρ3, Wk ρ2 ρ3 ∧ P H0 (i + 1) ρ3 H2) R)
    (hd : ∀ H0, Sx B H0 → ∀ ρ' H', P H0 ds.length ρ' H' → DSs X rest ρ' H' N R) (hm : X.mg "zip" = none) (hg : Gl X "zip" := by rfl) (hp : PassesOwn (model X.prog X.w) X.A X.env X.xe := by exact PassesOwn.never) (hc : X.calm = true := by rfl)
    (hst : starEach [a, b] X.env = (false, eval a X.env) :: starEach [b] X.env := by rfl) (hst2 : starEach [b] X.env = (false, eval b X.env) :: starEach [] X.env := by rfl) (hpl : (backTo apos (starEach [b] X.env)).any (·.1) = false := by rfl) (hfs : ∀ x, foldedSetIterable (.Call (.Name "zip" px) [a, b] [] apos) X.env x = pure x := by intro _; rfl) :
    DSs X (.For (.Tuple elts kk tpos) (.Call (.Name "zip" px) [a, b] [] apos) bd [] pos :: rest) ρ B N R :=
  dss_of (ps_for hp hc (pi_zipM hg hm pa_w hst hpl) pg_w pss_w hfs) fun σ H s r Dn k1 k2 => (da_cons he (da_cons he2 da_nil hst2) hst) σ H s r _ fun vs H1 s1 e1 => by
    obtain ⟨v, v2, ev, ⟨a', xsₖ, ev2, ha, hx⟩, ⟨b', ys, ev3, hb, hy⟩⟩ := e1.two
    rw [ev2, ev3] at ev
    have hl2 : xsₖ.length = ys.length := by rw [← hx.length, ← hy.length, hle]
    refine ⟨a', b', xsₖ, ys, ev, SqL.of ha, SqT.of hb, fun i m σ' H' => m = xsₖ.length - i ∧ i ≤ xsₖ.length ∧ ∃ ρ', Rep H' σ' ρ' ∧ P H1 i ρ' H', ⟨xsₖ.length, rfl, Nat.zero_le _, ?_⟩, ?_⟩
    · obtain ⟨ρ0, w, q⟩ := h0 H1 (s.trans s1)
      exact ⟨ρ0, (r.mono s1).weak w, q⟩
    · rintro i m σ' H' ⟨rfl, hi, ρ', r', q⟩
      have sq := hT _ _ _ _ q
      have hqx : SqL X.K H' a' xsₖ := SqL.of (sq.k a' _ rfl ha)
      have hqy : SqT X.K H' b' ys := SqT.of (sq.k b' _ rfl hb)
      by_cases hlt : i < xsₖ.length
      · have hlt2 : i < ys.length := by omega
        have hx1 : xsₖ[i]? = some xsₖ[i] := List.getElem?_eq_getElem hlt
        have hy1 : ys[i]? = some ys[i] := List.getElem?_eq_getElem hlt2
        obtain ⟨d, hd1, dd⟩ := hx.get' hx1
        obtain ⟨d2, hd2, dd2⟩ := hy.get' hy1
        refine .inr ⟨⟨xsₖ, ys, xsₖ[i], ys[i], hqx, hqy, hl2, hx1, hy1⟩, fun σ3 H3 => ∃ ρ3, Rep H3 σ3 ρ3 ∧ P H1 (i + 1) ρ3 H3, fun σ3 H3 z => ⟨xsₖ.length - (i + 1), by omega, rfl, hlt, z⟩, fun v3 H3 hv => ?_⟩
        obtain ⟨T, x', y', rfl, hTn, rfl, f1, f2⟩ := hv
        obtain rfl : xsₖ[i] = x' := Option.some.inj (hx1.symm.trans (f1 xsₖ hqx))
        obtain rfl : ys[i] = y' := Option.some.inj (hy1.symm.trans (f2 ys hqy))
        have sn := Sx.new (o := .tup [xsₖ[i], ys[i]]) hTn
        obtain ⟨ρ1, g, bb⟩ := hs H1 (s.trans s1) i d d2 ρ' _ hd1 hd2 (hX _ _ _ _ _ q sn)
        refine g σ' _ (.ref T) (r'.mono sn) ⟨T, _, rfl, upd_same, _, _, rfl, Dat.mono (sq.trans sn) _ _ dd, _, _, rfl, Dat.mono (sq.trans sn) _ _ dd2, rfl⟩ _ fun σ2 r2 => bb σ2 _ (Sx.refl _) r2 _ (fun ρ2 σ3 H3 n3 r3 => ?_) k2
        obtain ⟨ρ3, w3, p3⟩ := n3
        exact ⟨ρ3, r3.weak w3, p3⟩
      · have e : i = xsₖ.length := by omega
        subst e
        rw [← hx.length] at q
        exact .inl ⟨⟨xsₖ, ys, hqx, hqy, rfl, hl2.symm⟩, go_on (hd H1 (s.trans s1) ρ' H' q) (Sx.refl H') r' k1 k2⟩
end
end K5
namespace K5
open PySem PySem.Spec PyProof.Rows L2
/-- a sequence that a generator expression walks -/
structure Src (X : Cx) (s1 : Shared) (P ax : Addr) (its : List Value) (o : Obj) (St : Nat → Heap → Prop) : Prop where
  lt : ax < s1.heap.objs.size
  it : ∀ (A : Around) (E : Value → Shared → Prop) (Q : Value → Shared → Prop), Q (.ref s1.heap.objs.size) { s1 with heap := s1.heap.push o } → wpAny (model X.prog X.w) A (pyIter (.ref ax)) Q E s1
  wk : ∀ A' : Around, A'.handled = none → Walks X.prog X.w A' s1.heap.objs.size [s1.heap.objs.size, ax] [s1.heap.objs.size] its.toArray.size (fun i v => its.toArray[i]? = some v) St
  st : ∀ h3 : Heap, P < s1.heap.objs.size → (∀ b u, b ≠ P → (s1.heap.push o).get? b = some u → h3.get? b = some u) → St 0 h3
section
variable {X : Cx} {pins : List (Addr × Obj)} {σ : L2.St} {H H1 : Hp} {s s1 : Shared} {P ax : Addr} {xs : List V} {ps : Array Value}
theorem src_list (I : Inv X pins σ H1 s1) (hP : H1 P = some (.tbl ps)) (h : SqL X.K H1 ax xs) : ∃ its o St, Vals xs its ∧ Src X s1 P ax its o St := by
  obtain ⟨its, rv, hl, hz⟩ := I.list h
  have hIL := hl.isList
  have hPs : s1.heap.get? P = some { cls := .none, data := .fields ps } := I.hok P _ hP
  have hne : ax ≠ P := fun z => by
    obtain ⟨_, e, hc1, _, hd1⟩ := id hIL
    rw [z, hPs] at e
    cases e
    cases hd1
  have hlt : ax < s1.heap.objs.size := by
    obtain ⟨_, e, _⟩ := id hIL
    exact Heap.lt_size e
  refine ⟨its, { cls := .type "list_iterator", data := .fields #[.ref ax, .int 0 0] }, _, rv, hlt, fun A E Q q => wpAny_pyIter_list hIL q, fun A' hA => Walks.list hA _ _ (Nat.ne_of_lt hlt) _, fun h3 hPl k => ⟨?_, ?_⟩⟩
  · have z : (s1.heap.push { cls := .type "list_iterator", data := .fields #[.ref ax, .int 0 0] }).IsListIter s1.heap.objs.size ax 0 := ⟨_, Heap.get?_push_size _ rfl, rfl, rfl⟩
    exact z.at fun u e => k _ u (Nat.ne_of_gt hPl) e
  · obtain ⟨ob, e, r⟩ := id hIL
    exact ⟨ob, k _ _ hne (Heap.get?_push_of_some _ e), r⟩
theorem src_tup (I : Inv X pins σ H1 s1) (hP : H1 P = some (.tbl ps)) (h : SqT X.K H1 ax xs) : ∃ its o St, Vals xs its ∧ Src X s1 P ax its o St := by
  obtain ⟨its, rv, hIL, hz⟩ := I.tuple h
  have hPs : s1.heap.get? P = some { cls := .none, data := .fields ps } := I.hok P _ hP
  have hne : ax ≠ P := fun z => by
    obtain ⟨_, e, hc1, _, hd1⟩ := id hIL
    rw [z, hPs] at e
    cases e
    cases hd1
  have hlt : ax < s1.heap.objs.size := by
    obtain ⟨_, e, _⟩ := id hIL
    exact Heap.lt_size e
  refine ⟨its, { cls := .type "tuple_iterator", data := .fields #[.ref ax, .int 0 0] }, _, rv, hlt, fun A E Q q => wpAny_pyIter_tuple hIL q, fun A' hA => Walks.tuple hA _ _ (Nat.ne_of_lt hlt) _, fun h3 hPl k => ⟨?_, ?_⟩⟩
  · have z : (s1.heap.push { cls := .type "tuple_iterator", data := .fields #[.ref ax, .int 0 0] }).IsTupleIter s1.heap.objs.size ax 0 := ⟨_, Heap.get?_push_size _ rfl, rfl, rfl⟩
    exact z.at fun u e => k _ u (Nat.ne_of_gt hPl) e
  · obtain ⟨ob, e, r⟩ := id hIL
    exact ⟨ob, k _ _ hne (Heap.get?_push_of_some _ e), r⟩
/-- the element at each place: a bool -/
def EltG (X : Cx) (s1 : Shared) (P : Addr) (scope : Scope) (x : Str) (elt : Expr) (its : List Value) (pb : Nat → Bool) : Prop :=
  ∀ (C : Addr) (code : Value) (A' : Around) (E' : Value → Shared → Prop) (i : Nat) (y : Value) (s₂ : Shared) (m₂ : Str → Option Value), its[i]? = some y → s₂.heap.Ns C m₂ → m₂ x = some y → (∀ b o, b ≠ P → s1.heap.get? b = some o → s₂.heap.get? b = some o) →
    wpAny (model X.prog X.w) A' (eval elt (genEnv scope (cloFrom X.env.cells scope.names []) C code builtinsNs X.env)) (fun v s₃ => v = .bool (pb i) ∧ Keeps s₂ s₃) E' s₂
/-- the generator g ready to be walked -/
def ReadyG (X : Cx) (pins : List (Addr × Obj)) (σ : L2.St) (H1 : Hp) (P : Addr) (n : Nat) (pb : Nat → Bool) (g : Addr) (s5 : Shared) : Prop := ∃ (fp wr : List Addr) (G : Array GenState → Array GenState → Prop) (F : Nat → Value → Prop) (St : Nat → Shared → Prop),
    WalksS X.prog X.w X.A.in1 g fp wr G n F St ∧ St 0 s5 ∧ TruthOf X.prog X.w X.A.in1 F pb ∧ ∀ s', Moved wr G s5 s' → ∃ H2, GxR.Tabbed P H1 H2 ∧ Inv X pins σ H2 s'
def tSrcG (X : Cx) (P : Addr) (scope : Scope) (x : Str) (elt : Expr) (te : TE) (R : Nat → (Nat → Bool) → Hp → Prop) : L2.St → Hp → Prop := fun σ H => te σ H fun v H1 => ∃ (ax : Addr) (xs : List V) (pb : Nat → Bool), v = .ref ax ∧ (SqL X.K H1 ax xs ∨ SqT X.K H1 ax xs) ∧ GxR.TabG H1 P ∧
  (∀ pins s1, Inv X pins σ H1 s1 → ∀ its, Vals xs its → EltG X s1 P scope x elt its pb) ∧ R xs.length pb H1
theorem gen_src {c : Addr} {elt iter : Expr} {x : Str} {px gpos : Pos} {scope : Scope} {te : TE} {k : Nat} {Q' : Value → Shared → Prop} {R : Nat → (Nat → Bool) → Hp → Prop}
    (hr : Room k X.A) (TB : GxR.TabB X.base X.mg c P) (hcode : X.env.code = .ref c) (S : GxR.GenS X.env scope x) (hi : PE X iter te)
    (hs : ∀ v, genFold iter X.env v = pure v) (I : Inv X pins σ H s) (h : tSrcG X P scope x elt te R σ H)
    (hQ : ∀ n pb H1ₖ g s5, R n pb H1ₖ → ReadyG X pins σ H1ₖ P n pb g s5 → Q' (.ref g) s5) : wpAny (model X.prog X.w) X.A (eval (.GeneratorExp elt [⟨.Name x px, iter, [], 0⟩] scope gpos) X.env) Q' X.xe s := by
  refine (wpAny_GeneratorExp_walksQ hr.hd S.co (closure_ok S.free) S.cell S.dot S.loc S.kind (by have := hr.dp; omega) ?_ hs)
  refine thn (hi.run pins s σ H _ I h) fun xv s1 ⟨v, H1ₖ, I1ₖ, r1, q1⟩ => ?_
  obtain ⟨ax, xs, pb, rfl, hsq, ⟨ps, hP, ht⟩, hel0, q1⟩ := q1
  obtain rfl : xv = Value.ref ax := r1
  obtain ⟨its, o, St, rv, SR⟩ : ∃ its o St, Vals xs its ∧ Src X s1 P ax its o St := by
    rcases hsq with q | q
    · exact src_list I1ₖ hP q
    · exact src_tup I1ₖ hP q
  have hel := hel0 pins s1 I1ₖ its rv
  have hlenₖ : its.length = xs.length := rv.length.symm
  refine SR.it _ _ _ ?_
  have hPsₖ : s1.heap.get? P = some { cls := .none, data := .fields ps } := I1ₖ.hok P _ hP
  have hPltₖ : P < s1.heap.objs.size := Heap.lt_size hPsₖ
  have hP2ₖ : (s1.heap.push o).get? P = some { cls := .none, data := .fields ps } := Heap.get?_push_of_some _ hPsₖ
  have cd : PySem.W.CodeHd (s1.heap.push o) c P := TB.code.keeps fun b u e => Heap.get?_push_of_some _ (I1ₖ.bk b u e)
  have lim2ₖ : (s1.heap.push o).NoLimit := I1ₖ.nolimit.push o
  have contₖ : ∀ (codeₖ : Value) (h3ₖ : Heap) (tk : Nat) (ps' : Array Value), Heap.ExtBut P (s1.heap.push o) h3ₖ → (s1.heap.push o).objs.size ≤ h3ₖ.objs.size → h3ₖ.get? P = some { cls := .none, data := .fields ps' } → (∃ more, ps' = ps ++ more) → TriplesOk ps'.toList →
      wpAny (model X.prog X.w) X.A (builtinsFor X.env.globals X.env.builtins) (fun biₖ s₄ =>
        ∃ Ia fp wr n₀ₖ Pf St₀ₖ pz F, Value.ref s1.heap.objs.size = .ref Ia ∧ (∀ A' : Around, A'.handled = none → Walks X.prog X.w A' Ia fp wr n₀ₖ Pf St₀ₖ) ∧ St₀ₖ 0 s₄.heap ∧ (∀ b ∈ fp, b < s₄.heap.objs.size) ∧ s₄.heap.NoLimit ∧ cStatics ∉ wr ∧
          (∀ hrefₖ : Heap, (∀ b o, s₄.heap.get? b = some o → hrefₖ.get? b = some o) →
            QuietGen X.prog X.w (genEnv scope (cloFrom X.env.cells scope.names []) s₄.heap.objs.size codeₖ biₖ X.env) x [] elt (List.range s₄.heap.objs.size) wr Pf pz F hrefₖ) ∧
          (∀ a h₅ tk gsₖ, gsₖ.bare = true → s₄.heap.objs.size < a → h₅.objs.size = a + 1 → (∀ b o, s₄.heap.get? b = some o → h₅.get? b = some o) →
            WalksS X.prog X.w X.A.in4 a (a :: s₄.heap.objs.size :: List.range s₄.heap.objs.size) (s₄.heap.objs.size :: wr) (GenOnlyQ s₄.gens.size) (passing pz n₀ₖ 0).length
              (fun j y => ∃ i, (passing pz n₀ₖ 0)[j]? = some i ∧ F i y) (GenAt X.prog X.w X.A.in4 a s₄.gens.size s₄.heap.objs.size (List.range s₄.heap.objs.size) wr pz n₀ₖ F) →
            GenAt X.prog X.w X.A.in4 a s₄.gens.size s₄.heap.objs.size (List.range s₄.heap.objs.size) wr pz n₀ₖ F 0 { s₄ with gens := s₄.gens.push gsₖ, toks := tk, heap := h₅ } →
            Q' (.ref a) { s₄ with gens := s₄.gens.push gsₖ, toks := tk, heap := h₅ })) X.xe { s1 with heap := h3ₖ, toks := tk } := by
    intro codeₖ h3ₖ tk ps' hx hsz hP3ₖ hmoreₖ ht3ₖ
    obtain ⟨bmₖ, ob, e1, e2, e3, e4, e5, e6, e7, e8⟩ := TB.bm
    have hcPₖ : cStatics ≠ P := fun e => by
      obtain ⟨_, hnsₖ, _⟩ := I1ₖ.nolimit
      obtain ⟨o', es, ep, ho, hd, _⟩ := hnsₖ
      rw [e, hPsₖ] at ho
      cases ho
      cases hd
    have hclₖ : cStatics < s1.heap.objs.size := let ⟨_, hnsₖ, _⟩ := I1ₖ.nolimit; hnsₖ.lt
    have sz2ₖ : (s1.heap.push o).objs.size = s1.heap.objs.size + 1 := Heap.size_push ..
    have keep3ₖ : ∀ b u, b ≠ P → s1.heap.get? b = some u → h3ₖ.get? b = some u := fun b u hbₖ e => hx b u hbₖ (Heap.get?_push_of_some _ e)
    refine wpAny_builtinsFor (m := X.mg) (by rw [I1ₖ.ok.glob]; exact ((I1ₖ.mod.glob.keeps I1ₖ.bk).push o).extBut hx TB.gP) e1 e2 (keep3ₖ _ _ e4 (I1ₖ.bk _ _ e5)) e6 e7 e8 ?_
    refine ⟨s1.heap.objs.size, [s1.heap.objs.size, ax], [s1.heap.objs.size], its.toArray.size, (fun i v => its.toArray[i]? = some v), St, (fun _ => true),
      (fun i y => y = .bool (pb i)), rfl, SR.wk, SR.st h3ₖ hPltₖ (fun b u hbₖ e => hx b u hbₖ e), ?_, lim2ₖ.extBut hx hcPₖ, ?_, ?_, ?_⟩
    · intro b hbₖ
      rcases List.mem_cons.mp hbₖ with zₖ | zₖ
      · rw [zₖ]
        show s1.heap.objs.size < h3ₖ.objs.size
        exact Nat.lt_of_lt_of_le (by rw [sz2ₖ]; exact Nat.lt_succ_self _) hsz
      · rcases List.mem_cons.mp zₖ with zₖ | zₖ
        · rw [zₖ]
          have e9 : s1.heap.objs.size ≤ h3ₖ.objs.size := Nat.le_trans (by rw [sz2ₖ]; exact Nat.le_succ _) hsz
          exact Nat.lt_of_lt_of_le SR.lt e9
        · cases zₖ
    · intro zₖ
      rcases List.mem_cons.mp zₖ with zₖ | zₖ
      · exact Nat.ne_of_lt hclₖ zₖ
      · cases zₖ
    · intro hrefₖ hhref
      refine ⟨fun A' E' i v s₂ m₂ hA hPvₖ hn hmₖ hk => ?_, fun A' E' i v s₂ m₂ hA hPvₖ hp hn hmₖ hk => ?_⟩
      · simp only [List.forIn_nil]
        exact (wpAny_pure ⟨rfl, GxR.keeps_refl _⟩)
      · refine hel _ codeₖ A' E' i v s₂ m₂ (by simpa using hPvₖ) hn hmₖ fun b u hbₖ e => ?_
        have hl := Heap.lt_size e
        refine hk b (List.mem_range.mpr ?_) (fun zₖ => ?_) u (hhref b u (keep3ₖ b u hbₖ e))
        · show b < h3ₖ.objs.size
          exact Nat.lt_of_lt_of_le hl (Nat.le_trans (by rw [sz2ₖ]; exact Nat.le_succ _) hsz)
        · rcases List.mem_cons.mp zₖ with zₖ | zₖ
          · rw [zₖ] at hl
            exact Nat.lt_irrefl _ hl
          · cases zₖ
    · intro g h5 tk5 gsₖ hgb hag hsz5 hk5 W5ₖ hgatₖ
      simp only [GxR.passing_true, List.length_range] at W5ₖ
      have hn5 : its.toArray.size = xs.length := by rw [List.size_toArray, hlenₖ]
      rw [hn5] at W5ₖ hgatₖ
      refine hQ xs.length pb H1ₖ g _ q1 ⟨_, _, _, _, _, W5ₖ.in4_1, hgatₖ, ?_, fun s' hmₖ => ?_⟩
      · intro j y sj Qj Ej hy hQj
        obtain ⟨i, hijₖ, rfl⟩ := hy
        obtain ⟨hj, ej⟩ := List.getElem?_eq_some_iff.mp hijₖ
        rw [List.getElem_range] at ej
        subst ej
        exact wpAny_truthy_bool hQj
      · obtain ⟨more, em⟩ := hmoreₖ
        have nwrₖ : ∀ b u, s1.heap.get? b = some u → b ∉ h3ₖ.objs.size :: [s1.heap.objs.size] := fun b u e hbₖ => by
          have hl := Heap.lt_size e
          rcases List.mem_cons.mp hbₖ with zₖ | zₖ
          · rw [zₖ] at hl
            have h9 : (h3ₖ.objs.size : Nat) < s1.heap.objs.size := hl
            omega
          · rcases List.mem_cons.mp zₖ with zₖ | zₖ
            · rw [zₖ] at hl
              exact Nat.lt_irrefl _ hl
            · cases zₖ
        have J := GxR.inv_tab (more := more) (h' := s'.heap) (g' := s'.gens) (d' := s'.drawn) (t' := s'.toks) I1ₖ hP (fun b u hbₖ e => hmₖ.heap b u (nwrₖ b u e) (hk5 b u (keep3ₖ b u hbₖ e)))
          (by rw [← em]; exact hmₖ.heap P _ (nwrₖ P _ hPsₖ) (hk5 P _ hP3ₖ)) (AllBare.movedS (I1ₖ.bare.push hgb) hmₖ)
        rw [GxR.sh_eta s1 s' hmₖ.os] at J
        refine ⟨upd H1ₖ P (.tbl (ps ++ more)), ⟨⟨ps ++ more, upd_same, by rw [← em]; exact ht3ₖ⟩, fun b hbₖ => upd_ne hbₖ⟩, J⟩
  refine ⟨lim2ₖ, ?_⟩
  cases hfₖ : codeAmong gpos ps.toList with
  | none =>
    refine wpAny_genexprCodeX hcode (cd.code hP2ₖ ht) (cd.tab hP2ₖ) hfₖ fun c' h' tk hx hge hlt hco'ₖ _ htab'ₖ _ => ?_
    obtain ⟨o1, vs, f1, tf, fl, tg, inF, tx, tt, op, _, _, _, _, _, _, _, _, _, htr, _⟩ := hco'ₖ
    exact contₖ _ h' tk _ hx (Nat.le_trans hge (Nat.le_of_lt hlt)) htab'ₖ.2 ⟨_, rfl⟩ htr
  | some cv =>
    refine wpAny_genexprCode_hit hcode (cd.code hP2ₖ ht) hfₖ ?_
    exact contₖ cv (s1.heap.push o) s1.toks ps (Heap.ExtBut.refl _ _) (Nat.le_refl _) hP2ₖ ⟨#[], by simp⟩ ht
theorem Sx.tab {H1 H2 : Hp} (g : GxR.TabG H1 P) (t : GxR.Tabbed P H1 H2) : Sx H1 H2 := by
  have ne : ∀ a o, isTb o = false → H1 a = some o → a ≠ P := fun a o i e z => by
    obtain ⟨ps, q, _⟩ := g
    rw [z, q] at e
    rw [← Option.some.inj e] at i
    cases i
  refine ⟨fun a o i e => by rw [t.2 a (ne a o i e)]; exact e, fun q hq => ?_, fun q hq => ?_⟩
  · by_cases z : q = P
    · rw [z]
      exact t.1
    · obtain ⟨ps, e, r⟩ := hq
      exact ⟨ps, by rw [t.2 q z]; exact e, r⟩
  · by_cases z : q = P
    · rw [z]
      obtain ⟨ps, e, _⟩ := t.1
      rw [e]
      simp
    · rw [t.2 q z]
      exact hq
def tAllG (X : Cx) (P : Addr) (scope : Scope) (x : Str) (elt : Expr) (te : TE) : TE := fun σ H Q => tSrcG X P scope x elt te (fun n pb H1 => ∀ H2, GxR.Tabbed P H1 H2 → Q (.bl ((List.range n).all pb)) H2) σ H
def tAnyG (X : Cx) (P : Addr) (scope : Scope) (x : Str) (elt : Expr) (te : TE) : TE := fun σ H Q => tSrcG X P scope x elt te (fun n pb H1 => ∀ H2, GxR.Tabbed P H1 H2 → Q (.bl ((List.range n).any pb)) H2) σ H
theorem pe_allG {c : Addr} {elt iter : Expr} {x : Str} {px p pos gpos : Pos} {scope : Scope} {te : TE} {k : Nat}
    (hr : Room k X.A) (hm : X.mg "all" = none) (TB : GxR.TabB X.base X.mg c P) (hcode : X.env.code = .ref c) (S : GxR.GenS X.env scope x) (hi : PE X iter te)
    (hg : Gl X "all" := by rfl) (hb : bootBuiltins "all" = some (.builtin "all") := by decide +kernel) (hs : ∀ v, genFold iter X.env v = pure v := by intro _; rfl) (he : starEach [.GeneratorExp elt [⟨.Name x px, iter, [], 0⟩] scope gpos] X.env = (false, eval (.GeneratorExp elt [⟨.Name x px, iter, [], 0⟩] scope gpos) X.env) :: starEach [] X.env := by rfl) :
    PE X (.Call (.Name "all" p) [.GeneratorExp elt [⟨.Name x px, iter, [], 0⟩] scope gpos] [] pos) (tAllG X P scope x elt te) := by
  refine ⟨fun pins sₖ σ H Q I hₖ => ?_⟩
  refine (wpAny_Call_Name_kw (ld_blt I hg hm hb ?_))
  refine (PyProof.Rows.callWith_builtin1 ?_ he (by rfl))
  rw [he]
  show wpAny _ _ (spliced ((false, eval (.GeneratorExp elt [⟨.Name x px, iter, [], 0⟩] scope gpos) X.env) :: backTo pos (starEach [] X.env))) _ _ sₖ
  refine Calls.spliced_cons (gen_src (R := fun n pb H1 => ∀ H2, GxR.Tabbed P H1 H2 → Q (.bl ((List.range n).all pb)) H2) hr TB hcode S hi hs I hₖ fun n pb H1 g s5 hR hG => ?_)
  obtain ⟨fp, wr, G, F, St, W, hstₖ, htr, hI⟩ := hG
  refine Calls.spliced_nil ?_
  refine call_all_walkS (W.self 0 _ _ _ hstₖ ⟨g, fp, wr, G, _, F, St, _, rfl, W, hstₖ, htr, fun s' hmvₖ => ?_⟩)
  obtain ⟨H2, hT, J⟩ := hI s' hmvₖ
  exact ⟨.bl _, H2, J, rfl, hR H2 hT⟩
theorem pe_anyG {c : Addr} {elt iter : Expr} {x : Str} {px p pos gpos : Pos} {scope : Scope} {te : TE} {k : Nat}
    (hr : Room k X.A) (hm : X.mg "any" = none) (TB : GxR.TabB X.base X.mg c P) (hcode : X.env.code = .ref c) (S : GxR.GenS X.env scope x) (hi : PE X iter te)
    (hg : Gl X "any" := by rfl) (hs : ∀ v, genFold iter X.env v = pure v := by intro _; rfl) (he : starEach [.GeneratorExp elt [⟨.Name x px, iter, [], 0⟩] scope gpos] X.env = (false, eval (.GeneratorExp elt [⟨.Name x px, iter, [], 0⟩] scope gpos) X.env) :: starEach [] X.env := by rfl) :
    PE X (.Call (.Name "any" p) [.GeneratorExp elt [⟨.Name x px, iter, [], 0⟩] scope gpos] [] pos) (tAnyG X P scope x elt te) := by
  refine ⟨fun pins sₖ σ H Q I hₖ => ?_⟩
  refine (wpAny_Call_Name_kw (ld_blt I hg hm boot_any ?_))
  refine (PyProof.Rows.callWith_builtin1 ?_ he (by rfl))
  rw [he]
  show wpAny _ _ (spliced ((false, eval (.GeneratorExp elt [⟨.Name x px, iter, [], 0⟩] scope gpos) X.env) :: backTo pos (starEach [] X.env))) _ _ sₖ
  refine Calls.spliced_cons (gen_src (R := fun n pb H1 => ∀ H2, GxR.Tabbed P H1 H2 → Q (.bl ((List.range n).any pb)) H2) hr TB hcode S hi hs I hₖ fun n pb H1 g s5 hR hG => ?_)
  obtain ⟨fp, wr, G, F, St, W, hstₖ, htr, hI⟩ := hG
  refine Calls.spliced_nil ?_
  refine call_any_walkS (W.self 0 _ _ _ hstₖ ⟨g, fp, wr, G, _, F, St, _, rfl, W, hstₖ, htr, fun s' hmvₖ => ?_⟩)
  obtain ⟨H2, hT, J⟩ := hI s' hmvₖ
  exact ⟨.bl _, H2, J, rfl, hR H2 hT⟩
end
section
variable {X : Cx} {pins : List (Addr × Obj)} {σ : L2.St} {H1 : Hp} {s1 : Shared} {P : Addr} {scope : Scope} {x y : Str} {xs : List V} {its : List Value}
theorem keeps_tr {s s' s'' : Shared} (a : Keeps s s') (b : Keeps s' s'') : Keeps s s'' := by
  obtain ⟨h1, t1, rfl, k1⟩ := a
  obtain ⟨h2, t2, rfl, k2⟩ := b
  exact ⟨h2, t2, rfl, fun b o e => k2 b o (k1 b o e)⟩
theorem base_ne (I : Inv X pins σ H1 s1) {ps : Array Value} (hP : H1 P = some (.tbl ps)) {b : Addr} {o : Obj} (e : X.base.get? b = some o) : b ≠ P := fun z => by
  have := (I.bs b o e).2
  rw [z, hP] at this
  cases this
/-- 0 <= x < len(y) -/
theorem elt_range (I : Inv X pins σ H1 s1) {ps : Array Value} (hP : H1 P = some (.tbl ps)) {ns : List Int} (hx : xs = ns.map V.int) (rv : Vals xs its) {il : Addr} {ys : List V} (hL : H1 il = some (.lst ys)) {iy : Nat} (hy : X.N[iy]? = some y) (hv : σ[iy]? = some (some (.ref il))) (hk : X.env.scope.names.lookup y = some .cell)
    {p1 p2 p3 p4 p5 p6 : Pos} {j : Nat} (kd : scope.kind = .function) (hl : scope.names.lookup x = some .local) (hf : scope.names.lookup y = some .free) (hlen : scope.names.lookup ("len" : Str) = some NameKind.globalImplicit) (hclo : (cloFrom X.env.cells scope.names []).lookup y = some ((X.env.cells.lookup y).getD 0)) (hm : X.mg "len" = none)
    (hd1 : (x == ("__debug__" : Str)) = false := by decide) (hd2 : (y == ("__debug__" : Str)) = false := by decide) (hd3 : (y == ("__classdict__" : Str)) = false := by decide) :
    EltG X s1 P scope x (.Compare (.Constant (.int 0) j p1) [.LtE, .Lt] [.Name x p2, .Call (.Name "len" p3) [.Name y p4] [] p5] p6) its (fun i => match ns[i]? with | some n => decide (0 ≤ n) && decide (n < (ys.length : Int)) | none => false) := by
  intro C code A' E' i v s₂ m₂ hi hn hmx keep
  obtain ⟨m, hns, hlk⟩ := I.loc
  obtain ⟨u, ru, lk⟩ := hlk iy y _ hy hv (Or.inr (Or.inl hk))
  obtain rfl : u = Value.ref il := ru
  have hgt : (ns.map V.int)[i]? = (ns[i]?).map V.int := List.getElem?_map
  obtain ⟨n, hni, t, rfl⟩ : ∃ n, ns[i]? = some n ∧ ∃ t, v = .int n t := by
    subst hx
    have hil : i < its.length := (List.getElem?_eq_some_iff.mp hi).1
    have hil2 : i < (ns.map V.int).length := by rw [rv.length]; exact hil
    have hin : i < ns.length := by simpa using hil2
    obtain ⟨w1, hw1, rw1⟩ := rv.get (i := i) (x := V.int ns[i]) (by rw [hgt, List.getElem?_eq_getElem hin]; rfl)
    rw [hi] at hw1
    cases hw1
    obtain ⟨t, e⟩ := (show ∃ t, v = Value.int ns[i] t from rw1)
    exact ⟨ns[i], List.getElem?_eq_getElem hin, t, e⟩
  obtain ⟨c, hc, hcell⟩ : ∃ c, X.env.cells.lookup y = some c ∧ s1.heap.IsCell c (some (.ref il)) := by
    rcases lk with ⟨hk', _⟩ | ⟨_, c, hc, hcell⟩
    · rw [show X.env.kindOf y = some .cell from hk] at hk'
      cases hk'
    · exact ⟨c, hc, hcell⟩
  have hcP : c ≠ P := fun z => by
    have := I.freeC y c hc
    rw [z, hP] at this
    cases this
  have hcell2 : s₂.heap.IsCell c (some (.ref il)) := by
    obtain ⟨o, e, d⟩ := hcell
    exact ⟨o, keep c o hcP e, d⟩
  obtain ⟨its2, rv2, pl, hz⟩ := I.list (SqL.of (K := X.K) hL)
  have hilP : il ≠ P := fun z => by
    rw [z, hP] at hL
    cases hL
  have hIL2 : s₂.heap.IsList il its2.toArray := by
    obtain ⟨o, e, r⟩ := pl.isList
    exact ⟨o, keep il o hilP e, r⟩
  have keepB : ∀ b o, X.base.get? b = some o → s₂.heap.get? b = some o := fun b o e => keep b o (base_ne I hP e) (I.bk b o e)
  have hln : ys.length = its2.length := rv2.length
  show wpAny _ _ _ (fun v s₃ => v = Value.bool (match ns[i]? with | some n => decide (0 ≤ n) && decide (n < (ys.length : Int)) | none => false) ∧ Keeps s₂ s₃) _ _
  rw [hni]
  show wpAny _ _ _ (fun v s₃ => v = Value.bool (decide (0 ≤ n) && decide (n < (ys.length : Int))) ∧ Keeps s₂ s₃) _ _
  refine Compare_chain ?_ (by with_unfolding_all rfl)
  refine wpAny_Constant_int (chain_link ?_)
  refine wpAny_Name (wpAny_loadName_local (m := m₂) kd hl hn hmx ?_) hd1
  refine PyProof.Rows.le_int (wpAny_truthy_bool ?_)
  cases h0 : decide (0 ≤ n) with
  | false => exact ite_ff ⟨by simp, GxR.keeps_tok _ _⟩
  | true =>
    refine ite_tt (chain_last ?_)
    obtain ⟨mb, h1ₖ, h2⟩ := I.mod.blt
    refine wpAny_Call_Name_kw (Calls.Name_function_global kd hlen (Calls.loadGlobal_builtin (mg := X.mg) (mb := mb) ?_ hm ?_ ((h2 "len" (by decide)).trans boot_len) ?_) (by decide))
    · show s₂.heap.Ns X.env.globals X.mg
      rw [I.ok.glob]
      exact I.mod.glob.keeps keepB
    · exact h1ₖ.keeps keepB
    · refine PyProof.Rows.callWith_builtin1 (Calls.spliced_cons ?_) (by rfl) (by rfl)
      refine wpAny_Name (wpAny_loadName_free (c := c) kd hf (by rw [show (genEnv scope (cloFrom X.env.cells scope.names []) C code builtinsNs X.env).cells.lookup y = (cloFrom X.env.cells scope.names []).lookup y from rfl, hclo, hc]; rfl) hcell2 (Calls.spliced_nil ?_) hd3) hd2
      refine Calls.call_len_list hIL2 (by have := line63; simp only [List.size_toArray]; omega) (PyProof.Rows.lt_int ⟨?_, ?_⟩)
      · rw [List.size_toArray, ← hln]
        simp
      · exact GxR.keeps_tok _ _
/-- isinstance(x.f, T): x.f an instance of C -/
theorem elt_isi {f T : Str} {C1 C2 Ct : Addr} (I : Inv X pins σ H1 s1) {ps : Array Value} (hP : H1 P = some (.tbl ps)) (rv : Vals xs its) (hx : ∀ v ∈ xs, ∃ a b C dx fs C' dx' fs', v = .ref a ∧ H1 a = some (.ins C dx fs) ∧ Cls X.K C ∧ NoAttr X.K C f ∧ fs.lookup f = some (.ref b) ∧ H1 b = some (.ins C' dx' fs') ∧ TyOf X.K H1 (.ref b) (.ref C') ∧ PySem.W.kitOne X.K (.ref C') (.ref Ct) = some false)
    {p1 p2 p3 p4 p5 : Pos} (kd : scope.kind = .function) (hl : scope.names.lookup x = some .local) (hg1 : scope.names.lookup ("isinstance" : Str) = some NameKind.globalImplicit) (hg2 : scope.names.lookup T = some .globalImplicit) (hm : X.mg "isinstance" = none) (hmT : X.mg T = some (.ref Ct)) (hb : bootBuiltins "isinstance" = some (.builtin "isinstance"))
    (hba : ∀ env, attributeBase (.Name x p2) f env (eval (.Name x p2) env) = eval (.Name x p2) env)
    (hd1 : (x == ("__debug__" : Str)) = false := by decide) (hd2 : (T == ("__debug__" : Str)) = false := by decide) :
    EltG X s1 P scope x (.Call (.Name "isinstance" p1) [.Attribute (.Name x p2) f p3, .Name T p4] [] p5) its (fun _ => false) := by
  intro C code A' E' i v s₂ m₂ hi hn hmx keep
  have keepB : ∀ b o, X.base.get? b = some o → s₂.heap.get? b = some o := fun b o e => keep b o (base_ne I hP e) (I.bk b o e)
  have kin2 : X.K.In s₂.heap := I.mod.kin.keeps keepB
  obtain ⟨xv, hxi, rxv⟩ : ∃ xv, xs[i]? = some xv ∧ RelV xv v := by
    have hil : i < its.length := (List.getElem?_eq_some_iff.mp hi).1
    have hil2 : i < xs.length := by rw [rv.length]; exact hil
    obtain ⟨w1, hw1, rw1⟩ := rv.get (List.getElem?_eq_getElem hil2)
    rw [hi] at hw1
    cases hw1
    exact ⟨_, List.getElem?_eq_getElem hil2, rw1⟩
  obtain ⟨a, b, Ca, dx, fs, Cb, dx', fs', rfl, ha, cl, na, lf, hbI, ty, ko⟩ := hx xv (List.mem_of_getElem? hxi)
  obtain rfl : v = Value.ref a := rxv
  obtain ⟨mA, O, r, _, _, hown⟩ := ins_get I.hok ha
  obtain ⟨u, hu, ru⟩ := RelO.some_of (v := V.ref b) (o := mA f) (by rw [← lf]; exact r f)
  obtain rfl : u = Value.ref b := ru
  have hneA : a ≠ P := fun z => by
    rw [z, hP] at ha
    cases ha
  have hneD : dx ≠ P := fun z => by
    rw [z, hP] at hown
    cases hown
  obtain ⟨mB, OB, rB, _, _, hownB⟩ := ins_get I.hok hbI
  have hneB : b ≠ P := fun z => by
    rw [z, hP] at hbI
    cases hbI
  have hneDB : dx' ≠ P := fun z => by
    rw [z, hP] at hownB
    cases hownB
  have O2 : ObjM s₂.heap a dx Ca mA := ⟨keep a _ hneA O.obj, O.ns.at fun o q => keep dx o hneD q, O.ne⟩
  have OB2 : ObjM s₂.heap b dx' Cb mB := ⟨keep b _ hneB OB.obj, OB.ns.at fun o q => keep dx' o hneDB q, OB.ne⟩
  obtain ⟨mb, h1ₖ, h2⟩ := I.mod.blt
  have hglob : s₂.heap.Ns X.env.globals X.mg := by
    rw [I.ok.glob]
    exact I.mod.glob.keeps keepB
  refine wpAny_Call_Name_kw (Calls.Name_function_global kd hg1 (Calls.loadGlobal_builtin (mg := X.mg) (mb := mb) hglob hm (h1ₖ.keeps keepB) ((h2 "isinstance" (by decide)).trans hb) ?_) (by decide))
  refine PyProof.Rows.callWith_builtin1 (Calls.spliced_cons ?_) (by rfl) (by rfl)
  refine attr_of (hba _) (wpAny_Name (wpAny_loadName_local (m := m₂) kd hl hn hmx ?_) hd1)
  refine get_map kin2 O2 (cl.get f) cl.hd na hu (handed_of (v := V.ref b) rfl) ?_
  refine Calls.spliced_cons (Calls.Name_function_global kd hg2 (Calls.loadGlobal_global (mg := X.mg) hglob hmT (Calls.spliced_nil ?_)) hd2)
  cases ty with
  | ins ea cl' hac hnc htk hmo =>
    rw [hbI] at ea
    cases ea
    obtain ⟨od, J, _⟩ := OB2.look
    exact PySem.W.kia_one (PySem.W.kitx_own (cl'.get _) cl'.hd hac hnc htk hmo) kin2 J ko (fun z => nomatch z) fun tk => ⟨rfl, ⟨_, tk, rfl, fun _ _ e => e⟩⟩
end
end K5
namespace K5
open PySem PySem.Spec PyProof.Rows L2
section
variable {prog : Program} {w : World} {A : Around} {E : Value → Shared → Prop} {s : Shared} {K : PySem.W.Frag} {x C f : Addr} {ox : Obj} {od : Option Obj}
theorem ne_special {b : Value} {Q : Option Value → Shared → Prop} (X : K.In s.heap) (I : PySem.W.InstAt s.heap x ox C od) (hn : PySem.W.findIn K (.ref C) "__ne__" = some (some (.builtin "object.__ne__")))
    (h : wpAny (model prog w) A (call (.builtin "object.__ne__") [.ref x, b]) (fun v => Q (some v)) E s) : wpAny (model prog w) A (callSpecialIfBound? (.ref x) "__ne__" [b]) Q E s := by
  simp only [bindSpecialIfBound?, callSpecialIfBound?]
  refine wpAny_holding (wpAny_bind (wpAny_bind (wpAny_bind (I.type.here ((PySem.W.looks_findIn X hn).here ?_)))))
  simp only [PySem.F.cmp_object.ne.bind]
  refine (wpAny_bind (wpAny_askSetting (wpAny_ite ?_)))
  have fin : wpAny (model prog w) A (call (.builtin "object.__ne__") ([.ref x] ++ [b]) >>= fun v => pure (some v)) Q E s := wpAny_bind (wpAny_mono h (fun v s' h' => wpAny_pure h') fun _ _ h' => h')
  split
  · exact (wpAny_bind (wpAny_pure (wpAny_pure fin)))
  · exact (wpAny_tryCatch (wpAny_bind (wpAny_pure (wpAny_pure fin))))
theorem ne_entry {b : Value} {Q : Fin → Shared → Prop} (hu : A.units < cLine) (X : K.In s.heap) (I : PySem.W.InstAt s.heap x ox C od) (hs : PySem.W.findIn K (.ref C) "__eq__" = some (some (.ref f))) (hf : PySem.W.isFn K (.ref f) = true)
    (h : wpAny (model prog w) A (call (.ref f) [.ref x, b]) (fun v s' => ∃ k, v = .bool k ∧ Q (.done (.ret (.bool (!k)))) s') E s) : wpAny (model prog w) A (Builtin.«object.__ne__» ⟨[.ref x, b], []⟩) Q E s := by
  (unfold Builtin.«object.__ne__»)
  repeat (first
    | (with_reducible refine wpAny_cRoomFor hu ?_)
    | (refine wpAny_bind (m := callSpecialIfBound? (.ref x) (Str.ofString "__eq__") [b])
        (PySem.W.ifBound_K X I hs hf (wpAny_mono h (fun r s' hr => by
          obtain ⟨k, rfl, hqₖ⟩ := hr
          repeat (first | exact hqₖ | exact wpAny_pure hqₖ | exact wpAny_truthy_bool hqₖ | (refine wpAny_bind (m := truthy (.bool _)) (wpAny_truthy_bool ?_)) | wp_step)) fun _ _ e => e)))
    | wp_step)
theorem ne_same {Q : Value → Shared → Prop} (hu : A.units + 1 < cLine) (X : K.In s.heap) (I : PySem.W.InstAt s.heap x ox C od) (hn : PySem.W.findIn K (.ref C) "__ne__" = some (some (.builtin "object.__ne__"))) (hs : PySem.W.findIn K (.ref C) "__eq__" = some (some (.ref f))) (hf : PySem.W.isFn K (.ref f) = true)
    (hm : PySem.W.mroIn K C (.type "object") = some true)
    (h : wpAny (model prog w) A.in1 (call (.ref f) [.ref x, .ref x]) (fun v s' => ∃ k, v = .bool k ∧ Q (.bool (!k)) s') E s) : wpAny (model prog w) A (richCompare .NotEq (.ref x) (.ref x)) Q E s := by
  have oneₖ : wpAny (model prog w) A (tryCompare (.ref x) "__ne__" (.ref x)) (fun r s' => ∃ v, r = some v ∧ Q v s') E s := by
    unfold tryCompare
    refine wpAny_bind (ne_special X I hn (wpAny_call (codeAny_call_builtin PySem.F.cmp_object.ne.plain PySem.F.cmpEntry_ne
      (PySem.W.check_slot PySem.F.cmpKind_ne PySem.F.cmpSplit_ne (I.type.andThen (PySem.W.looks_mroIn X hm)) (PySem.F.cmpArgs_ne _ _) (ne_entry (A := A.in1) (show A.units + 1 < cLine from hu) X I hs hf (wpAny_mono h (fun v s' hv => ?_) fun _ _ e => e))))))
    obtain ⟨k, rfl, hq⟩ := hv
    exact ⟨k, rfl, wpAny_pure ⟨_, rfl, hq⟩⟩
  unfold richCompare
  simp only [oneThing_ref]
  refine wpAny_holding (wpAny_bind (wpAny_cRoomFor (Nat.lt_of_succ_lt hu) ?_))
  rw [cmpInfo_NotEq]
  dsimp only
  refine wpAny_bind (I.type.here (wpAny_bind (I.type.here ?_)))
  (rw [show (Value.ref C != Value.ref C) = false from by simp])
  simp only [if_false, Bool.false_eq_true]
  refine (wpAny_bind (wpAny_pure ?_))
  simp only [if_false, Bool.false_eq_true]
  refine wpAny_bind (wpAny_mono oneₖ (fun r s' z => ?_) fun _ _ e => e)
  obtain ⟨v, rfl, hq⟩ := z
  exact wpAny_pure hq
end
section
variable {X : Cx} {k : Nat} {f C : Addr} {fd : FuncData} {ps : List Str} {S : Hp → List D → D → Prop}
/-- what the text must say of the class for != by its own == -/
structure OwnNe (K : PySem.W.Frag) (C f : Addr) : Prop where
  ne : PySem.W.findIn K (.ref C) "__ne__" = some (some (.builtin "object.__ne__"))
  eq : PySem.W.findIn K (.ref C) "__eq__" = some (some (.ref f))
  fn : (PySem.W.isFn K (.ref f) = true)
  mro : PySem.W.mroIn K C (.type "object") = some true
theorem op_neOwn (F : FnOk X.prog X.w X.K X.mg X.base CX0 k f fd ps (spF S)) (O : OwnNe X.K C f) (hb : Binds X.K fd ps []) (hr : Room (k + 1) X.A) :
    OpR X (compareOp .NotEq) (fun x y H Q => ∃ a dx fs, x = .ref a ∧ y = .ref a ∧ H a = some (.ins C dx fs) ∧ S H [.ref a, .ref a] (.bl true) ∧ ∀ H'ₖ, Sx H H'ₖ → Q (.bl false) H'ₖ) := by
  intro pins s σ H x y v u Q I rxₖ ryₖ h
  obtain ⟨a, dx, fs, rfl, rfl, haₖ, hS, q⟩ := h
  obtain rfl : v = Value.ref a := rxₖ
  obtain rfl : u = Value.ref a := ryₖ
  obtain ⟨mA, J, _⟩ := ins_get I.hok haₖ
  obtain ⟨od, J, _⟩ := J.look
  show wpAny (model X.prog X.w) X.A (richCompare .NotEq (.ref a) (.ref a)) (EP X pins σ Q) X.xe s
  have hr1 : Room k X.A.in1 := hr.in1
  refine ne_same (K := X.K) (C := C) (f := f) (by have := hr1.units0; exact this) I.kIn J O.ne O.eq O.fn O.mro ?_
  have hspₖ : spF S [.ref a, .ref a] H (fun v H'ₖ => v = .bl true ∧ Sx H H'ₖ) E0 := ⟨[.ref a, .ref a], .bl true, ⟨_, _, rfl, rfl, _, _, rfl, rfl, rfl⟩, hS, fun v H'ₖ s' e => ⟨e, s'⟩⟩
  have e0 : Env0 X.prog X.w X.K X.mg X.base X.A.in1 X.stack s H := by
    have e := I.env0
    exact ⟨e.frames, e.mod, e.bs, e.bsz, e.funs, e.frf, e.hok, e.bare⟩
  have hl := F.len _ _ _ _ hspₖ
  have r2 : Vals [V.ref a, V.ref a] [Value.ref a, Value.ref a] := .cons rfl (.cons rfl .nil)
  refine wpAny_call (codeAny_mono (F.run X.A.in1 X.stack s H ⟨[.ref a, .ref a], []⟩ [.ref a, .ref a] [.ref a, .ref a] _ E0 hr1 e0 (by
    have := hb s [.ref a, .ref a] I.kIn (by simpa using hl)
    simpa using this) r2 hspₖ) fun r s' hq => ?_)
  cases r with
  | error e => exact pass0 pins σ H s e s' I hq
  | ok fl =>
    cases fl with
    | ret w =>
      obtain ⟨z, H'ₖ, I', rz, ez, ex⟩ := I.after hq
      subst ez
      cases rz
      exact ⟨true, rfl, .bl false, H'ₖ, I', rfl, q H'ₖ ex⟩
    | next => exact False.elim hq
    | brk => exact False.elim hq
    | cont => exact False.elim hq
end
end K5
namespace K5
open PySem PySem.Spec PyProof.Rows L2
section
variable {X : Cx}
/-- the keys of a dict with tuple keys, read off the raw walk -/
theorem raw_keys {P : Program} {w : World} {ks : List (List L2.Key × Addr × Value)} {es : Array DictEntry} {acc : Array Value} (he : es.toList = ks.map (entryOfKey (tupleKind (mixKind P w)))) (it : ItemsOf (fun i v => ∃ en : DictEntry, es[i]? = some en ∧ v = en.key) acc es.size) :
    acc.toList = (ks.map fun x => x.2.1).map Value.ref := by
  have l1ₖ : es.size = ks.length := size_of_entries he
  have hl : acc.toList.length = ks.length := by rw [Array.length_toList, it.1]; exact l1ₖ
  rw [List.map_map]
  apply List.ext_getElem?
  intro j
  rw [List.getElem?_map]
  cases hj : acc.toList[j]? with
  | none =>
    have h1ₖ := List.getElem?_eq_none_iff.mp hj
    (rw [List.getElem?_eq_none (by omega)])
    all_goals rfl
  | some v =>
    obtain ⟨en, henₖ, hv⟩ := it.2 j v (by rw [← Array.getElem?_toList]; exact hj)
    have qeₖ := entry_at he j
    rw [henₖ] at qeₖ
    cases hb : ks[j]? with
    | none =>
      rw [hb] at qeₖ
      exact nomatch (show some en = none from qeₖ)
    | some b =>
      rw [hb] at qeₖ
      have e2 : en = entryOfKey (tupleKind (mixKind P w)) b := Option.some.inj qeₖ
      rw [hv, e2]
      all_goals rfl
def rSortD : List V → Hp → VK → Prop := fun vs H Q => ∃ (d : Addr) (kvs : List (List L2.Key × V)), vs = [.ref d] ∧ H d = some (.dT kvs) ∧ (∀ p ∈ kvs, ∃ i j : Int, p.1 = [Sum.inl i, Sum.inl j]) ∧
  ∀ (q : Addr) (bs ys : List Addr), H q = none → IsKeys H kvs bs → ys.Perm bs → Q (.ref q) (upd H q (.lst (ys.map V.ref)))
/-- the iterable's items, in a list that is let go; the heap has grown by it -/
theorem collectD {prog : Program} {w : World} {A : Around} {E : Value → Shared → Prop} {s : Shared} {T : String} {r d : Addr} {n : Nat} {Pz : Nat → Value → Prop} {OK : Heap → Prop} {R : List Value → Shared → Prop}
    (src : PySem.W.KdlSrc prog w T r d n Pz OK) (nh : A.handled = none) (ok0 : OK s.heap) (nz : n ≤ sizeLine)
    (go : ∀ (hp : Heap) (k : Nat) (ys : Array Value), (∀ b o, s.heap.get? b = some o → hp.get? b = some o) → s.heap.objs.size < hp.objs.size → ItemsOf Pz ys n → R ys.toList { s with heap := hp, toks := k }) : wpAny (model prog w) A (collect (.ref r)) R E s := by
  have there := src.there _ ok0
  unfold collect
  refine (wpAny_bind (wpAny_runValue (codeAny_builtin entry_proto_collect' ?_)))
  (rw [Around.under_plainId PySem.F.plain_proto_collect _])
  show wpAny _ A.in1 (newList [] >>= fun z => again (.builtin "list.__iadd__" ⟨[z, .ref r], []⟩)) _ _ s
  refine (wpAny_bind (wpAny_newObj_type ?_))
  refine (wpAny_pure ⟨plainId_quiet PySem.F.plain_list_iadd _, codeAny_builtin entry_list_iadd' ?_⟩)
  (rw [Around.under_plainId PySem.F.plain_list_iadd _])
  have at0 : (s.heap.push { cls := .type "list", data := .seq ([] : List Value).toArray }).get? s.heap.objs.size = some { cls := .type "list", data := .seq #[] } := Heap.get?_push_size _ rfl
  show (wpAny _ A.in1 (Builtin.List.listExtendWith (.ref s.heap.objs.size) (.ref r) (.ref s.heap.objs.size)) _ _ _)
  have run := PySem.W.kdl_extend (A := A) (s := { s with heap := s.heap.push { cls := .type "list", data := .seq ([] : List Value).toArray } })
    (R := fun (q : Result) (s' : Shared) => ∃ (hp : Heap) (k : Nat) (ys : Array Value) (c : Nat), q = .ok (.ret (.ref s.heap.objs.size)) ∧ s' = { s with heap := hp, toks := k } ∧
      (∀ b o, s.heap.get? b = some o → hp.get? b = some o) ∧ hp.get? s.heap.objs.size = some { cls := .type "list", dict := none, data := .seq ys c, slots := #[] } ∧ ItemsOf Pz ys n)
    src nh (src.keep _ _ ok0 fun b _ o e => Heap.get?_push_of_some _ e) s.heap.objs.size (Nat.ne_of_gt there.1) (Nat.ne_of_gt there.2) (.ref s.heap.objs.size) 0 at0
    (fun hp k ys c kp e it => ⟨hp, k, ys, c, rfl, rfl, fun b o e'ₖ => kp b o (Nat.ne_of_lt (Heap.lt_size e'ₖ)) (Heap.get?_push_of_some _ e'ₖ), e, it⟩) nz
  refine wpAny_mono run (fun fin s' x => ?_) fun e s' x => ?_
  · cases fin with
    | done f =>
      obtain ⟨hp, k, ys, c, e, rfl, kp, hS, it⟩ := x
      cases e
      show (wpAny _ A (load s.heap.objs.size >>= _) _ _ _)
      exact wpAny_bind (wpAny_load hS (wpAny_pure (go hp k ys kp (Heap.lt_size hS) it)))
    | again c₁ =>
      refine ⟨x.1, codeAny_mono x.2 fun q s₂ₖ y => ?_⟩
      obtain ⟨hp, k, ys, c, rfl, rfl, kp, hS, it⟩ := y
      show (wpAny _ A (load s.heap.objs.size >>= _) _ _ _)
      exact wpAny_bind (wpAny_load hS (wpAny_pure (go hp k ys kp (Heap.lt_size hS) it)))
  · obtain ⟨_, _, _, _, e'ₖ, _⟩ := x
    cases e'ₖ
def unA : Value → Addr
  | .ref a => a
  | _ => 0
theorem paired_mem {α β : Type} {R : α → β → Prop} : ∀ {xs : List α} {ys : List β}, Paired R xs ys → ∀ y ∈ ys, ∃ x ∈ xs, R x y
  | _, _, .nil, y, h => by simp at h
  | _, _, .cons r t, y, h => by
    rcases List.mem_cons.mp h with eₖ | h
    · subst eₖ
      exact ⟨_, List.mem_cons_self .., r⟩
    · obtain ⟨x, m, q⟩ := paired_mem t y h
      exact ⟨x, List.mem_cons_of_mem _ m, q⟩
theorem cr_sortedD (hc : X.calm = true) : CallR X (.builtin "sorted") rSortD := by
  intro pins s σ H xs usₖ Q I r h
  obtain ⟨d, kvsₖ, rfl, hd, hp, q⟩ := h
  obtain ⟨u, rfl, rx⟩ := r.one
  cases rx
  obtain ⟨z, hs, ks, pr, o, esₖ, ep, ho, hx, hdt, he, hn⟩ := (show ObjOk X.prog X.w H s.heap d (.dT kvsₖ) from I.hok d _ hd)
  have l1 : esₖ.size = ks.length := size_of_entries he
  have l2 : kvsₖ.length = ks.length := Paired.length pr
  have ik := isKeys_of pr
  refine (Calls.call_function_entry kind_sorted plain_sorted entry_sorted (args_sorted1 _) ?_)
  unfold Builtin.«sorted»
  refine (wpAny_bind (m := checkCount "sorted" 1 1 _) (wpAny_pure ?_))
  refine wpAny_bind (collectD (A := X.A.in1) (kdl_raw hs hx hdt) (I.ok.hd hc) ho (by omega) fun h' tk acc kp hlt it => ?_)
  have ea := raw_keys he it
  have hal : acc.toList.length = kvsₖ.length := by rw [ea, List.length_map, List.length_map]; omega
  refine wpAny_bind (wpAny_newList ?_ (by omega))
  have hoL : (h'.push { cls := .type "list", data := .seq acc.toList.toArray }).get? h'.objs.size = some (seqObj "list" acc.toList.toArray 0) := Heap.get?_push_size _ rfl
  have kb : ∀ b o, s.heap.get? b = some o → (h'.push { cls := .type "list", data := .seq acc.toList.toArray }).get? b = some o := fun b o e => Heap.get?_push_of_some _ (kp b o e)
  have ne0 : ∀ b o, s.heap.get? b = some o → b ≠ h'.objs.size := fun b o e => Nat.ne_of_lt (Heap.lt_size (kp b o e))
  have hle : s.heap.objs.size ≤ h'.objs.size := Nat.le_of_lt hlt
  have kf : H h'.objs.size = none := I.hok.fresh hle
  show wpAny _ _ _ _ _ { s with heap := h'.push { cls := .type "list", data := .seq acc.toList.toArray }, toks := tk }
  refine wpAny_bind (wpAny_holding (wpAny_call_entry slot_list_sort ⟨_, hoL, rfl⟩ entry_list_sort (Srt.list_sort_any hoL (by omega) (fun h2 => ?_) fun out hperm => ⟨_, rfl, ?_⟩) (args_list_sort _)))
  · refine Srt.pairs_sortable (s := { s with heap := h'.push { cls := .type "list", data := .seq acc.toList.toArray }, toks := tk }) (by omega) (fun v hv => ?_) fun o e => ?_
    · rw [ea] at hv
      obtain ⟨b, hb, rfl⟩ := List.mem_map.mp hv
      obtain ⟨p, hpm, hbt⟩ := paired_mem ik b hb
      obtain ⟨i, j, epk⟩ := hp p hpm
      rw [epk] at hbt
      obtain ⟨_, its2, r2ₖ, o2, ho2, hc2, n2, hd2⟩ := (show ObjOk X.prog X.w H s.heap b (.tup [.int i, .int j]) from I.hok b _ hbt)
      obtain ⟨u1, u2, rfl, ri, rj⟩ := vals2 r2ₖ
      obtain ⟨t1, rfl⟩ := ri
      obtain ⟨t2, rfl⟩ := rj
      exact ⟨i, j, b, o2, t1, t2, n2, rfl, kb _ _ ho2, hc2, hd2⟩
    · have e' : some o = some (seqObj "list" acc.toList.toArray 0) := e.symm.trans hoL
      cases e'
      intro cₖ
      exact absurd (Value.type.inj cₖ) (by decide)
  · refine wpAny_pure ⟨_, rfl, ?_⟩
    have pm : out.Perm ((ks.map fun x => x.2.1).map Value.ref) := by rw [← ea]; exact hperm
    obtain ⟨ys, hy, eo⟩ : ∃ ys : List Addr, ys.Perm (ks.map fun x => x.2.1) ∧ out = ys.map Value.ref := by
      have e1 : ∀ l : List Addr, (l.map Value.ref).map unA = l := fun l => by
        rw [List.map_map]
        exact (List.map_congr_left fun a _ => rfl).trans (List.map_id l)
      refine ⟨out.map unA, ?_, ?_⟩
      · have := pm.map unA
        rw [e1] at this
        exact this
      · rw [List.map_map]
        refine (List.map_id out).symm.trans (List.map_congr_left fun v hv => ?_)
        obtain ⟨b, _, rfl⟩ := List.mem_map.mp (pm.mem_iff.mp hv)
        rfl
    have kF : ∀ b o, s.heap.get? b = some o → (sortedHeap (h'.push { cls := .type "list", data := .seq acc.toList.toArray }) h'.objs.size acc.toList out.toArray).get? b = some o := fun b o e => (sortedHeap_old (ne0 b o e) (Heap.lt_size (kb b o e))).trans (kb b o e)
    obtain ⟨eF, heF⟩ := sortedHeap_at (vs := acc.toList) (out := out.toArray) hoL
    refine ⟨.ref h'.objs.size, _, I.laid (t' := tk) (o := .lst (ys.map V.ref)) kF hle ⟨?_, out, eF, ?_, heF⟩, rfl, q _ _ ys kf ik hy⟩
    · rw [List.length_map, hy.length_eq, List.length_map]
      omega
    · rw [eo]
      exact vals_refs ys
end
end K5
namespace K5
open PySem PySem.Spec PyProof.Rows L2
section
variable {prog : Program} {w : World} {knd : KeyKind prog w L2.Key} {A : Around} {E : Value → Shared → Prop} {s : Shared}
theorem tell_int {n : Int} {t : Tok} {stored : List Value} {Q : Bool → Shared → Prop} (hst : ∀ v ∈ stored, ∃ k b, v = .ref b ∧ (tupleKind knd).is s.heap k b) (h : Q false s) : wpAny (model prog w) A (tableMayTell (.int n t) stored) Q E s := by
  unfold tableMayTell
  split
  · exact wpAny_pure h
  · refine wpAny_bind (show wpAny (model prog w) A (eqIsQuiet 8 (.int n t)) _ E s from wpAny_pure ?_)
    simp only [if_false, Bool.false_eq_true, Bool.not_true]
    refine wpAny_bind ?_
    refine wpAny_forIn_list _ (fun rest r s' => s' = s ∧ r = (none, ()) ∧ ∀ v ∈ rest, ∃ k b, v = .ref b ∧ (tupleKind knd).is s.heap k b) _ ?_ ?_ _ _ ⟨rfl, rfl, hst⟩
    · rintro v rest r s' ⟨rfl, rfl, all⟩
      obtain ⟨k, b, rfl, kb⟩ := all v List.mem_cons_self
      refine wpAny_bind ((tupleKind knd).quiet kb ?_)
      simp only [if_false, Bool.false_eq_true, Bool.not_true]
      exact wpAny_pure ⟨rfl, rfl, fun u hu => all u (List.mem_cons_of_mem _ hu)⟩
    · rintro r s' ⟨rfl, rfl, _⟩
      exact wpAny_pure h
theorem find_int {d : Addr} {n : Int} {t : Tok} {o : Obj} {es : Array DictEntry} {ep : Nat} {xs : List (List L2.Key × Addr × Value)} {hv : Int} {Q : Option Nat → Shared → Prop} (hu : A.units < cLine) (ho : s.heap.get? d = some o) (hd : o.data = .dict es ep)
    (he : es.toList = xs.map (entryOfKey (tupleKind knd))) (his : ∀ x ∈ xs, (tupleKind knd).is s.heap x.1 x.2.1) (h : Q none s) : wpAny (model prog w) A (dictFind d (.int n t) hv) Q E s := by
  have at_ : ∀ (i : Nat) (e : DictEntry), es[i]? = some e → ∃ x ∈ xs, e = entryOfKey (tupleKind knd) x := by
    intro i e hiₖ
    have m : e ∈ xs.map (entryOfKey (tupleKind knd)) := he ▸ Array.mem_toList_iff.mpr (Array.mem_of_getElem? hiₖ)
    obtain ⟨x, hxₖ, q⟩ := List.mem_map.mp m
    exact ⟨x, hxₖ, q.symm⟩
  have hst : ∀ v ∈ (placesWithHash es.size (fun i => es[i]?.map (·.hash)) hv).filterMap (fun i => es[i]?.map (·.key)), ∃ k b, v = .ref b ∧ (tupleKind knd).is s.heap k b := by
    intro v m
    obtain ⟨i, _, hiₖ⟩ := List.mem_filterMap.mp m
    cases q : es[i]? with
    | none => rw [q] at hiₖ; cases hiₖ
    | some e =>
      rw [q] at hiₖ
      obtain rfl : e.key = v := by simpa using hiₖ
      obtain ⟨x, hxₖ, rfl⟩ := at_ i e q
      exact ⟨x.1, x.2.1, rfl, his x hxₖ⟩
  have hpl : ∀ i ∈ placesWithHash es.size (fun i => es[i]?.map (·.hash)) hv, ∃ x ∈ xs, es[i]? = some (entryOfKey (tupleKind knd) x) ∧ (tupleKind knd).hash x.1 = hv := by
    intro i m
    unfold placesWithHash at m
    obtain ⟨_, m2⟩ := List.mem_filter.mp m
    have m2 : ((es[i]?).map (·.hash) == some hv) = true := m2
    cases q : es[i]? with
    | none => rw [q] at m2; simp at m2
    | some e =>
      rw [q] at m2
      obtain ⟨x, hxₖ, rfl⟩ := at_ i e q
      exact ⟨x, hxₖ, rfl, by simpa [entryOfKey] using m2⟩
  unfold dictFind
  (try with_reducible refine wpAny_holding ?_)
  refine (wpAny_bind (wpAny_dictEntries ho hd ?_))
  dsimp only
  generalize placesWithHash es.size (fun i => es[i]?.map (·.hash)) hv = places at hst hpl
  cases places with
  | nil =>
    rw [if_pos (by simp [carriedByValue])]
    unfold dictWalkPlain
    simp only [List.forIn_nil]
    first | exact wpAny_bind (wpAny_bind (wpAny_pure (wpAny_pure (wpAny_pure h)))) | exact wpAny_bind (wpAny_pure (wpAny_pure h)) | exact wpAny_bind (wpAny_bind (wpAny_pure (wpAny_pure h))) | exact wpAny_pure h
  | cons i0 rest0 =>
    have hne : ¬ ((Value.int n t :: (i0 :: rest0).filterMap (fun i => es[i]?.map (·.key))).all carriedByValue) = true := by
      obtain ⟨x, _, hxₖ, _⟩ := hpl i0 List.mem_cons_self
      rw [List.filterMap_cons, hxₖ]
      simp [carriedByValue, entryOfKey]
    have hone : ¬ (((i0 :: rest0).filterMap (fun i => es[i]?.map (·.key))) == [Value.int n t]) = true := by
      obtain ⟨x, _, hxₖ, _⟩ := hpl i0 List.mem_cons_self
      rw [List.filterMap_cons, hxₖ]
      simp [entryOfKey]
    rw [if_neg hne, if_neg hone]
    refine wpAny_bind (tell_int hst ?_)
    rw [if_neg (by simp)]
    refine wpAny_bind ?_
    refine wpAny_forIn_list _ (fun rest b s' => s' = s ∧ b = (none, none) ∧ ∀ i ∈ rest, ∃ x ∈ xs, es[i]? = some (entryOfKey (tupleKind knd) x) ∧ (tupleKind knd).hash x.1 = hv) _ ?_ ?_ _ _ ⟨rfl, rfl, hpl⟩
    · rintro i rest b s' ⟨rfl, rfl, hr⟩
      obtain ⟨x, hxₖ, hex, hh⟩ := hr i List.mem_cons_self
      rw [hex]
      dsimp only
      rw [if_pos (by simp [entryOfKey, hh])]
      obtain ⟨ot, items, nt, hot, hct, hdt, _⟩ := (show IsTupleKey knd s'.heap x.1 x.2.1 from his x hxₖ)
      refine wpAny_bind (wpAny_dictEpoch ho hd (wpAny_bind (SeqAt.EqAt.tuple_int (A := A) (s := s') (l := x.2.1) (items := items) n t ⟨ot, hot, hct, nt, hdt⟩ hu prog w _ _ (wpAny_bind (wpAny_dictEpoch ho hd ?_)))))
      rw [if_neg (by simp)]
      simp only [if_false, Bool.false_eq_true]
      refine (wpAny_bind (wpAny_rule ?_))
      (first | rw [if_neg (by simp)] | skip)
      first
        | exact wpAny_pure ⟨rfl, rfl, fun j hj => hr j (List.mem_cons_of_mem _ hj)⟩
        | exact wpAny_bind (wpAny_pure (wpAny_pure ⟨rfl, rfl, fun j hj => hr j (List.mem_cons_of_mem _ hj)⟩))
    · rintro b s' ⟨rfl, rfl, _⟩
      exact wpAny_pure h
end
section
variable {X : Cx} {o e f : Expr} {apos cpos : Pos}
theorem get_int {pins : List (Addr × Obj)} {σ : L2.St} {H : Hp} {s : Shared} {d : Addr} {kvs : List (List L2.Key × V)} {n : Int} {t : Tok} {r : Value} {Q : Value → Shared → Prop} (hu : X.A.units + 1 < cLine) (I : Inv X pins σ H s) (hd : H d = some (.dT kvs)) (h : ∀ s', Inv X pins σ H s' → Q r s') :
    wpAny (model X.prog X.w) X.A (call (.builtin "dict.get") [.ref d, .int n t, r]) Q X.xe s := by
  obtain ⟨z, lo, xs, rel, dd⟩ := dt_of I.hok hd
  obtain ⟨ob, es, ep, h1, h2, h3, h4, h5, h6⟩ := id dd
  refine call_meetsIn PySem.F.slot_dict_get dd.typeIs PySem.F.entry_dict_get (PySem.F.args_dict_get_3 _ _ _)
    (S := fun A R s' => A.units + 1 < cLine ∧ s' = s ∧ R (.ok (.ret r)) { s with toks := s.toks + 1 }) (.of_wp fun A R s1 q => ?_) ⟨hu, rfl, h _ (I.tok _)⟩
  obtain ⟨q1, rfl, q2⟩ := q
  show wpAny _ _ (dictGet d (.int n t) >>= _) _ _ _
  refine wpAny_bind ?_
  unfold dictGet
  (try with_reducible refine wpAny_holding ?_)
  refine wpAny_bind (wpAny_pyHash_int (wpAny_bind (find_int (A := A.in1) (knd := mixKind X.prog X.w) (show A.units + 1 < cLine from q1) h1 h3 h4 h5 ?_)))
  refine wpAny_pure ?_
  show wpAny _ _ (Builtin.Dict.missed d (.int n t) >>= _) _ _ _
  exact wpAny_bind (wpAny_missed_other lo (wpAny_pure ⟨r, rfl, q2⟩))
def tDGetI (td ty tx : TE) : TE := fun σ H Q => td σ H fun x H1 => ∃ a, x = .ref a ∧ IsD H1 a ∧ ty σ H1 fun y H2 => tx σ H2 fun z H3 => ∃ kvs n, y = .int n ∧ H3 a = some (.dT kvs) ∧ Q z H3
theorem pe_dgetI {td ty tx : TE} (hu : X.A.units + 1 < cLine) (ho : PE X o td) (he : PE X e ty) (hf : PE X f tx) (m : M2 X o "get" apos e f cpos) : PE X (.Call (.Attribute o "get" apos) [e, f] [] cpos) (tDGetI td ty tx) := by
  refine ⟨fun pins s σ H Q I hₖ => ?_⟩
  refine wpAny_Call_method m.base m.few m.line PySem.F.plainAttrs_dict PySem.F.slot_dict_get PySem.F.type_dict_get (thn (ho.run pins s σ H _ I hₖ) fun u s1 z => ?_)
  obtain ⟨x, H1, I1ₖ, rxₖ, a, ex, d, q1⟩ := z
  subst ex
  obtain rfl : u = Value.ref a := rxₖ
  obtain ⟨t1, t2, _⟩ := isD_at I1ₖ d
  refine ⟨t1, t2, ?_⟩
  rw [m.trees]
  refine Calls.callWith_builtin rfl (Calls.evalArgs_plain (Calls.spliced_cons (thn (he.run pins s1 σ H1 _ I1ₖ q1) fun iv s2 z2 => ?_)))
  obtain ⟨y, H2, I2, ry, q2⟩ := z2
  refine Calls.spliced_cons (thn (hf.run pins s2 σ H2 _ I2 q2) fun fv s3 z3 => Calls.spliced_nil ?_)
  obtain ⟨z, H3, I3, rz, kvs, n, ey, hd, q3⟩ := z3
  subst ey
  obtain ⟨t, rfl⟩ := (show ∃ t, iv = Value.int n t from ry)
  exact get_int hu I3 hd fun s4 I4 => ⟨z, H3, I4, rz, q3⟩
end
end K5
namespace K5
open PySem PySem.Spec PyProof.Rows L2
theorem wipe_set1 {σ : L2.St} {i : Nat} {v : V} : wipe (σ.set i (some v)) [i] = wipe σ [i] := by
  unfold wipe wipe
  rw [List.set_set]
theorem wipe_set1' {σ : L2.St} {i : Nat} {v : V} : wipe ((wipe σ [i]).set i (some v)) [i] = wipe σ [i] := by
  rw [wipe_set1]
  show (σ.set i none).set i none = σ.set i none
  rw [List.set_set]
theorem Rep.wipe1 {H : Hp} {σ : L2.St} {ρ : Rho} (r : Rep H σ ρ) (i : Nat) : Rep H (wipe σ [i]) (ρ.set i none) := by
  unfold wipe wipe
  refine ⟨by rw [List.length_set, List.length_set, r.1], fun j e q => ?_⟩
  rw [List.getElem?_set] at q
  by_cases hj : i = j
  · subst hj
    rw [if_pos rfl] at q
    split at q <;> cases q
  · rw [if_neg hj] at q
    obtain ⟨u, q1, q2⟩ := r.2 j e q
    exact ⟨u, by rw [List.getElem?_set, if_neg hj]; exact q1, q2⟩
section
variable (X : Cx) (scope : Scope) (elt : Expr)
def tAll : TE := fun σ H Q => ∀ (s : Shared) (H0 : Hp) (C : Addr) (cl : List (Str × Addr)) (fp : List Addr), wE (X.blk s H0 scope (compEnvC scope cl C X.env) fp) elt σ H Q
/-- the element of a comprehension gives the datum, whatever the block -/
def DEb (ρ : Rho) (B : Hp) (d : D) : Prop := ∀ (s : Shared) (H0 : Hp) (C : Addr) (cl : List (Str × Addr)) (fp : List Addr), DE (X.blk s H0 scope (compEnvC scope cl C X.env) fp) elt ρ B d
end
section
variable {X : Cx} {scope : Scope} {elt tg iter : Expr} {ρ ρ' : Rho} {B B' : Hp} {d : D} {ds : List D} {pos px apos : Pos} {x : Str} {i : Nat} {σ : L2.St} {H H1 : Hp}
theorem pe_tAll (s : Shared) (H0 : Hp) (C : Addr) (cl : List (Str × Addr)) (fp : List Addr) : PE (X.blk s H0 scope (compEnvC scope cl C X.env) fp) elt (tAll X scope elt) := ⟨fun pins s1 σ H Q I h => h s H0 C cl fp pins s1 I⟩
/-- the new list at A0 holds the data so far -/
def LcP (H1 : Hp) (A0 : Addr) (es : List D) (j : Nat) (H : Hp) : Prop := But [A0] H1 H ∧ ∃ acc, H A0 = some (.lst acc) ∧ DatL H (es.take j) acc
theorem noLs_take : ∀ {es : List D}, noLs es = true → ∀ j : Nat, noLs (es.take j) = true
  | [], n, j => by simpa using n
  | a :: l, n, 0 => rfl
  | a :: l, n, j + 1 => by
    obtain ⟨m1, m2⟩ := Bool.and_eq_true_iff.mp (show (noL a && noLs l) = true from n)
    exact Bool.and_eq_true_iff.mpr ⟨m1, noLs_take m2 j⟩
theorem lc_stepD {A0 : Addr} {es : List D} {j : Nat} {v : V} {d e : D} (hD : H1 A0 = none) (hB : Sx B H1) (r : Rep H1 σ ρ) (n : noLs es = true) (hz : es.length ≤ 100000) (p : LcP H1 A0 es j H) (dv : Dat H1 d v) (he : es[j]? = some e)
    (hel : DEb X scope elt (ρ.set i (some d)) B e) : gName i v (wipe σ [i]) H fun σ2 H2 => wipe σ2 [i] = wipe σ [i] ∧ tYes σ2 H2 fun b H3 =>
      if b = true then tAll X scope elt σ2 H3 fun y H4 => ∃ acc, H4 A0 = some (.lst acc) ∧ acc.length < sizeLine ∧ LcP H1 A0 es (j + 1) (upd H4 A0 (.lst (acc ++ [y]))) else LcP H1 A0 es (j + 1) H3 := by
  obtain ⟨bt, acc, hacc, da⟩ := p
  refine ⟨wipe_set1', ?_⟩
  dsimp only [tYes]
  rw [if_pos rfl]
  intro s H0 C cl fp
  have s1 : Sx H1 H := bt.same (Sx.refl H1) (fun a ha => by rw [show a = A0 by simpa using ha]; exact hD)
  have rr : Rep H ((wipe σ [i]).set i (some v)) (ρ.set i (some d)) := by
    have q := (r.mono s1).wipe1 i
    have q2 := q.set i (Dat.mono s1 _ _ dv)
    rw [List.set_set] at q2
    exact q2
  refine hel s H0 C cl fp _ H (hB.trans s1) rr _ fun y H4 s4 e4 => ?_
  have hj : j < es.length := (List.getElem?_eq_some_iff.mp he).1
  have ha4 : H4 A0 = some (.lst acc) := s4.k A0 _ rfl hacc
  have lacc : acc.length = j := by rw [← da.length, List.length_take]; omega
  have n1 : noLs (es.take j) = true := by
    exact noLs_take n j
  have ne : noL e = true := noLs_mem n (List.mem_of_getElem? he)
  have st : SameT H4 (upd H4 A0 (.lst (acc ++ [y]))) := SameT.upd (fun xs z => by rw [ha4] at z; cases z)
  refine ⟨acc, ha4, by rw [lacc, sizeLine_eq]; omega, (bt.sx s4).trans (But.upd fun u z => by rw [ha4] at z; cases z; rfl), _, upd_same, ?_⟩
  rw [List.take_add_one, he]
  exact (DatL.monoT (s4.tt.trans st) _ _ n1 da).append ⟨y, [], rfl, Dat.monoT st _ _ ne e4, rfl⟩
variable {es : List D}
theorem lcp0 {A0 : Addr} (hD : H1 A0 = none) : LcP H1 A0 es 0 (upd H1 A0 (.lst [])) := ⟨But.upd (fun u z => by rw [hD] at z; cases z), ⟨[], upd_same, rfl⟩⟩
theorem lcp_end {A0 : Addr} {Q : VK} (hD : H1 A0 = none) (q : ∀ v H', Sx H1 H' → Dat H' (.lst es) v → Q v H') (p : LcP H1 A0 es es.length H) : Q (.ref A0) H := by
  obtain ⟨bt, acc, hacc, da⟩ := p
  rw [List.take_length] at da
  exact q _ H (bt.same (Sx.refl H1) (fun a ha => by rw [show a = A0 by simpa using ha]; exact hD)) ⟨A0, acc, rfl, hacc, da⟩
theorem lcp_sx {A0 : Addr} {j : Nat} (hD : H1 A0 = none) (p : LcP H1 A0 es j H) : Sx H1 H := p.1.same (Sx.refl H1) (fun a ha => by rw [show a = A0 by simpa using ha]; exact hD)
/-- [e for x in t], t a tuple -/
theorem de_lcT (i : Nat) (nd : X.N.Nodup) (he : DE X iter ρ B (.tup ds)) (hl : es.length = ds.length) (n : noLs es = true) (hz : es.length ≤ 100000) (hel : ∀ (j : Nat) (d e : D), ds[j]? = some d → es[j]? = some e → DEb X scope elt (ρ.set i (some d)) B e)
    (ok : BlkOk X.N X.env.scope scope [(x, i)]) (hi : X.N[i]? = some x := by rfl) (hx : ∀ (s : Shared) (H : Hp) (C : Addr) (cl : List (Str × Addr)) (fp : List Addr), (X.blk s H scope (compEnvC scope cl C X.env) fp).env.scope.names.lookup x = some .local := by intros; rfl) (hc : X.calm = true := by rfl)
    (hs : ∀ x, foldedSetIterable iter X.env x = pure x := by intro _; rfl) : DE X (.ListComp elt [⟨.Name x px, iter, [], 0⟩] scope pos) ρ B (.lst es) :=
  DE.mk (pe_lc (g := gName i) (tt := tYes) (te := tAll X scope elt) hc nd (pi_tup pe_w) ok (fun s H C cl fp => pg_name nd hi (Or.inl (hx s H C cl fp)) (Or.inr (hx s H C cl fp))) (fun _ _ _ _ _ => pts_nil) (fun s H C cl fp => pe_tAll s H C cl fp) hs) fun σ H s r Q q => he σ H s r _ fun v H1 s1 e1 => by
    obtain ⟨a, xs, ex, ha, hx1⟩ := e1
    refine ⟨a, ex, ⟨xs, SqT.of ha⟩, fun D hD => lc_tup (K := X.K) (a := a) (xs := xs) (LcP H1 D es) (lcp0 hD) (fun j H' _ p => SqT.of ((lcp_sx hD p).tt a xs ha)) (fun j y H' hy p => ?_) fun H' p => ?_⟩
    · obtain ⟨d, hd, dd⟩ := hx1.get' hy
      have hjl : j < es.length := by rw [hl]; exact (List.getElem?_eq_some_iff.mp hd).1
      exact lc_stepD hD (s.trans s1) (r.mono s1) n hz p dd (List.getElem?_eq_getElem hjl) (hel j d _ hd (List.getElem?_eq_getElem hjl))
    · have p2 : LcP H1 D es es.length H' := by rw [hl, hx1.length]; exact p
      exact lcp_end hD (fun v H' s' => q v H' (s1.trans s')) p2
theorem de_lcL (i : Nat) (nd : X.N.Nodup) (he : DE X iter ρ B (.lst ds)) (hl : es.length = ds.length) (n : noLs es = true) (hz : es.length ≤ 100000) (hel : ∀ (j : Nat) (d e : D), ds[j]? = some d → es[j]? = some e → DEb X scope elt (ρ.set i (some d)) B e)
    (ok : BlkOk X.N X.env.scope scope [(x, i)]) (hi : X.N[i]? = some x := by rfl) (hx : ∀ (s : Shared) (H : Hp) (C : Addr) (cl : List (Str × Addr)) (fp : List Addr), (X.blk s H scope (compEnvC scope cl C X.env) fp).env.scope.names.lookup x = some .local := by intros; rfl) (hc : X.calm = true := by rfl)
    (hs : ∀ x, foldedSetIterable iter X.env x = pure x := by intro _; rfl) : DE X (.ListComp elt [⟨.Name x px, iter, [], 0⟩] scope pos) ρ B (.lst es) :=
  DE.mk (pe_lc (g := gName i) (tt := tYes) (te := tAll X scope elt) hc nd (pi_list pe_w) ok (fun s H C cl fp => pg_name nd hi (Or.inl (hx s H C cl fp)) (Or.inr (hx s H C cl fp))) (fun _ _ _ _ _ => pts_nil) (fun s H C cl fp => pe_tAll s H C cl fp) hs) fun σ H s r Q q => he σ H s r _ fun v H1 s1 e1 => by
    obtain ⟨a, xs, ex, ha, hx1⟩ := e1
    refine ⟨a, ex, ⟨xs, SqL.of ha⟩, fun D hD => lc_list (K := X.K) (a := a) (xs := xs) (LcP H1 D es) (lcp0 hD) (fun j H' _ p => SqL.of ((lcp_sx hD p).k a _ rfl ha)) (fun j y H' hy p => ?_) fun H' p => ?_⟩
    · obtain ⟨d, hd, dd⟩ := hx1.get' hy
      have hjl : j < es.length := by rw [hl]; exact (List.getElem?_eq_some_iff.mp hd).1
      exact lc_stepD hD (s.trans s1) (r.mono s1) n hz p dd (List.getElem?_eq_getElem hjl) (hel j d _ hd (List.getElem?_eq_getElem hjl))
    · have p2 : LcP H1 D es es.length H' := by rw [hl, hx1.length]; exact p
      exact lcp_end hD (fun v H' s' => q v H' (s1.trans s')) p2
/-- [e for x in range(m)] -/
theorem de_lcR (i : Nat) (nd : X.N.Nodup) {a : Expr} {m : Nat} (he : DE X a ρ B (.int (m : Int))) (hl : es.length = m) (n : noLs es = true) (hz : es.length ≤ 100000) (hel : ∀ (j : Nat) (e : D), es[j]? = some e → DEb X scope elt (ρ.set i (some (.int (j : Int)))) B e)
    (ok : BlkOk X.N X.env.scope scope [(x, i)]) (hm : X.mg "range" = none) (hi : X.N[i]? = some x := by rfl) (hx : ∀ (s : Shared) (H : Hp) (C : Addr) (cl : List (Str × Addr)) (fp : List Addr), (X.blk s H scope (compEnvC scope cl C X.env) fp).env.scope.names.lookup x = some .local := by intros; rfl) (hc : X.calm = true := by rfl)
    (hg : Gl X "range" := by rfl) (hst : starEach [a] X.env = [(false, eval a X.env)] := by rfl) (hs : ∀ x, foldedSetIterable (.Call (.Name "range" px) [a] [] apos) X.env x = pure x := by intro _; rfl) {pn : Pos} : DE X (.ListComp elt [⟨.Name x pn, .Call (.Name "range" px) [a] [] apos, [], 0⟩] scope pos) ρ B (.lst es) :=
  DE.mk (pe_lc (g := gName i) (tt := tYes) (te := tAll X scope elt) hc nd (pi_range1 hg hm pa_w hst) ok (fun s H C cl fp => pg_name nd hi (Or.inl (hx s H C cl fp)) (Or.inr (hx s H C cl fp))) (fun _ _ _ _ _ => pts_nil) (fun s H C cl fp => pe_tAll s H C cl fp) hs) fun σ H s r Q q => (da_cons he da_nil (by rw [hst]; rfl)) σ H s r _ fun vs H1 s1 e1 => by
    obtain ⟨v, ev, dv⟩ := e1.one
    rw [show v = V.int m from dv] at ev
    refine ⟨m, ev, by omega, by omega, ?_⟩
    rw [show ((m : Int)).toNat = m from Int.toNat_natCast m]
    refine fun D hD => lc_range (lo := 0) (n := m) (LcP H1 D es) (lcp0 hD) (fun j H' hj p => ?_) fun H' p => ?_
    · have hjl : j < es.length := by rw [hl]; exact hj
      exact lc_stepD hD (s.trans s1) (r.mono s1) n hz p (show Dat H1 (.int (j : Int)) (V.int (0 + (j : Int))) by rw [Int.zero_add]; rfl) (List.getElem?_eq_getElem hjl) (hel j _ (List.getElem?_eq_getElem hjl))
    · have p2 : LcP H1 D es es.length H' := by rw [hl]; exact p
      exact lcp_end hD (fun v H' s' => q v H' (s1.trans s')) p2
end
end K5
namespace K5
open PySem PySem.Spec PyProof.Rows L2
def kD : L2.Key → D
  | .inl i => .int i
  | .inr x => .str x
theorem datL_keys {H : Hp} : ∀ {k : List L2.Key} {vs : List V}, DatL H (k.map kD) vs → vs = k.map kV
  | [], _, h => h
  | k :: ks, _, h => by
    obtain ⟨v, r, e, h1, h2⟩ := h
    rw [e, datL_keys h2]
    cases k with
    | inl i => rw [show v = V.int i from h1]; rfl
    | inr x => rw [show v = V.str x from h1]; rfl
theorem dat_key1 {H : Hp} {k : L2.Key} {v : V} (h : Dat H (kD k) v) : v = kV k := by
  cases k with
  | inl i => exact h
  | inr x => exact h
section
variable {ky : Type} [DecidableEq ky]
def KD (H : Hp) : List (ky × V) → List (ky × D) → Prop
  | [], es => es = []
  | (k, v) :: r, es => ∃ d q, es = (k, d) :: q ∧ Dat H d v ∧ KD H r q
def valD (es : List (ky × D)) (k : ky) : Option D := (es.find? fun kv => decide (kv.1 = k)).map (·.2)
def putE (es : List (ky × D)) (k : ky) (d : D) : List (ky × D) := if (es.any fun kv => decide (kv.1 = k)) = true then es.map (fun kv => if kv.1 = k then (kv.1, d) else kv) else es ++ [(k, d)]
def noLk (es : List (ky × D)) : Bool := es.all fun e => noL e.2
theorem KD.monoL {H H' : Hp} (s : SameL H H') : ∀ {kvs : List (ky × V)} {es : List (ky × D)}, KD H kvs es → KD H' kvs es
  | [], _, h => h
  | (k, v) :: r, _, h => by
    obtain ⟨d, q, e, h1, h2⟩ := h
    exact ⟨d, q, e, Dat.monoL s d v h1, h2.monoL s⟩
theorem KD.monoT {H H' : Hp} (s : SameT H H') : ∀ {kvs : List (ky × V)} {es : List (ky × D)}, noLk es = true → KD H kvs es → KD H' kvs es
  | [], _, _, h => h
  | (k, v) :: r, _, n, h => by
    obtain ⟨d, q, e, h1, h2⟩ := h
    subst e
    obtain ⟨n1, n2⟩ := Bool.and_eq_true_iff.mp (show (noL d && noLk q) = true from n)
    exact ⟨d, q, rfl, Dat.monoT s d v n1 h1, KD.monoT s n2 h2⟩
theorem KD.length {H : Hp} : ∀ {kvs : List (ky × V)} {es : List (ky × D)}, KD H kvs es → kvs.length = es.length
  | [], _, h => by
    rw [show _ = [] from h]
    rfl
  | (k, v) :: r, _, h => by
    obtain ⟨d, q, e, h1, h2⟩ := h
    rw [e, List.length_cons, List.length_cons, h2.length]
theorem KD.any {H : Hp} (k : ky) : ∀ {kvs : List (ky × V)} {es : List (ky × D)}, KD H kvs es → (kvs.any fun kv => decide (kv.1 = k)) = es.any fun kv => decide (kv.1 = k)
  | [], _, h => by
    rw [show _ = [] from h]
    rfl
  | (j, v) :: r, _, h => by
    obtain ⟨d, q, e, h1, h2⟩ := h
    rw [e, List.any_cons, List.any_cons, h2.any k]
theorem KD.map {H : Hp} (k : ky) {v : V} {d : D} (hv : Dat H d v) : ∀ {kvs : List (ky × V)} {es : List (ky × D)}, KD H kvs es → KD H (kvs.map fun kv => if kv.1 = k then (kv.1, v) else kv) (es.map fun kv => if kv.1 = k then (kv.1, d) else kv)
  | [], _, h => by
    rw [show _ = [] from h]
    rfl
  | (j, u) :: r, _, h => by
    obtain ⟨c, q, e, h1, h2⟩ := h
    subst e
    (rw [List.map_cons, List.map_cons])
    by_cases hj : j = k
    · rw [if_pos hj, if_pos hj]
      exact ⟨d, _, rfl, hv, h2.map k hv⟩
    · rw [if_neg hj, if_neg hj]
      exact ⟨c, _, rfl, h1, h2.map k hv⟩
theorem KD.append {H : Hp} {k : ky} {v : V} {d : D} (hv : Dat H d v) : ∀ {kvs : List (ky × V)} {es : List (ky × D)}, KD H kvs es → KD H (kvs ++ [(k, v)]) (es ++ [(k, d)])
  | [], _, h => by
    rw [show _ = [] from h]
    exact ⟨d, [], rfl, hv, rfl⟩
  | (j, u) :: r, _, h => by
    obtain ⟨c, q, e, h1, h2⟩ := h
    subst e
    exact ⟨c, _, rfl, h1, h2.append hv⟩
theorem KD.put {H : Hp} {k : ky} {v : V} {d : D} (hv : Dat H d v) {kvs : List (ky × V)} {es : List (ky × D)} (h : KD H kvs es) : KD H (putK kvs k v) (putE es k d) := by
  unfold putK putE
  rw [h.any k]
  split
  · exact h.map k hv
  · exact h.append hv
theorem KD.val {H : Hp} {k : ky} : ∀ {kvs : List (ky × V)} {es : List (ky × D)}, KD H kvs es → (valV kvs k = none ∧ valD es k = none) ∨ ∃ v d, valV kvs k = some v ∧ valD es k = some d ∧ Dat H d v
  | [], _, h => by
    rw [show _ = [] from h]
    exact .inl ⟨rfl, rfl⟩
  | (j, u) :: r, _, h => by
    obtain ⟨c, q, e, h1, h2⟩ := h
    subst e
    by_cases hj : j = k
    · exact .inr ⟨u, c, by simp [valV, List.find?_cons, hj], by simp [valD, List.find?_cons, hj], h1⟩
    · rcases h2.val (k := k) with ⟨a, b⟩ | ⟨v, d, a, b, c2⟩
      · exact .inl ⟨by rw [← a]; simp [valV, List.find?_cons, hj], by rw [← b]; simp [valD, List.find?_cons, hj]⟩
      · exact .inr ⟨v, d, by rw [← a]; simp [valV, List.find?_cons, hj], by rw [← b]; simp [valD, List.find?_cons, hj], c2⟩
end
/-- a dict keyed by tuples, by its data (it may be locked by a walk) -/
def DicT (H : Hp) (a : Addr) (es : List (List L2.Key × D)) : Prop := ∃ kvs, Rd H a (.dT kvs) ∧ KD H kvs es
/-- such a dict that may be written -/
def DicW (H : Hp) (a : Addr) (es : List (List L2.Key × D)) : Prop := ∃ kvs, H a = some (.dT kvs) ∧ KD H kvs es
def DicK (H : Hp) (a : Addr) (es : List (L2.Key × D)) : Prop := ∃ kvs, H a = some (.dK kvs) ∧ KD H kvs es
theorem DicW.r {H : Hp} {a : Addr} {es : List (List L2.Key × D)} (h : DicW H a es) : DicT H a es := let ⟨k, e, q⟩ := h; ⟨k, .inl e, q⟩
theorem rd_sx {H H' : Hp} {a : Addr} {u : HO} (h : Rd H a u) (hu : isTb u = false) (s : Sx H H') : Rd H' a u := by
  rcases h with e | ⟨o, e⟩
  · exact .inl (s.k a u hu e)
  · exact .inr ⟨o, s.k a _ rfl e⟩
theorem DicT.mono {H H' : Hp} {a : Addr} {es : List (List L2.Key × D)} (h : DicT H a es) (s : Sx H H') : DicT H' a es := let ⟨k, e, q⟩ := h; ⟨k, rd_sx e rfl s, q.monoL s.l⟩
theorem DicW.mono {H H' : Hp} {a : Addr} {es : List (List L2.Key × D)} (h : DicW H a es) (s : Sx H H') : DicW H' a es := let ⟨k, e, q⟩ := h; ⟨k, s.k _ _ rfl e, q.monoL s.l⟩
theorem DicK.mono {H H' : Hp} {a : Addr} {es : List (L2.Key × D)} (h : DicK H a es) (s : Sx H H') : DicK H' a es := let ⟨k, e, q⟩ := h; ⟨k, s.k _ _ rfl e, q.monoL s.l⟩
theorem DicW.but {H H' : Hp} {A : List Addr} {a : Addr} {es : List (List L2.Key × D)} (h : DicW H a es) (s : But A H H') (hA : a ∉ A) (n : noLk es = true) (t : SameT H H') : DicW H' a es := let ⟨k, e, q⟩ := h; ⟨k, s.k _ _ hA rfl e, q.monoT t n⟩
theorem DicK.but {H H' : Hp} {A : List Addr} {a : Addr} {es : List (L2.Key × D)} (h : DicK H a es) (s : But A H H') (hA : a ∉ A) (n : noLk es = true) (t : SameT H H') : DicK H' a es := let ⟨k, e, q⟩ := h; ⟨k, s.k _ _ hA rfl e, q.monoT t n⟩
theorem DicW.ne {H : Hp} {a : Addr} {es : List (List L2.Key × D)} (h : DicW H a es) : H a ≠ none := let ⟨k, e, q⟩ := h; by rw [e]; simp
theorem DicK.ne {H : Hp} {a : Addr} {es : List (L2.Key × D)} (h : DicK H a es) : H a ≠ none := let ⟨k, e, q⟩ := h; by rw [e]; simp
section
variable {X : Cx} {e a b c o i : Expr} {es : List Expr} {rest : List Stmt} {ρ : Rho} {B : Hp} {d d1 d2 : D} {ds ds2 : List D} {N : Rho → Hp → Prop} {R : D → Hp → Prop} {pos px apos pos' cpos : Pos} {p C : Addr} {x : Str} {j k : Nat} {n : Int} {dt : List (List L2.Key × D)} {dk : List (L2.Key × D)} {key : List L2.Key} {kb : Bool}
theorem units2 (hr : Room k X.A) : X.A.units + 1 < cLine := by have := hr.un; omega
theorem dget_t {H : Hp} {y : V} (hD : DicT H p dt) (hy : Dat H (.tup (key.map kD)) y) : ∃ o, DGet H p y o ∧ ((o = none ∧ valD dt key = none) ∨ ∃ v d, o = some v ∧ valD dt key = some d ∧ Dat H d v) := by
  obtain ⟨kvs, hk, kd⟩ := hD
  obtain ⟨q, ys, rfl, hq, hys⟩ := hy
  rw [datL_keys hys] at hq
  exact ⟨valV kvs key, .inr ⟨kvs, key, q, hk, rfl, hq, rfl⟩, kd.val⟩
/-- d[key] -/
theorem de_dgetT (hr : Room k X.A) (ho : DE X o ρ B (.ref p)) (hi : DE X i ρ B (.tup (key.map kD))) (hD : DicT B p dt) (hv : valD dt key = some d) (hs : NoSl i := by intro _ _; rfl) : DE X (.Subscript o i pos) ρ B d :=
  DE.mk (pe_dget (units2 hr) pe_w pe_w hs) fun σ H s r Q q => two ho hi s r fun x1 y H' s' e1 e2 => by
    obtain ⟨o1, g, h⟩ := dget_t (hD.mono (s.trans s')) e2
    rcases h with ⟨_, h2⟩ | ⟨v, d', rfl, h2, h3⟩
    · rw [hv] at h2
      cases h2
    · rw [hv] at h2
      obtain rfl : d = d' := Option.some.inj h2
      exact ⟨p, v, e1, g, q v H' s' h3⟩
theorem de_dgetK {key : L2.Key} (hr : Room k X.A) (ho : DE X o ρ B (.ref p)) (hi : DE X i ρ B (kD key)) (hD : DicK B p dk) (hv : valD dk key = some d) (hs : NoSl i := by intro _ _; rfl) : DE X (.Subscript o i pos) ρ B d :=
  DE.mk (pe_dget (units2 hr) pe_w pe_w hs) fun σ H s r Q q => two ho hi s r fun x1 y H' s' e1 e2 => by
    obtain ⟨kvs, hk, kd⟩ := hD.mono (s.trans s')
    rcases kd.val (k := key) with ⟨_, h2⟩ | ⟨v, d', h1, h2, h3⟩
    · rw [hv] at h2
      cases h2
    · rw [hv] at h2
      obtain rfl : d = d' := Option.some.inj h2
      refine ⟨p, v, e1, ?_, q v H' s' h3⟩
      rw [dat_key1 e2, ← h1]
      exact DGet.k hk
/-- key in d, key not in d -/
theorem de_dinT (hr : Room k X.A) (hi : DE X i ρ B (.tup (key.map kD))) (ho : DE X o ρ B (.ref p)) (hD : DicT B p dt) (hm : behindInMarks .In o = false := by first | exact nomark _ | rfl) : DE X (.Compare i [.In] [o] pos) ρ B (.bl (valD dt key).isSome) :=
  DE.mk (pe_cmp (pc_din (units2 hr) pe_w pe_w) hm) fun σ H s r Q q => two hi ho s r fun y x1 H' s' e2 e1 => by
    obtain ⟨o1, g, h⟩ := dget_t (hD.mono (s.trans s')) e2
    refine ⟨p, o1, e1, g, q _ H' s' ?_⟩
    rcases h with ⟨h1, h2⟩ | ⟨v, d', h1, h2, _⟩ <;> rw [h1, h2] <;> rfl
theorem de_dnotT (hr : Room k X.A) (hi : DE X i ρ B (.tup (key.map kD))) (ho : DE X o ρ B (.ref p)) (hD : DicT B p dt) (hm : behindInMarks .NotIn o = false := by first | exact nomark _ | rfl) : DE X (.Compare i [.NotIn] [o] pos) ρ B (.bl (!(valD dt key).isSome)) :=
  DE.mk (pe_cmp (pc_dnotin (units2 hr) pe_w pe_w) hm) fun σ H s r Q q => two hi ho s r fun y x1 H' s' e2 e1 => by
    obtain ⟨o1, g, h⟩ := dget_t (hD.mono (s.trans s')) e2
    refine ⟨p, o1, e1, g, q _ H' s' ?_⟩
    rcases h with ⟨h1, h2⟩ | ⟨v, d', h1, h2, _⟩ <;> rw [h1, h2] <;> rfl
theorem isD_t {H : Hp} (hD : DicT H p dt) : IsD H p := let ⟨k, e, _⟩ := hD; .inr ⟨k, e⟩
theorem isD_k {H : Hp} (hD : DicK H p dk) : IsD H p := let ⟨k, e, _⟩ := hD; .inl ⟨k, .inl e⟩
/-- d.get(key), d.get(key, x) -/
theorem de_getT1 (hr : Room k X.A) (ho : DE X o ρ B (.ref p)) (hi : DE X i ρ B (.tup (key.map kD))) (hD : DicT B p dt) (m : M1 X o "get" apos i cpos := by exact ⟨rfl, rfl, rfl, rfl⟩) : DE X (.Call (.Attribute o "get" apos) [i] [] cpos) ρ B ((valD dt key).getD .non) :=
  DE.mk (pe_dget1 (units2 hr) pe_w pe_w m) fun σ H s r Q q => ho σ H s r _ fun x1 H1 s1 e1 => ⟨p, e1, isD_t (hD.mono (s.trans s1)), hi σ H1 (s.trans s1) (r.mono s1) _ fun y H2 s2 e2 => by
    obtain ⟨o1, g, h⟩ := dget_t (hD.mono ((s.trans s1).trans s2)) e2
    refine ⟨o1, g, q _ H2 (s1.trans s2) ?_⟩
    rcases h with ⟨h1, h2⟩ | ⟨v, d', h1, h2, h3⟩
    · rw [h1, h2]
      rfl
    · rw [h1, h2]
      exact h3⟩
theorem de_getT2 (hr : Room k X.A) (ho : DE X o ρ B (.ref p)) (hi : DE X i ρ B (.tup (key.map kD))) (hb : DE X b ρ B d) (hD : DicT B p dt) (m : M2 X o "get" apos i b cpos := by exact ⟨rfl, rfl, rfl, rfl⟩) : DE X (.Call (.Attribute o "get" apos) [i, b] [] cpos) ρ B ((valD dt key).getD d) :=
  DE.mk (pe_dget2 (units2 hr) pe_w pe_w pe_w m) fun σ H s r Q q => ho σ H s r _ fun x1 H1 s1 e1 => ⟨p, e1, isD_t (hD.mono (s.trans s1)), hi σ H1 (s.trans s1) (r.mono s1) _ fun y H2 s2 e2 => hb σ H2 ((s.trans s1).trans s2) (r.mono (s1.trans s2)) _ fun z H3 s3 e3 => by
    obtain ⟨o1, g, h⟩ := dget_t (hD.mono (((s.trans s1).trans s2).trans s3)) (Dat.mono s3 _ _ e2)
    refine ⟨o1, g, q _ H3 ((s1.trans s2).trans s3) ?_⟩
    rcases h with ⟨h1, h2⟩ | ⟨v, d', h1, h2, h3⟩
    · rw [h1, h2]
      exact e3
    · rw [h1, h2]
      exact h3⟩
theorem de_getI2 (hr : Room k X.A) (ho : DE X o ρ B (.ref p)) (hi : DE X i ρ B (.int n)) (hb : DE X b ρ B d) (hD : DicW B p dt) (m : M2 X o "get" apos i b cpos := by exact ⟨rfl, rfl, rfl, rfl⟩) : DE X (.Call (.Attribute o "get" apos) [i, b] [] cpos) ρ B d :=
  DE.mk (pe_dgetI (units2 hr) pe_w pe_w pe_w m) fun σ H s r Q q => ho σ H s r _ fun x1 H1 s1 e1 => ⟨p, e1, isD_t (hD.mono (s.trans s1)).r, hi σ H1 (s.trans s1) (r.mono s1) _ fun y H2 s2 e2 => hb σ H2 ((s.trans s1).trans s2) (r.mono (s1.trans s2)) _ fun z H3 s3 e3 => by
    obtain ⟨kvs, hk, _⟩ := hD.mono (((s.trans s1).trans s2).trans s3)
    exact ⟨kvs, n, e2, hk, q z H3 ((s1.trans s2).trans s3) e3⟩⟩
theorem de_getK2 {key : L2.Key} (hr : Room k X.A) (ho : DE X o ρ B (.ref p)) (hi : DE X i ρ B (kD key)) (hb : DE X b ρ B d) (hD : DicK B p dk) (m : M2 X o "get" apos i b cpos := by exact ⟨rfl, rfl, rfl, rfl⟩) : DE X (.Call (.Attribute o "get" apos) [i, b] [] cpos) ρ B ((valD dk key).getD d) :=
  DE.mk (pe_dget2 (units2 hr) pe_w pe_w pe_w m) fun σ H s r Q q => ho σ H s r _ fun x1 H1 s1 e1 => ⟨p, e1, isD_k (hD.mono (s.trans s1)), hi σ H1 (s.trans s1) (r.mono s1) _ fun y H2 s2 e2 => hb σ H2 ((s.trans s1).trans s2) (r.mono (s1.trans s2)) _ fun z H3 s3 e3 => by
    obtain ⟨kvs, hk, kd⟩ := hD.mono (((s.trans s1).trans s2).trans s3)
    refine ⟨valV kvs key, ?_, q _ H3 ((s1.trans s2).trans s3) ?_⟩
    · rw [dat_key1 e2]
      exact DGet.k hk
    · rcases kd.val (k := key) with ⟨h1, h2⟩ | ⟨v, d', h1, h2, h3⟩
      · rw [h1, h2]
        exact e3
      · rw [h1, h2]
        exact h3⟩
/-- {} -/
def NewD (P : Addr → Hp → Prop) (B : Hp) (d : D) (H : Hp) : Prop := ∃ p, d = .ref p ∧ B p = none ∧ P p H ∧ Sx B H
theorem dx_newT : DX X (.Dict [] [] pos) ρ B (NewD (fun p H => DicW H p []) B) :=
  DX.mk pe_dnewT fun σ H s r Q q p hp => q (.ref p) _ _ ⟨p, rfl, s.free hp, ⟨[], upd_same, rfl⟩, s.trans (Sx.new hp)⟩ rfl (r.mono (Sx.new hp))
theorem dx_newK : DX X (.Dict [] [] pos) ρ B (NewD (fun p H => DicK H p []) B) :=
  DX.mk pe_dnewK fun σ H s r Q q p hp => q (.ref p) _ _ ⟨p, rfl, s.free hp, ⟨[], upd_same, rfl⟩, s.trans (Sx.new hp)⟩ rfl (r.mono (Sx.new hp))
/-- d[key] = v -/
theorem dss_dputT (hr : Room k X.A) (he : DE X e ρ B d) (ho : DE X o ρ B (.ref p)) (hi : DE X i ρ B (.tup (key.map kD))) (hD : DicW B p dt) (hz : dt.length < 100000) (h : ∀ H1, But [p] B H1 → SameL B H1 → DicW H1 p (putE dt key d) → DSs X rest ρ H1 N R)
    (hs : swapsWith e (some (.Subscript o i pos')) pos.line X.env = pure false := by rfl) : DSs X (.Assign [.Subscript o i pos'] e pos :: rest) ρ B N R :=
  dss_of (ps_dput (units2 hr) pe_w pe_w pe_w hs) fun σ H s r Dn k1 k2 => he σ H s r _ fun v H1 s1 e1 => ho σ H1 (s.trans s1) (r.mono s1) _ fun u H2 s2 e2 => hi σ H2 ((s.trans s1).trans s2) (r.mono (s1.trans s2)) _ fun y H3 s3 e3 => by
    have s03 := ((s.trans s1).trans s2).trans s3
    obtain ⟨kvs, hk, kd⟩ := hD.mono s03
    obtain ⟨q, ys, rfl, hq, hys⟩ := e3
    rw [datL_keys hys] at hq
    have sl : SameL H3 (upd H3 p (.dT (putK kvs key v))) := SameL.upd (fun xs z => by rw [hk] at z; cases z) (fun xs z => by rw [hk] at z; cases z)
    have bt : But [p] H3 (upd H3 p (.dT (putK kvs key v))) := But.upd (fun u z => by rw [hk] at z; cases z; rfl)
    refine ⟨p, _, e2, DPut.t hk hq (by rw [kd.length, sizeLine_eq]; omega), ?_⟩
    exact go_on (h _ (s03.thenBut bt) ⟨fun a xs z => sl.t a xs (s03.tt a xs z), fun a xs z => sl.l a xs (s03.l.l a xs z)⟩ ⟨_, upd_same, (kd.put (Dat.mono (s2.trans s3) d v e1)).monoL sl⟩) (Sx.refl _) ((r.mono ((s1.trans s2).trans s3)).monoL sl) k1 k2
theorem dss_dputK {key : L2.Key} (hr : Room k X.A) (he : DE X e ρ B d) (ho : DE X o ρ B (.ref p)) (hi : DE X i ρ B (kD key)) (hD : DicK B p dk) (hz : dk.length < 100000) (h : ∀ H1, But [p] B H1 → SameL B H1 → DicK H1 p (putE dk key d) → DSs X rest ρ H1 N R)
    (hs : swapsWith e (some (.Subscript o i pos')) pos.line X.env = pure false := by rfl) : DSs X (.Assign [.Subscript o i pos'] e pos :: rest) ρ B N R :=
  dss_of (ps_dput (units2 hr) pe_w pe_w pe_w hs) fun σ H s r Dn k1 k2 => he σ H s r _ fun v H1 s1 e1 => ho σ H1 (s.trans s1) (r.mono s1) _ fun u H2 s2 e2 => hi σ H2 ((s.trans s1).trans s2) (r.mono (s1.trans s2)) _ fun y H3 s3 e3 => by
    have s03 := ((s.trans s1).trans s2).trans s3
    obtain ⟨kvs, hk, kd⟩ := hD.mono s03
    rw [dat_key1 e3]
    have sl : SameL H3 (upd H3 p (.dK (putK kvs key v))) := SameL.upd (fun xs z => by rw [hk] at z; cases z) (fun xs z => by rw [hk] at z; cases z)
    have bt : But [p] H3 (upd H3 p (.dK (putK kvs key v))) := But.upd (fun u z => by rw [hk] at z; cases z; rfl)
    refine ⟨p, _, e2, DPut.k hk (by rw [kd.length, sizeLine_eq]; omega), ?_⟩
    exact go_on (h _ (s03.thenBut bt) ⟨fun a xs z => sl.t a xs (s03.tt a xs z), fun a xs z => sl.l a xs (s03.l.l a xs z)⟩ ⟨_, upd_same, (kd.put (Dat.mono (s2.trans s3) d v e1)).monoL sl⟩) (Sx.refl _) ((r.mono ((s1.trans s2).trans s3)).monoL sl) k1 k2
theorem de_catT (ha : DE X a ρ B (.tup ds)) (hb : DE X b ρ B (.tup ds2)) (hz : ds.length + ds2.length ≤ 1000000) : DE X (.BinOp a .Add b pos) ρ B (.tup (ds ++ ds2)) :=
  de_op op_catA ha hb fun H x y s e1 e2 Q q => by
    obtain ⟨p1, xs, rfl, h1, l1⟩ := e1
    obtain ⟨p2, ys, rfl, h2, l2⟩ := e2
    refine ⟨p1, p2, xs, ys, rfl, rfl, SqT.of h1, SqT.of h2, by rw [← l1.length, ← l2.length, sizeLine_eq]; omega, fun e => ?_, fun _ e => ?_, fun _ _ p hp => q _ _ (Sx.new hp) ⟨p, _, rfl, upd_same, DatL.mono (Sx.new hp) _ _ (l1.append l2)⟩⟩
    · subst e
      have : ds = [] := List.eq_nil_of_length_eq_zero l1.length
      subst this
      exact q _ H (Sx.refl H) ⟨p2, ys, rfl, h2, l2⟩
    · subst e
      have : ds2 = [] := List.eq_nil_of_length_eq_zero l2.length
      subst this
      exact q _ H (Sx.refl H) ⟨p1, xs, rfl, h1, by rw [List.append_nil]; exact l1⟩
theorem de_catL (ha : DE X a ρ B (.lst ds)) (hb : DE X b ρ B (.lst ds2)) (hz : ds.length + ds2.length ≤ 1000000) : DE X (.BinOp a .Add b pos) ρ B (.lst (ds ++ ds2)) :=
  de_op op_cat ha hb fun H x y s e1 e2 Q q => by
    obtain ⟨p1, xs, rfl, h1, l1⟩ := e1
    obtain ⟨p2, ys, rfl, h2, l2⟩ := e2
    exact ⟨p1, p2, xs, ys, rfl, rfl, h1, h2, by rw [← l1.length, ← l2.length, sizeLine_eq]; omega, fun p hp => q _ _ (Sx.new hp) ⟨p, _, rfl, upd_same, DatL.mono (Sx.new hp) _ _ (l1.append l2)⟩⟩
/-- the list at p, and a list: a new one -/
theorem de_catA (ha : DE X a ρ B (.ref p)) (hL : LstAt B p ds) (hb : DE X b ρ B (.lst ds2)) (hz : ds.length + ds2.length ≤ 1000000) : DE X (.BinOp a .Add b pos) ρ B (.lst (ds ++ ds2)) :=
  de_op op_cat ha hb fun H x y s e1 e2 Q q => by
    obtain ⟨xs, h1, l1⟩ := hL.mono s
    obtain ⟨p2, ys, rfl, h2, l2⟩ := e2
    exact ⟨p, p2, xs, ys, e1, rfl, h1, h2, by rw [← l1.length, ← l2.length, sizeLine_eq]; omega, fun p hp => q _ _ (Sx.new hp) ⟨p, _, rfl, upd_same, DatL.mono (Sx.new hp) _ _ (l1.append l2)⟩⟩
/-- [x] * n -/
theorem de_repL {m : Nat} (ha : DE X a ρ B (.lst [d])) (hb : DE X b ρ B (.int (m : Int))) (hm : m ≤ 1000) : DE X (.BinOp a .Mult b pos) ρ B (.lst (List.replicate m d)) :=
  de_op op_rep ha hb fun H x y s e1 e2 Q q => by
    obtain ⟨p1, xs, rfl, h1, l1⟩ := e1
    obtain ⟨v, rfl, dv⟩ := l1.one
    refine ⟨p1, m, [v], rfl, e2, h1, by omega, by omega, by rw [List.length_singleton, Int.toNat_natCast, sizeLine_eq]; omega, fun p hp => q _ _ (Sx.new hp) ⟨p, _, rfl, upd_same, ?_⟩⟩
    rw [Int.toNat_natCast, flat_rep1]
    exact DatL.rep (Dat.mono (Sx.new hp) d v dv) m
/-- x[::-1] of a list -/
theorem de_revL {kk : Nat} {p1 p2 p3 : Pos} (he : DE X e ρ B (.lst ds)) : DE X (.Subscript e (.Slice none none (some (.UnaryOp .USub (.Constant (.int 1) kk p1) p2)) p3) pos) ρ B (.lst ds.reverse) :=
  DE.mk (pe_revL pe_w) fun σ H s r Q q => he σ H s r _ fun v H1 s1 e1 => by
    obtain ⟨a, xs, ev, ha, hx⟩ := e1
    exact ⟨a, xs, ev, SqL.of ha, fun p hp => q _ _ (s1.trans (Sx.new hp)) ⟨p, _, rfl, upd_same, DatL.mono (Sx.new hp) _ _ hx.reverse⟩⟩
/-- o.extend(l): the list at p grows -/
theorem dss_extend (ho : DE X o ρ B (.ref p)) (he : DE X e ρ B (.lst ds2)) (hL : LstAt B p ds) (hz : ds.length + ds2.length < 100000) (pn : Plain ρ) (hn : noLs ds = true) (hd : noLs ds2 = true) (h : ∀ H1, But [p] B H1 → SameT B H1 → LstAt H1 p (ds ++ ds2) → DSs X rest ρ H1 N R)
    (hp : PE X (.Call (.Attribute o "extend" apos) [e] [] pos') (tBM X.K "list" rExtend (wE X o) (tCons (wE X e) tNil)))
    (hs : swapsWith (.Call (.Attribute o "extend" apos) [e] [] pos') none pos.line X.env = pure false := by rfl) : DSs X (.Expr (.Call (.Attribute o "extend" apos) [e] [] pos') pos :: rest) ρ B N R :=
  dss_of (ps_expr hp hs) fun σ H s r Dn k1 k2 => ho σ H s r _ fun v H1 s1 e1 => by
    obtain ⟨xs1, hx1, _⟩ := hL.mono (s.trans s1)
    refine ⟨?_, he σ H1 (s.trans s1) (r.mono s1) _ fun u H2 s2 e2 => ?_⟩
    · rw [show v = V.ref p from e1]
      exact .inl ⟨rfl, xs1, SqL.of hx1⟩
    · have s02 := (s.trans s1).trans s2
      obtain ⟨xs, hx, dx⟩ := hL.mono s02
      obtain ⟨b2, ys, eu, hy, dy⟩ := e2
      have st : SameT H2 (upd H2 p (.lst (xs ++ ys))) := SameT.upd (fun ys z => by rw [hx] at z; cases z)
      have bt : But [p] H2 (upd H2 p (.lst (xs ++ ys))) := But.upd (fun y z => by rw [hx] at z; cases z; rfl)
      refine ⟨p, b2, xs, ys, e1, by rw [eu], hx, hy, by rw [← dx.length, ← dy.length, sizeLine_eq]; omega, ?_⟩
      exact go_on (h _ (s02.thenBut bt) (s02.tt.trans st) ⟨_, upd_same, (DatL.monoT st _ _ hn dx).append (DatL.monoT st _ _ hd dy)⟩) (Sx.refl _) ((r.mono (s1.trans s2)).monoT pn st) k1 k2
/-- list(range(a, b)) -/
theorem de_listRg {n1 n2 : Int} {p1 p2 : Pos} (ha : DE X a ρ B (.int n1)) (hb : DE X b ρ B (.int n2)) (hz : 0 ≤ n1 ∧ n1 ≤ 16777216 ∧ 0 ≤ n2 ∧ n2 ≤ 16777216) (hm : X.mg "range" = none) (hml : X.mg "list" = none) (hg : Gl X "range" := by rfl) (hgl : Gl X "list" := by rfl) (hc : X.calm = true := by rfl)
    (na : starEach [a, b] X.env = (false, eval a X.env) :: starEach [b] X.env := by rfl) (nb : starEach [b] X.env = (false, eval b X.env) :: starEach [] X.env := by rfl)
    (hrp : (backTo p2 (starEach [b] X.env)).any (·.1) = false := by rfl) (nl : starEach [.Call (.Name "range" p1) [a, b] [] p2] X.env = (false, eval (.Call (.Name "range" p1) [a, b] [] p2) X.env) :: starEach [] X.env := by rfl) :
    DE X (.Call (.Name "list" px) [.Call (.Name "range" p1) [a, b] [] p2] [] pos) ρ B (.lst ((List.range (n2 - n1).toNat).map fun i => .int (n1 + (i : Nat)))) :=
  DE.mk (pe_listRg hc hgl hml (prg_2 hg hm pe_w pe_w na nb hrp) nl) fun σ H s r Q q => two ha hb s r fun x y H' s' e1 e2 => ⟨n1, n2, e1, e2, RgOk.of_le hz.1 hz.2.2.2 hz.2.1 hz.2.2.1, fun p hp => q _ _ (s'.trans (Sx.new hp)) ⟨p, _, rfl, upd_same, by
    unfold rgV
    generalize (n2 - n1).toNat = m
    have z := DatL.ofInts (H := upd H' p (.lst ((List.range m).map fun i => V.int (n1 + (i : Nat))))) (ns := (List.range m).map fun i : Nat => n1 + (i : Nat))
    rw [List.map_map, List.map_map] at z
    exact z⟩⟩
/-- isinstance(x, T): x an instance of an own class, T an own class -/
theorem de_isiO {Ca Ct q : Addr} {gs : List (Str × D)} {p1 : Pos} (hx : DE X e ρ B (.ref q)) (hi : Ins B q Ca gs) (ic : C8.InsC X.K Ca) (hT : X.mg x = some (.ref Ct)) (ko : PySem.W.kitOne X.K (.ref Ca) (.ref Ct) = some kb) (hm : X.mg "isinstance" = none) (hb : bootBuiltins "isinstance" = some (.builtin "isinstance") := by decide +kernel)
    (hg : Gl X "isinstance" := by rfl) (hgx : Gl X x := by rfl) (hd : (x == ("__debug__" : Str)) = false := by decide)
    (st : starEach [e, .Name x p1] X.env = (false, eval e X.env) :: starEach [.Name x p1] X.env := by rfl) (st2 : starEach [.Name x p1] X.env = (false, eval (.Name x p1) X.env) :: starEach [] X.env := by rfl) (hpl : (backTo pos (starEach [.Name x p1] X.env)).any (·.1) = false := by rfl) :
    DE X (.Call (.Name "isinstance" px) [e, .Name x p1] [] pos) ρ B (.bl kb) :=
  DE.mk (pe_callB call_isi hg hm hb (pa_cons pe_w (pa_cons (pe_glob hgx hT (v := .ref Ct) rfl hd) pa_nil st2) st) (by decide) (by decide) st hpl) fun σ H s r Q q => hx σ H s r _ fun v H1 s1 e1 => by
    obtain ⟨dx, fs, hI, _⟩ := hi.mono (s.trans s1)
    exact ⟨v, .ref Ct, .ref Ca, .ref Ct, kb, rfl, .own Ct, by rw [show v = V.ref _ from e1]; exact .base (TyOf.ins hI ic.cl ic.ha ic.hn ic.htk ic.hm), ko, q _ H1 s1 rfl⟩
/-- the built-in type of a datum -/
def tyD : D → String
  | .non => "NoneType"
  | .bl _ => "bool"
  | .int _ => "int"
  | .str _ => "str"
  | .tup _ => "tuple"
  | .lst _ => "list"
  | .ref _ => "object"
def isRefD : D → Bool
  | .ref _ => true
  | _ => false
theorem tyD_ok {K : PySem.W.Frag} {H : Hp} {v : V} : ∀ {d : D}, isRefD d = false → Dat H d v → TyX K H v (.type (tyD d))
  | .non, _, h => by rw [show v = V.non from h]; exact .base .non
  | .bl b, _, h => by rw [show v = V.bl b from h]; exact .base (.bl b)
  | .int i, _, h => by rw [show v = V.int i from h]; exact .base (.int i)
  | .str y, _, h => by rw [show v = V.str y from h]; exact .base (.str y)
  | .ref a, n, _ => by cases n
  | .tup ds, _, h => by
    obtain ⟨a, xs, rfl, h1, _⟩ := h
    exact .base (.tup h1)
  | .lst ds, _, h => by
    obtain ⟨a, xs, rfl, h1, _⟩ := h
    exact .base (.lst h1)
theorem de_isiT {T : String} {p1 : Pos} (hx : DE X e ρ B d) (hd : isRefD d = false) (hT : X.mg x = none) (hv : bootBuiltins x = some (.type T)) (ko : kitB (tyD d) T = some kb) (hm : X.mg "isinstance" = none) (hb : bootBuiltins "isinstance" = some (.builtin "isinstance") := by decide +kernel)
    (hg : Gl X "isinstance" := by rfl) (hgx : Gl X x := by rfl) (hn : x ≠ "__name__" := by decide) (hdb : (x == ("__debug__" : Str)) = false := by decide)
    (st : starEach [e, .Name x p1] X.env = (false, eval e X.env) :: starEach [.Name x p1] X.env := by rfl) (st2 : starEach [.Name x p1] X.env = (false, eval (.Name x p1) X.env) :: starEach [] X.env := by rfl) (hpl : (backTo pos (starEach [.Name x p1] X.env)).any (·.1) = false := by rfl) :
    DE X (.Call (.Name "isinstance" px) [e, .Name x p1] [] pos) ρ B (.bl kb) :=
  DE.mk (pe_callB call_isi hg hm hb (pa_cons pe_w (pa_cons (pe_bltn hgx hT hv (v := .ty T) rfl hn hdb) pa_nil st2) st) (by decide) (by decide) st hpl) fun σ H s r Q q => hx σ H s r _ fun v H1 s1 e1 =>
    ⟨v, .ty T, .type (tyD d), .type T, kb, rfl, .ty T, tyD_ok hd e1, kit_ty ko, q _ H1 s1 rfl⟩
/-- x in t, t a tuple of ints -/
theorem de_inI {m : Int} {ns : List Int} (ha : DE X a ρ B (.int m)) (hb : DE X b ρ B (.tup (ns.map D.int))) (hm : behindInMarks .NotIn b = false := by rfl) : DE X (.Compare a [.NotIn] [b] pos) ρ B (.bl (!decide (m ∈ ns))) :=
  de_cmp op_notIn_seq hm ha hb fun H x y s e1 e2 Q q => by
    obtain ⟨p1, xs, rfl, h1, l1⟩ := e2
    have ex := l1.ints
    subst ex
    refine ⟨p1, _, rfl, .inr (SqT.of h1), by rw [show x = V.int m from e1]; rfl, List.all_eq_true.mpr fun v hv => ?_, q _ H (Sx.refl H) ?_⟩
    · obtain ⟨i, _, rfl⟩ := List.mem_map.mp hv
      rfl
    · rw [show x = V.int m from e1]
      show V.bl (!inV (V.int m) (ns.map V.int)) = V.bl (!decide (m ∈ ns))
      congr 2
      unfold inV
      rw [Bool.eq_iff_iff, List.any_eq_true, decide_eq_true_iff]
      constructor
      · rintro ⟨v, hv, he⟩
        obtain ⟨i, hi, rfl⟩ := List.mem_map.mp hv
        have : i = m := by simpa [eqV] using he
        exact this ▸ hi
      · intro h
        exact ⟨_, List.mem_map.mpr ⟨m, h, rfl⟩, by simp [eqV]⟩
end
end K5
namespace K5
open PySem PySem.Spec PyProof.Rows L2
theorem fun_of {K : PySem.W.Frag} {x qual : Str} {st : Stmt} {kws : List (Str × V)} {f : Addr} {fd : FuncData} (F : FunD K x qual (defArgs st) (defBody st) (defScope st) [] kws f fd) : Fun K x qual st f fd := by
  obtain ⟨oc, od, dV, kV, doc, pm, an, cdv, ct, osl, rfl, lk, hc, hd, _⟩ := F.ex
  rcases hd with ⟨_, rfl⟩ | ⟨h, _⟩
  · exact ⟨⟨oc, od, kV, doc, pm, an, cdv, ct, osl, rfl, lk, hc⟩, F.kp⟩
  · exact absurd rfl h
/-- what the end knows of the text's part of the heap -/
structure Tx (K : PySem.W.Frag) (mg : Str → Option Value) : Prop where
  s : He.SaysD fa fn K
  m : more K = true
  ex : ∃ h : Heap, K.In h ∧ h.Ns mainGlobals mg
section
variable {K : PySem.W.Frag} {mg : Str → Option Value} (T : Tx K mg)
include T
theorem Tx.glo {x : Str} (c : (He.Fa.glo x).ok K = true) : mg x = some (.ref (He.ga K x)) := let ⟨_, a, b⟩ := T.ex; He.glo_ok a b c
theorem Tx.free {x : Str} (c : (He.Fa.free x).ok K = true) : mg x = none := let ⟨_, a, b⟩ := T.ex; He.free_ok a b c
theorem Tx.int {x : Str} {i : Int} (c : (He.Fa.int x i).ok K = true) : ∃ t, mg x = some (.int i t) := let ⟨_, a, b⟩ := T.ex; He.int_ok a b c
theorem Tx.g_number_of : mg "number_of" = some (.ref (He.ga K "number_of")) := T.glo (T.s.fact 0 (f := .glo "number_of") (by kernel_rfl))
theorem Tx.g_symbols_of : mg "symbols_of" = some (.ref (He.ga K "symbols_of")) := T.glo (T.s.fact 1 (f := .glo "symbols_of") (by kernel_rfl))
theorem Tx.g_check_picture : mg "check_picture" = some (.ref (He.ga K "check_picture")) := T.glo (T.s.fact 2 (f := .glo "check_picture") (by kernel_rfl))
theorem Tx.g_primes : mg "primes" = some (.ref (He.ga K "primes")) := T.glo (T.s.fact 3 (f := .glo "primes") (by kernel_rfl))
theorem Tx.g_is_prime_beside : mg "is_prime_beside" = some (.ref (He.ga K "is_prime_beside")) := T.glo (T.s.fact 4 (f := .glo "is_prime_beside") (by kernel_rfl))
theorem Tx.g_power : mg "power" = some (.ref (He.ga K "power")) := T.glo (T.s.fact 5 (f := .glo "power") (by kernel_rfl))
theorem Tx.g_product_of : mg "product_of" = some (.ref (He.ga K "product_of")) := T.glo (T.s.fact 6 (f := .glo "product_of") (by kernel_rfl))
theorem Tx.g_exponent : mg "exponent" = some (.ref (He.ga K "exponent")) := T.glo (T.s.fact 7 (f := .glo "exponent") (by kernel_rfl))
theorem Tx.g__law_cell : mg "_law_cell" = some (.ref (He.ga K "_law_cell")) := T.glo (T.s.fact 8 (f := .glo "_law_cell") (by kernel_rfl))
theorem Tx.g__law_draws : mg "_law_draws" = some (.ref (He.ga K "_law_draws")) := T.glo (T.s.fact 9 (f := .glo "_law_draws") (by kernel_rfl))
theorem Tx.g__law_like : mg "_law_like" = some (.ref (He.ga K "_law_like")) := T.glo (T.s.fact 10 (f := .glo "_law_like") (by kernel_rfl))
theorem Tx.g__law_strip : mg "_law_strip" = some (.ref (He.ga K "_law_strip")) := T.glo (T.s.fact 11 (f := .glo "_law_strip") (by kernel_rfl))
theorem Tx.g__law_rules : mg "_law_rules" = some (.ref (He.ga K "_law_rules")) := T.glo (T.s.fact 12 (f := .glo "_law_rules") (by kernel_rfl))
theorem Tx.g__law_turing_step : mg "_law_turing_step" = some (.ref (He.ga K "_law_turing_step")) := T.glo (T.s.fact 13 (f := .glo "_law_turing_step") (by kernel_rfl))
theorem Tx.g__law_table : mg "_law_table" = some (.ref (He.ga K "_law_table")) := T.glo (T.s.fact 14 (f := .glo "_law_table") (by kernel_rfl))
theorem Tx.g__law_runner : mg "_law_runner" = some (.ref (He.ga K "_law_runner")) := T.glo (T.s.fact 15 (f := .glo "_law_runner") (by kernel_rfl))
theorem Tx.g__law_go : mg "_law_go" = some (.ref (He.ga K "_law_go")) := T.glo (T.s.fact 16 (f := .glo "_law_go") (by kernel_rfl))
theorem Tx.g__law_many : mg "_law_many" = some (.ref (He.ga K "_law_many")) := T.glo (T.s.fact 17 (f := .glo "_law_many") (by kernel_rfl))
theorem Tx.g__law_follows : mg "_law_follows" = some (.ref (He.ga K "_law_follows")) := T.glo (T.s.fact 18 (f := .glo "_law_follows") (by kernel_rfl))
theorem Tx.g__law_is_count : mg "_law_is_count" = some (.ref (He.ga K "_law_is_count")) := T.glo (T.s.fact 19 (f := .glo "_law_is_count") (by kernel_rfl))
theorem Tx.g__law_drawn_turing : mg "_law_drawn_turing" = some (.ref (He.ga K "_law_drawn_turing")) := T.glo (T.s.fact 20 (f := .glo "_law_drawn_turing") (by kernel_rfl))
theorem Tx.g__law_fits : mg "_law_fits" = some (.ref (He.ga K "_law_fits")) := T.glo (T.s.fact 21 (f := .glo "_law_fits") (by kernel_rfl))
theorem Tx.g_law : mg "law" = some (.ref (He.ga K "law")) := T.glo (T.s.fact 22 (f := .glo "law") (by kernel_rfl))
theorem Tx.g_Chain : mg "Chain" = some (.ref (He.ga K "Chain")) := T.glo (T.s.fact 23 (f := .glo "Chain") (by kernel_rfl))
theorem Tx.g_Turing : mg "Turing" = some (.ref (He.ga K "Turing")) := T.glo (T.s.fact 24 (f := .glo "Turing") (by kernel_rfl))
theorem Tx.g_Registers : mg "Registers" = some (.ref (He.ga K "Registers")) := T.glo (T.s.fact 25 (f := .glo "Registers") (by kernel_rfl))
theorem Tx.g_Writer : mg "Writer" = some (.ref (He.ga K "Writer")) := T.glo (T.s.fact 26 (f := .glo "Writer") (by kernel_rfl))
theorem Tx.g_CountersToTuring : mg "CountersToTuring" = some (.ref (He.ga K "CountersToTuring")) := T.glo (T.s.fact 27 (f := .glo "CountersToTuring") (by kernel_rfl))
theorem Tx.g_TuringToRegisters : mg "TuringToRegisters" = some (.ref (He.ga K "TuringToRegisters")) := T.glo (T.s.fact 28 (f := .glo "TuringToRegisters") (by kernel_rfl))
theorem Tx.g_RegistersToCounters : mg "RegistersToCounters" = some (.ref (He.ga K "RegistersToCounters")) := T.glo (T.s.fact 29 (f := .glo "RegistersToCounters") (by kernel_rfl))
theorem Tx.g_Strings : mg "Strings" = some (.ref (He.ga K "Strings")) := T.glo (T.s.fact 30 (f := .glo "Strings") (by kernel_rfl))
theorem Tx.g_NotFitting : mg "NotFitting" = some (.ref (He.ga K "NotFitting")) := T.glo (T.s.fact 31 (f := .glo "NotFitting") (by kernel_rfl))
theorem Tx.i_MOST_STATES_turing : ∃ t, mg "MOST_STATES_turing" = some (.int 20000 t) := T.int (T.s.fact 32 (f := .int "MOST_STATES_turing" 20000) (by kernel_rfl))
theorem Tx.i_MOST_SYMBOLS_turing : ∃ t, mg "MOST_SYMBOLS_turing" = some (.int 400 t) := T.int (T.s.fact 33 (f := .int "MOST_SYMBOLS_turing" 400) (by kernel_rfl))
theorem Tx.i_MOST_REGISTERS_registers : ∃ t, mg "MOST_REGISTERS_registers" = some (.int 2000 t) := T.int (T.s.fact 34 (f := .int "MOST_REGISTERS_registers" 2000) (by kernel_rfl))
theorem Tx.i_MOST_INSTRUCTIONS_registers : ∃ t, mg "MOST_INSTRUCTIONS_registers" = some (.int 100000 t) := T.int (T.s.fact 35 (f := .int "MOST_INSTRUCTIONS_registers" 100000) (by kernel_rfl))
theorem Tx.i_MOST_PICTURE : ∃ t, mg "MOST_PICTURE" = some (.int 100000 t) := T.int (T.s.fact 36 (f := .int "MOST_PICTURE" 100000) (by kernel_rfl))
theorem Tx.i_MOST_INSTRUCTIONS_countertapes : ∃ t, mg "MOST_INSTRUCTIONS_countertapes" = some (.int 3000 t) := T.int (T.s.fact 37 (f := .int "MOST_INSTRUCTIONS_countertapes" 3000) (by kernel_rfl))
theorem Tx.i_MARK : ∃ t, mg "MARK" = some (.int 1 t) := T.int (T.s.fact 38 (f := .int "MARK" 1) (by kernel_rfl))
theorem Tx.i_MIDDLE : ∃ t, mg "MIDDLE" = some (.int 2 t) := T.int (T.s.fact 39 (f := .int "MIDDLE" 2) (by kernel_rfl))
theorem Tx.i_MOST_STATES_tapenumbers : ∃ t, mg "MOST_STATES_tapenumbers" = some (.int 100 t) := T.int (T.s.fact 40 (f := .int "MOST_STATES_tapenumbers" 100) (by kernel_rfl))
theorem Tx.i_MOST_SYMBOLS_tapenumbers : ∃ t, mg "MOST_SYMBOLS_tapenumbers" = some (.int 8 t) := T.int (T.s.fact 41 (f := .int "MOST_SYMBOLS_tapenumbers" 8) (by kernel_rfl))
theorem Tx.i_LEFT_tapenumbers : ∃ t, mg "LEFT_tapenumbers" = some (.int 0 t) := T.int (T.s.fact 42 (f := .int "LEFT_tapenumbers" 0) (by kernel_rfl))
theorem Tx.i_RIGHT_tapenumbers : ∃ t, mg "RIGHT_tapenumbers" = some (.int 1 t) := T.int (T.s.fact 43 (f := .int "RIGHT_tapenumbers" 1) (by kernel_rfl))
theorem Tx.i_HELPER : ∃ t, mg "HELPER" = some (.int 2 t) := T.int (T.s.fact 44 (f := .int "HELPER" 2) (by kernel_rfl))
theorem Tx.i_MOST_REGISTERS_twocounters : ∃ t, mg "MOST_REGISTERS_twocounters" = some (.int 8 t) := T.int (T.s.fact 45 (f := .int "MOST_REGISTERS_twocounters" 8) (by kernel_rfl))
theorem Tx.i_MOST_INSTRUCTIONS_twocounters : ∃ t, mg "MOST_INSTRUCTIONS_twocounters" = some (.int 400 t) := T.int (T.s.fact 46 (f := .int "MOST_INSTRUCTIONS_twocounters" 400) (by kernel_rfl))
theorem Tx.f_len : mg "len" = none := T.free (T.s.fact 47 (f := .free "len") (by kernel_rfl))
theorem Tx.f_range : mg "range" = none := T.free (T.s.fact 48 (f := .free "range") (by kernel_rfl))
theorem Tx.f_abs : mg "abs" = none := T.free (T.s.fact 49 (f := .free "abs") (by kernel_rfl))
theorem Tx.f_int : mg "int" = none := T.free (T.s.fact 50 (f := .free "int") (by kernel_rfl))
theorem Tx.f_isinstance : mg "isinstance" = none := T.free (T.s.fact 51 (f := .free "isinstance") (by kernel_rfl))
theorem Tx.f_tuple : mg "tuple" = none := T.free (T.s.fact 52 (f := .free "tuple") (by kernel_rfl))
theorem Tx.f_list : mg "list" = none := T.free (T.s.fact 53 (f := .free "list") (by kernel_rfl))
theorem Tx.f_sum : mg "sum" = none := T.free (T.s.fact 54 (f := .free "sum") (by kernel_rfl))
theorem Tx.f_zip : mg "zip" = none := T.free (T.s.fact 55 (f := .free "zip") (by kernel_rfl))
theorem Tx.f_enumerate : mg "enumerate" = none := T.free (T.s.fact 56 (f := .free "enumerate") (by kernel_rfl))
theorem Tx.f_sorted : mg "sorted" = none := T.free (T.s.fact 57 (f := .free "sorted") (by kernel_rfl))
theorem Tx.f_all : mg "all" = none := T.free (T.s.fact 58 (f := .free "all") (by kernel_rfl))
theorem Tx.f_any : mg "any" = none := T.free (T.s.fact 59 (f := .free "any") (by kernel_rfl))
theorem Tx.f_bool : mg "bool" = none := T.free (T.s.fact 60 (f := .free "bool") (by kernel_rfl))
theorem Tx.f_str : mg "str" = none := T.free (T.s.fact 61 (f := .free "str") (by kernel_rfl))
theorem Tx.c_Chain : Cls K (He.ga K "Chain") := He.cls_ok (T.s.fact 62 (f := .cls "Chain") (by kernel_rfl))
theorem Tx.k_Chain : Mk K (He.ga K "Chain") (He.ma K (He.ga K "Chain") "__init__") := He.mkr_ok (T.s.fact 63 (f := .mkr "Chain") (by kernel_rfl))
theorem Tx.n_Chain_translations : NoAttr K (He.ga K "Chain") "translations" := He.noat_ok (T.s.fact 64 (f := .noat "Chain" "translations") (by kernel_rfl))
theorem Tx.n_Chain_limit : NoAttr K (He.ga K "Chain") "limit" := He.noat_ok (T.s.fact 65 (f := .noat "Chain" "limit") (by kernel_rfl))
theorem Tx.n_Chain_source : NoAttr K (He.ga K "Chain") "source" := He.noat_ok (T.s.fact 66 (f := .noat "Chain" "source") (by kernel_rfl))
theorem Tx.n_Chain_target : NoAttr K (He.ga K "Chain") "target" := He.noat_ok (T.s.fact 67 (f := .noat "Chain" "target") (by kernel_rfl))
theorem Tx.m_Chain_picture : Meth K (He.ga K "Chain") "picture" (He.ma K (He.ga K "Chain") "picture") := He.meth_ok (T.s.fact 68 (f := .meth "Chain" "picture") (by kernel_rfl))
theorem Tx.m_Chain_read_back : Meth K (He.ga K "Chain") "read_back" (He.ma K (He.ga K "Chain") "read_back") := He.meth_ok (T.s.fact 69 (f := .meth "Chain" "read_back") (by kernel_rfl))
theorem Tx.m_Chain_cost : Meth K (He.ga K "Chain") "cost" (He.ma K (He.ga K "Chain") "cost") := He.meth_ok (T.s.fact 70 (f := .meth "Chain" "cost") (by kernel_rfl))
theorem Tx.m_Chain_last_steps : Meth K (He.ga K "Chain") "last_steps" (He.ma K (He.ga K "Chain") "last_steps") := He.meth_ok (T.s.fact 71 (f := .meth "Chain" "last_steps") (by kernel_rfl))
theorem Tx.m_Chain_moved_on : Meth K (He.ga K "Chain") "moved_on" (He.ma K (He.ga K "Chain") "moved_on") := He.meth_ok (T.s.fact 72 (f := .meth "Chain" "moved_on") (by kernel_rfl))
theorem Tx.m_Chain_steps_from : Meth K (He.ga K "Chain") "steps_from" (He.ma K (He.ga K "Chain") "steps_from") := He.meth_ok (T.s.fact 73 (f := .meth "Chain" "steps_from") (by kernel_rfl))
theorem Tx.c_Turing : Cls K (He.ga K "Turing") := He.cls_ok (T.s.fact 74 (f := .cls "Turing") (by kernel_rfl))
theorem Tx.k_Turing : Mk K (He.ga K "Turing") (He.ma K (He.ga K "Turing") "__init__") := He.mkr_ok (T.s.fact 75 (f := .mkr "Turing") (by kernel_rfl))
theorem Tx.n_Turing_states : NoAttr K (He.ga K "Turing") "states" := He.noat_ok (T.s.fact 76 (f := .noat "Turing" "states") (by kernel_rfl))
theorem Tx.n_Turing_symbols : NoAttr K (He.ga K "Turing") "symbols" := He.noat_ok (T.s.fact 77 (f := .noat "Turing" "symbols") (by kernel_rfl))
theorem Tx.n_Turing_table : NoAttr K (He.ga K "Turing") "table" := He.noat_ok (T.s.fact 78 (f := .noat "Turing" "table") (by kernel_rfl))
theorem Tx.n_Turing_rules : NoAttr K (He.ga K "Turing") "rules" := He.noat_ok (T.s.fact 79 (f := .noat "Turing" "rules") (by kernel_rfl))
theorem Tx.m_Turing_eq : Meth K (He.ga K "Turing") "__eq__" (He.ma K (He.ga K "Turing") "__eq__") := He.meth_ok (T.s.fact 80 (f := .meth "Turing" "__eq__") (by kernel_rfl))
theorem Tx.m_Turing_rule : Meth K (He.ga K "Turing") "rule" (He.ma K (He.ga K "Turing") "rule") := He.meth_ok (T.s.fact 81 (f := .meth "Turing" "rule") (by kernel_rfl))
theorem Tx.c_Registers : Cls K (He.ga K "Registers") := He.cls_ok (T.s.fact 82 (f := .cls "Registers") (by kernel_rfl))
theorem Tx.k_Registers : Mk K (He.ga K "Registers") (He.ma K (He.ga K "Registers") "__init__") := He.mkr_ok (T.s.fact 83 (f := .mkr "Registers") (by kernel_rfl))
theorem Tx.n_Registers_count : NoAttr K (He.ga K "Registers") "count" := He.noat_ok (T.s.fact 84 (f := .noat "Registers" "count") (by kernel_rfl))
theorem Tx.n_Registers_instructions : NoAttr K (He.ga K "Registers") "instructions" := He.noat_ok (T.s.fact 85 (f := .noat "Registers" "instructions") (by kernel_rfl))
theorem Tx.m_Registers_eq : Meth K (He.ga K "Registers") "__eq__" (He.ma K (He.ga K "Registers") "__eq__") := He.meth_ok (T.s.fact 86 (f := .meth "Registers" "__eq__") (by kernel_rfl))
theorem Tx.m_Registers_step : Meth K (He.ga K "Registers") "step" (He.ma K (He.ga K "Registers") "step") := He.meth_ok (T.s.fact 87 (f := .meth "Registers" "step") (by kernel_rfl))
theorem Tx.c_Writer : Cls K (He.ga K "Writer") := He.cls_ok (T.s.fact 88 (f := .cls "Writer") (by kernel_rfl))
theorem Tx.k_Writer : Mk K (He.ga K "Writer") (He.ma K (He.ga K "Writer") "__init__") := He.mkr_ok (T.s.fact 89 (f := .mkr "Writer") (by kernel_rfl))
theorem Tx.n_Writer_instructions : NoAttr K (He.ga K "Writer") "instructions" := He.noat_ok (T.s.fact 90 (f := .noat "Writer" "instructions") (by kernel_rfl))
theorem Tx.n_Writer_places : NoAttr K (He.ga K "Writer") "places" := He.noat_ok (T.s.fact 91 (f := .noat "Writer" "places") (by kernel_rfl))
theorem Tx.m_Writer_mark : Meth K (He.ga K "Writer") "mark" (He.ma K (He.ga K "Writer") "mark") := He.meth_ok (T.s.fact 92 (f := .meth "Writer" "mark") (by kernel_rfl))
theorem Tx.m_Writer_inc : Meth K (He.ga K "Writer") "inc" (He.ma K (He.ga K "Writer") "inc") := He.meth_ok (T.s.fact 93 (f := .meth "Writer" "inc") (by kernel_rfl))
theorem Tx.m_Writer_dec : Meth K (He.ga K "Writer") "dec" (He.ma K (He.ga K "Writer") "dec") := He.meth_ok (T.s.fact 94 (f := .meth "Writer" "dec") (by kernel_rfl))
theorem Tx.m_Writer_end : Meth K (He.ga K "Writer") "end" (He.ma K (He.ga K "Writer") "end") := He.meth_ok (T.s.fact 95 (f := .meth "Writer" "end") (by kernel_rfl))
theorem Tx.m_Writer_add : Meth K (He.ga K "Writer") "add" (He.ma K (He.ga K "Writer") "add") := He.meth_ok (T.s.fact 96 (f := .meth "Writer" "add") (by kernel_rfl))
theorem Tx.m_Writer_move : Meth K (He.ga K "Writer") "move" (He.ma K (He.ga K "Writer") "move") := He.meth_ok (T.s.fact 97 (f := .meth "Writer" "move") (by kernel_rfl))
theorem Tx.m_Writer_place : Meth K (He.ga K "Writer") "place" (He.ma K (He.ga K "Writer") "place") := He.meth_ok (T.s.fact 98 (f := .meth "Writer" "place") (by kernel_rfl))
theorem Tx.m_Writer_program : Meth K (He.ga K "Writer") "program" (He.ma K (He.ga K "Writer") "program") := He.meth_ok (T.s.fact 99 (f := .meth "Writer" "program") (by kernel_rfl))
theorem Tx.c_CountersToTuring : Cls K (He.ga K "CountersToTuring") := He.cls_ok (T.s.fact 100 (f := .cls "CountersToTuring") (by kernel_rfl))
theorem Tx.k_CountersToTuring : Mk K (He.ga K "CountersToTuring") (He.ma K (He.ga K "CountersToTuring") "__init__") := He.mkr_ok (T.s.fact 101 (f := .mkr "CountersToTuring") (by kernel_rfl))
theorem Tx.n_CountersToTuring_source : NoAttr K (He.ga K "CountersToTuring") "source" := He.noat_ok (T.s.fact 102 (f := .noat "CountersToTuring" "source") (by kernel_rfl))
theorem Tx.n_CountersToTuring_states : NoAttr K (He.ga K "CountersToTuring") "states" := He.noat_ok (T.s.fact 103 (f := .noat "CountersToTuring" "states") (by kernel_rfl))
theorem Tx.n_CountersToTuring_target : NoAttr K (He.ga K "CountersToTuring") "target" := He.noat_ok (T.s.fact 104 (f := .noat "CountersToTuring" "target") (by kernel_rfl))
theorem Tx.m_CountersToTuring_new_states : Meth K (He.ga K "CountersToTuring") "new_states" (He.ma K (He.ga K "CountersToTuring") "new_states") := He.meth_ok (T.s.fact 105 (f := .meth "CountersToTuring" "new_states") (by kernel_rfl))
theorem Tx.m_CountersToTuring_growing : Meth K (He.ga K "CountersToTuring") "growing" (He.ma K (He.ga K "CountersToTuring") "growing") := He.meth_ok (T.s.fact 106 (f := .meth "CountersToTuring" "growing") (by kernel_rfl))
theorem Tx.m_CountersToTuring_shrinking : Meth K (He.ga K "CountersToTuring") "shrinking" (He.ma K (He.ga K "CountersToTuring") "shrinking") := He.meth_ok (T.s.fact 107 (f := .meth "CountersToTuring" "shrinking") (by kernel_rfl))
theorem Tx.m_CountersToTuring_picture : Meth K (He.ga K "CountersToTuring") "picture" (He.ma K (He.ga K "CountersToTuring") "picture") := He.meth_ok (T.s.fact 108 (f := .meth "CountersToTuring" "picture") (by kernel_rfl))
theorem Tx.m_CountersToTuring_read_back : Meth K (He.ga K "CountersToTuring") "read_back" (He.ma K (He.ga K "CountersToTuring") "read_back") := He.meth_ok (T.s.fact 109 (f := .meth "CountersToTuring" "read_back") (by kernel_rfl))
theorem Tx.m_CountersToTuring_cost : Meth K (He.ga K "CountersToTuring") "cost" (He.ma K (He.ga K "CountersToTuring") "cost") := He.meth_ok (T.s.fact 110 (f := .meth "CountersToTuring" "cost") (by kernel_rfl))
theorem Tx.m_CountersToTuring_last_steps : Meth K (He.ga K "CountersToTuring") "last_steps" (He.ma K (He.ga K "CountersToTuring") "last_steps") := He.meth_ok (T.s.fact 111 (f := .meth "CountersToTuring" "last_steps") (by kernel_rfl))
theorem Tx.c_TuringToRegisters : Cls K (He.ga K "TuringToRegisters") := He.cls_ok (T.s.fact 112 (f := .cls "TuringToRegisters") (by kernel_rfl))
theorem Tx.k_TuringToRegisters : Mk K (He.ga K "TuringToRegisters") (He.ma K (He.ga K "TuringToRegisters") "__init__") := He.mkr_ok (T.s.fact 113 (f := .mkr "TuringToRegisters") (by kernel_rfl))
theorem Tx.n_TuringToRegisters_source : NoAttr K (He.ga K "TuringToRegisters") "source" := He.noat_ok (T.s.fact 114 (f := .noat "TuringToRegisters" "source") (by kernel_rfl))
theorem Tx.n_TuringToRegisters_places : NoAttr K (He.ga K "TuringToRegisters") "places" := He.noat_ok (T.s.fact 115 (f := .noat "TuringToRegisters" "places") (by kernel_rfl))
theorem Tx.n_TuringToRegisters_pairs : NoAttr K (He.ga K "TuringToRegisters") "pairs" := He.noat_ok (T.s.fact 116 (f := .noat "TuringToRegisters" "pairs") (by kernel_rfl))
theorem Tx.n_TuringToRegisters_target : NoAttr K (He.ga K "TuringToRegisters") "target" := He.noat_ok (T.s.fact 117 (f := .noat "TuringToRegisters" "target") (by kernel_rfl))
theorem Tx.m_TuringToRegisters_write_pair : Meth K (He.ga K "TuringToRegisters") "write_pair" (He.ma K (He.ga K "TuringToRegisters") "write_pair") := He.meth_ok (T.s.fact 118 (f := .meth "TuringToRegisters" "write_pair") (by kernel_rfl))
theorem Tx.m_TuringToRegisters_write_push : Meth K (He.ga K "TuringToRegisters") "write_push" (He.ma K (He.ga K "TuringToRegisters") "write_push") := He.meth_ok (T.s.fact 119 (f := .meth "TuringToRegisters" "write_push") (by kernel_rfl))
theorem Tx.m_TuringToRegisters_write_pop : Meth K (He.ga K "TuringToRegisters") "write_pop" (He.ma K (He.ga K "TuringToRegisters") "write_pop") := He.meth_ok (T.s.fact 120 (f := .meth "TuringToRegisters" "write_pop") (by kernel_rfl))
theorem Tx.m_TuringToRegisters_picture : Meth K (He.ga K "TuringToRegisters") "picture" (He.ma K (He.ga K "TuringToRegisters") "picture") := He.meth_ok (T.s.fact 121 (f := .meth "TuringToRegisters" "picture") (by kernel_rfl))
theorem Tx.m_TuringToRegisters_read_back : Meth K (He.ga K "TuringToRegisters") "read_back" (He.ma K (He.ga K "TuringToRegisters") "read_back") := He.meth_ok (T.s.fact 122 (f := .meth "TuringToRegisters" "read_back") (by kernel_rfl))
theorem Tx.m_TuringToRegisters_cost : Meth K (He.ga K "TuringToRegisters") "cost" (He.ma K (He.ga K "TuringToRegisters") "cost") := He.meth_ok (T.s.fact 123 (f := .meth "TuringToRegisters" "cost") (by kernel_rfl))
theorem Tx.m_TuringToRegisters_last_steps : Meth K (He.ga K "TuringToRegisters") "last_steps" (He.ma K (He.ga K "TuringToRegisters") "last_steps") := He.meth_ok (T.s.fact 124 (f := .meth "TuringToRegisters" "last_steps") (by kernel_rfl))
theorem Tx.c_RegistersToCounters : Cls K (He.ga K "RegistersToCounters") := He.cls_ok (T.s.fact 125 (f := .cls "RegistersToCounters") (by kernel_rfl))
theorem Tx.k_RegistersToCounters : Mk K (He.ga K "RegistersToCounters") (He.ma K (He.ga K "RegistersToCounters") "__init__") := He.mkr_ok (T.s.fact 126 (f := .mkr "RegistersToCounters") (by kernel_rfl))
theorem Tx.n_RegistersToCounters_source : NoAttr K (He.ga K "RegistersToCounters") "source" := He.noat_ok (T.s.fact 127 (f := .noat "RegistersToCounters" "source") (by kernel_rfl))
theorem Tx.n_RegistersToCounters_primes : NoAttr K (He.ga K "RegistersToCounters") "primes" := He.noat_ok (T.s.fact 128 (f := .noat "RegistersToCounters" "primes") (by kernel_rfl))
theorem Tx.n_RegistersToCounters_places : NoAttr K (He.ga K "RegistersToCounters") "places" := He.noat_ok (T.s.fact 129 (f := .noat "RegistersToCounters" "places") (by kernel_rfl))
theorem Tx.n_RegistersToCounters_target : NoAttr K (He.ga K "RegistersToCounters") "target" := He.noat_ok (T.s.fact 130 (f := .noat "RegistersToCounters" "target") (by kernel_rfl))
theorem Tx.m_RegistersToCounters_write_instruction : Meth K (He.ga K "RegistersToCounters") "write_instruction" (He.ma K (He.ga K "RegistersToCounters") "write_instruction") := He.meth_ok (T.s.fact 131 (f := .meth "RegistersToCounters" "write_instruction") (by kernel_rfl))
theorem Tx.m_RegistersToCounters_write_division : Meth K (He.ga K "RegistersToCounters") "write_division" (He.ma K (He.ga K "RegistersToCounters") "write_division") := He.meth_ok (T.s.fact 132 (f := .meth "RegistersToCounters" "write_division") (by kernel_rfl))
theorem Tx.m_RegistersToCounters_picture : Meth K (He.ga K "RegistersToCounters") "picture" (He.ma K (He.ga K "RegistersToCounters") "picture") := He.meth_ok (T.s.fact 133 (f := .meth "RegistersToCounters" "picture") (by kernel_rfl))
theorem Tx.m_RegistersToCounters_read_back : Meth K (He.ga K "RegistersToCounters") "read_back" (He.ma K (He.ga K "RegistersToCounters") "read_back") := He.meth_ok (T.s.fact 134 (f := .meth "RegistersToCounters" "read_back") (by kernel_rfl))
theorem Tx.m_RegistersToCounters_cost : Meth K (He.ga K "RegistersToCounters") "cost" (He.ma K (He.ga K "RegistersToCounters") "cost") := He.meth_ok (T.s.fact 135 (f := .meth "RegistersToCounters" "cost") (by kernel_rfl))
theorem Tx.m_RegistersToCounters_last_steps : Meth K (He.ga K "RegistersToCounters") "last_steps" (He.ma K (He.ga K "RegistersToCounters") "last_steps") := He.meth_ok (T.s.fact 136 (f := .meth "RegistersToCounters" "last_steps") (by kernel_rfl))
theorem Tx.moreL : isiB K "Turing" = true ∧ isiB K "Registers" = true ∧ kitTo K "Turing" "Turing" true = true ∧ kitTo K "Registers" "Registers" true = true ∧ kitTo K "Registers" "Strings" false = true ∧ kitTo K "Turing" "Strings" false = true ∧ neB K = true ∧ baseB K = true := by
  obtain ⟨a1, r⟩ := He.ba T.m
  obtain ⟨a2, r⟩ := He.ba r
  obtain ⟨a3, r⟩ := He.ba r
  obtain ⟨a4, r⟩ := He.ba r
  obtain ⟨a5, r⟩ := He.ba r
  obtain ⟨a6, r⟩ := He.ba r
  obtain ⟨a7, r⟩ := He.ba r
  exact ⟨a1, a2, a3, a4, a5, a6, a7, r⟩
theorem Tx.is_Turing : C8.InsC K (He.ga K "Turing") := by
  obtain ⟨a1, a2, a3, a4, a5, a6, a7, a8⟩ := T.moreL
  obtain ⟨b1, b2⟩ := He.ba a1
  obtain ⟨b3, b4⟩ := He.ba a8
  exact ⟨T.c_Turing, He.eqO_ok b1, He.eqO_ok b3, of_decide_eq_true b4, of_decide_eq_true b2, of_decide_eq_true a3⟩
theorem Tx.is_Registers : C8.InsC K (He.ga K "Registers") := by
  obtain ⟨a1, a2, a3, a4, a5, a6, a7, a8⟩ := T.moreL
  obtain ⟨b1, b2⟩ := He.ba a2
  obtain ⟨b3, b4⟩ := He.ba a8
  exact ⟨T.c_Registers, He.eqO_ok b1, He.eqO_ok b3, of_decide_eq_true b4, of_decide_eq_true b2, of_decide_eq_true a4⟩
theorem Tx.ko_RS : PySem.W.kitOne K (.ref (He.ga K "Registers")) (.ref (He.ga K "Strings")) = some false := of_decide_eq_true T.moreL.2.2.2.2.1
theorem Tx.ko_TS : PySem.W.kitOne K (.ref (He.ga K "Turing")) (.ref (He.ga K "Strings")) = some false := of_decide_eq_true T.moreL.2.2.2.2.2.1
theorem Tx.ne_Registers : OwnNe K (He.ga K "Registers") (He.ma K (He.ga K "Registers") "__eq__") := by
  obtain ⟨a1, a2, a3, a4, a5, a6, a7, a8⟩ := T.moreL
  obtain ⟨b1, b2⟩ := He.ba a2
  exact ⟨He.eqO_ok a7, T.m_Registers_eq.at_, T.m_Registers_eq.fn, of_decide_eq_true b2⟩
end
abbrev st_Chain_init : Stmt := inClass (top 11) 0
abbrev N_Chain_init : List Str := ["self", "translations", "limit", "at"]
abbrev P_Chain_init : List Str := ["self", "translations", "limit"]
theorem sc_Chain_init : FnScope N_Chain_init P_Chain_init (defScope st_Chain_init) := ⟨rfl, rfl, rfl, by decide +kernel, rfl, by decide +kernel, by decide +kernel⟩
theorem fn_Chain_init {K : PySem.W.Frag} {mg : Str → Option Value} (T : Tx K mg) : ∃ fd ds, Fun K "__init__" "Chain.__init__" st_Chain_init (He.ma K (He.ga K "Chain") "__init__") fd ∧ Vals [V.int 100000] ds ∧ Binds K fd P_Chain_init ds := by
  obtain ⟨fd, F⟩ := T.s.def_ 0 (d := ⟨("Chain", some "__init__"), "__init__", "Chain.__init__", defArgs st_Chain_init, defBody st_Chain_init, defScope st_Chain_init, [], [("limit", .int 100000)]⟩) (by kernel_rfl)
  have G : Fun K "__init__" "Chain.__init__" st_Chain_init (He.ma K (He.ga K "Chain") "__init__") fd := fun_of (st := st_Chain_init) (kws := [("limit", .int 100000)]) F
  have F2 : FunD K "__init__" "Chain.__init__" (defArgs st_Chain_init) (defBody st_Chain_init) (defScope st_Chain_init) [] [("limit", .int 100000)] (He.ma K (He.ga K "Chain") "__init__") fd := F
  obtain ⟨ds, v, b⟩ := F2.binds0 (ps := P_Chain_init) 2 (by simp) rfl fun D doc pm an cdv ct us ks hu hk => match us, ks, hu, hk with
    | [_, _], [_], _, _ => ⟨_, _, _, _, _, _, rfl, rfl, rfl⟩
  exact ⟨fd, ds, G, v, b⟩
abbrev st_Chain_picture : Stmt := inClass (top 11) 1
abbrev N_Chain_picture : List Str := ["self", "configuration", "translation"]
abbrev P_Chain_picture : List Str := ["self", "configuration"]
theorem sc_Chain_picture : FnScope N_Chain_picture P_Chain_picture (defScope st_Chain_picture) := ⟨rfl, rfl, rfl, by decide +kernel, rfl, by decide +kernel, by decide +kernel⟩
theorem fn_Chain_picture {K : PySem.W.Frag} {mg : Str → Option Value} (T : Tx K mg) : ∃ fd, Fun K "picture" "Chain.picture" st_Chain_picture (He.ma K (He.ga K "Chain") "picture") fd ∧ Binds K fd P_Chain_picture [] := by
  obtain ⟨fd, F⟩ := T.s.def_ 1 (d := ⟨("Chain", some "picture"), "picture", "Chain.picture", defArgs st_Chain_picture, defBody st_Chain_picture, defScope st_Chain_picture, [], []⟩) (by kernel_rfl)
  have G : Fun K "picture" "Chain.picture" st_Chain_picture (He.ma K (He.ga K "Chain") "picture") fd := fun_of (st := st_Chain_picture) (kws := []) F
  exact ⟨fd, G, G.binds fun _ _ _ _ _ _ us hl => match us, hl with | [_, _], _ => by kernel_rfl⟩
abbrev st_Chain_read_back : Stmt := inClass (top 11) 2
abbrev N_Chain_read_back : List Str := ["self", "configuration", "translation"]
abbrev P_Chain_read_back : List Str := ["self", "configuration"]
theorem sc_Chain_read_back : FnScope N_Chain_read_back P_Chain_read_back (defScope st_Chain_read_back) := ⟨rfl, rfl, rfl, by decide +kernel, rfl, by decide +kernel, by decide +kernel⟩
theorem fn_Chain_read_back {K : PySem.W.Frag} {mg : Str → Option Value} (T : Tx K mg) : ∃ fd, Fun K "read_back" "Chain.read_back" st_Chain_read_back (He.ma K (He.ga K "Chain") "read_back") fd ∧ Binds K fd P_Chain_read_back [] := by
  obtain ⟨fd, F⟩ := T.s.def_ 2 (d := ⟨("Chain", some "read_back"), "read_back", "Chain.read_back", defArgs st_Chain_read_back, defBody st_Chain_read_back, defScope st_Chain_read_back, [], []⟩) (by kernel_rfl)
  have G : Fun K "read_back" "Chain.read_back" st_Chain_read_back (He.ma K (He.ga K "Chain") "read_back") fd := fun_of (st := st_Chain_read_back) (kws := []) F
  exact ⟨fd, G, G.binds fun _ _ _ _ _ _ us hl => match us, hl with | [_, _], _ => by kernel_rfl⟩
abbrev st_Chain_cost : Stmt := inClass (top 11) 3
abbrev N_Chain_cost : List Str := ["self", "configuration"]
abbrev P_Chain_cost : List Str := ["self", "configuration"]
theorem sc_Chain_cost : FnScope N_Chain_cost P_Chain_cost (defScope st_Chain_cost) := ⟨rfl, rfl, rfl, by decide +kernel, rfl, by decide +kernel, by decide +kernel⟩
theorem fn_Chain_cost {K : PySem.W.Frag} {mg : Str → Option Value} (T : Tx K mg) : ∃ fd, Fun K "cost" "Chain.cost" st_Chain_cost (He.ma K (He.ga K "Chain") "cost") fd ∧ Binds K fd P_Chain_cost [] := by
  obtain ⟨fd, F⟩ := T.s.def_ 3 (d := ⟨("Chain", some "cost"), "cost", "Chain.cost", defArgs st_Chain_cost, defBody st_Chain_cost, defScope st_Chain_cost, [], []⟩) (by kernel_rfl)
  have G : Fun K "cost" "Chain.cost" st_Chain_cost (He.ma K (He.ga K "Chain") "cost") fd := fun_of (st := st_Chain_cost) (kws := []) F
  exact ⟨fd, G, G.binds fun _ _ _ _ _ _ us hl => match us, hl with | [_, _], _ => by kernel_rfl⟩
abbrev st_Chain_last_steps : Stmt := inClass (top 11) 4
abbrev N_Chain_last_steps : List Str := ["self", "configuration", "total", "at", "extra"]
abbrev P_Chain_last_steps : List Str := ["self", "configuration"]
theorem sc_Chain_last_steps : FnScope N_Chain_last_steps P_Chain_last_steps (defScope st_Chain_last_steps) := ⟨rfl, rfl, rfl, by decide +kernel, rfl, by decide +kernel, by decide +kernel⟩
theorem fn_Chain_last_steps {K : PySem.W.Frag} {mg : Str → Option Value} (T : Tx K mg) : ∃ fd, Fun K "last_steps" "Chain.last_steps" st_Chain_last_steps (He.ma K (He.ga K "Chain") "last_steps") fd ∧ Binds K fd P_Chain_last_steps [] := by
  obtain ⟨fd, F⟩ := T.s.def_ 4 (d := ⟨("Chain", some "last_steps"), "last_steps", "Chain.last_steps", defArgs st_Chain_last_steps, defBody st_Chain_last_steps, defScope st_Chain_last_steps, [], []⟩) (by kernel_rfl)
  have G : Fun K "last_steps" "Chain.last_steps" st_Chain_last_steps (He.ma K (He.ga K "Chain") "last_steps") fd := fun_of (st := st_Chain_last_steps) (kws := []) F
  exact ⟨fd, G, G.binds fun _ _ _ _ _ _ us hl => match us, hl with | [_, _], _ => by kernel_rfl⟩
abbrev st_Chain_moved_on : Stmt := inClass (top 11) 5
abbrev N_Chain_moved_on : List Str := ["self", "at", "configuration", "count", "translation", "here", "_"]
abbrev P_Chain_moved_on : List Str := ["self", "at", "configuration", "count"]
theorem sc_Chain_moved_on : FnScope N_Chain_moved_on P_Chain_moved_on (defScope st_Chain_moved_on) := ⟨rfl, rfl, rfl, by decide +kernel, rfl, by decide +kernel, by decide +kernel⟩
theorem fn_Chain_moved_on {K : PySem.W.Frag} {mg : Str → Option Value} (T : Tx K mg) : ∃ fd, Fun K "moved_on" "Chain.moved_on" st_Chain_moved_on (He.ma K (He.ga K "Chain") "moved_on") fd ∧ Binds K fd P_Chain_moved_on [] := by
  obtain ⟨fd, F⟩ := T.s.def_ 5 (d := ⟨("Chain", some "moved_on"), "moved_on", "Chain.moved_on", defArgs st_Chain_moved_on, defBody st_Chain_moved_on, defScope st_Chain_moved_on, [], []⟩) (by kernel_rfl)
  have G : Fun K "moved_on" "Chain.moved_on" st_Chain_moved_on (He.ma K (He.ga K "Chain") "moved_on") fd := fun_of (st := st_Chain_moved_on) (kws := []) F
  exact ⟨fd, G, G.binds fun _ _ _ _ _ _ us hl => match us, hl with | [_, _, _, _], _ => by kernel_rfl⟩
abbrev st_Chain_steps_from : Stmt := inClass (top 11) 6
abbrev N_Chain_steps_from : List Str := ["self", "at", "configuration", "count", "total", "here", "following", "_"]
abbrev P_Chain_steps_from : List Str := ["self", "at", "configuration", "count"]
theorem sc_Chain_steps_from : FnScope N_Chain_steps_from P_Chain_steps_from (defScope st_Chain_steps_from) := ⟨rfl, rfl, rfl, by decide +kernel, rfl, by decide +kernel, by decide +kernel⟩
theorem fn_Chain_steps_from {K : PySem.W.Frag} {mg : Str → Option Value} (T : Tx K mg) : ∃ fd, Fun K "steps_from" "Chain.steps_from" st_Chain_steps_from (He.ma K (He.ga K "Chain") "steps_from") fd ∧ Binds K fd P_Chain_steps_from [] := by
  obtain ⟨fd, F⟩ := T.s.def_ 6 (d := ⟨("Chain", some "steps_from"), "steps_from", "Chain.steps_from", defArgs st_Chain_steps_from, defBody st_Chain_steps_from, defScope st_Chain_steps_from, [], []⟩) (by kernel_rfl)
  have G : Fun K "steps_from" "Chain.steps_from" st_Chain_steps_from (He.ma K (He.ga K "Chain") "steps_from") fd := fun_of (st := st_Chain_steps_from) (kws := []) F
  exact ⟨fd, G, G.binds fun _ _ _ _ _ _ us hl => match us, hl with | [_, _, _, _], _ => by kernel_rfl⟩
abbrev st_Turing_init : Stmt := inClass (top 17) 0
abbrev N_Turing_init : List Str := ["self", "states", "symbols", "rules", "table", "state", "symbol", "written", "move", "following", "pair"]
abbrev P_Turing_init : List Str := ["self", "states", "symbols", "rules"]
theorem sc_Turing_init : FnScope N_Turing_init P_Turing_init (defScope st_Turing_init) := ⟨rfl, rfl, rfl, by decide +kernel, rfl, by decide +kernel, by decide +kernel⟩
theorem fn_Turing_init {K : PySem.W.Frag} {mg : Str → Option Value} (T : Tx K mg) : ∃ fd, Fun K "__init__" "Turing.__init__" st_Turing_init (He.ma K (He.ga K "Turing") "__init__") fd ∧ Binds K fd P_Turing_init [] := by
  obtain ⟨fd, F⟩ := T.s.def_ 7 (d := ⟨("Turing", some "__init__"), "__init__", "Turing.__init__", defArgs st_Turing_init, defBody st_Turing_init, defScope st_Turing_init, [], []⟩) (by kernel_rfl)
  have G : Fun K "__init__" "Turing.__init__" st_Turing_init (He.ma K (He.ga K "Turing") "__init__") fd := fun_of (st := st_Turing_init) (kws := []) F
  exact ⟨fd, G, G.binds fun _ _ _ _ _ _ us hl => match us, hl with | [_, _, _, _], _ => by kernel_rfl⟩
abbrev st_Turing_eq : Stmt := inClass (top 17) 1
abbrev N_Turing_eq : List Str := ["self", "other"]
abbrev P_Turing_eq : List Str := ["self", "other"]
theorem sc_Turing_eq : FnScope N_Turing_eq P_Turing_eq (defScope st_Turing_eq) := ⟨rfl, rfl, rfl, by decide +kernel, rfl, by decide +kernel, by decide +kernel⟩
theorem fn_Turing_eq {K : PySem.W.Frag} {mg : Str → Option Value} (T : Tx K mg) : ∃ fd, Fun K "__eq__" "Turing.__eq__" st_Turing_eq (He.ma K (He.ga K "Turing") "__eq__") fd ∧ Binds K fd P_Turing_eq [] := by
  obtain ⟨fd, F⟩ := T.s.def_ 8 (d := ⟨("Turing", some "__eq__"), "__eq__", "Turing.__eq__", defArgs st_Turing_eq, defBody st_Turing_eq, defScope st_Turing_eq, [], []⟩) (by kernel_rfl)
  have G : Fun K "__eq__" "Turing.__eq__" st_Turing_eq (He.ma K (He.ga K "Turing") "__eq__") fd := fun_of (st := st_Turing_eq) (kws := []) F
  exact ⟨fd, G, G.binds fun _ _ _ _ _ _ us hl => match us, hl with | [_, _], _ => by kernel_rfl⟩
abbrev st_Turing_rule : Stmt := inClass (top 17) 2
abbrev N_Turing_rule : List Str := ["self", "state", "symbol"]
abbrev P_Turing_rule : List Str := ["self", "state", "symbol"]
theorem sc_Turing_rule : FnScope N_Turing_rule P_Turing_rule (defScope st_Turing_rule) := ⟨rfl, rfl, rfl, by decide +kernel, rfl, by decide +kernel, by decide +kernel⟩
theorem fn_Turing_rule {K : PySem.W.Frag} {mg : Str → Option Value} (T : Tx K mg) : ∃ fd, Fun K "rule" "Turing.rule" st_Turing_rule (He.ma K (He.ga K "Turing") "rule") fd ∧ Binds K fd P_Turing_rule [] := by
  obtain ⟨fd, F⟩ := T.s.def_ 9 (d := ⟨("Turing", some "rule"), "rule", "Turing.rule", defArgs st_Turing_rule, defBody st_Turing_rule, defScope st_Turing_rule, [], []⟩) (by kernel_rfl)
  have G : Fun K "rule" "Turing.rule" st_Turing_rule (He.ma K (He.ga K "Turing") "rule") fd := fun_of (st := st_Turing_rule) (kws := []) F
  exact ⟨fd, G, G.binds fun _ _ _ _ _ _ us hl => match us, hl with | [_, _, _], _ => by kernel_rfl⟩
abbrev st_Registers_init : Stmt := inClass (top 30) 0
abbrev N_Registers_init : List Str := ["self", "count", "instructions", "instruction", "places"]
abbrev P_Registers_init : List Str := ["self", "count", "instructions"]
theorem sc_Registers_init : FnScope N_Registers_init P_Registers_init (defScope st_Registers_init) := ⟨rfl, rfl, rfl, by decide +kernel, rfl, by decide +kernel, by decide +kernel⟩
theorem fn_Registers_init {K : PySem.W.Frag} {mg : Str → Option Value} (T : Tx K mg) : ∃ fd, Fun K "__init__" "Registers.__init__" st_Registers_init (He.ma K (He.ga K "Registers") "__init__") fd ∧ Binds K fd P_Registers_init [] := by
  obtain ⟨fd, F⟩ := T.s.def_ 10 (d := ⟨("Registers", some "__init__"), "__init__", "Registers.__init__", defArgs st_Registers_init, defBody st_Registers_init, defScope st_Registers_init, [], []⟩) (by kernel_rfl)
  have G : Fun K "__init__" "Registers.__init__" st_Registers_init (He.ma K (He.ga K "Registers") "__init__") fd := fun_of (st := st_Registers_init) (kws := []) F
  exact ⟨fd, G, G.binds fun _ _ _ _ _ _ us hl => match us, hl with | [_, _, _], _ => by kernel_rfl⟩
abbrev st_Registers_eq : Stmt := inClass (top 30) 1
abbrev N_Registers_eq : List Str := ["self", "other"]
abbrev P_Registers_eq : List Str := ["self", "other"]
theorem sc_Registers_eq : FnScope N_Registers_eq P_Registers_eq (defScope st_Registers_eq) := ⟨rfl, rfl, rfl, by decide +kernel, rfl, by decide +kernel, by decide +kernel⟩
theorem fn_Registers_eq {K : PySem.W.Frag} {mg : Str → Option Value} (T : Tx K mg) : ∃ fd, Fun K "__eq__" "Registers.__eq__" st_Registers_eq (He.ma K (He.ga K "Registers") "__eq__") fd ∧ Binds K fd P_Registers_eq [] := by
  obtain ⟨fd, F⟩ := T.s.def_ 11 (d := ⟨("Registers", some "__eq__"), "__eq__", "Registers.__eq__", defArgs st_Registers_eq, defBody st_Registers_eq, defScope st_Registers_eq, [], []⟩) (by kernel_rfl)
  have G : Fun K "__eq__" "Registers.__eq__" st_Registers_eq (He.ma K (He.ga K "Registers") "__eq__") fd := fun_of (st := st_Registers_eq) (kws := []) F
  exact ⟨fd, G, G.binds fun _ _ _ _ _ _ us hl => match us, hl with | [_, _], _ => by kernel_rfl⟩
abbrev st_Registers_step : Stmt := inClass (top 30) 2
abbrev N_Registers_step : List Str := ["self", "configuration", "place", "values", "instruction", "cell"]
abbrev P_Registers_step : List Str := ["self", "configuration"]
theorem sc_Registers_step : FnScope N_Registers_step P_Registers_step (defScope st_Registers_step) := ⟨rfl, rfl, rfl, by decide +kernel, rfl, by decide +kernel, by decide +kernel⟩
theorem fn_Registers_step {K : PySem.W.Frag} {mg : Str → Option Value} (T : Tx K mg) : ∃ fd, Fun K "step" "Registers.step" st_Registers_step (He.ma K (He.ga K "Registers") "step") fd ∧ Binds K fd P_Registers_step [] := by
  obtain ⟨fd, F⟩ := T.s.def_ 12 (d := ⟨("Registers", some "step"), "step", "Registers.step", defArgs st_Registers_step, defBody st_Registers_step, defScope st_Registers_step, [], []⟩) (by kernel_rfl)
  have G : Fun K "step" "Registers.step" st_Registers_step (He.ma K (He.ga K "Registers") "step") fd := fun_of (st := st_Registers_step) (kws := []) F
  exact ⟨fd, G, G.binds fun _ _ _ _ _ _ us hl => match us, hl with | [_, _], _ => by kernel_rfl⟩
abbrev st_Writer_init : Stmt := inClass (top 31) 0
abbrev N_Writer_init : List Str := ["self"]
abbrev P_Writer_init : List Str := ["self"]
theorem sc_Writer_init : FnScope N_Writer_init P_Writer_init (defScope st_Writer_init) := ⟨rfl, rfl, rfl, by decide +kernel, rfl, by decide +kernel, by decide +kernel⟩
theorem fn_Writer_init {K : PySem.W.Frag} {mg : Str → Option Value} (T : Tx K mg) : ∃ fd, Fun K "__init__" "Writer.__init__" st_Writer_init (He.ma K (He.ga K "Writer") "__init__") fd ∧ Binds K fd P_Writer_init [] := by
  obtain ⟨fd, F⟩ := T.s.def_ 13 (d := ⟨("Writer", some "__init__"), "__init__", "Writer.__init__", defArgs st_Writer_init, defBody st_Writer_init, defScope st_Writer_init, [], []⟩) (by kernel_rfl)
  have G : Fun K "__init__" "Writer.__init__" st_Writer_init (He.ma K (He.ga K "Writer") "__init__") fd := fun_of (st := st_Writer_init) (kws := []) F
  exact ⟨fd, G, G.binds fun _ _ _ _ _ _ us hl => match us, hl with | [_], _ => by kernel_rfl⟩
abbrev st_Writer_mark : Stmt := inClass (top 31) 1
abbrev N_Writer_mark : List Str := ["self", "name"]
abbrev P_Writer_mark : List Str := ["self", "name"]
theorem sc_Writer_mark : FnScope N_Writer_mark P_Writer_mark (defScope st_Writer_mark) := ⟨rfl, rfl, rfl, by decide +kernel, rfl, by decide +kernel, by decide +kernel⟩
theorem fn_Writer_mark {K : PySem.W.Frag} {mg : Str → Option Value} (T : Tx K mg) : ∃ fd, Fun K "mark" "Writer.mark" st_Writer_mark (He.ma K (He.ga K "Writer") "mark") fd ∧ Binds K fd P_Writer_mark [] := by
  obtain ⟨fd, F⟩ := T.s.def_ 14 (d := ⟨("Writer", some "mark"), "mark", "Writer.mark", defArgs st_Writer_mark, defBody st_Writer_mark, defScope st_Writer_mark, [], []⟩) (by kernel_rfl)
  have G : Fun K "mark" "Writer.mark" st_Writer_mark (He.ma K (He.ga K "Writer") "mark") fd := fun_of (st := st_Writer_mark) (kws := []) F
  exact ⟨fd, G, G.binds fun _ _ _ _ _ _ us hl => match us, hl with | [_, _], _ => by kernel_rfl⟩
abbrev st_Writer_inc : Stmt := inClass (top 31) 2
abbrev N_Writer_inc : List Str := ["self", "cell", "following"]
abbrev P_Writer_inc : List Str := ["self", "cell", "following"]
theorem sc_Writer_inc : FnScope N_Writer_inc P_Writer_inc (defScope st_Writer_inc) := ⟨rfl, rfl, rfl, by decide +kernel, rfl, by decide +kernel, by decide +kernel⟩
theorem fn_Writer_inc {K : PySem.W.Frag} {mg : Str → Option Value} (T : Tx K mg) : ∃ fd, Fun K "inc" "Writer.inc" st_Writer_inc (He.ma K (He.ga K "Writer") "inc") fd ∧ Binds K fd P_Writer_inc [] := by
  obtain ⟨fd, F⟩ := T.s.def_ 15 (d := ⟨("Writer", some "inc"), "inc", "Writer.inc", defArgs st_Writer_inc, defBody st_Writer_inc, defScope st_Writer_inc, [], []⟩) (by kernel_rfl)
  have G : Fun K "inc" "Writer.inc" st_Writer_inc (He.ma K (He.ga K "Writer") "inc") fd := fun_of (st := st_Writer_inc) (kws := []) F
  exact ⟨fd, G, G.binds fun _ _ _ _ _ _ us hl => match us, hl with | [_, _, _], _ => by kernel_rfl⟩
abbrev st_Writer_dec : Stmt := inClass (top 31) 3
abbrev N_Writer_dec : List Str := ["self", "cell", "following", "other"]
abbrev P_Writer_dec : List Str := ["self", "cell", "following", "other"]
theorem sc_Writer_dec : FnScope N_Writer_dec P_Writer_dec (defScope st_Writer_dec) := ⟨rfl, rfl, rfl, by decide +kernel, rfl, by decide +kernel, by decide +kernel⟩
theorem fn_Writer_dec {K : PySem.W.Frag} {mg : Str → Option Value} (T : Tx K mg) : ∃ fd, Fun K "dec" "Writer.dec" st_Writer_dec (He.ma K (He.ga K "Writer") "dec") fd ∧ Binds K fd P_Writer_dec [] := by
  obtain ⟨fd, F⟩ := T.s.def_ 16 (d := ⟨("Writer", some "dec"), "dec", "Writer.dec", defArgs st_Writer_dec, defBody st_Writer_dec, defScope st_Writer_dec, [], []⟩) (by kernel_rfl)
  have G : Fun K "dec" "Writer.dec" st_Writer_dec (He.ma K (He.ga K "Writer") "dec") fd := fun_of (st := st_Writer_dec) (kws := []) F
  exact ⟨fd, G, G.binds fun _ _ _ _ _ _ us hl => match us, hl with | [_, _, _, _], _ => by kernel_rfl⟩
abbrev st_Writer_end : Stmt := inClass (top 31) 4
abbrev N_Writer_end : List Str := ["self"]
abbrev P_Writer_end : List Str := ["self"]
theorem sc_Writer_end : FnScope N_Writer_end P_Writer_end (defScope st_Writer_end) := ⟨rfl, rfl, rfl, by decide +kernel, rfl, by decide +kernel, by decide +kernel⟩
theorem fn_Writer_end {K : PySem.W.Frag} {mg : Str → Option Value} (T : Tx K mg) : ∃ fd, Fun K "end" "Writer.end" st_Writer_end (He.ma K (He.ga K "Writer") "end") fd ∧ Binds K fd P_Writer_end [] := by
  obtain ⟨fd, F⟩ := T.s.def_ 17 (d := ⟨("Writer", some "end"), "end", "Writer.end", defArgs st_Writer_end, defBody st_Writer_end, defScope st_Writer_end, [], []⟩) (by kernel_rfl)
  have G : Fun K "end" "Writer.end" st_Writer_end (He.ma K (He.ga K "Writer") "end") fd := fun_of (st := st_Writer_end) (kws := []) F
  exact ⟨fd, G, G.binds fun _ _ _ _ _ _ us hl => match us, hl with | [_], _ => by kernel_rfl⟩
abbrev st_Writer_add : Stmt := inClass (top 31) 5
abbrev N_Writer_add : List Str := ["self", "cell", "amount", "following", "here", "turn"]
abbrev P_Writer_add : List Str := ["self", "cell", "amount", "following"]
theorem sc_Writer_add : FnScope N_Writer_add P_Writer_add (defScope st_Writer_add) := ⟨rfl, rfl, rfl, by decide +kernel, rfl, by decide +kernel, by decide +kernel⟩
theorem fn_Writer_add {K : PySem.W.Frag} {mg : Str → Option Value} (T : Tx K mg) : ∃ fd, Fun K "add" "Writer.add" st_Writer_add (He.ma K (He.ga K "Writer") "add") fd ∧ Binds K fd P_Writer_add [] := by
  obtain ⟨fd, F⟩ := T.s.def_ 18 (d := ⟨("Writer", some "add"), "add", "Writer.add", defArgs st_Writer_add, defBody st_Writer_add, defScope st_Writer_add, [], []⟩) (by kernel_rfl)
  have G : Fun K "add" "Writer.add" st_Writer_add (He.ma K (He.ga K "Writer") "add") fd := fun_of (st := st_Writer_add) (kws := []) F
  exact ⟨fd, G, G.binds fun _ _ _ _ _ _ us hl => match us, hl with | [_, _, _, _], _ => by kernel_rfl⟩
abbrev st_Writer_move : Stmt := inClass (top 31) 6
abbrev N_Writer_move : List Str := ["self", "source", "targets", "following", "loop", "turn"]
abbrev P_Writer_move : List Str := ["self", "source", "targets", "following"]
theorem sc_Writer_move : FnScope N_Writer_move P_Writer_move (defScope st_Writer_move) := ⟨rfl, rfl, rfl, by decide +kernel, rfl, by decide +kernel, by decide +kernel⟩
theorem fn_Writer_move {K : PySem.W.Frag} {mg : Str → Option Value} (T : Tx K mg) : ∃ fd, Fun K "move" "Writer.move" st_Writer_move (He.ma K (He.ga K "Writer") "move") fd ∧ Binds K fd P_Writer_move [] := by
  obtain ⟨fd, F⟩ := T.s.def_ 19 (d := ⟨("Writer", some "move"), "move", "Writer.move", defArgs st_Writer_move, defBody st_Writer_move, defScope st_Writer_move, [], []⟩) (by kernel_rfl)
  have G : Fun K "move" "Writer.move" st_Writer_move (He.ma K (He.ga K "Writer") "move") fd := fun_of (st := st_Writer_move) (kws := []) F
  exact ⟨fd, G, G.binds fun _ _ _ _ _ _ us hl => match us, hl with | [_, _, _, _], _ => by kernel_rfl⟩
abbrev st_Writer_place : Stmt := inClass (top 31) 7
abbrev N_Writer_place : List Str := ["self", "name"]
abbrev P_Writer_place : List Str := ["self", "name"]
theorem sc_Writer_place : FnScope N_Writer_place P_Writer_place (defScope st_Writer_place) := ⟨rfl, rfl, rfl, by decide +kernel, rfl, by decide +kernel, by decide +kernel⟩
theorem fn_Writer_place {K : PySem.W.Frag} {mg : Str → Option Value} (T : Tx K mg) : ∃ fd, Fun K "place" "Writer.place" st_Writer_place (He.ma K (He.ga K "Writer") "place") fd ∧ Binds K fd P_Writer_place [] := by
  obtain ⟨fd, F⟩ := T.s.def_ 20 (d := ⟨("Writer", some "place"), "place", "Writer.place", defArgs st_Writer_place, defBody st_Writer_place, defScope st_Writer_place, [], []⟩) (by kernel_rfl)
  have G : Fun K "place" "Writer.place" st_Writer_place (He.ma K (He.ga K "Writer") "place") fd := fun_of (st := st_Writer_place) (kws := []) F
  exact ⟨fd, G, G.binds fun _ _ _ _ _ _ us hl => match us, hl with | [_, _], _ => by kernel_rfl⟩
abbrev st_Writer_program : Stmt := inClass (top 31) 8
abbrev N_Writer_program : List Str := ["self", "count", "found", "instruction", "name"]
abbrev P_Writer_program : List Str := ["self", "count"]
theorem sc_Writer_program : FnScope N_Writer_program P_Writer_program (defScope st_Writer_program) := ⟨rfl, rfl, rfl, by decide +kernel, rfl, by decide +kernel, by decide +kernel⟩
theorem fn_Writer_program {K : PySem.W.Frag} {mg : Str → Option Value} (T : Tx K mg) : ∃ fd, Fun K "program" "Writer.program" st_Writer_program (He.ma K (He.ga K "Writer") "program") fd ∧ Binds K fd P_Writer_program [] := by
  obtain ⟨fd, F⟩ := T.s.def_ 21 (d := ⟨("Writer", some "program"), "program", "Writer.program", defArgs st_Writer_program, defBody st_Writer_program, defScope st_Writer_program, [], []⟩) (by kernel_rfl)
  have G : Fun K "program" "Writer.program" st_Writer_program (He.ma K (He.ga K "Writer") "program") fd := fun_of (st := st_Writer_program) (kws := []) F
  exact ⟨fd, G, G.binds fun _ _ _ _ _ _ us hl => match us, hl with | [_, _], _ => by kernel_rfl⟩
abbrev st_CountersToTuring_init : Stmt := inClass (top 39) 0
abbrev N_CountersToTuring_init : List Str := ["self", "machine", "rules", "place", "instruction"]
abbrev P_CountersToTuring_init : List Str := ["self", "machine"]
theorem sc_CountersToTuring_init : FnScope N_CountersToTuring_init P_CountersToTuring_init (defScope st_CountersToTuring_init) := ⟨rfl, rfl, rfl, by decide +kernel, rfl, by decide +kernel, by decide +kernel⟩
theorem fn_CountersToTuring_init {K : PySem.W.Frag} {mg : Str → Option Value} (T : Tx K mg) : ∃ fd, Fun K "__init__" "CountersToTuring.__init__" st_CountersToTuring_init (He.ma K (He.ga K "CountersToTuring") "__init__") fd ∧ Binds K fd P_CountersToTuring_init [] := by
  obtain ⟨fd, F⟩ := T.s.def_ 22 (d := ⟨("CountersToTuring", some "__init__"), "__init__", "CountersToTuring.__init__", defArgs st_CountersToTuring_init, defBody st_CountersToTuring_init, defScope st_CountersToTuring_init, [], []⟩) (by kernel_rfl)
  have G : Fun K "__init__" "CountersToTuring.__init__" st_CountersToTuring_init (He.ma K (He.ga K "CountersToTuring") "__init__") fd := fun_of (st := st_CountersToTuring_init) (kws := []) F
  exact ⟨fd, G, G.binds fun _ _ _ _ _ _ us hl => match us, hl with | [_, _], _ => by kernel_rfl⟩
abbrev st_CountersToTuring_new_states : Stmt := inClass (top 39) 1
abbrev N_CountersToTuring_new_states : List Str := ["self", "count", "first"]
abbrev P_CountersToTuring_new_states : List Str := ["self", "count"]
theorem sc_CountersToTuring_new_states : FnScope N_CountersToTuring_new_states P_CountersToTuring_new_states (defScope st_CountersToTuring_new_states) := ⟨rfl, rfl, rfl, by decide +kernel, rfl, by decide +kernel, by decide +kernel⟩
theorem fn_CountersToTuring_new_states {K : PySem.W.Frag} {mg : Str → Option Value} (T : Tx K mg) : ∃ fd, Fun K "new_states" "CountersToTuring.new_states" st_CountersToTuring_new_states (He.ma K (He.ga K "CountersToTuring") "new_states") fd ∧ Binds K fd P_CountersToTuring_new_states [] := by
  obtain ⟨fd, F⟩ := T.s.def_ 23 (d := ⟨("CountersToTuring", some "new_states"), "new_states", "CountersToTuring.new_states", defArgs st_CountersToTuring_new_states, defBody st_CountersToTuring_new_states, defScope st_CountersToTuring_new_states, [], []⟩) (by kernel_rfl)
  have G : Fun K "new_states" "CountersToTuring.new_states" st_CountersToTuring_new_states (He.ma K (He.ga K "CountersToTuring") "new_states") fd := fun_of (st := st_CountersToTuring_new_states) (kws := []) F
  exact ⟨fd, G, G.binds fun _ _ _ _ _ _ us hl => match us, hl with | [_, _], _ => by kernel_rfl⟩
abbrev st_CountersToTuring_growing : Stmt := inClass (top 39) 2
abbrev N_CountersToTuring_growing : List Str := ["self", "place", "instruction", "_", "cell", "following", "away", "out", "back", "rules"]
abbrev P_CountersToTuring_growing : List Str := ["self", "place", "instruction"]
theorem sc_CountersToTuring_growing : FnScope N_CountersToTuring_growing P_CountersToTuring_growing (defScope st_CountersToTuring_growing) := ⟨rfl, rfl, rfl, by decide +kernel, rfl, by decide +kernel, by decide +kernel⟩
theorem fn_CountersToTuring_growing {K : PySem.W.Frag} {mg : Str → Option Value} (T : Tx K mg) : ∃ fd, Fun K "growing" "CountersToTuring.growing" st_CountersToTuring_growing (He.ma K (He.ga K "CountersToTuring") "growing") fd ∧ Binds K fd P_CountersToTuring_growing [] := by
  obtain ⟨fd, F⟩ := T.s.def_ 24 (d := ⟨("CountersToTuring", some "growing"), "growing", "CountersToTuring.growing", defArgs st_CountersToTuring_growing, defBody st_CountersToTuring_growing, defScope st_CountersToTuring_growing, [], []⟩) (by kernel_rfl)
  have G : Fun K "growing" "CountersToTuring.growing" st_CountersToTuring_growing (He.ma K (He.ga K "CountersToTuring") "growing") fd := fun_of (st := st_CountersToTuring_growing) (kws := []) F
  exact ⟨fd, G, G.binds fun _ _ _ _ _ _ us hl => match us, hl with | [_, _, _], _ => by kernel_rfl⟩
abbrev st_CountersToTuring_shrinking : Stmt := inClass (top 39) 3
abbrev N_CountersToTuring_shrinking : List Str := ["self", "place", "instruction", "_", "cell", "following", "other", "away", "look", "out", "take", "back", "rules"]
abbrev P_CountersToTuring_shrinking : List Str := ["self", "place", "instruction"]
theorem sc_CountersToTuring_shrinking : FnScope N_CountersToTuring_shrinking P_CountersToTuring_shrinking (defScope st_CountersToTuring_shrinking) := ⟨rfl, rfl, rfl, by decide +kernel, rfl, by decide +kernel, by decide +kernel⟩
theorem fn_CountersToTuring_shrinking {K : PySem.W.Frag} {mg : Str → Option Value} (T : Tx K mg) : ∃ fd, Fun K "shrinking" "CountersToTuring.shrinking" st_CountersToTuring_shrinking (He.ma K (He.ga K "CountersToTuring") "shrinking") fd ∧ Binds K fd P_CountersToTuring_shrinking [] := by
  obtain ⟨fd, F⟩ := T.s.def_ 25 (d := ⟨("CountersToTuring", some "shrinking"), "shrinking", "CountersToTuring.shrinking", defArgs st_CountersToTuring_shrinking, defBody st_CountersToTuring_shrinking, defScope st_CountersToTuring_shrinking, [], []⟩) (by kernel_rfl)
  have G : Fun K "shrinking" "CountersToTuring.shrinking" st_CountersToTuring_shrinking (He.ma K (He.ga K "CountersToTuring") "shrinking") fd := fun_of (st := st_CountersToTuring_shrinking) (kws := []) F
  exact ⟨fd, G, G.binds fun _ _ _ _ _ _ us hl => match us, hl with | [_, _, _], _ => by kernel_rfl⟩
abbrev st_CountersToTuring_picture : Stmt := inClass (top 39) 4
abbrev N_CountersToTuring_picture : List Str := ["self", "configuration", "place", "values"]
abbrev P_CountersToTuring_picture : List Str := ["self", "configuration"]
theorem sc_CountersToTuring_picture : FnScope N_CountersToTuring_picture P_CountersToTuring_picture (defScope st_CountersToTuring_picture) := ⟨rfl, rfl, rfl, by decide +kernel, rfl, by decide +kernel, by decide +kernel⟩
theorem fn_CountersToTuring_picture {K : PySem.W.Frag} {mg : Str → Option Value} (T : Tx K mg) : ∃ fd, Fun K "picture" "CountersToTuring.picture" st_CountersToTuring_picture (He.ma K (He.ga K "CountersToTuring") "picture") fd ∧ Binds K fd P_CountersToTuring_picture [] := by
  obtain ⟨fd, F⟩ := T.s.def_ 26 (d := ⟨("CountersToTuring", some "picture"), "picture", "CountersToTuring.picture", defArgs st_CountersToTuring_picture, defBody st_CountersToTuring_picture, defScope st_CountersToTuring_picture, [], []⟩) (by kernel_rfl)
  have G : Fun K "picture" "CountersToTuring.picture" st_CountersToTuring_picture (He.ma K (He.ga K "CountersToTuring") "picture") fd := fun_of (st := st_CountersToTuring_picture) (kws := []) F
  exact ⟨fd, G, G.binds fun _ _ _ _ _ _ us hl => match us, hl with | [_, _], _ => by kernel_rfl⟩
abbrev st_CountersToTuring_read_back : Stmt := inClass (top 39) 5
abbrev N_CountersToTuring_read_back : List Str := ["self", "configuration", "state", "left", "_", "right"]
abbrev P_CountersToTuring_read_back : List Str := ["self", "configuration"]
theorem sc_CountersToTuring_read_back : FnScope N_CountersToTuring_read_back P_CountersToTuring_read_back (defScope st_CountersToTuring_read_back) := ⟨rfl, rfl, rfl, by decide +kernel, rfl, by decide +kernel, by decide +kernel⟩
theorem fn_CountersToTuring_read_back {K : PySem.W.Frag} {mg : Str → Option Value} (T : Tx K mg) : ∃ fd, Fun K "read_back" "CountersToTuring.read_back" st_CountersToTuring_read_back (He.ma K (He.ga K "CountersToTuring") "read_back") fd ∧ Binds K fd P_CountersToTuring_read_back [] := by
  obtain ⟨fd, F⟩ := T.s.def_ 27 (d := ⟨("CountersToTuring", some "read_back"), "read_back", "CountersToTuring.read_back", defArgs st_CountersToTuring_read_back, defBody st_CountersToTuring_read_back, defScope st_CountersToTuring_read_back, [], []⟩) (by kernel_rfl)
  have G : Fun K "read_back" "CountersToTuring.read_back" st_CountersToTuring_read_back (He.ma K (He.ga K "CountersToTuring") "read_back") fd := fun_of (st := st_CountersToTuring_read_back) (kws := []) F
  exact ⟨fd, G, G.binds fun _ _ _ _ _ _ us hl => match us, hl with | [_, _], _ => by kernel_rfl⟩
abbrev st_CountersToTuring_cost : Stmt := inClass (top 39) 6
abbrev N_CountersToTuring_cost : List Str := ["self", "configuration", "place", "values", "instruction", "value"]
abbrev P_CountersToTuring_cost : List Str := ["self", "configuration"]
theorem sc_CountersToTuring_cost : FnScope N_CountersToTuring_cost P_CountersToTuring_cost (defScope st_CountersToTuring_cost) := ⟨rfl, rfl, rfl, by decide +kernel, rfl, by decide +kernel, by decide +kernel⟩
theorem fn_CountersToTuring_cost {K : PySem.W.Frag} {mg : Str → Option Value} (T : Tx K mg) : ∃ fd, Fun K "cost" "CountersToTuring.cost" st_CountersToTuring_cost (He.ma K (He.ga K "CountersToTuring") "cost") fd ∧ Binds K fd P_CountersToTuring_cost [] := by
  obtain ⟨fd, F⟩ := T.s.def_ 28 (d := ⟨("CountersToTuring", some "cost"), "cost", "CountersToTuring.cost", defArgs st_CountersToTuring_cost, defBody st_CountersToTuring_cost, defScope st_CountersToTuring_cost, [], []⟩) (by kernel_rfl)
  have G : Fun K "cost" "CountersToTuring.cost" st_CountersToTuring_cost (He.ma K (He.ga K "CountersToTuring") "cost") fd := fun_of (st := st_CountersToTuring_cost) (kws := []) F
  exact ⟨fd, G, G.binds fun _ _ _ _ _ _ us hl => match us, hl with | [_, _], _ => by kernel_rfl⟩
abbrev st_CountersToTuring_last_steps : Stmt := inClass (top 39) 7
abbrev N_CountersToTuring_last_steps : List Str := ["self", "configuration"]
abbrev P_CountersToTuring_last_steps : List Str := ["self", "configuration"]
theorem sc_CountersToTuring_last_steps : FnScope N_CountersToTuring_last_steps P_CountersToTuring_last_steps (defScope st_CountersToTuring_last_steps) := ⟨rfl, rfl, rfl, by decide +kernel, rfl, by decide +kernel, by decide +kernel⟩
theorem fn_CountersToTuring_last_steps {K : PySem.W.Frag} {mg : Str → Option Value} (T : Tx K mg) : ∃ fd, Fun K "last_steps" "CountersToTuring.last_steps" st_CountersToTuring_last_steps (He.ma K (He.ga K "CountersToTuring") "last_steps") fd ∧ Binds K fd P_CountersToTuring_last_steps [] := by
  obtain ⟨fd, F⟩ := T.s.def_ 29 (d := ⟨("CountersToTuring", some "last_steps"), "last_steps", "CountersToTuring.last_steps", defArgs st_CountersToTuring_last_steps, defBody st_CountersToTuring_last_steps, defScope st_CountersToTuring_last_steps, [], []⟩) (by kernel_rfl)
  have G : Fun K "last_steps" "CountersToTuring.last_steps" st_CountersToTuring_last_steps (He.ma K (He.ga K "CountersToTuring") "last_steps") fd := fun_of (st := st_CountersToTuring_last_steps) (kws := []) F
  exact ⟨fd, G, G.binds fun _ _ _ _ _ _ us hl => match us, hl with | [_, _], _ => by kernel_rfl⟩
abbrev st_TuringToRegisters_init : Stmt := inClass (top 79) 0
abbrev N_TuringToRegisters_init : List Str := ["self", "machine", "writer", "state", "symbol", "name"]
abbrev P_TuringToRegisters_init : List Str := ["self", "machine"]
theorem sc_TuringToRegisters_init : FnScope N_TuringToRegisters_init P_TuringToRegisters_init (defScope st_TuringToRegisters_init) := ⟨rfl, rfl, rfl, by decide +kernel, rfl, by decide +kernel, by decide +kernel⟩
theorem fn_TuringToRegisters_init {K : PySem.W.Frag} {mg : Str → Option Value} (T : Tx K mg) : ∃ fd, Fun K "__init__" "TuringToRegisters.__init__" st_TuringToRegisters_init (He.ma K (He.ga K "TuringToRegisters") "__init__") fd ∧ Binds K fd P_TuringToRegisters_init [] := by
  obtain ⟨fd, F⟩ := T.s.def_ 30 (d := ⟨("TuringToRegisters", some "__init__"), "__init__", "TuringToRegisters.__init__", defArgs st_TuringToRegisters_init, defBody st_TuringToRegisters_init, defScope st_TuringToRegisters_init, [], []⟩) (by kernel_rfl)
  have G : Fun K "__init__" "TuringToRegisters.__init__" st_TuringToRegisters_init (He.ma K (He.ga K "TuringToRegisters") "__init__") fd := fun_of (st := st_TuringToRegisters_init) (kws := []) F
  exact ⟨fd, G, G.binds fun _ _ _ _ _ _ us hl => match us, hl with | [_, _], _ => by kernel_rfl⟩
abbrev st_TuringToRegisters_write_pair : Stmt := inClass (top 79) 1
abbrev N_TuringToRegisters_write_pair : List Str := ["self", "writer", "state", "symbol", "rule", "written", "move", "following", "behind"]
abbrev P_TuringToRegisters_write_pair : List Str := ["self", "writer", "state", "symbol"]
theorem sc_TuringToRegisters_write_pair : FnScope N_TuringToRegisters_write_pair P_TuringToRegisters_write_pair (defScope st_TuringToRegisters_write_pair) := ⟨rfl, rfl, rfl, by decide +kernel, rfl, by decide +kernel, by decide +kernel⟩
theorem fn_TuringToRegisters_write_pair {K : PySem.W.Frag} {mg : Str → Option Value} (T : Tx K mg) : ∃ fd, Fun K "write_pair" "TuringToRegisters.write_pair" st_TuringToRegisters_write_pair (He.ma K (He.ga K "TuringToRegisters") "write_pair") fd ∧ Binds K fd P_TuringToRegisters_write_pair [] := by
  obtain ⟨fd, F⟩ := T.s.def_ 31 (d := ⟨("TuringToRegisters", some "write_pair"), "write_pair", "TuringToRegisters.write_pair", defArgs st_TuringToRegisters_write_pair, defBody st_TuringToRegisters_write_pair, defScope st_TuringToRegisters_write_pair, [], []⟩) (by kernel_rfl)
  have G : Fun K "write_pair" "TuringToRegisters.write_pair" st_TuringToRegisters_write_pair (He.ma K (He.ga K "TuringToRegisters") "write_pair") fd := fun_of (st := st_TuringToRegisters_write_pair) (kws := []) F
  exact ⟨fd, G, G.binds fun _ _ _ _ _ _ us hl => match us, hl with | [_, _, _, _], _ => by kernel_rfl⟩
abbrev st_TuringToRegisters_write_push : Stmt := inClass (top 79) 2
abbrev N_TuringToRegisters_write_push : List Str := ["self", "writer", "side", "written", "base"]
abbrev P_TuringToRegisters_write_push : List Str := ["self", "writer", "side", "written"]
theorem sc_TuringToRegisters_write_push : FnScope N_TuringToRegisters_write_push P_TuringToRegisters_write_push (defScope st_TuringToRegisters_write_push) := ⟨rfl, rfl, rfl, by decide +kernel, rfl, by decide +kernel, by decide +kernel⟩
theorem fn_TuringToRegisters_write_push {K : PySem.W.Frag} {mg : Str → Option Value} (T : Tx K mg) : ∃ fd, Fun K "write_push" "TuringToRegisters.write_push" st_TuringToRegisters_write_push (He.ma K (He.ga K "TuringToRegisters") "write_push") fd ∧ Binds K fd P_TuringToRegisters_write_push [] := by
  obtain ⟨fd, F⟩ := T.s.def_ 32 (d := ⟨("TuringToRegisters", some "write_push"), "write_push", "TuringToRegisters.write_push", defArgs st_TuringToRegisters_write_push, defBody st_TuringToRegisters_write_push, defScope st_TuringToRegisters_write_push, [], []⟩) (by kernel_rfl)
  have G : Fun K "write_push" "TuringToRegisters.write_push" st_TuringToRegisters_write_push (He.ma K (He.ga K "TuringToRegisters") "write_push") fd := fun_of (st := st_TuringToRegisters_write_push) (kws := []) F
  exact ⟨fd, G, G.binds fun _ _ _ _ _ _ us hl => match us, hl with | [_, _, _, _], _ => by kernel_rfl⟩
abbrev st_TuringToRegisters_write_pop : Stmt := inClass (top 79) 3
abbrev N_TuringToRegisters_write_pop : List Str := ["self", "writer", "side", "following", "base", "loop", "behind", "rest"]
abbrev P_TuringToRegisters_write_pop : List Str := ["self", "writer", "side", "following"]
theorem sc_TuringToRegisters_write_pop : FnScope N_TuringToRegisters_write_pop P_TuringToRegisters_write_pop (defScope st_TuringToRegisters_write_pop) := ⟨rfl, rfl, rfl, by decide +kernel, rfl, by decide +kernel, by decide +kernel⟩
theorem fn_TuringToRegisters_write_pop {K : PySem.W.Frag} {mg : Str → Option Value} (T : Tx K mg) : ∃ fd, Fun K "write_pop" "TuringToRegisters.write_pop" st_TuringToRegisters_write_pop (He.ma K (He.ga K "TuringToRegisters") "write_pop") fd ∧ Binds K fd P_TuringToRegisters_write_pop [] := by
  obtain ⟨fd, F⟩ := T.s.def_ 33 (d := ⟨("TuringToRegisters", some "write_pop"), "write_pop", "TuringToRegisters.write_pop", defArgs st_TuringToRegisters_write_pop, defBody st_TuringToRegisters_write_pop, defScope st_TuringToRegisters_write_pop, [], []⟩) (by kernel_rfl)
  have G : Fun K "write_pop" "TuringToRegisters.write_pop" st_TuringToRegisters_write_pop (He.ma K (He.ga K "TuringToRegisters") "write_pop") fd := fun_of (st := st_TuringToRegisters_write_pop) (kws := []) F
  exact ⟨fd, G, G.binds fun _ _ _ _ _ _ us hl => match us, hl with | [_, _, _, _], _ => by kernel_rfl⟩
abbrev st_TuringToRegisters_picture : Stmt := inClass (top 79) 4
abbrev N_TuringToRegisters_picture : List Str := ["self", "configuration", "state", "left", "here", "right", "base"]
abbrev P_TuringToRegisters_picture : List Str := ["self", "configuration"]
theorem sc_TuringToRegisters_picture : FnScope N_TuringToRegisters_picture P_TuringToRegisters_picture (defScope st_TuringToRegisters_picture) := ⟨rfl, rfl, rfl, by decide +kernel, rfl, by decide +kernel, by decide +kernel⟩
theorem fn_TuringToRegisters_picture {K : PySem.W.Frag} {mg : Str → Option Value} (T : Tx K mg) : ∃ fd, Fun K "picture" "TuringToRegisters.picture" st_TuringToRegisters_picture (He.ma K (He.ga K "TuringToRegisters") "picture") fd ∧ Binds K fd P_TuringToRegisters_picture [] := by
  obtain ⟨fd, F⟩ := T.s.def_ 34 (d := ⟨("TuringToRegisters", some "picture"), "picture", "TuringToRegisters.picture", defArgs st_TuringToRegisters_picture, defBody st_TuringToRegisters_picture, defScope st_TuringToRegisters_picture, [], []⟩) (by kernel_rfl)
  have G : Fun K "picture" "TuringToRegisters.picture" st_TuringToRegisters_picture (He.ma K (He.ga K "TuringToRegisters") "picture") fd := fun_of (st := st_TuringToRegisters_picture) (kws := []) F
  exact ⟨fd, G, G.binds fun _ _ _ _ _ _ us hl => match us, hl with | [_, _], _ => by kernel_rfl⟩
abbrev st_TuringToRegisters_read_back : Stmt := inClass (top 79) 5
abbrev N_TuringToRegisters_read_back : List Str := ["self", "configuration", "place", "values", "state", "here", "base"]
abbrev P_TuringToRegisters_read_back : List Str := ["self", "configuration"]
theorem sc_TuringToRegisters_read_back : FnScope N_TuringToRegisters_read_back P_TuringToRegisters_read_back (defScope st_TuringToRegisters_read_back) := ⟨rfl, rfl, rfl, by decide +kernel, rfl, by decide +kernel, by decide +kernel⟩
theorem fn_TuringToRegisters_read_back {K : PySem.W.Frag} {mg : Str → Option Value} (T : Tx K mg) : ∃ fd, Fun K "read_back" "TuringToRegisters.read_back" st_TuringToRegisters_read_back (He.ma K (He.ga K "TuringToRegisters") "read_back") fd ∧ Binds K fd P_TuringToRegisters_read_back [] := by
  obtain ⟨fd, F⟩ := T.s.def_ 35 (d := ⟨("TuringToRegisters", some "read_back"), "read_back", "TuringToRegisters.read_back", defArgs st_TuringToRegisters_read_back, defBody st_TuringToRegisters_read_back, defScope st_TuringToRegisters_read_back, [], []⟩) (by kernel_rfl)
  have G : Fun K "read_back" "TuringToRegisters.read_back" st_TuringToRegisters_read_back (He.ma K (He.ga K "TuringToRegisters") "read_back") fd := fun_of (st := st_TuringToRegisters_read_back) (kws := []) F
  exact ⟨fd, G, G.binds fun _ _ _ _ _ _ us hl => match us, hl with | [_, _], _ => by kernel_rfl⟩
abbrev st_TuringToRegisters_cost : Stmt := inClass (top 79) 6
abbrev N_TuringToRegisters_cost : List Str := ["self", "configuration", "state", "left", "here", "right", "written", "move", "_", "base", "behind", "ahead", "pushed"]
abbrev P_TuringToRegisters_cost : List Str := ["self", "configuration"]
theorem sc_TuringToRegisters_cost : FnScope N_TuringToRegisters_cost P_TuringToRegisters_cost (defScope st_TuringToRegisters_cost) := ⟨rfl, rfl, rfl, by decide +kernel, rfl, by decide +kernel, by decide +kernel⟩
theorem fn_TuringToRegisters_cost {K : PySem.W.Frag} {mg : Str → Option Value} (T : Tx K mg) : ∃ fd, Fun K "cost" "TuringToRegisters.cost" st_TuringToRegisters_cost (He.ma K (He.ga K "TuringToRegisters") "cost") fd ∧ Binds K fd P_TuringToRegisters_cost [] := by
  obtain ⟨fd, F⟩ := T.s.def_ 36 (d := ⟨("TuringToRegisters", some "cost"), "cost", "TuringToRegisters.cost", defArgs st_TuringToRegisters_cost, defBody st_TuringToRegisters_cost, defScope st_TuringToRegisters_cost, [], []⟩) (by kernel_rfl)
  have G : Fun K "cost" "TuringToRegisters.cost" st_TuringToRegisters_cost (He.ma K (He.ga K "TuringToRegisters") "cost") fd := fun_of (st := st_TuringToRegisters_cost) (kws := []) F
  exact ⟨fd, G, G.binds fun _ _ _ _ _ _ us hl => match us, hl with | [_, _], _ => by kernel_rfl⟩
abbrev st_TuringToRegisters_last_steps : Stmt := inClass (top 79) 7
abbrev N_TuringToRegisters_last_steps : List Str := ["self", "configuration"]
abbrev P_TuringToRegisters_last_steps : List Str := ["self", "configuration"]
theorem sc_TuringToRegisters_last_steps : FnScope N_TuringToRegisters_last_steps P_TuringToRegisters_last_steps (defScope st_TuringToRegisters_last_steps) := ⟨rfl, rfl, rfl, by decide +kernel, rfl, by decide +kernel, by decide +kernel⟩
theorem fn_TuringToRegisters_last_steps {K : PySem.W.Frag} {mg : Str → Option Value} (T : Tx K mg) : ∃ fd, Fun K "last_steps" "TuringToRegisters.last_steps" st_TuringToRegisters_last_steps (He.ma K (He.ga K "TuringToRegisters") "last_steps") fd ∧ Binds K fd P_TuringToRegisters_last_steps [] := by
  obtain ⟨fd, F⟩ := T.s.def_ 37 (d := ⟨("TuringToRegisters", some "last_steps"), "last_steps", "TuringToRegisters.last_steps", defArgs st_TuringToRegisters_last_steps, defBody st_TuringToRegisters_last_steps, defScope st_TuringToRegisters_last_steps, [], []⟩) (by kernel_rfl)
  have G : Fun K "last_steps" "TuringToRegisters.last_steps" st_TuringToRegisters_last_steps (He.ma K (He.ga K "TuringToRegisters") "last_steps") fd := fun_of (st := st_TuringToRegisters_last_steps) (kws := []) F
  exact ⟨fd, G, G.binds fun _ _ _ _ _ _ us hl => match us, hl with | [_, _], _ => by kernel_rfl⟩
abbrev st_RegistersToCounters_init : Stmt := inClass (top 83) 0
abbrev N_RegistersToCounters_init : List Str := ["self", "machine", "writer", "place"]
abbrev P_RegistersToCounters_init : List Str := ["self", "machine"]
theorem sc_RegistersToCounters_init : FnScope N_RegistersToCounters_init P_RegistersToCounters_init (defScope st_RegistersToCounters_init) := ⟨rfl, rfl, rfl, by decide +kernel, rfl, by decide +kernel, by decide +kernel⟩
theorem fn_RegistersToCounters_init {K : PySem.W.Frag} {mg : Str → Option Value} (T : Tx K mg) : ∃ fd, Fun K "__init__" "RegistersToCounters.__init__" st_RegistersToCounters_init (He.ma K (He.ga K "RegistersToCounters") "__init__") fd ∧ Binds K fd P_RegistersToCounters_init [] := by
  obtain ⟨fd, F⟩ := T.s.def_ 38 (d := ⟨("RegistersToCounters", some "__init__"), "__init__", "RegistersToCounters.__init__", defArgs st_RegistersToCounters_init, defBody st_RegistersToCounters_init, defScope st_RegistersToCounters_init, [], []⟩) (by kernel_rfl)
  have G : Fun K "__init__" "RegistersToCounters.__init__" st_RegistersToCounters_init (He.ma K (He.ga K "RegistersToCounters") "__init__") fd := fun_of (st := st_RegistersToCounters_init) (kws := []) F
  exact ⟨fd, G, G.binds fun _ _ _ _ _ _ us hl => match us, hl with | [_, _], _ => by kernel_rfl⟩
abbrev st_RegistersToCounters_write_instruction : Stmt := inClass (top 83) 1
abbrev N_RegistersToCounters_write_instruction : List Str := ["self", "writer", "instruction", "prime"]
abbrev P_RegistersToCounters_write_instruction : List Str := ["self", "writer", "instruction"]
theorem sc_RegistersToCounters_write_instruction : FnScope N_RegistersToCounters_write_instruction P_RegistersToCounters_write_instruction (defScope st_RegistersToCounters_write_instruction) := ⟨rfl, rfl, rfl, by decide +kernel, rfl, by decide +kernel, by decide +kernel⟩
theorem fn_RegistersToCounters_write_instruction {K : PySem.W.Frag} {mg : Str → Option Value} (T : Tx K mg) : ∃ fd, Fun K "write_instruction" "RegistersToCounters.write_instruction" st_RegistersToCounters_write_instruction (He.ma K (He.ga K "RegistersToCounters") "write_instruction") fd ∧ Binds K fd P_RegistersToCounters_write_instruction [] := by
  obtain ⟨fd, F⟩ := T.s.def_ 39 (d := ⟨("RegistersToCounters", some "write_instruction"), "write_instruction", "RegistersToCounters.write_instruction", defArgs st_RegistersToCounters_write_instruction, defBody st_RegistersToCounters_write_instruction, defScope st_RegistersToCounters_write_instruction, [], []⟩) (by kernel_rfl)
  have G : Fun K "write_instruction" "RegistersToCounters.write_instruction" st_RegistersToCounters_write_instruction (He.ma K (He.ga K "RegistersToCounters") "write_instruction") fd := fun_of (st := st_RegistersToCounters_write_instruction) (kws := []) F
  exact ⟨fd, G, G.binds fun _ _ _ _ _ _ us hl => match us, hl with | [_, _, _], _ => by kernel_rfl⟩
abbrev st_RegistersToCounters_write_division : Stmt := inClass (top 83) 2
abbrev N_RegistersToCounters_write_division : List Str := ["self", "writer", "prime", "following", "other", "loop", "even", "restore", "places", "add", "rest"]
abbrev P_RegistersToCounters_write_division : List Str := ["self", "writer", "prime", "following", "other"]
theorem sc_RegistersToCounters_write_division : FnScope N_RegistersToCounters_write_division P_RegistersToCounters_write_division (defScope st_RegistersToCounters_write_division) := ⟨rfl, rfl, rfl, by decide +kernel, rfl, by decide +kernel, by decide +kernel⟩
theorem fn_RegistersToCounters_write_division {K : PySem.W.Frag} {mg : Str → Option Value} (T : Tx K mg) : ∃ fd, Fun K "write_division" "RegistersToCounters.write_division" st_RegistersToCounters_write_division (He.ma K (He.ga K "RegistersToCounters") "write_division") fd ∧ Binds K fd P_RegistersToCounters_write_division [] := by
  obtain ⟨fd, F⟩ := T.s.def_ 40 (d := ⟨("RegistersToCounters", some "write_division"), "write_division", "RegistersToCounters.write_division", defArgs st_RegistersToCounters_write_division, defBody st_RegistersToCounters_write_division, defScope st_RegistersToCounters_write_division, [], []⟩) (by kernel_rfl)
  have G : Fun K "write_division" "RegistersToCounters.write_division" st_RegistersToCounters_write_division (He.ma K (He.ga K "RegistersToCounters") "write_division") fd := fun_of (st := st_RegistersToCounters_write_division) (kws := []) F
  exact ⟨fd, G, G.binds fun _ _ _ _ _ _ us hl => match us, hl with | [_, _, _, _, _], _ => by kernel_rfl⟩
abbrev st_RegistersToCounters_picture : Stmt := inClass (top 83) 3
abbrev N_RegistersToCounters_picture : List Str := ["self", "configuration", "place", "values"]
abbrev P_RegistersToCounters_picture : List Str := ["self", "configuration"]
theorem sc_RegistersToCounters_picture : FnScope N_RegistersToCounters_picture P_RegistersToCounters_picture (defScope st_RegistersToCounters_picture) := ⟨rfl, rfl, rfl, by decide +kernel, rfl, by decide +kernel, by decide +kernel⟩
theorem fn_RegistersToCounters_picture {K : PySem.W.Frag} {mg : Str → Option Value} (T : Tx K mg) : ∃ fd, Fun K "picture" "RegistersToCounters.picture" st_RegistersToCounters_picture (He.ma K (He.ga K "RegistersToCounters") "picture") fd ∧ Binds K fd P_RegistersToCounters_picture [] := by
  obtain ⟨fd, F⟩ := T.s.def_ 41 (d := ⟨("RegistersToCounters", some "picture"), "picture", "RegistersToCounters.picture", defArgs st_RegistersToCounters_picture, defBody st_RegistersToCounters_picture, defScope st_RegistersToCounters_picture, [], []⟩) (by kernel_rfl)
  have G : Fun K "picture" "RegistersToCounters.picture" st_RegistersToCounters_picture (He.ma K (He.ga K "RegistersToCounters") "picture") fd := fun_of (st := st_RegistersToCounters_picture) (kws := []) F
  exact ⟨fd, G, G.binds fun _ _ _ _ _ _ us hl => match us, hl with | [_, _], _ => by kernel_rfl⟩
abbrev st_RegistersToCounters_read_back : Stmt := inClass (top 83) 4
abbrev N_RegistersToCounters_read_back : List Str := ["self", "configuration", "place", "values", "found", "prime"]
abbrev P_RegistersToCounters_read_back : List Str := ["self", "configuration"]
theorem sc_RegistersToCounters_read_back : FnScope N_RegistersToCounters_read_back P_RegistersToCounters_read_back (defScope st_RegistersToCounters_read_back) := ⟨rfl, rfl, rfl, by decide +kernel, rfl, by decide +kernel, by decide +kernel⟩
theorem fn_RegistersToCounters_read_back {K : PySem.W.Frag} {mg : Str → Option Value} (T : Tx K mg) : ∃ fd, Fun K "read_back" "RegistersToCounters.read_back" st_RegistersToCounters_read_back (He.ma K (He.ga K "RegistersToCounters") "read_back") fd ∧ Binds K fd P_RegistersToCounters_read_back [] := by
  obtain ⟨fd, F⟩ := T.s.def_ 42 (d := ⟨("RegistersToCounters", some "read_back"), "read_back", "RegistersToCounters.read_back", defArgs st_RegistersToCounters_read_back, defBody st_RegistersToCounters_read_back, defScope st_RegistersToCounters_read_back, [], []⟩) (by kernel_rfl)
  have G : Fun K "read_back" "RegistersToCounters.read_back" st_RegistersToCounters_read_back (He.ma K (He.ga K "RegistersToCounters") "read_back") fd := fun_of (st := st_RegistersToCounters_read_back) (kws := []) F
  exact ⟨fd, G, G.binds fun _ _ _ _ _ _ us hl => match us, hl with | [_, _], _ => by kernel_rfl⟩
abbrev st_RegistersToCounters_cost : Stmt := inClass (top 83) 5
abbrev N_RegistersToCounters_cost : List Str := ["self", "configuration", "place", "values", "instruction", "_", "product", "prime", "quotient", "rest"]
abbrev P_RegistersToCounters_cost : List Str := ["self", "configuration"]
theorem sc_RegistersToCounters_cost : FnScope N_RegistersToCounters_cost P_RegistersToCounters_cost (defScope st_RegistersToCounters_cost) := ⟨rfl, rfl, rfl, by decide +kernel, rfl, by decide +kernel, by decide +kernel⟩
theorem fn_RegistersToCounters_cost {K : PySem.W.Frag} {mg : Str → Option Value} (T : Tx K mg) : ∃ fd, Fun K "cost" "RegistersToCounters.cost" st_RegistersToCounters_cost (He.ma K (He.ga K "RegistersToCounters") "cost") fd ∧ Binds K fd P_RegistersToCounters_cost [] := by
  obtain ⟨fd, F⟩ := T.s.def_ 43 (d := ⟨("RegistersToCounters", some "cost"), "cost", "RegistersToCounters.cost", defArgs st_RegistersToCounters_cost, defBody st_RegistersToCounters_cost, defScope st_RegistersToCounters_cost, [], []⟩) (by kernel_rfl)
  have G : Fun K "cost" "RegistersToCounters.cost" st_RegistersToCounters_cost (He.ma K (He.ga K "RegistersToCounters") "cost") fd := fun_of (st := st_RegistersToCounters_cost) (kws := []) F
  exact ⟨fd, G, G.binds fun _ _ _ _ _ _ us hl => match us, hl with | [_, _], _ => by kernel_rfl⟩
abbrev st_RegistersToCounters_last_steps : Stmt := inClass (top 83) 6
abbrev N_RegistersToCounters_last_steps : List Str := ["self", "configuration"]
abbrev P_RegistersToCounters_last_steps : List Str := ["self", "configuration"]
theorem sc_RegistersToCounters_last_steps : FnScope N_RegistersToCounters_last_steps P_RegistersToCounters_last_steps (defScope st_RegistersToCounters_last_steps) := ⟨rfl, rfl, rfl, by decide +kernel, rfl, by decide +kernel, by decide +kernel⟩
theorem fn_RegistersToCounters_last_steps {K : PySem.W.Frag} {mg : Str → Option Value} (T : Tx K mg) : ∃ fd, Fun K "last_steps" "RegistersToCounters.last_steps" st_RegistersToCounters_last_steps (He.ma K (He.ga K "RegistersToCounters") "last_steps") fd ∧ Binds K fd P_RegistersToCounters_last_steps [] := by
  obtain ⟨fd, F⟩ := T.s.def_ 44 (d := ⟨("RegistersToCounters", some "last_steps"), "last_steps", "RegistersToCounters.last_steps", defArgs st_RegistersToCounters_last_steps, defBody st_RegistersToCounters_last_steps, defScope st_RegistersToCounters_last_steps, [], []⟩) (by kernel_rfl)
  have G : Fun K "last_steps" "RegistersToCounters.last_steps" st_RegistersToCounters_last_steps (He.ma K (He.ga K "RegistersToCounters") "last_steps") fd := fun_of (st := st_RegistersToCounters_last_steps) (kws := []) F
  exact ⟨fd, G, G.binds fun _ _ _ _ _ _ us hl => match us, hl with | [_, _], _ => by kernel_rfl⟩
abbrev st_number_of : Stmt := top 21
abbrev N_number_of : List Str := ["symbols", "base", "number", "symbol"]
abbrev P_number_of : List Str := ["symbols", "base"]
theorem sc_number_of : FnScope N_number_of P_number_of (defScope st_number_of) := ⟨rfl, rfl, rfl, by decide +kernel, rfl, by decide +kernel, by decide +kernel⟩
theorem fn_number_of {K : PySem.W.Frag} {mg : Str → Option Value} (T : Tx K mg) : ∃ fd, Fun K "number_of" "number_of" st_number_of (He.ga K "number_of") fd ∧ Binds K fd P_number_of [] := by
  obtain ⟨fd, F⟩ := T.s.def_ 45 (d := ⟨("number_of", none), "number_of", "number_of", defArgs st_number_of, defBody st_number_of, defScope st_number_of, [], []⟩) (by kernel_rfl)
  have G : Fun K "number_of" "number_of" st_number_of (He.ga K "number_of") fd := fun_of (st := st_number_of) (kws := []) F
  exact ⟨fd, G, G.binds fun _ _ _ _ _ _ us hl => match us, hl with | [_, _], _ => by kernel_rfl⟩
abbrev st_symbols_of : Stmt := top 22
abbrev N_symbols_of : List Str := ["number", "base", "found"]
abbrev P_symbols_of : List Str := ["number", "base"]
theorem sc_symbols_of : FnScope N_symbols_of P_symbols_of (defScope st_symbols_of) := ⟨rfl, rfl, rfl, by decide +kernel, rfl, by decide +kernel, by decide +kernel⟩
theorem fn_symbols_of {K : PySem.W.Frag} {mg : Str → Option Value} (T : Tx K mg) : ∃ fd, Fun K "symbols_of" "symbols_of" st_symbols_of (He.ga K "symbols_of") fd ∧ Binds K fd P_symbols_of [] := by
  obtain ⟨fd, F⟩ := T.s.def_ 46 (d := ⟨("symbols_of", none), "symbols_of", "symbols_of", defArgs st_symbols_of, defBody st_symbols_of, defScope st_symbols_of, [], []⟩) (by kernel_rfl)
  have G : Fun K "symbols_of" "symbols_of" st_symbols_of (He.ga K "symbols_of") fd := fun_of (st := st_symbols_of) (kws := []) F
  exact ⟨fd, G, G.binds fun _ _ _ _ _ _ us hl => match us, hl with | [_, _], _ => by kernel_rfl⟩
abbrev st_check_picture : Stmt := top 34
abbrev N_check_picture : List Str := ["amount"]
abbrev P_check_picture : List Str := ["amount"]
theorem sc_check_picture : FnScope N_check_picture P_check_picture (defScope st_check_picture) := ⟨rfl, rfl, rfl, by decide +kernel, rfl, by decide +kernel, by decide +kernel⟩
theorem fn_check_picture {K : PySem.W.Frag} {mg : Str → Option Value} (T : Tx K mg) : ∃ fd, Fun K "check_picture" "check_picture" st_check_picture (He.ga K "check_picture") fd ∧ Binds K fd P_check_picture [] := by
  obtain ⟨fd, F⟩ := T.s.def_ 47 (d := ⟨("check_picture", none), "check_picture", "check_picture", defArgs st_check_picture, defBody st_check_picture, defScope st_check_picture, [], []⟩) (by kernel_rfl)
  have G : Fun K "check_picture" "check_picture" st_check_picture (He.ga K "check_picture") fd := fun_of (st := st_check_picture) (kws := []) F
  exact ⟨fd, G, G.binds fun _ _ _ _ _ _ us hl => match us, hl with | [_], _ => by kernel_rfl⟩
abbrev st_primes : Stmt := top 44
abbrev N_primes : List Str := ["count", "found", "number"]
abbrev P_primes : List Str := ["count"]
theorem sc_primes : FnScope N_primes P_primes (defScope st_primes) := ⟨rfl, rfl, rfl, by decide +kernel, rfl, by decide +kernel, by decide +kernel⟩
theorem fn_primes {K : PySem.W.Frag} {mg : Str → Option Value} (T : Tx K mg) : ∃ fd, Fun K "primes" "primes" st_primes (He.ga K "primes") fd ∧ Binds K fd P_primes [] := by
  obtain ⟨fd, F⟩ := T.s.def_ 48 (d := ⟨("primes", none), "primes", "primes", defArgs st_primes, defBody st_primes, defScope st_primes, [], []⟩) (by kernel_rfl)
  have G : Fun K "primes" "primes" st_primes (He.ga K "primes") fd := fun_of (st := st_primes) (kws := []) F
  exact ⟨fd, G, G.binds fun _ _ _ _ _ _ us hl => match us, hl with | [_], _ => by kernel_rfl⟩
abbrev st_is_prime_beside : Stmt := top 45
abbrev N_is_prime_beside : List Str := ["number", "found", "prime"]
abbrev P_is_prime_beside : List Str := ["number", "found"]
theorem sc_is_prime_beside : FnScope N_is_prime_beside P_is_prime_beside (defScope st_is_prime_beside) := ⟨rfl, rfl, rfl, by decide +kernel, rfl, by decide +kernel, by decide +kernel⟩
theorem fn_is_prime_beside {K : PySem.W.Frag} {mg : Str → Option Value} (T : Tx K mg) : ∃ fd, Fun K "is_prime_beside" "is_prime_beside" st_is_prime_beside (He.ga K "is_prime_beside") fd ∧ Binds K fd P_is_prime_beside [] := by
  obtain ⟨fd, F⟩ := T.s.def_ 49 (d := ⟨("is_prime_beside", none), "is_prime_beside", "is_prime_beside", defArgs st_is_prime_beside, defBody st_is_prime_beside, defScope st_is_prime_beside, [], []⟩) (by kernel_rfl)
  have G : Fun K "is_prime_beside" "is_prime_beside" st_is_prime_beside (He.ga K "is_prime_beside") fd := fun_of (st := st_is_prime_beside) (kws := []) F
  exact ⟨fd, G, G.binds fun _ _ _ _ _ _ us hl => match us, hl with | [_, _], _ => by kernel_rfl⟩
abbrev st_power : Stmt := top 46
abbrev N_power : List Str := ["base", "count", "product"]
abbrev P_power : List Str := ["base", "count"]
theorem sc_power : FnScope N_power P_power (defScope st_power) := ⟨rfl, rfl, rfl, by decide +kernel, rfl, by decide +kernel, by decide +kernel⟩
theorem fn_power {K : PySem.W.Frag} {mg : Str → Option Value} (T : Tx K mg) : ∃ fd, Fun K "power" "power" st_power (He.ga K "power") fd ∧ Binds K fd P_power [] := by
  obtain ⟨fd, F⟩ := T.s.def_ 50 (d := ⟨("power", none), "power", "power", defArgs st_power, defBody st_power, defScope st_power, [], []⟩) (by kernel_rfl)
  have G : Fun K "power" "power" st_power (He.ga K "power") fd := fun_of (st := st_power) (kws := []) F
  exact ⟨fd, G, G.binds fun _ _ _ _ _ _ us hl => match us, hl with | [_, _], _ => by kernel_rfl⟩
abbrev st_product_of : Stmt := top 47
abbrev N_product_of : List Str := ["numbers", "counts", "product", "number", "count"]
abbrev P_product_of : List Str := ["numbers", "counts"]
theorem sc_product_of : FnScope N_product_of P_product_of (defScope st_product_of) := ⟨rfl, rfl, rfl, by decide +kernel, rfl, by decide +kernel, by decide +kernel⟩
theorem fn_product_of {K : PySem.W.Frag} {mg : Str → Option Value} (T : Tx K mg) : ∃ fd, Fun K "product_of" "product_of" st_product_of (He.ga K "product_of") fd ∧ Binds K fd P_product_of [] := by
  obtain ⟨fd, F⟩ := T.s.def_ 51 (d := ⟨("product_of", none), "product_of", "product_of", defArgs st_product_of, defBody st_product_of, defScope st_product_of, [], []⟩) (by kernel_rfl)
  have G : Fun K "product_of" "product_of" st_product_of (He.ga K "product_of") fd := fun_of (st := st_product_of) (kws := []) F
  exact ⟨fd, G, G.binds fun _ _ _ _ _ _ us hl => match us, hl with | [_, _], _ => by kernel_rfl⟩
abbrev st_exponent : Stmt := top 48
abbrev N_exponent : List Str := ["prime", "number", "count"]
abbrev P_exponent : List Str := ["prime", "number"]
theorem sc_exponent : FnScope N_exponent P_exponent (defScope st_exponent) := ⟨rfl, rfl, rfl, by decide +kernel, rfl, by decide +kernel, by decide +kernel⟩
theorem fn_exponent {K : PySem.W.Frag} {mg : Str → Option Value} (T : Tx K mg) : ∃ fd, Fun K "exponent" "exponent" st_exponent (He.ga K "exponent") fd ∧ Binds K fd P_exponent [] := by
  obtain ⟨fd, F⟩ := T.s.def_ 52 (d := ⟨("exponent", none), "exponent", "exponent", defArgs st_exponent, defBody st_exponent, defScope st_exponent, [], []⟩) (by kernel_rfl)
  have G : Fun K "exponent" "exponent" st_exponent (He.ga K "exponent") fd := fun_of (st := st_exponent) (kws := []) F
  exact ⟨fd, G, G.binds fun _ _ _ _ _ _ us hl => match us, hl with | [_, _], _ => by kernel_rfl⟩
abbrev st__law_cell : Stmt := top 128
abbrev N__law_cell : List Str := ["_law_script", "_law_k"]
abbrev P__law_cell : List Str := ["_law_script", "_law_k"]
theorem sc__law_cell : FnScope N__law_cell P__law_cell (defScope st__law_cell) := ⟨rfl, rfl, rfl, by decide +kernel, rfl, by decide +kernel, by decide +kernel⟩
theorem fn__law_cell {K : PySem.W.Frag} {mg : Str → Option Value} (T : Tx K mg) : ∃ fd, Fun K "_law_cell" "_law_cell" st__law_cell (He.ga K "_law_cell") fd ∧ Binds K fd P__law_cell [] := by
  obtain ⟨fd, F⟩ := T.s.def_ 53 (d := ⟨("_law_cell", none), "_law_cell", "_law_cell", defArgs st__law_cell, defBody st__law_cell, defScope st__law_cell, [], []⟩) (by kernel_rfl)
  have G : Fun K "_law_cell" "_law_cell" st__law_cell (He.ga K "_law_cell") fd := fun_of (st := st__law_cell) (kws := []) F
  exact ⟨fd, G, G.binds fun _ _ _ _ _ _ us hl => match us, hl with | [_, _], _ => by kernel_rfl⟩
abbrev st__law_draws : Stmt := top 129
abbrev N__law_draws : List Str := ["_law_cell_here", "_law_count", "_law_rows", "_law_left", "_law_k", "_law_mixed"]
abbrev P__law_draws : List Str := ["_law_cell_here", "_law_count"]
theorem sc__law_draws : FnScope N__law_draws P__law_draws (defScope st__law_draws) := ⟨rfl, rfl, rfl, by decide +kernel, rfl, by decide +kernel, by decide +kernel⟩
theorem fn__law_draws {K : PySem.W.Frag} {mg : Str → Option Value} (T : Tx K mg) : ∃ fd, Fun K "_law_draws" "_law_draws" st__law_draws (He.ga K "_law_draws") fd ∧ Binds K fd P__law_draws [] := by
  obtain ⟨fd, F⟩ := T.s.def_ 54 (d := ⟨("_law_draws", none), "_law_draws", "_law_draws", defArgs st__law_draws, defBody st__law_draws, defScope st__law_draws, [], []⟩) (by kernel_rfl)
  have G : Fun K "_law_draws" "_law_draws" st__law_draws (He.ga K "_law_draws") fd := fun_of (st := st__law_draws) (kws := []) F
  exact ⟨fd, G, G.binds fun _ _ _ _ _ _ us hl => match us, hl with | [_, _], _ => by kernel_rfl⟩
abbrev st__law_like : Stmt := top 130
abbrev N__law_like : List Str := ["_law_actual", "_law_due", "_law_k"]
abbrev P__law_like : List Str := ["_law_actual", "_law_due"]
theorem sc__law_like : FnScope N__law_like P__law_like (defScope st__law_like) := ⟨rfl, rfl, rfl, by decide +kernel, rfl, by decide +kernel, by decide +kernel⟩
theorem fn__law_like {K : PySem.W.Frag} {mg : Str → Option Value} (T : Tx K mg) : ∃ fd, Fun K "_law_like" "_law_like" st__law_like (He.ga K "_law_like") fd ∧ Binds K fd P__law_like [] := by
  obtain ⟨fd, F⟩ := T.s.def_ 55 (d := ⟨("_law_like", none), "_law_like", "_law_like", defArgs st__law_like, defBody st__law_like, defScope st__law_like, [], []⟩) (by kernel_rfl)
  have G : Fun K "_law_like" "_law_like" st__law_like (He.ga K "_law_like") fd := fun_of (st := st__law_like) (kws := []) F
  exact ⟨fd, G, G.binds fun _ _ _ _ _ _ us hl => match us, hl with | [_, _], _ => by kernel_rfl⟩
abbrev st__law_strip : Stmt := top 131
abbrev N__law_strip : List Str := ["_law_symbols", "_law_size", "_law_k"]
abbrev P__law_strip : List Str := ["_law_symbols"]
theorem sc__law_strip : FnScope N__law_strip P__law_strip (defScope st__law_strip) := ⟨rfl, rfl, rfl, by decide +kernel, rfl, by decide +kernel, by decide +kernel⟩
theorem fn__law_strip {K : PySem.W.Frag} {mg : Str → Option Value} (T : Tx K mg) : ∃ fd, Fun K "_law_strip" "_law_strip" st__law_strip (He.ga K "_law_strip") fd ∧ Binds K fd P__law_strip [] := by
  obtain ⟨fd, F⟩ := T.s.def_ 56 (d := ⟨("_law_strip", none), "_law_strip", "_law_strip", defArgs st__law_strip, defBody st__law_strip, defScope st__law_strip, [], []⟩) (by kernel_rfl)
  have G : Fun K "_law_strip" "_law_strip" st__law_strip (He.ga K "_law_strip") fd := fun_of (st := st__law_strip) (kws := []) F
  exact ⟨fd, G, G.binds fun _ _ _ _ _ _ us hl => match us, hl with | [_], _ => by kernel_rfl⟩
abbrev st__law_rules : Stmt := top 132
abbrev N__law_rules : List Str := ["_law_draws_here", "_law_states", "_law_symbols", "_law_rules_here", "_law_state", "_law_symbol", "_law_draw"]
abbrev P__law_rules : List Str := ["_law_draws_here", "_law_states", "_law_symbols"]
theorem sc__law_rules : FnScope N__law_rules P__law_rules (defScope st__law_rules) := ⟨rfl, rfl, rfl, by decide +kernel, rfl, by decide +kernel, by decide +kernel⟩
theorem fn__law_rules {K : PySem.W.Frag} {mg : Str → Option Value} (T : Tx K mg) : ∃ fd, Fun K "_law_rules" "_law_rules" st__law_rules (He.ga K "_law_rules") fd ∧ Binds K fd P__law_rules [] := by
  obtain ⟨fd, F⟩ := T.s.def_ 57 (d := ⟨("_law_rules", none), "_law_rules", "_law_rules", defArgs st__law_rules, defBody st__law_rules, defScope st__law_rules, [], []⟩) (by kernel_rfl)
  have G : Fun K "_law_rules" "_law_rules" st__law_rules (He.ga K "_law_rules") fd := fun_of (st := st__law_rules) (kws := []) F
  exact ⟨fd, G, G.binds fun _ _ _ _ _ _ us hl => match us, hl with | [_, _, _], _ => by kernel_rfl⟩
abbrev st__law_turing_step : Stmt := top 133
abbrev N__law_turing_step : List Str := ["_law_table_here", "_law_here", "_law_state", "_law_left", "_law_symbol", "_law_right", "_law_written", "_law_move", "_law_following"]
abbrev P__law_turing_step : List Str := ["_law_table_here", "_law_here"]
theorem sc__law_turing_step : FnScope N__law_turing_step P__law_turing_step (defScope st__law_turing_step) := ⟨rfl, rfl, rfl, by decide +kernel, rfl, by decide +kernel, by decide +kernel⟩
theorem fn__law_turing_step {K : PySem.W.Frag} {mg : Str → Option Value} (T : Tx K mg) : ∃ fd, Fun K "_law_turing_step" "_law_turing_step" st__law_turing_step (He.ga K "_law_turing_step") fd ∧ Binds K fd P__law_turing_step [] := by
  obtain ⟨fd, F⟩ := T.s.def_ 58 (d := ⟨("_law_turing_step", none), "_law_turing_step", "_law_turing_step", defArgs st__law_turing_step, defBody st__law_turing_step, defScope st__law_turing_step, [], []⟩) (by kernel_rfl)
  have G : Fun K "_law_turing_step" "_law_turing_step" st__law_turing_step (He.ga K "_law_turing_step") fd := fun_of (st := st__law_turing_step) (kws := []) F
  exact ⟨fd, G, G.binds fun _ _ _ _ _ _ us hl => match us, hl with | [_, _], _ => by kernel_rfl⟩
abbrev st__law_table : Stmt := top 134
abbrev N__law_table : List Str := ["_law_rules_here", "_law_table_here", "_law_state", "_law_symbol", "_law_written", "_law_move", "_law_following"]
abbrev P__law_table : List Str := ["_law_rules_here"]
theorem sc__law_table : FnScope N__law_table P__law_table (defScope st__law_table) := ⟨rfl, rfl, rfl, by decide +kernel, rfl, by decide +kernel, by decide +kernel⟩
theorem fn__law_table {K : PySem.W.Frag} {mg : Str → Option Value} (T : Tx K mg) : ∃ fd, Fun K "_law_table" "_law_table" st__law_table (He.ga K "_law_table") fd ∧ Binds K fd P__law_table [] := by
  obtain ⟨fd, F⟩ := T.s.def_ 59 (d := ⟨("_law_table", none), "_law_table", "_law_table", defArgs st__law_table, defBody st__law_table, defScope st__law_table, [], []⟩) (by kernel_rfl)
  have G : Fun K "_law_table" "_law_table" st__law_table (He.ga K "_law_table") fd := fun_of (st := st__law_table) (kws := []) F
  exact ⟨fd, G, G.binds fun _ _ _ _ _ _ us hl => match us, hl with | [_], _ => by kernel_rfl⟩
abbrev st__law_runner : Stmt := top 140
abbrev N__law_runner : List Str := ["_law_target"]
abbrev P__law_runner : List Str := ["_law_target"]
theorem sc__law_runner : FnScope N__law_runner P__law_runner (defScope st__law_runner) := ⟨rfl, rfl, rfl, by decide +kernel, rfl, by decide +kernel, by decide +kernel⟩
theorem fn__law_runner {K : PySem.W.Frag} {mg : Str → Option Value} (T : Tx K mg) : ∃ fd, Fun K "_law_runner" "_law_runner" st__law_runner (He.ga K "_law_runner") fd ∧ Binds K fd P__law_runner [] := by
  obtain ⟨fd, F⟩ := T.s.def_ 60 (d := ⟨("_law_runner", none), "_law_runner", "_law_runner", defArgs st__law_runner, defBody st__law_runner, defScope st__law_runner, [], []⟩) (by kernel_rfl)
  have G : Fun K "_law_runner" "_law_runner" st__law_runner (He.ga K "_law_runner") fd := fun_of (st := st__law_runner) (kws := []) F
  exact ⟨fd, G, G.binds fun _ _ _ _ _ _ us hl => match us, hl with | [_], _ => by kernel_rfl⟩
abbrev st__law_go : Stmt := top 141
abbrev N__law_go : List Str := ["_law_runner_here", "_law_here", "_law_kind", "_law_data"]
abbrev P__law_go : List Str := ["_law_runner_here", "_law_here"]
theorem sc__law_go : FnScope N__law_go P__law_go (defScope st__law_go) := ⟨rfl, rfl, rfl, by decide +kernel, rfl, by decide +kernel, by decide +kernel⟩
theorem fn__law_go {K : PySem.W.Frag} {mg : Str → Option Value} (T : Tx K mg) : ∃ fd, Fun K "_law_go" "_law_go" st__law_go (He.ga K "_law_go") fd ∧ Binds K fd P__law_go [] := by
  obtain ⟨fd, F⟩ := T.s.def_ 61 (d := ⟨("_law_go", none), "_law_go", "_law_go", defArgs st__law_go, defBody st__law_go, defScope st__law_go, [], []⟩) (by kernel_rfl)
  have G : Fun K "_law_go" "_law_go" st__law_go (He.ga K "_law_go") fd := fun_of (st := st__law_go) (kws := []) F
  exact ⟨fd, G, G.binds fun _ _ _ _ _ _ us hl => match us, hl with | [_, _], _ => by kernel_rfl⟩
abbrev st__law_many : Stmt := top 142
abbrev N__law_many : List Str := ["_law_runner_here", "_law_here", "_law_count", "_law_k"]
abbrev P__law_many : List Str := ["_law_runner_here", "_law_here", "_law_count"]
theorem sc__law_many : FnScope N__law_many P__law_many (defScope st__law_many) := ⟨rfl, rfl, rfl, by decide +kernel, rfl, by decide +kernel, by decide +kernel⟩
theorem fn__law_many {K : PySem.W.Frag} {mg : Str → Option Value} (T : Tx K mg) : ∃ fd, Fun K "_law_many" "_law_many" st__law_many (He.ga K "_law_many") fd ∧ Binds K fd P__law_many [] := by
  obtain ⟨fd, F⟩ := T.s.def_ 62 (d := ⟨("_law_many", none), "_law_many", "_law_many", defArgs st__law_many, defBody st__law_many, defScope st__law_many, [], []⟩) (by kernel_rfl)
  have G : Fun K "_law_many" "_law_many" st__law_many (He.ga K "_law_many") fd := fun_of (st := st__law_many) (kws := []) F
  exact ⟨fd, G, G.binds fun _ _ _ _ _ _ us hl => match us, hl with | [_, _, _], _ => by kernel_rfl⟩
abbrev st__law_follows : Stmt := top 143
abbrev N__law_follows : List Str := ["_law_translation", "_law_source", "_law_begin", "_law_count", "_law_budget", "_law_exact", "_law_target", "_law_here", "_law_there", "_law_k", "_law_following", "_law_extra", "_law_cost"]
abbrev P__law_follows : List Str := ["_law_translation", "_law_source", "_law_begin", "_law_count", "_law_budget", "_law_exact"]
theorem sc__law_follows : FnScope N__law_follows P__law_follows (defScope st__law_follows) := ⟨rfl, rfl, rfl, by decide +kernel, rfl, by decide +kernel, by decide +kernel⟩
theorem fn__law_follows {K : PySem.W.Frag} {mg : Str → Option Value} (T : Tx K mg) : ∃ fd, Fun K "_law_follows" "_law_follows" st__law_follows (He.ga K "_law_follows") fd ∧ Binds K fd P__law_follows [] := by
  obtain ⟨fd, F⟩ := T.s.def_ 63 (d := ⟨("_law_follows", none), "_law_follows", "_law_follows", defArgs st__law_follows, defBody st__law_follows, defScope st__law_follows, [], []⟩) (by kernel_rfl)
  have G : Fun K "_law_follows" "_law_follows" st__law_follows (He.ga K "_law_follows") fd := fun_of (st := st__law_follows) (kws := []) F
  exact ⟨fd, G, G.binds fun _ _ _ _ _ _ us hl => match us, hl with | [_, _, _, _, _, _], _ => by kernel_rfl⟩
abbrev st__law_is_count : Stmt := top 144
abbrev N__law_is_count : List Str := ["_law_number", "_law_least"]
abbrev P__law_is_count : List Str := ["_law_number", "_law_least"]
theorem sc__law_is_count : FnScope N__law_is_count P__law_is_count (defScope st__law_is_count) := ⟨rfl, rfl, rfl, by decide +kernel, rfl, by decide +kernel, by decide +kernel⟩
theorem fn__law_is_count {K : PySem.W.Frag} {mg : Str → Option Value} (T : Tx K mg) : ∃ fd, Fun K "_law_is_count" "_law_is_count" st__law_is_count (He.ga K "_law_is_count") fd ∧ Binds K fd P__law_is_count [] := by
  obtain ⟨fd, F⟩ := T.s.def_ 64 (d := ⟨("_law_is_count", none), "_law_is_count", "_law_is_count", defArgs st__law_is_count, defBody st__law_is_count, defScope st__law_is_count, [], []⟩) (by kernel_rfl)
  have G : Fun K "_law_is_count" "_law_is_count" st__law_is_count (He.ga K "_law_is_count") fd := fun_of (st := st__law_is_count) (kws := []) F
  exact ⟨fd, G, G.binds fun _ _ _ _ _ _ us hl => match us, hl with | [_, _], _ => by kernel_rfl⟩
abbrev st__law_drawn_turing : Stmt := top 145
abbrev N__law_drawn_turing : List Str := ["_law_cell_here", "_law_states", "_law_symbols", "_law_draws_here", "_law_rules_here"]
abbrev P__law_drawn_turing : List Str := ["_law_cell_here", "_law_states", "_law_symbols"]
theorem sc__law_drawn_turing : FnScope N__law_drawn_turing P__law_drawn_turing (defScope st__law_drawn_turing) := ⟨rfl, rfl, rfl, by decide +kernel, rfl, by decide +kernel, by decide +kernel⟩
theorem fn__law_drawn_turing {K : PySem.W.Frag} {mg : Str → Option Value} (T : Tx K mg) : ∃ fd, Fun K "_law_drawn_turing" "_law_drawn_turing" st__law_drawn_turing (He.ga K "_law_drawn_turing") fd ∧ Binds K fd P__law_drawn_turing [] := by
  obtain ⟨fd, F⟩ := T.s.def_ 65 (d := ⟨("_law_drawn_turing", none), "_law_drawn_turing", "_law_drawn_turing", defArgs st__law_drawn_turing, defBody st__law_drawn_turing, defScope st__law_drawn_turing, [], []⟩) (by kernel_rfl)
  have G : Fun K "_law_drawn_turing" "_law_drawn_turing" st__law_drawn_turing (He.ga K "_law_drawn_turing") fd := fun_of (st := st__law_drawn_turing) (kws := []) F
  exact ⟨fd, G, G.binds fun _ _ _ _ _ _ us hl => match us, hl with | [_, _, _], _ => by kernel_rfl⟩
abbrev st__law_fits : Stmt := top 146
abbrev N__law_fits : List Str := ["_law_sort", "_law_machine"]
abbrev P__law_fits : List Str := ["_law_sort", "_law_machine"]
theorem sc__law_fits : FnScope N__law_fits P__law_fits (defScope st__law_fits) := ⟨rfl, rfl, rfl, by decide +kernel, rfl, by decide +kernel, by decide +kernel⟩
theorem fn__law_fits {K : PySem.W.Frag} {mg : Str → Option Value} (T : Tx K mg) : ∃ fd, Fun K "_law_fits" "_law_fits" st__law_fits (He.ga K "_law_fits") fd ∧ Binds K fd P__law_fits [] := by
  obtain ⟨fd, F⟩ := T.s.def_ 66 (d := ⟨("_law_fits", none), "_law_fits", "_law_fits", defArgs st__law_fits, defBody st__law_fits, defScope st__law_fits, [], []⟩) (by kernel_rfl)
  have G : Fun K "_law_fits" "_law_fits" st__law_fits (He.ga K "_law_fits") fd := fun_of (st := st__law_fits) (kws := []) F
  exact ⟨fd, G, G.binds fun _ _ _ _ _ _ us hl => match us, hl with | [_, _], _ => by kernel_rfl⟩
abbrev st_law : Stmt := top 147
abbrev N_law : List Str := ["_law_script", "_law_draws_here", "_law_states", "_law_machine", "_law_source", "_law_rules_here", "_law_first", "_law_second", "_law_chain", "_law_side", "_law_begin", "_law_here", "_law_count", "_law_k"]
abbrev P_law : List Str := ["_law_script"]
theorem sc_law : FnScope N_law P_law (defScope st_law) := ⟨rfl, rfl, rfl, by decide +kernel, rfl, by decide +kernel, by decide +kernel⟩
theorem fn_law {K : PySem.W.Frag} {mg : Str → Option Value} (T : Tx K mg) : ∃ fd, Fun K "law" "law" st_law (He.ga K "law") fd ∧ Binds K fd P_law [] := by
  obtain ⟨fd, F⟩ := T.s.def_ 67 (d := ⟨("law", none), "law", "law", defArgs st_law, defBody st_law, defScope st_law, [], []⟩) (by kernel_rfl)
  have G : Fun K "law" "law" st_law (He.ga K "law") fd := fun_of (st := st_law) (kws := []) F
  exact ⟨fd, G, G.binds fun _ _ _ _ _ _ us hl => match us, hl with | [_], _ => by kernel_rfl⟩
end K5
namespace K5
open PySem PySem.Spec PyProof.Rows L2
/-- a def that makes but new things: Ψ of what it gives and of the heap behind -/
def spN (S : Hp → List D → (D → Hp → Prop) → Prop) : Sp := fun vs H Q _ => ∃ ds Ψ, DatL H ds vs ∧ S H ds Ψ ∧ ∀ d v H', Ψ d H' → Dat H' d v → Sx H H' → Q v H'
section
variable {X : Cx} {e o a : Expr} {es : List Expr} {ρ : Rho} {B : Hp} {d : D} {ds : List D} {P : D → Hp → Prop} {pos px apos : Pos} {k j : Nat} {p C : Addr} {x m : Str} {gs : List (Str × D)}
theorem de_frz (h : DE X e ρ B (.ref p)) (hL : LstAt B p ds) : DE X e ρ B (.lst ds) := fun σ H s r Q q => h σ H s r _ fun v H' s' e' => by
  obtain ⟨xs, h1, h2⟩ := hL.mono (s.trans s')
  exact q v H' s' ⟨p, xs, e', h1, h2⟩
theorem dn_call {S : Hp → List D → (D → Hp → Prop) → Prop} (cl : Cal X.prog X.w X.K X.mg X.base k x (spN S)) (hr : Room j X.A) (hk : k ≤ j) (ha : DA X (e :: es) ρ B ds) (hS : ∀ H, Sx B H → S H ds P) (hg : Gl X x := by rfl) (hdb : (x == ("__debug__" : Str)) = false := by decide)
    (he : starEach (e :: es) X.env = (false, eval e X.env) :: starEach es X.env := by rfl) (hpl : (backTo pos (starEach es X.env)).any (·.1) = false := by rfl) : DX X (.Call (.Name x px) (e :: es) [] pos) ρ B (fun d H => P d H ∧ Sx B H) := by
  obtain ⟨f, fd, ps, F, hm, kp, b⟩ := cl.ex
  exact DX.mk (pe_call F (hr.mono hk) hg hm kp b .nil pass0 pa_w hdb he hpl) fun σ H s r Q q => ha σ H s r _ fun vs H1 s1 e1 => ⟨ds, P, by rw [List.append_nil]; exact e1, hS H1 (s.trans s1), fun d v H2 p2 e2 t2 => q d v H2 ⟨p2, (s.trans s1).trans t2⟩ e2 (r.mono (s1.trans t2))⟩
/-- a return of a value that was made on the way -/
theorem dx_of (h : DX X e ρ B P) : DX X e ρ B P := h
theorem DX.imp {P' : D → Hp → Prop} (h : DX X e ρ B P) (i : ∀ d H, P d H → P' d H) : DX X e ρ B P' := fun σ H s r Q q => h σ H s r Q fun d v H' p e r' => q d v H' (i d H' p) e r'
end
section
variable {P : Program} {w : World} {K : PySem.W.Frag} {mg : Str → Option Value} {base : Heap} {x m qual : Str} {st : Stmt} {f C : Addr} {fd : FuncData} {Ns ps : List Str} {k : Nat}
theorem okN {S : Hp → List D → (D → Hp → Prop) → Prop} (F : Fun K x qual st f fd) (sc : FnScope Ns ps (defScope st)) (hps : ps.length ≤ Ns.length) (hl : ∀ H ds Ψ, S H ds Ψ → ds.length = ps.length)
    (h : ∀ (cdv : Value) (A : Around) (outer : List Env) (s : Shared) (H : Hp) (E : XK), Room k (A.deeper (envOfC qual (defScope st) s.heap.objs.size f cdv)) → ∀ ds Ψ, S H ds Ψ →
      DSs (cxD P w K mg base Ns qual st f cdv A outer s H E) (defBody st) (slots Ns ds) H (fun _ H' => Ψ .non H' ∧ Sx H H') (fun d' H' => Ψ d' H' ∧ Sx H H')) : FnOk P w K mg base CX0 (k + 1) f fd ps (spN S) := by
  refine F.ok sc (fun vs H Q E hs => ?_) (fun cdv A outer s H vs Q E hr hs => ?_)
  · obtain ⟨ds, Ψ, h1, h2, _⟩ := hs
    rw [← h1.length, hl _ _ _ h2]
  · obtain ⟨ds, Ψ, h1, h2, hq⟩ := hs
    refine ⟨_, pss_w, h cdv A outer s H E hr ds Ψ h2 (L2.start Ns vs) H (Sx.refl H) (rep_start h1 (by rw [hl _ _ _ h2]; exact hps)) _ (fun ρ' σ' H' n r => ?_) fun d' v H' z e => ?_⟩
    · exact hq .non .non H' n.1 rfl n.2
    · exact hq d' v H' z.1 e z.2
/-- .. an __init__ whose code object is known -/
theorem okG {S : Hp → Addr → List D → (Hp → Prop) → Prop} (F : Fun K x qual st f fd) {q : He.Defn} (hq : He.fAd K q = f) (sc : FnScope Ns ps (defScope st)) (hps : ps.length ≤ Ns.length) (hl : ∀ H y ds Ψ, S H y ds Ψ → ds.length + 1 = ps.length)
    (h : ∀ (A : Around) (outer : List Env) (s : Shared) (H : Hp) (E : XK), Room k (A.deeper (envOfC qual (defScope st) s.heap.objs.size f (.ref (He.codeOf K q)))) → ∀ y ds Ψ, Ins H y C [] → S H y ds Ψ →
      DSs (cxD P w K mg base Ns qual st f (.ref (He.codeOf K q)) A outer s H E) (defBody st) (slots Ns (.ref y :: ds)) H (fun _ H' => Ψ H' ∧ But [y] H H') (fun d' H' => d' = .non ∧ Ψ H' ∧ But [y] H H')) : FnOk P w K mg base CX0 (k + 1) f fd ps (spI C S) := by
  obtain ⟨oc, od, kw, doc, pm, an, cdv, ct, osl, rfl, lk, hcd⟩ := F.ex
  obtain ⟨c, rfl⟩ := He.codeIn_ref hcd
  have e : He.codeOf K q = c := He.codeOf_eq (by rw [hq]; exact lk) rfl
  subst e
  refine fn_of lk hcd sc (fun vs H Q E hs => ?_) fun A outer s H vs Q E hr hs => ?_
  · obtain ⟨y, ds, us, Ψ, ev, h1, hi, h2, _⟩ := hs
    rw [ev, List.length_cons, ← h1.length, hl _ _ _ _ h2]
  · obtain ⟨y, ds, us, Ψ, ev, h1, hi, h2, hq⟩ := hs
    subst ev
    refine ⟨_, PSs.nox pss_w, h A outer s H E hr y ds Ψ hi h2 (L2.start Ns (.ref y :: us)) H (Sx.refl H) (rep_start (DatL.cons rfl h1) (by rw [List.length_cons, hl _ _ _ _ h2]; exact hps)) _ (fun ρ' σ' H' n r => ?_) fun d' v H' z e => ?_⟩
    · exact hq H' n.1 n.2
    · obtain ⟨rfl, z1, z2⟩ := z
      rw [show v = V.non from e]
      exact hq H' z1 z2
theorem calF {S : Hp → List D → D → Prop} (hx : mg x = some (.ref f)) (fn : ∃ fd, Fun K x qual st f fd ∧ Binds K fd ps []) (sc : FnScope Ns ps (defScope st)) (hps : ps.length ≤ Ns.length) (hl : ∀ H ds d, S H ds d → ds.length = ps.length)
    (h : ∀ (cdv : Value) (A : Around) (outer : List Env) (s : Shared) (H : Hp) (E : XK), Room k (A.deeper (envOfC qual (defScope st) s.heap.objs.size f cdv)) → ∀ ds d, S H ds d →
      DSs (cxD P w K mg base Ns qual st f cdv A outer s H E) (defBody st) (slots Ns ds) H (fun _ H' => d = .non ∧ Sx H H') (fun d' H' => d' = d ∧ Sx H H')) : Cal P w K mg base (k + 1) x (spF S) := by
  obtain ⟨fd, F, b⟩ := fn
  exact ⟨f, fd, ps, okF F sc hps hl h, hx, F.kp, b⟩
theorem metF {S : Hp → List D → D → Prop} (c : Cls K C) (hm : Meth K C m f) (fn : ∃ fd, Fun K x qual st f fd ∧ Binds K fd ps []) (sc : FnScope Ns ps (defScope st)) (hps : ps.length ≤ Ns.length) (hl : ∀ H ds d, S H ds d → ds.length = ps.length)
    (h : ∀ (cdv : Value) (A : Around) (outer : List Env) (s : Shared) (H : Hp) (E : XK), Room k (A.deeper (envOfC qual (defScope st) s.heap.objs.size f cdv)) → ∀ ds d, S H ds d →
      DSs (cxD P w K mg base Ns qual st f cdv A outer s H E) (defBody st) (slots Ns ds) H (fun _ H' => d = .non ∧ Sx H H') (fun d' H' => d' = d ∧ Sx H H')) : Met P w K mg base (k + 1) C m (spF S) := by
  obtain ⟨fd, F, b⟩ := fn
  exact ⟨f, fd, ps, c, hm, okF F sc hps hl h, b⟩
theorem calN {S : Hp → List D → (D → Hp → Prop) → Prop} (hx : mg x = some (.ref f)) (fn : ∃ fd, Fun K x qual st f fd ∧ Binds K fd ps []) (sc : FnScope Ns ps (defScope st)) (hps : ps.length ≤ Ns.length) (hl : ∀ H ds Ψ, S H ds Ψ → ds.length = ps.length)
    (h : ∀ (cdv : Value) (A : Around) (outer : List Env) (s : Shared) (H : Hp) (E : XK), Room k (A.deeper (envOfC qual (defScope st) s.heap.objs.size f cdv)) → ∀ ds Ψ, S H ds Ψ →
      DSs (cxD P w K mg base Ns qual st f cdv A outer s H E) (defBody st) (slots Ns ds) H (fun _ H' => Ψ .non H' ∧ Sx H H') (fun d' H' => Ψ d' H' ∧ Sx H H')) : Cal P w K mg base (k + 1) x (spN S) := by
  obtain ⟨fd, F, b⟩ := fn
  exact ⟨f, fd, ps, okN F sc hps hl h, hx, F.kp, b⟩
theorem metX {S : Hp → List D → (D → Hp → Prop) → Prop} (c : Cls K C) (hm : Meth K C m f) (fn : ∃ fd, Fun K x qual st f fd ∧ Binds K fd ps []) (sc : FnScope Ns ps (defScope st)) (hps : ps.length ≤ Ns.length) (hl : ∀ H ds Ψ, S H ds Ψ → ds.length = ps.length)
    (h : ∀ (cdv : Value) (A : Around) (outer : List Env) (s : Shared) (H : Hp) (E : XK), Room k (A.deeper (envOfC qual (defScope st) s.heap.objs.size f cdv)) → ∀ ds Ψ, S H ds Ψ →
      DSs (cxD P w K mg base Ns qual st f cdv A outer s H E) (defBody st) (slots Ns ds) H (fun _ H' => Ψ .non H' ∧ SameT H H') (fun d' H' => Ψ d' H' ∧ SameT H H')) : Met P w K mg base (k + 1) C m (spX S) := by
  obtain ⟨fd, F, b⟩ := fn
  exact ⟨f, fd, ps, c, hm, okX F sc hps hl h, b⟩
theorem makI {S : Hp → Addr → List D → (Hp → Prop) → Prop} (M : Mk K C f) (hx : mg x = some (.ref C)) (fn : ∃ fd, Fun K m qual st f fd ∧ Binds K fd ps []) (sc : FnScope Ns ps (defScope st)) (hps : ps.length ≤ Ns.length) (hl : ∀ H y ds Ψ, S H y ds Ψ → ds.length + 1 = ps.length)
    (h : ∀ (cdv : Value) (A : Around) (outer : List Env) (s : Shared) (H : Hp) (E : XK), Room k (A.deeper (envOfC qual (defScope st) s.heap.objs.size f cdv)) → ∀ y ds Ψ, Ins H y C [] → S H y ds Ψ →
      DSs (cxD P w K mg base Ns qual st f cdv A outer s H E) (defBody st) (slots Ns (.ref y :: ds)) H (fun _ H' => Ψ H' ∧ But [y] H H') (fun d' H' => d' = .non ∧ Ψ H' ∧ But [y] H H')) : Mak P w K mg base (k + 1) x C (spI C S) [] := by
  obtain ⟨fd, F, b⟩ := fn
  exact ⟨f, fd, ps, [], M, okI F sc hps hl h, hx, b, .nil⟩
theorem makG {S : Hp → Addr → List D → (Hp → Prop) → Prop} (M : Mk K C f) (hx : mg x = some (.ref C)) (fn : ∃ fd, Fun K m qual st f fd ∧ Binds K fd ps []) {q : He.Defn} (hq : He.fAd K q = f) (sc : FnScope Ns ps (defScope st)) (hps : ps.length ≤ Ns.length) (hl : ∀ H y ds Ψ, S H y ds Ψ → ds.length + 1 = ps.length)
    (h : ∀ (A : Around) (outer : List Env) (s : Shared) (H : Hp) (E : XK), Room k (A.deeper (envOfC qual (defScope st) s.heap.objs.size f (.ref (He.codeOf K q)))) → ∀ y ds Ψ, Ins H y C [] → S H y ds Ψ →
      DSs (cxD P w K mg base Ns qual st f (.ref (He.codeOf K q)) A outer s H E) (defBody st) (slots Ns (.ref y :: ds)) H (fun _ H' => Ψ H' ∧ But [y] H H') (fun d' H' => d' = .non ∧ Ψ H' ∧ But [y] H H')) : Mak P w K mg base (k + 1) x C (spI C S) [] := by
  obtain ⟨fd, F, b⟩ := fn
  exact ⟨f, fd, ps, [], M, okG F hq sc hps hl h, hx, b, .nil⟩
theorem makGd {S : Hp → Addr → List D → (Hp → Prop) → Prop} {dvs : List V} (M : Mk K C f) (hx : mg x = some (.ref C)) (fn : ∃ fd ds, Fun K m qual st f fd ∧ Vals dvs ds ∧ Binds K fd ps ds) {q : He.Defn} (hq : He.fAd K q = f) (sc : FnScope Ns ps (defScope st)) (hps : ps.length ≤ Ns.length) (hl : ∀ H y ds Ψ, S H y ds Ψ → ds.length + 1 = ps.length)
    (h : ∀ (A : Around) (outer : List Env) (s : Shared) (H : Hp) (E : XK), Room k (A.deeper (envOfC qual (defScope st) s.heap.objs.size f (.ref (He.codeOf K q)))) → ∀ y ds Ψ, Ins H y C [] → S H y ds Ψ →
      DSs (cxD P w K mg base Ns qual st f (.ref (He.codeOf K q)) A outer s H E) (defBody st) (slots Ns (.ref y :: ds)) H (fun _ H' => Ψ H' ∧ But [y] H H') (fun d' H' => d' = .non ∧ Ψ H' ∧ But [y] H H')) : Mak P w K mg base (k + 1) x C (spI C S) dvs := by
  obtain ⟨fd, ds, F, v, b⟩ := fn
  exact ⟨f, fd, ps, ds, M, okG F hq sc hps hl h, hx, b, v⟩
end
end K5
namespace K5
open PySem PySem.Spec PyProof.Rows L2
/-- the i-th statement; the suites of a statement -/
def stN (b : List Stmt) (i : Nat) : Stmt := b.getD i (.Pass ⟨0, 0, 0, 0⟩)
def su1 : Stmt → List Stmt
  | .While _ b _ _ => b
  | .For _ _ b _ _ => b
  | .If _ b _ _ => b
  | _ => []
def su2 : Stmt → List Stmt
  | .If _ _ b _ => b
  | _ => []
section
variable {X : Cx} {e a b c o i : Expr} {es bd0 : List Expr} {bd el rest : List Stmt} {ρ : Rho} {B : Hp} {d d1 d2 : D} {ds ds2 : List D} {N N1 : Rho → Hp → Prop} {R : D → Hp → Prop} {pos px apos pos' cpos : Pos} {p : Addr} {m n : Int} {x y : Str} {kb : Bool} {dt : List (List L2.Key × D)} {key : List L2.Key} {k : Nat}
theorem dt_lt (ha : DE X a ρ B (.int m)) (hb : DE X b ρ B (.int n)) : DT X (.Compare a [.Lt] [b] pos) ρ B (decide (m < n)) := dt_cmp op_lt (nomark _) ha hb fun H x y _ e1 e2 Q q => ⟨m, n, e1, e2, q H (Sx.refl H)⟩
theorem dt_le (ha : DE X a ρ B (.int m)) (hb : DE X b ρ B (.int n)) : DT X (.Compare a [.LtE] [b] pos) ρ B (decide (m ≤ n)) := dt_cmp op_le (nomark _) ha hb fun H x y _ e1 e2 Q q => ⟨m, n, e1, e2, q H (Sx.refl H)⟩
theorem dt_gt (ha : DE X a ρ B (.int m)) (hb : DE X b ρ B (.int n)) : DT X (.Compare a [.Gt] [b] pos) ρ B (decide (n < m)) := dt_cmp op_gt (nomark _) ha hb fun H x y _ e1 e2 Q q => ⟨m, n, e1, e2, q H (Sx.refl H)⟩
theorem dt_ge (ha : DE X a ρ B (.int m)) (hb : DE X b ρ B (.int n)) : DT X (.Compare a [.GtE] [b] pos) ρ B (decide (n ≤ m)) := dt_cmp op_ge (nomark _) ha hb fun H x y _ e1 e2 Q q => ⟨m, n, e1, e2, q H (Sx.refl H)⟩
theorem dt_eq (ha : DE X a ρ B (.int m)) (hb : DE X b ρ B (.int n)) : DT X (.Compare a [.Eq] [b] pos) ρ B (decide (m = n)) := dt_cmp op_eq (nomark _) ha hb fun H x y _ e1 e2 Q q => by
  cases e1
  cases e2
  refine ⟨rfl, ?_⟩
  rw [show decide (V.int m = V.int n) = decide (m = n) from decide_eq_decide.mpr ⟨fun h => V.int.inj h, fun h => congrArg V.int h⟩]
  exact q H (Sx.refl H)
theorem dt_ne (ha : DE X a ρ B (.int m)) (hb : DE X b ρ B (.int n)) : DT X (.Compare a [.NotEq] [b] pos) ρ B (!decide (m = n)) := dt_cmp op_ne (nomark _) ha hb fun H x y _ e1 e2 Q q => by
  cases e1
  cases e2
  refine ⟨rfl, ?_⟩
  rw [show decide (V.int m = V.int n) = decide (m = n) from decide_eq_decide.mpr ⟨fun h => V.int.inj h, fun h => congrArg V.int h⟩]
  exact q H (Sx.refl H)
theorem dt_eqS (ha : DE X a ρ B (.str x)) (hb : DE X b ρ B (.str y)) : DT X (.Compare a [.Eq] [b] pos) ρ B (decide (x = y)) := dt_cmp op_eq (nomark _) ha hb fun H x1 y1 _ e1 e2 Q q => by
  cases e1
  cases e2
  refine ⟨rfl, ?_⟩
  rw [show decide (V.str x = V.str y) = decide (x = y) from decide_eq_decide.mpr ⟨fun h => V.str.inj h, fun h => congrArg V.str h⟩]
  exact q H (Sx.refl H)
theorem dt_neS (ha : DE X a ρ B (.str x)) (hb : DE X b ρ B (.str y)) : DT X (.Compare a [.NotEq] [b] pos) ρ B (!decide (x = y)) := dt_cmp op_ne (nomark _) ha hb fun H x1 y1 _ e1 e2 Q q => by
  cases e1
  cases e2
  refine ⟨rfl, ?_⟩
  rw [show decide (V.str x = V.str y) = decide (x = y) from decide_eq_decide.mpr ⟨fun h => V.str.inj h, fun h => congrArg V.str h⟩]
  exact q H (Sx.refl H)
theorem dt_isN (ha : DE X a ρ B d) {j : Nat} {p2 : Pos} : DT X (.Compare a [.Is] [.Constant .none j p2] pos) ρ B (isN d) := dt_cmp op_isN (nomark _) ha de_non fun H x y _ e1 e2 Q q => by
  refine ⟨e2, ?_⟩
  rw [e1.isN]
  exact q H (Sx.refl H)
theorem dt_notN (ha : DE X a ρ B d) {j : Nat} {p2 : Pos} : DT X (.Compare a [.IsNot] [.Constant .none j p2] pos) ρ B (!isN d) := dt_cmp op_notN (nomark _) ha de_non fun H x y _ e1 e2 Q q => by
  refine ⟨e2, ?_⟩
  rw [e1.isN]
  exact q H (Sx.refl H)
/-- an expression that is a comparison, as a test: its value is a bool -/
theorem dt_ofCmp {op : CmpOp} (h : DE X (.Compare a [op] [b] pos) ρ B (.bl kb)) (t : ∀ te, PE X (.Compare a [op] [b] pos) te → PT X (.Compare a [op] [b] pos) (tTest te)) : DT X (.Compare a [op] [b] pos) ρ B kb :=
  fun σ H s r Q q => wT_of (t _ pe_w) (h σ H s r _ fun v H' s' e => ⟨kb, e, q H' s'⟩)
/-- a < b < c of ints -/
theorem dt_leLt {l : Int} (ha : DE X a ρ B (.int m)) (hb : DE X b ρ B (.int n)) (hc : DE X c ρ B (.int l)) (hm : lastMarks [CmpOp.LtE, CmpOp.Lt] [b, c] = false := by with_unfolding_all rfl) : DT X (.Compare a [.LtE, .Lt] [b, c] pos) ρ B (decide (m ≤ n) && decide (n < l)) :=
  dt_chain (p := fun i j => decide (i ≤ j)) (p' := fun i j => decide (i < j)) op_le op_lt ha hb hc (pt_chain op_le op_lt pe_w pe_w pe_w hm)
theorem dt_leLe {l : Int} (ha : DE X a ρ B (.int m)) (hb : DE X b ρ B (.int n)) (hc : DE X c ρ B (.int l)) (hm : lastMarks [CmpOp.LtE, CmpOp.LtE] [b, c] = false := by with_unfolding_all rfl) : DT X (.Compare a [.LtE, .LtE] [b, c] pos) ρ B (decide (m ≤ n) && decide (n ≤ l)) :=
  dt_chain (p := fun i j => decide (i ≤ j)) (p' := fun i j => decide (i ≤ j)) op_le op_le ha hb hc (pt_chain op_le op_le pe_w pe_w pe_w hm)
theorem dss_if (N1 : Rho → Hp → Prop) (hc : DT X c ρ B kb) (hT : kb = true → DSs X bd ρ B N1 R) (hF : kb = false → DSs X el ρ B N1 R) (h : ∀ ρ1 H1, N1 ρ1 H1 → DSs X rest ρ1 H1 N R) : DSs X (.If c bd el pos :: rest) ρ B N R := by
  cases kb with
  | true => exact dss_ifT hc (hT rfl) h
  | false => exact dss_ifF hc (hF rfl) h
theorem dss_app (ho : DE X o ρ B (.ref p)) (he : DE X e ρ B d) (hL : LstAt B p ds) (hz : ds.length < 100000) (pn : Plain ρ) (hn : noLs ds = true) (hd : noL d = true) (h : ∀ H1, But [p] B H1 → SameT B H1 → LstAt H1 p (ds ++ [d]) → DSs X rest ρ H1 N R)
    (hbase : attributeBase o "append" X.env (eval o X.env) = eval o X.env := by rfl)
    (hfew : ((backTo pos' (starEach [e] X.env)).all (fun x => !x.1) && (backToKw pos' (keywordEach [] X.env)).all (fun x => x.1.isSome) && decide ([e].length + ([] : List Keyword).length + (if ([] : List Keyword).isEmpty then 0 else 1) < 30)) = true := by rfl)
    (hline : (apos.endLine == pos'.line) = true := by rfl) (hst : starEach [e] X.env = (false, eval e X.env) :: starEach [] X.env := by rfl) (hpl : (backTo pos' (starEach [] X.env)).any (·.1) = false := by rfl)
    (hs : swapsWith (.Call (.Attribute o "append" apos) [e] [] pos') none pos.line X.env = pure false := by rfl) : DSs X (.Expr (.Call (.Attribute o "append" apos) [e] [] pos') pos :: rest) ρ B N R :=
  dss_append (a2 := e) ho he hL hz pn hn hd h (pe_bm PySem.F.plainAttrs_list PySem.F.slot_list_append PySem.F.type_list_append mt_append pe_w (pa_cons pe_w pa_nil hst) hbase hfew hline hst hpl) hs
theorem dss_ext (ho : DE X o ρ B (.ref p)) (he : DE X e ρ B (.lst ds2)) (hL : LstAt B p ds) (hz : ds.length + ds2.length < 100000) (pn : Plain ρ) (hn : noLs ds = true) (hd : noLs ds2 = true) (h : ∀ H1, But [p] B H1 → SameT B H1 → LstAt H1 p (ds ++ ds2) → DSs X rest ρ H1 N R)
    (hbase : attributeBase o "extend" X.env (eval o X.env) = eval o X.env := by rfl)
    (hfew : ((backTo pos' (starEach [e] X.env)).all (fun x => !x.1) && (backToKw pos' (keywordEach [] X.env)).all (fun x => x.1.isSome) && decide ([e].length + ([] : List Keyword).length + (if ([] : List Keyword).isEmpty then 0 else 1) < 30)) = true := by rfl)
    (hline : (apos.endLine == pos'.line) = true := by rfl) (hst : starEach [e] X.env = (false, eval e X.env) :: starEach [] X.env := by rfl) (hpl : (backTo pos' (starEach [] X.env)).any (·.1) = false := by rfl)
    (hs : swapsWith (.Call (.Attribute o "extend" apos) [e] [] pos') none pos.line X.env = pure false := by rfl) : DSs X (.Expr (.Call (.Attribute o "extend" apos) [e] [] pos') pos :: rest) ρ B N R :=
  dss_extend ho he hL hz pn hn hd h (pe_bm PySem.F.plainAttrs_list PySem.F.slot_list_extend PySem.F.type_list_extend mt_extend pe_w (pa_cons pe_w pa_nil hst) hbase hfew hline hst hpl) hs
/-- l.index(i), l a list of ints by its items -/
theorem de_index {ns : List Int} {j : Nat} (ho : DE X o ρ B (.lst (ns.map D.int))) (he : DE X e ρ B (.int n)) (hj : ns[j]? = some n) (hno : ∀ (i : Nat) z, i < j → ns[i]? = some z → z ≠ n)
    (hbase : attributeBase o "index" X.env (eval o X.env) = eval o X.env := by rfl)
    (hfew : ((backTo pos (starEach [e] X.env)).all (fun x => !x.1) && (backToKw pos (keywordEach [] X.env)).all (fun x => x.1.isSome) && decide ([e].length + ([] : List Keyword).length + (if ([] : List Keyword).isEmpty then 0 else 1) < 30)) = true := by rfl)
    (hline : (apos.endLine == pos.line) = true := by rfl) (hst : starEach [e] X.env = (false, eval e X.env) :: starEach [] X.env := by rfl) (hpl : (backTo pos (starEach [] X.env)).any (·.1) = false := by rfl) : DE X (.Call (.Attribute o "index" apos) [e] [] pos) ρ B (.int (j : Int)) :=
  DE.mk (pe_bm PySem.F.plainAttrs_list PySem.F.slot_list_index PySem.F.type_list_index mt_index pe_w (pa_cons pe_w pa_nil hst) hbase hfew hline hst hpl) fun σ H s r Q q => ho σ H s r _ fun v H1 s1 e1 => by
    obtain ⟨a, xs, rfl, ha, hx⟩ := e1
    have ex := hx.ints
    subst ex
    refine ⟨.inl ⟨rfl, _, SqL.of ha⟩, he σ H1 (s.trans s1) (r.mono s1) _ fun u H2 s2 e2 => ?_⟩
    rw [show u = V.int n from e2]
    have hg : ∀ (i : Nat) z, (ns.map V.int)[i]? = some z → ∃ z', ns[i]? = some z' ∧ z = V.int z' := fun i z h => by
      rw [List.getElem?_map] at h
      cases q : ns[i]? with
      | none => rw [q] at h; cases h
      | some z' =>
        rw [q] at h
        exact ⟨z', rfl, (Option.some.inj h).symm⟩
    refine ⟨a, ns.map V.int, V.int n, j, V.int n, rfl, rfl, SqL.of (s2.k a _ rfl ha), rfl, List.all_eq_true.mpr fun v hv => ?_, by rw [List.getElem?_map, hj]; rfl, by simp [eqV], fun i z hi hz => ?_, q _ H2 (s1.trans s2) rfl⟩
    · obtain ⟨i, _, rfl⟩ := List.mem_map.mp hv
      rfl
    · obtain ⟨z', h1, rfl⟩ := hg i z hz
      have := hno i z' hi h1
      simp [eqV, this]
end
end K5
namespace K5
open PySem PySem.Spec PyProof.Rows L2
abbrev iD (n : Nat) : D := .int (n : Int)
abbrev iDs (ns : List Nat) : List D := ns.map iD
theorem iDs_app (a b : List Nat) : iDs (a ++ b) = iDs a ++ iDs b := List.map_append
theorem noL_iDs : ∀ ns : List Nat, noLs (iDs ns) = true
  | [] => rfl
  | n :: ns => noL_iDs ns
theorem iDs_get {ns : List Nat} {i : Nat} {d : D} (h : (iDs ns)[i]? = some d) : ∃ n, ns[i]? = some n ∧ d = iD n := by
  rw [List.getElem?_map] at h
  cases q : ns[i]? with
  | none => rw [q] at h; cases h
  | some n =>
    rw [q] at h
    exact ⟨n, rfl, (Option.some.inj h).symm⟩
theorem foldl_take {α β : Type} (f : β → α → β) (z : β) {l : List α} {i : Nat} {x : α} (h : l[i]? = some x) : (l.take (i + 1)).foldl f z = f ((l.take i).foldl f z) x := by
  (rw [List.take_add_one, h, List.foldl_append])
  rfl
theorem tT {X : Cx} {e : Expr} {ρ : Rho} {B : Hp} {p q : Prop} [Decidable p] [Decidable q] (h : DT X e ρ B (decide p)) (i : p ↔ q) : DT X e ρ B (decide q) := h.is (decide_eq_decide.mpr i)
theorem blT {X : Cx} {e : Expr} {ρ : Rho} {B : Hp} {p q : Prop} [Decidable p] [Decidable q] (h : DE X e ρ B (.bl (decide p))) (i : p ↔ q) : DE X e ρ B (.bl (decide q)) := h.is (congrArg D.bl (decide_eq_decide.mpr i))
def numOf (b : Nat) (ns : List Nat) : Nat := ns.reverse.foldl (fun n s => n * b + s) 0
def digs (b n : Nat) : List Nat := if h : n = 0 ∨ b < 2 then [] else n % b :: digs b (n / b)
termination_by n
decreasing_by exact Nat.div_lt_self (by omega) (by omega)
def prodW (l : List (Nat × Nat)) : Nat := l.foldl (fun a q => a * q.1 ^ q.2) 1
def ipb (n : Nat) : List Nat → Bool
  | [] => true
  | p :: ps => if p * p > n then true else if n % p = 0 then false else ipb n ps
section
variable {P : Program} {w : World} {K : PySem.W.Frag} {mg : Str → Option Value} {base : Heap} (T : Tx K mg)
include T
def S_number_of : Hp → List D → D → Prop := fun _ ds d => ∃ ns b, b < 100 ∧ ds = [.tup (iDs ns), iD b] ∧ d = iD (numOf b ns)
theorem ok_number_of : Cal P w K mg base 1 "number_of" (spF S_number_of) := by
  refine calF T.g_number_of (fn_number_of T) sc_number_of (by decide) (fun H ds d h => by obtain ⟨ns, b, _, rfl, _⟩ := h; rfl) fun cdv A outer s H E hr ds d hS => ?_
  obtain ⟨ns, b, hb, rfl, rfl⟩ := hS
  have nd := sc_number_of.nd
  refine dss_asg 2 nd de_int ?_
  refine dss_forT (fun H0 i ρ' H' => Sx H0 H' ∧ ρ' = [some (.tup (iDs ns)), some (iD b), some (iD ((ns.reverse.take i).foldl (fun n s => n * b + s) 0)), none]) (de_revT (de_var 0 rfl)) ?_ ?_ ?_ ?_ ?_
  · rw [← List.map_reverse]
    exact noL_iDs _
  · exact fun H s => ⟨_, Wk.refl _, Sx.refl _, rfl⟩
  · exact fun _ _ _ _ p => p.1.tt
  · rintro H0 s0 i d ρ' H' hd ⟨s1, rfl⟩
    rw [← List.map_reverse] at hd
    obtain ⟨x, hx, rfl⟩ := iDs_get hd
    refine ⟨_, dg_name 3 nd, dss_asg 2 nd (de_add (de_mul (de_var 2 rfl) (de_var 1 rfl) (.inr ⟨by omega, by omega⟩)) (de_var 3 rfl)) (dss_nil fun H2 s2 => ⟨[_, _, some (iD ((ns.reverse.take (i + 1)).foldl (fun n s => n * b + s) 0)), none], ?_, s1.trans s2, rfl⟩)⟩
    rw [foldl_take _ _ hx]
    exact .same (.same (.same (.drop .nil)))
  · rintro H0 s0 ρ' H' ⟨s1, rfl⟩
    refine dss_ret (de_var 2 rfl) fun H2 s2 => ⟨?_, s0.trans (s1.trans s2)⟩
    rw [List.length_reverse, List.length_map, ← List.length_reverse, List.take_length]
    rfl
def S_symbols_of : Hp → List D → D → Prop := fun _ ds d => ∃ n b, 2 ≤ b ∧ b < 100 ∧ n < 2 ^ 60 ∧ ds = [iD n, iD b] ∧ d = .tup (iDs (digs b n))
theorem ok_symbols_of : Cal P w K mg base 1 "symbols_of" (spF S_symbols_of) := by
  refine calF T.g_symbols_of (fn_symbols_of T) sc_symbols_of (by decide) (fun H ds d h => by obtain ⟨ns, b, _, _, _, rfl, _⟩ := h; rfl) fun cdv A outer s H E hr ds d hS => ?_
  obtain ⟨n0, b, hb2, hb, hn, rfl, rfl⟩ := hS
  have nd := sc_symbols_of.nd
  refine dss_asgX 2 nd (dx_lst da_nil) fun d1 H1 q1 => ?_
  obtain ⟨p, rfl, bp, lp, s1⟩ := q1
  refine dss_while (fun m ρ' H' => ∃ done, Sx H H' ∧ LstAt H' p (iDs done) ∧ done.length + m < 2 ^ 60 + 1 ∧ iDs (digs b n0) = iDs (done ++ digs b m) ∧ done.length ≤ 70 ∧ (m * 2 ^ done.length ≤ n0) ∧ ρ' = [some (iD m), some (iD b), some (.ref p)]) ?_ ?_
  · exact fun H2 s2 => ⟨n0, _, Wk.refl _, [], s1.trans s2, lp.mono s2, by simp; omega, rfl, by simp, by simp, rfl⟩
  · rintro m ρ' H' ⟨done, s2, l2, hm, he, h70, hle, rfl⟩
    refine ⟨decide (0 < m), tT (dt_gt (de_var 0 rfl) de_int) (by omega), fun hk => ?_, fun hk => ?_⟩
    · have hpos : 0 < m := of_decide_eq_true hk
      have hl60 : done.length < 60 := by
        rcases Nat.lt_or_ge done.length 60 with q | q
        · exact q
        · have h1 : 2 ^ 60 ≤ 2 ^ done.length := Nat.pow_le_pow_right (by omega) q
          have h2 : 1 * 2 ^ 60 ≤ m * 2 ^ done.length := Nat.mul_le_mul hpos h1
          omega
      refine dss_app (de_var 2 rfl) (de_int1 T.f_int (de_mod (de_var 0 rfl) (de_var 1 rfl) (by omega))) l2 (by rw [List.length_map]; omega) (.cons rfl (.cons rfl (.cons rfl .nil))) (noL_iDs _) rfl (fun H3 b3 t3 l3 => ?_)
      refine dss_asg 0 nd (de_fdiv (de_var 0 rfl) (de_var 1 rfl) ⟨by omega, by omega⟩) (dss_nil fun H4 s4 => ?_)
      refine ⟨m / b, _, Nat.div_lt_self hpos (by omega), Wk.refl _, done ++ [m % b], ?_⟩
      have s3 : Sx H H3 := b3.same s2 (fun a ha => by rw [show a = p by simpa using ha]; exact bp)
      refine ⟨s3.trans s4, by rw [iDs_app]; exact l3.mono s4, ?_, ?_, by rw [List.length_append, List.length_singleton]; omega, ?_, rfl⟩
      · have : m / b < m := Nat.div_lt_self hpos (by omega)
        (rw [List.length_append, List.length_singleton])
        omega
      · rw [he]
        congr 1
        rw [List.append_assoc]
        congr 1
        rw [digs, dif_neg (by omega)]
        rfl
      · rw [List.length_append, List.length_singleton, Nat.pow_succ]
        have h1 : m / b * b ≤ m := Nat.div_mul_le_self m b
        have h2 : m / b * 2 ≤ m := Nat.le_trans (Nat.mul_le_mul_left _ hb2) h1
        calc m / b * (2 ^ done.length * 2) = (m / b * 2) * 2 ^ done.length := by rw [Nat.mul_comm (2 ^ done.length) 2, Nat.mul_assoc]
          _ ≤ m * 2 ^ done.length := Nat.mul_le_mul_right _ h2
          _ ≤ n0 := hle
    · have hz : m = 0 := by
        have := of_decide_eq_false hk
        omega
      subst hz
      refine dss_ret (de_tupleA T.f_tuple (de_var 2 rfl) l2) fun H3 s3 => ⟨?_, s2.trans s3⟩
      rw [he]
      congr 1
      rw [digs, dif_pos (.inl rfl), List.append_nil]
def S_check_picture : Hp → List D → D → Prop := fun _ ds d => ∃ n, n ≤ 100000 ∧ ds = [iD n] ∧ d = .non
theorem ok_check_picture : Cal P w K mg base 1 "check_picture" (spF S_check_picture) := by
  refine calF T.g_check_picture (fn_check_picture T) sc_check_picture (by decide) (fun H ds d h => by obtain ⟨n, _, rfl, _⟩ := h; rfl) fun cdv A outer s H E hr ds d hS => ?_
  obtain ⟨n, hn, rfl, rfl⟩ := hS
  refine dss_skip ((dt_gt (de_var 0 rfl) (de_gint T.i_MOST_PICTURE)).is (decide_eq_false (by omega))) (dss_nil fun H2 s2 => ⟨rfl, s2⟩)
def S_power : Hp → List D → D → Prop := fun _ ds d => ∃ b c : Nat, 1 ≤ b ∧ c < 1000 ∧ b ^ c < 2 ^ 62 ∧ ds = [iD b, iD c] ∧ d = iD (b ^ c)
theorem ok_power : Cal P w K mg base 1 "power" (spF S_power) := by
  refine calF T.g_power (fn_power T) sc_power (by decide) (fun H ds d h => by obtain ⟨b, c, _, _, _, rfl, _⟩ := h; rfl) fun cdv A outer s H E hr ds d hS => ?_
  obtain ⟨b0, c0, h1, hc0, hlt, rfl, rfl⟩ := hS
  have nd := sc_power.nd
  refine dss_asg 2 nd de_int ?_
  refine dss_while (fun c ρ' H' => ∃ b p : Nat, Sx H H' ∧ 1 ≤ b ∧ 1 ≤ p ∧ c < 1000 ∧ p * b ^ c = b0 ^ c0 ∧ ρ' = [some (iD b), some (iD c), some (iD p)]) ?_ ?_
  · exact fun H2 s2 => ⟨c0, _, Wk.refl _, b0, 1, s2, h1, Nat.le_refl _, hc0, by simp, rfl⟩
  · rintro c ρ' H' ⟨b, p, s2, hb, hp, hc, hI, rfl⟩
    refine ⟨decide (0 < c), tT (dt_gt (de_var 1 rfl) de_int) (by omega), fun hk => ?_, fun hk => ?_⟩
    · have hpos : 0 < c := of_decide_eq_true hk
      have hbb : b ≤ b0 ^ c0 := by
        rw [← hI]
        have h2 : b ^ 1 ≤ b ^ c := Nat.pow_le_pow_right hb hpos
        rw [Nat.pow_one] at h2
        calc b ≤ b ^ c := h2
          _ = 1 * b ^ c := (Nat.one_mul _).symm
          _ ≤ p * b ^ c := Nat.mul_le_mul_right _ hp
      have hpp : p ≤ b0 ^ c0 := by
        rw [← hI]
        have h2 : 1 ≤ b ^ c := Nat.one_le_pow _ _ hb
        calc p = p * 1 := (Nat.mul_one _).symm
          _ ≤ p * b ^ c := Nat.mul_le_mul_left _ h2
      refine dss_if (fun ρ1 H1 => Sx H H1 ∧ ∃ p' : Nat, 1 ≤ p' ∧ p' * (b * b) ^ (c / 2) = b0 ^ c0 ∧ ρ1 = [some (iD b), some (iD c), some (iD p')]) (tT (q := c % 2 = 1) (dt_eq (de_mod (de_var 1 rfl) de_int (by omega)) de_int) (by omega)) (fun hk2 => ?_) (fun hk2 => ?_) ?_
      · have ho : c % 2 = 1 := of_decide_eq_true hk2
        refine dss_asg 2 nd (de_mul (de_var 2 rfl) (de_var 0 rfl) (.inl ⟨by omega, by omega⟩)) (dss_nil fun H3 s3 => ⟨s2.trans s3, p * b, Nat.mul_pos hp hb, ?_, rfl⟩)
        rw [← hI]
        have e1 : c = 2 * (c / 2) + 1 := by omega
        rw [← Nat.pow_two, ← Nat.pow_mul]
        conv => rhs; rw [e1, Nat.pow_succ]
        rw [Nat.mul_assoc, Nat.mul_comm b]
      · have ho : ¬ c % 2 = 1 := of_decide_eq_false hk2
        refine dss_nil fun H3 s3 => ⟨s2.trans s3, p, hp, ?_, rfl⟩
        rw [← hI]
        have e1 : c = 2 * (c / 2) := by omega
        rw [← Nat.pow_two, ← Nat.pow_mul]
        conv => rhs; rw [e1]
      · rintro ρ1 H1 ⟨s3, p', hp', hI', rfl⟩
        refine dss_asg 0 nd (de_mul (de_var 0 rfl) (de_var 0 rfl) (.inl ⟨by omega, by omega⟩)) (dss_asg 1 nd (de_fdiv (de_var 1 rfl) de_int ⟨by omega, by omega⟩) (dss_nil fun H4 s4 => ?_))
        exact ⟨c / 2, _, Nat.div_lt_self hpos (by omega), Wk.refl _, b * b, p', s3.trans s4, Nat.mul_pos hb hb, hp', by omega, hI', rfl⟩
    · have hz : c = 0 := by
        have := of_decide_eq_false hk
        omega
      subst hz
      refine dss_ret (de_var 2 rfl) fun H3 s3 => ⟨?_, s2.trans s3⟩
      rw [← hI, Nat.pow_zero, Nat.mul_one]
def S_product_of : Hp → List D → D → Prop := fun _ ds d => ∃ l : List (Nat × Nat), (∀ q ∈ l, 1 ≤ q.1 ∧ q.2 < 1000 ∧ q.1 ^ q.2 < 2 ^ 62) ∧ (∀ i, prodW (l.take i) < 2 ^ 62) ∧ ds = [.lst (iDs (l.map (·.1))), .tup (iDs (l.map (·.2)))] ∧ d = iD (prodW l)
theorem ok_product_of : Cal P w K mg base 2 "product_of" (spF S_product_of) := by
  have hpw := ok_power (P := P) (w := w) (base := base) T
  refine calF T.g_product_of (fn_product_of T) sc_product_of (by decide) (fun H ds d h => by obtain ⟨l, _, _, rfl, _⟩ := h; rfl) fun cdv A outer s H E hr ds d hS => ?_
  obtain ⟨l, h1, h2, rfl, rfl⟩ := hS
  have nd := sc_product_of.nd
  refine dss_asg 2 nd de_int ?_
  refine dss_forZ (fun H0 i ρ' H' => Sx H0 H' ∧ ρ' = [some (.lst (iDs (l.map (·.1)))), some (.tup (iDs (l.map (·.2)))), some (iD (prodW (l.take i))), none, none]) (de_var 0 rfl) (de_var 1 rfl) (by simp) ?_ ?_ ?_ ?_ ?_ T.f_zip
  · exact fun H s => ⟨_, Wk.refl _, Sx.refl _, rfl⟩
  · exact fun _ _ _ _ p => p.1
  · rintro H0 i ρ' H' H'' ⟨p1, p2⟩ s
    exact ⟨p1.trans s, p2⟩
  · rintro H0 s0 i d d2 ρ' H' hd hd2 ⟨s1, rfl⟩
    obtain ⟨x, hx, rfl⟩ := iDs_get hd
    obtain ⟨y, hy, rfl⟩ := iDs_get hd2
    rw [List.getElem?_map] at hx hy
    obtain ⟨q, hq, rfl⟩ : ∃ q, l[i]? = some q ∧ q.1 = x := by
      cases z : l[i]? with
      | none => rw [z] at hx; cases hx
      | some q => rw [z] at hx; exact ⟨q, rfl, Option.some.inj hx⟩
    obtain rfl : q.2 = y := by
      rw [hq] at hy
      exact Option.some.inj hy
    obtain ⟨a1, a2, a3⟩ := h1 q (List.mem_of_getElem? hq)
    have a4 := h2 i
    refine ⟨_, dg_tup (dgs_cons (dg_name 3 nd) (dgs_cons (dg_name 4 nd) dgs_nil)), dss_asg 2 nd (de_mul (de_var 2 rfl) (de_call hpw hr (by decide) (da_cons (de_var 3 rfl) (da_cons (de_var 4 rfl) da_nil)) (fun H _ => ⟨q.1, q.2, a1, a2, a3, rfl, rfl⟩)) (.inl ⟨by omega, by omega⟩)) (dss_nil fun H2 s2 => ⟨[_, _, some (iD (prodW (l.take (i + 1)))), none, none], ?_, s1.trans s2, rfl⟩)⟩
    unfold prodW
    rw [foldl_take _ _ hq]
    exact .same (.same (.same (.drop (.drop .nil))))
  · rintro H0 s0 ρ' H' ⟨s1, rfl⟩
    refine dss_ret (de_var 2 rfl) fun H2 s2 => ⟨?_, s0.trans (s1.trans s2)⟩
    rw [List.length_map, List.length_map, List.take_length]
def S_exponent : Hp → List D → D → Prop := fun _ ds d => ∃ p k m : Nat, 2 ≤ p ∧ p < 1000 ∧ 1 ≤ m ∧ m % p ≠ 0 ∧ k < 10000 ∧ ds = [iD p, iD (p ^ k * m)] ∧ d = iD k
theorem ok_exponent : Cal P w K mg base 1 "exponent" (spF S_exponent) := by
  refine calF T.g_exponent (fn_exponent T) sc_exponent (by decide) (fun H ds d h => by obtain ⟨p, k, m, _, _, _, _, _, rfl, _⟩ := h; rfl) fun cdv A outer s H E hr ds d hS => ?_
  obtain ⟨p, k, m, hp, hp2, hm, hpm, hk1, rfl, rfl⟩ := hS
  have nd := sc_exponent.nd
  refine dss_asg 2 nd de_int ?_
  refine dss_while (fun j ρ' H' => Sx H H' ∧ j ≤ k ∧ ρ' = [some (iD p), some (iD (p ^ j * m)), some (iD (k - j))]) ?_ ?_
  · exact fun H2 s2 => ⟨k, _, Wk.refl _, s2, Nat.le_refl _, by rw [Nat.sub_self]; rfl⟩
  · rintro j ρ' H' ⟨s2, hj, rfl⟩
    refine ⟨decide ((p ^ j * m) % p = 0), tT (dt_eq (de_mod (de_var 1 rfl) (de_var 0 rfl) (by omega)) de_int) (by omega), fun hk => ?_, fun hk => ?_⟩
    · have h0 : (p ^ j * m) % p = 0 := of_decide_eq_true hk
      have hj0 : 0 < j := by
        rcases Nat.eq_zero_or_pos j with q | q
        · subst q
          rw [Nat.pow_zero, Nat.one_mul] at h0
          exact absurd h0 hpm
        · exact q
      obtain ⟨i, rfl⟩ : ∃ i, j = i + 1 := ⟨j - 1, by omega⟩
      have e1 : (p ^ (i + 1) * m) / p = p ^ i * m := by
        rw [Nat.pow_succ, Nat.mul_right_comm]
        exact Nat.mul_div_cancel _ (by omega)
      refine dss_asg 1 nd (d := iD (p ^ i * m)) ((de_fdiv (de_var 1 rfl) (de_var 0 rfl) ⟨by omega, by omega⟩).is ?_) (dss_aug 2 nd rfl de_int (dss_nil fun H4 s4 => ⟨i, [_, _, some (iD (k - i))], by omega, ?_, s2.trans s4, by omega, rfl⟩))
      · rw [← e1]
        rfl
      · have e2 : ((k - (i + 1) : Nat) : Int) + 1 = ((k - i : Nat) : Int) := by omega
        show Wk [_, _, some (D.int (((k - (i + 1) : Nat) : Int) + 1))] _
        rw [e2]
        exact Wk.refl _
    · have h0 : ¬ (p ^ j * m) % p = 0 := of_decide_eq_false hk
      have hj0 : j = 0 := by
        rcases Nat.eq_zero_or_pos j with q | q
        · exact q
        · obtain ⟨i, rfl⟩ : ∃ i, j = i + 1 := ⟨j - 1, by omega⟩
          exact absurd (by rw [Nat.pow_succ, Nat.mul_right_comm]; exact Nat.mul_mod_left _ _) h0
      subst hj0
      exact dss_ret (de_var 2 rfl) fun H3 s3 => ⟨rfl, s2.trans s3⟩
def S_ipb : Hp → List D → D → Prop := fun _ ds d => ∃ n ps, n < 1000 ∧ (∀ p ∈ ps, 0 < p ∧ p < 1000) ∧ ds = [iD n, .lst (iDs ps)] ∧ d = .bl (ipb n ps)
theorem ok_is_prime_beside : Cal P w K mg base 1 "is_prime_beside" (spF S_ipb) := by
  refine calF T.g_is_prime_beside (fn_is_prime_beside T) sc_is_prime_beside (by decide) (fun H ds d h => by obtain ⟨p, k, _, _, rfl, _⟩ := h; rfl) fun cdv A outer s H E hr ds d hS => ?_
  obtain ⟨n, ps, hn, hps, rfl, rfl⟩ := hS
  have nd := sc_is_prime_beside.nd
  refine dss_forL (fun H0 i ρ' H' => Sx H0 H' ∧ ipb n ps = ipb n (ps.drop i) ∧ ρ' = [some (iD n), some (.lst (iDs ps)), none]) (de_var 1 rfl) ?_ ?_ ?_ ?_
  · exact fun H s => ⟨_, Wk.refl _, Sx.refl _, rfl, rfl⟩
  · exact fun _ _ _ _ p => p.1.l
  · rintro H0 s0 i d ρ' H' hd ⟨s1, hi, rfl⟩
    obtain ⟨p, hp, rfl⟩ := iDs_get hd
    obtain ⟨p1, p2⟩ := hps p (List.mem_of_getElem? hp)
    have hdrop : ps.drop i = p :: ps.drop (i + 1) := by
      obtain ⟨hl, e⟩ := List.getElem?_eq_some_iff.mp hp
      rw [← e]
      exact List.drop_eq_getElem_cons hl
    refine ⟨_, dg_name 2 nd, dss_guard (kb := decide (p * p > n)) (tT (dt_gt (de_mul (de_var 2 rfl) (de_var 2 rfl) (.inl ⟨by omega, by omega⟩)) (de_var 0 rfl)) (by rw [← Int.natCast_mul]; omega)) (fun hk => ?_) (fun hk => ?_)⟩
    · refine dss_ret de_bl fun H3 s3 => ⟨?_, s0.trans (s1.trans s3)⟩
      rw [hi, hdrop, ipb, if_pos (of_decide_eq_true hk)]
    · refine dss_guard (kb := decide (n % p = 0)) (tT (dt_eq (de_mod (de_var 0 rfl) (de_var 2 rfl) (by omega)) de_int) (by omega)) (fun hk2 => ?_) (fun hk2 => ?_)
      · refine dss_ret de_bl fun H3 s3 => ⟨?_, s0.trans (s1.trans s3)⟩
        rw [hi, hdrop, ipb, if_neg (of_decide_eq_false hk), if_pos (of_decide_eq_true hk2)]
      · refine dss_nil fun H3 s3 => ⟨[_, _, none], .same (.same (.drop .nil)), s1.trans s3, ?_, rfl⟩
        rw [hi, hdrop, ipb, if_neg (of_decide_eq_false hk), if_neg (of_decide_eq_false hk2)]
  · rintro H0 s0 ρ' H' ⟨s1, hi, rfl⟩
    refine dss_ret de_bl fun H2 s2 => ⟨?_, s0.trans (s1.trans s2)⟩
    rw [hi, List.length_map, List.drop_length]
    rfl
/-- the states of primes(3) -/
def prSt : List (Nat × List Nat) := [(2, []), (3, [2]), (4, [2, 3]), (5, [2, 3]), (6, [2, 3, 5])]
def S_primes : Hp → List D → D → Prop := fun _ ds d => ds = [iD 3] ∧ d = .lst (iDs [2, 3, 5])
theorem ok_primes3 : Cal P w K mg base 2 "primes" (spF S_primes) := by
  have hip := ok_is_prime_beside (P := P) (w := w) (base := base) T
  refine calF T.g_primes (fn_primes T) sc_primes (by decide) (fun H ds d h => by obtain ⟨rfl, _⟩ := h; rfl) fun cdv A outer s H E hr ds d hS => ?_
  obtain ⟨rfl, rfl⟩ := hS
  have nd := sc_primes.nd
  refine dss_asgX 1 nd (dx_lst da_nil) fun d1 H1 q1 => ?_
  obtain ⟨p, rfl, bp, lp, s1⟩ := q1
  refine dss_asg 2 nd de_int ?_
  refine dss_while (fun m ρ' H' => ∃ n found, Sx H H' ∧ LstAt H' p (iDs found) ∧ (m, n, found) ∈ [(4, 2, ([] : List Nat)), (3, 3, [2]), (2, 4, [2, 3]), (1, 5, [2, 3]), (0, 6, [2, 3, 5])] ∧ ρ' = [some (iD 3), some (.ref p), some (iD n)]) ?_ ?_
  · exact fun H2 s2 => ⟨4, _, Wk.refl _, 2, [], s1.trans s2, lp.mono s2, by simp, rfl⟩
  · rintro m ρ' H' ⟨n, found, s2, l2, hm, rfl⟩
    refine ⟨decide (found.length < 3), tT (dt_lt (de_lenA T.f_len (de_var 1 rfl) l2) (de_var 0 rfl)) (by rw [List.length_map]; omega), fun hk => ?_, fun hk => ?_⟩
    · have step : ∀ (k : Bool) (n2 : Nat) (found2 : List Nat), ipb n found = k → (k = true → found2 = found ++ [n]) → (k = false → found2 = found) → n2 = n + 1 → n < 1000 → (∀ p ∈ found, 0 < p ∧ p < 1000) → found.length < 5 → (∃ m', m' < m ∧ (m', n2, found2) ∈ [(4, 2, ([] : List Nat)), (3, 3, [2]), (2, 4, [2, 3]), (1, 5, [2, 3]), (0, 6, [2, 3, 5])]) →
          DSs (cxD P w K mg base N_primes "primes" st_primes (He.ga K "primes") cdv A outer s H E) (su1 (stN (defBody st_primes) 2)) [some (iD 3), some (.ref p), some (iD n)] H' (fun ρ2 H2 => ∃ m' ρ3, m' < m ∧ Wk ρ2 ρ3 ∧ ∃ n found, Sx H H2 ∧ LstAt H2 p (iDs found) ∧ (m', n, found) ∈ [(4, 2, ([] : List Nat)), (3, 3, [2]), (2, 4, [2, 3]), (1, 5, [2, 3]), (0, 6, [2, 3, 5])] ∧ ρ3 = [some (iD 3), some (.ref p), some (iD n)]) (fun d' H' => d' = .lst (iDs [2, 3, 5]) ∧ Sx H H') := fun k n2 found2 e1 e2 e3 e4 e5 e6 e7 e8 => by
        refine dss_if (fun ρ1 H1 => Sx H H1 ∧ LstAt H1 p (iDs found2) ∧ ρ1 = [some (iD 3), some (.ref p), some (iD n)]) (dt_val (de_call hip hr (by decide) (da_cons (de_var 2 rfl) (da_cons (de_frz (de_var 1 rfl) l2) da_nil)) (fun H _ => ⟨n, found, e5, e6, rfl, rfl⟩))) (fun hk2 => ?_) (fun hk2 => ?_) ?_
        · refine dss_app (de_var 1 rfl) (de_var 2 rfl) l2 (by rw [List.length_map]; omega) (.cons rfl (.cons rfl (.cons rfl .nil))) (noL_iDs _) rfl (fun H3 b3 t3 l3 => ?_)
          refine dss_nil fun H4 s4 => ⟨(b3.same s2 (fun a ha => by rw [show a = p by simpa using ha]; exact bp)).trans s4, ?_, rfl⟩
          rw [e2 (e1.symm.trans hk2), iDs_app]
          exact l3.mono s4
        · exact dss_nil fun H4 s4 => ⟨s2.trans s4, by rw [e3 (e1.symm.trans hk2)]; exact l2.mono s4, rfl⟩
        · rintro ρ1 H1 ⟨s3, l3, rfl⟩
          refine dss_aug 2 nd rfl de_int (dss_nil fun H4 s4 => ?_)
          obtain ⟨m', h1, h2⟩ := e8
          subst e4
          exact ⟨m', _, h1, Wk.refl _, n + 1, found2, s3.trans s4, l3.mono s4, h2, rfl⟩
      simp only [List.mem_cons, Prod.mk.injEq, List.not_mem_nil, or_false] at hm
      rcases hm with ⟨rfl, rfl, rfl⟩ | ⟨rfl, rfl, rfl⟩ | ⟨rfl, rfl, rfl⟩ | ⟨rfl, rfl, rfl⟩ | ⟨rfl, rfl, rfl⟩
      · exact step true 3 [2] rfl (fun _ => rfl) (fun h => by cases h) rfl (by decide) (by decide) (by decide) ⟨3, by decide, by simp⟩
      · exact step true 4 [2, 3] rfl (fun _ => rfl) (fun h => by cases h) rfl (by decide) (by decide) (by decide) ⟨2, by decide, by simp⟩
      · exact step false 5 [2, 3] rfl (fun h => by cases h) (fun _ => rfl) rfl (by decide) (by decide) (by decide) ⟨1, by decide, by simp⟩
      · exact step true 6 [2, 3, 5] rfl (fun _ => rfl) (fun h => by cases h) rfl (by decide) (by decide) (by decide) ⟨0, by decide, by simp⟩
      · exact absurd (of_decide_eq_true hk) (by decide)
    · have h3 := of_decide_eq_false hk
      have e : found = [2, 3, 5] := by
        simp only [List.mem_cons, Prod.mk.injEq, List.not_mem_nil, or_false] at hm
        rcases hm with ⟨rfl, rfl, rfl⟩ | ⟨rfl, rfl, rfl⟩ | ⟨rfl, rfl, rfl⟩ | ⟨rfl, rfl, rfl⟩ | ⟨rfl, rfl, rfl⟩ <;> first | rfl | (exact absurd (by decide) h3)
      subst e
      exact dss_ret (de_frz (de_var 1 rfl) l2) fun H3 s3 => ⟨rfl, s2.trans s3⟩
end
end K5
namespace K5
open PySem PySem.Spec PyProof.Rows L2
theorem sIx_some (n k : Nat) (z : Nat) : HT.sIx n z (some (k : Int)) = min k n := by
  unfold HT.sIx
  simp
  try omega
theorem sIx_none (n z : Nat) : HT.sIx n z none = z := by
  unfold HT.sIx
  rfl
theorem cut_to (ds : List D) (k : Nat) : cutD ds none (some (k : Int)) = ds.take k := by
  unfold cutD
  rw [sIx_none, sIx_some, List.drop_zero, Nat.sub_zero]
  rcases Nat.le_total k ds.length with h | h
  · rw [Nat.min_eq_left h]
  · rw [Nat.min_eq_right h, List.take_of_length_le (Nat.le_refl _), List.take_of_length_le h]
theorem cut_from (ds : List D) (k : Nat) : cutD ds (some (k : Int)) none = ds.drop k := by
  unfold cutD
  rw [sIx_none, sIx_some]
  rcases Nat.le_total k ds.length with h | h
  · rw [Nat.min_eq_left h, List.take_of_length_le]
    rw [List.length_drop]
    exact Nat.le_refl _
  · rw [Nat.min_eq_right h, List.drop_of_length_le (Nat.le_refl _), List.drop_of_length_le h]
    simp
theorem sIx_m1 (n z : Nat) : HT.sIx n z (some (-1)) = n - 1 := by
  unfold HT.sIx
  simp
  try omega
theorem cut_m1 (ds : List D) : cutD ds none (some (-1)) = ds.take (ds.length - 1) := by
  unfold cutD
  rw [sIx_none, sIx_m1, List.drop_zero, Nat.sub_zero]
theorem sqL_sx {K : PySem.W.Frag} {H H' : Hp} {a : Addr} {xs : List V} (h : SqL K H a xs) (s : Sx H H') : SqL K H' a xs := by
  rcases h with q | q
  · exact .inl (rd_sx q rfl s)
  · exact .inr q
section
variable {X : Cx} {e a b : Expr} {ρ : Rho} {B : Hp} {d : D} {ds : List D} {pos px : Pos} {p : Addr} {m n : Int} {k : Nat}
theorem de_lenS {xs : List V} (hm : X.mg "len" = none) (ha : DE X a ρ B (.ref p)) (hL : SqL X.K B p xs) (hg : Gl X "len" := by rfl) (he : starEach (a :: []) X.env = (false, eval a X.env) :: starEach [] X.env := by rfl) (hpl : (backTo pos (starEach [] X.env)).any (·.1) = false := by rfl) : DE X (.Call (.Name "len" px) [a] [] pos) ρ B (.int (xs.length : Int)) :=
  de_callB call_len_seq hm boot_len (da_cons ha da_nil he) (fun H vs s e1 Q q => by
    obtain ⟨v, ev, dv⟩ := e1.one
    rw [show v = V.ref p from dv] at ev
    exact ⟨p, xs, ev, .inl (sqL_sx hL s), q _ H (Sx.refl H) rfl⟩) hg (by decide) (by decide) he hpl
theorem de_ixS {ns : List Int} {t : Nat} (ha : DE X a ρ B (.ref p)) (hb : DE X b ρ B (.int n)) (hL : SqL X.K B p (ns.map V.int)) (hn : ixN ns.length n = some t) (ht : ns[t]? = some m) (hs : PlainIx b := by intro _ _; rfl) : DE X (.Subscript a b pos) ρ B (.int m) :=
  DE.mk (pe_ix ix_list pe_w pe_w hs) fun σ H s r Q q => two ha hb s r fun x y H' s' e1 e2 =>
    ⟨p, ns.map V.int, n, .int m, e1, e2, sqL_sx hL (s.trans s'), ixN_atI (ys := ns) (by simp) hn (by rw [List.getElem?_map, ht]; rfl), q _ H' s' rfl⟩
theorem de_pow (ha : DE X a ρ B (.int m)) (hb : DE X b ρ B (.int n)) (hc : 0 ≤ n ∧ n ≤ 1000000 ∧ m.natAbs < 2 ^ 64) : DE X (.BinOp a .Pow b pos) ρ B (.int (m ^ n.toNat)) :=
  de_op op_pow ha hb fun H x y _ e1 e2 Q q => ⟨m, n, e1, e2, hc, q _ H (Sx.refl H) rfl⟩
theorem dpAll_ints {K : PySem.W.Frag} {H : Hp} : ∀ ns : List Int, DpAll K H (ns.map V.int) (ns.map PyData.int)
  | [] => .nil
  | n :: ns => .cons (.int n) (dpAll_ints ns)
theorem eqvAll_ints : ∀ ns ms : List Int, PyData.eqvAll (ns.map PyData.int) (ms.map PyData.int) = decide (ns = ms)
  | [], [] => rfl
  | [], m :: ms => rfl
  | n :: ns, [] => rfl
  | n :: ns, m :: ms => by
    show (n == m && PyData.eqvAll (ns.map PyData.int) (ms.map PyData.int)) = _
    rw [eqvAll_ints ns ms, Bool.eq_iff_iff]
    simp
theorem canLayInts : ∀ ns : List Int, PyData.canLayAll0 (ns.map PyData.int) = true
  | [] => rfl
  | n :: ns => canLayInts ns
theorem depthInts (ns : List Int) : (PyData.tuple (ns.map PyData.int)).depth ≤ 64 := by
  have : ∀ ns : List Int, PyData.depthAll (ns.map PyData.int) ≤ 1 := fun ns => by
    induction ns with
    | nil => simp [PyData.depthAll]
    | cons n ns ih => simp [PyData.depthAll, PyData.depth] at ih ⊢; omega
  have h := this ns
  simp [PyData.depth]
  omega
theorem dt_neB {k1 k2 : Bool} (ha : DE X a ρ B (.bl k1)) (hb : DE X b ρ B (.bl k2)) : DT X (.Compare a [.NotEq] [b] pos) ρ B (!decide (k1 = k2)) := dt_cmp op_ne (nomark _) ha hb fun H x y _ e1 e2 Q q => by
  cases e1
  cases e2
  refine ⟨rfl, ?_⟩
  rw [show decide (V.bl k1 = V.bl k2) = decide (k1 = k2) from decide_eq_decide.mpr ⟨fun h => V.bl.inj h, fun h => congrArg V.bl h⟩]
  exact q H (Sx.refl H)
/-- x == y of tuples of ints -/
theorem de_eqI {ns ms : List Int} (hr : Room k X.A) (ha : DE X a ρ B (.tup (ns.map D.int))) (hb : DE X b ρ B (.tup (ms.map D.int))) : DE X (.Compare a [.Eq] [b] pos) ρ B (.bl (decide (ns = ms))) :=
  de_cmp (op_eqD hr.units) (nomark _) ha hb fun H x y s e1 e2 Q q => by
    obtain ⟨p1, xs, rfl, h1, l1⟩ := e1
    obtain ⟨p2, ys, rfl, h2, l2⟩ := e2
    have ex := l1.ints
    have ey := l2.ints
    subst ex ey
    refine ⟨_, _, .tup (SqT.of h1) (dpAll_ints ns), .tup (SqT.of h2) (dpAll_ints ms), ?_, ?_, q _ H (Sx.refl H) ?_⟩
    · unfold SeqAt.shaped
      rw [Bool.and_eq_true]
      exact ⟨canLayInts ns, decide_eq_true (depthInts ns)⟩
    · unfold SeqAt.shaped
      rw [Bool.and_eq_true]
      exact ⟨canLayInts ms, decide_eq_true (depthInts ms)⟩
    · show V.bl (PyData.eqvAll (ns.map PyData.int) (ms.map PyData.int)) = _
      rw [eqvAll_ints]
theorem datL_bls {H : Hp} : ∀ {bs : List Bool} {vs : List V}, DatL H (bs.map D.bl) vs → vs = bs.map V.bl
  | [], _, h => h
  | b :: bs, _, h => by
    obtain ⟨v, r, e, h1, h2⟩ := h
    rw [e, datL_bls h2, show v = V.bl b from h1]
    rfl
/-- all(l), l a list of bools -/
theorem de_allB {bs : List Bool} (hm : X.mg "all" = none) (ha : DE X a ρ B (.lst (bs.map D.bl))) (hc : X.calm = true := by rfl) (hb : bootBuiltins "all" = some (.builtin "all") := by decide +kernel) (hg : Gl X "all" := by rfl) (he : starEach (a :: []) X.env = (false, eval a X.env) :: starEach [] X.env := by rfl) (hpl : (backTo pos (starEach [] X.env)).any (·.1) = false := by rfl) : DE X (.Call (.Name "all" px) [a] [] pos) ρ B (.bl (bs.all id)) :=
  de_callB (cr_all hc) hm hb (da_cons ha da_nil he) (fun H vs s e1 Q q => by
    obtain ⟨v, ev, a', xs, ev2, h1, h2⟩ := e1.one
    have ex := datL_bls h2
    subst ex
    rw [ev2] at ev
    exact ⟨a', bs, ev, SqL.of h1, q _ H (Sx.refl H) rfl⟩) hg (by decide) (by decide) he hpl
/-- a list in a slot, by its address -/
theorem dss_thaw {sts : List Stmt} {N : Rho → Hp → Prop} {R : D → Hp → Prop} (i : Nat) (hi : ρ[i]? = some (some (.lst ds))) (h : ∀ a H', Sx B H' → LstAt H' a ds → DSs X sts (ρ.set i (some (.ref a))) H' N R) : DSs X sts ρ B N R := fun σ H s r Dn k1 k2 => by
  obtain ⟨v, e, a, xs, rfl, h1, h2⟩ := r.2 i _ hi
  have r2 := r.set i (d := .ref a) (v := .ref a) rfl
  have es : σ.set i (some (.ref a)) = σ := by
    apply List.ext_getElem?
    intro j
    rw [List.getElem?_set]
    by_cases hj : i = j
    · subst hj
      rw [if_pos rfl, e, if_pos (List.getElem?_eq_some_iff.mp e).1]
    · rw [if_neg hj]
  rw [es] at r2
  exact h a H s ⟨xs, h1, h2⟩ σ H (Sx.refl H) r2 Dn k1 k2
theorem de_tp {es : List Expr} {x1} (h : DA X es ρ B ds) (hl : ds.length ≤ 100000 := by simp) : DE X (.Tuple es x1 pos) ρ B (.tup ds) := de_tup h hl
theorem de_ls {es : List Expr} (h : DA X es ρ B ds) (hl : ds.length ≤ 100000 := by simp) : DE X (.List es pos) ρ B (.lst ds) := de_lst h hl
end
end K5
namespace K5
open PySem PySem.Spec PyProof.Rows L2
theorem forR_nat {n : Nat} : ((n : Int)).toNat = n := Int.toNat_natCast n
def cellF (ns : List Int) (k : Nat) : Nat := match ns[k]? with
  | some z => z.natAbs
  | none => 0
def mixF (c k : Nat) : Nat :=
  let m0 := (c * 48271 + (k + 1) * 69621) % 2147483647
  let m1 := (m0 * m0 + m0 * 16807 + k * 7919) % 2147483629
  (m1 * m1 + c + 13 * k) % 2147483587 / 7 % 4096
def drawSt (c : Nat) : Nat → Nat × List Nat
  | 0 => (c, [])
  | k + 1 => if 10 ^ 18 ≤ c ∧ 0 < (drawSt c k).1 then ((drawSt c k).1 / 4096, (drawSt c k).2 ++ [(drawSt c k).1 % 4096]) else ((drawSt c k).1, (drawSt c k).2 ++ [mixF c k])
def drawF (c n : Nat) : List Nat := (drawSt c n).2
theorem drawF_length (c : Nat) : ∀ n, (drawF c n).length = n
  | 0 => rfl
  | n + 1 => by
    unfold drawF drawSt
    have ih := drawF_length c n
    unfold drawF at ih
    split <;> simp [ih]
theorem mixF_lt (c k : Nat) : mixF c k < 4096 := Nat.mod_lt _ (by decide)
theorem drawF_lt (c : Nat) : ∀ n, ∀ x ∈ drawF c n, x < 4096
  | 0, x, h => by simp [drawF, drawSt] at h
  | n + 1, x, h => by
    unfold drawF drawSt at h
    have ih := drawF_lt c n x
    unfold drawF at ih
    split at h
    · rcases List.mem_append.mp h with q | q
      · exact ih q
      · rw [List.mem_singleton.mp q]
        exact Nat.mod_lt _ (by decide)
    · rcases List.mem_append.mp h with q | q
      · exact ih q
      · rw [List.mem_singleton.mp q]
        exact mixF_lt c n
def stripF (l : List Nat) : List Nat := (l.reverse.dropWhile (· == 0)).reverse
section
variable {P : Program} {w : World} {K : PySem.W.Frag} {mg : Str → Option Value} {base : Heap} (T : Tx K mg)
include T
def S_law_cell (K : PySem.W.Frag) : Hp → List D → D → Prop := fun H ds d => ∃ p ns k, SqL K H p (ns.map V.int) ∧ ds = [.ref p, iD k] ∧ d = iD (cellF ns k)
theorem ok_law_cell : Cal P w K mg base 1 "_law_cell" (spF (S_law_cell K)) := by
  refine calF T.g__law_cell (fn__law_cell T) sc__law_cell (by decide) (fun H ds d h => by obtain ⟨p, ns, b, _, rfl, _⟩ := h; rfl) fun cdv A outer s H E hr ds d hS => ?_
  obtain ⟨p, ns, k, hL, rfl, rfl⟩ := hS
  refine dss_guard (kb := decide (k < ns.length)) (tT (dt_lt (de_var 1 rfl) (de_lenS T.f_len (de_var 0 rfl) hL)) (by rw [List.length_map]; omega)) (fun hk => ?_) (fun hk => ?_)
  · have hlt : k < ns.length := of_decide_eq_true hk
    have hg : ns[k]? = some ns[k] := List.getElem?_eq_getElem hlt
    refine dss_ret (de_abs T.f_abs (de_int1 T.f_int (de_ixS (de_var 0 rfl) (de_var 1 rfl) hL (ixN_nat hlt) hg))) fun H2 s2 => ⟨?_, s2⟩
    unfold cellF
    rw [hg]
    show D.int _ = D.int ((ns[k].natAbs : Nat) : Int)
    congr 1
    split <;> omega
  · have hlt : ¬ k < ns.length := of_decide_eq_false hk
    refine dss_ret de_int fun H2 s2 => ⟨?_, s2⟩
    unfold cellF
    (rw [List.getElem?_eq_none (by omega)])
    rfl
def S_law_draws : Hp → List D → D → Prop := fun _ ds d => ∃ c n, n < 1000 ∧ ds = [iD c, iD n] ∧ d = .lst (iDs (drawF c n))
theorem ok_law_draws : Cal P w K mg base 1 "_law_draws" (spF S_law_draws) := by
  refine calF T.g__law_draws (fn__law_draws T) sc__law_draws (by decide) (fun H ds d h => by obtain ⟨p, ns, _, rfl, _⟩ := h; rfl) fun cdv A outer s H E hr ds d hS => ?_
  obtain ⟨c, n, hn, rfl, rfl⟩ := hS
  have nd := sc__law_draws.nd
  refine dss_asgX 2 nd (dx_lst da_nil) fun d1 H1 q1 => ?_
  obtain ⟨p, rfl, bp, lp, s1⟩ := q1
  refine dss_asg 3 nd (de_var 0 rfl) ?_
  refine dss_forR (fun H0 i ρ' H' => Sx H H' ∧ LstAt H' p (iDs (drawF c i)) ∧ ρ' = [some (iD c), some (iD n), some (.ref p), some (iD (drawSt c i).1), none, none]) (de_var 1 rfl) (by omega) ?_ ?_ ?_ T.f_range
  · exact fun H2 s2 => ⟨_, Wk.refl _, s1.trans s2, lp.mono s2, rfl⟩
  · rintro H0 s0 i ρ' H' hi ⟨s2, l2, rfl⟩
    have hi2 : i < n := by omega
    have hz : (iDs (drawF c i)).length < 100000 := by rw [List.length_map, drawF_length]; omega
    refine ⟨_, dg_name 4 nd, dss_if (fun ρ1 H1 => Sx H H1 ∧ LstAt H1 p (iDs (drawF c (i + 1))) ∧ ∃ o, ρ1 = [some (iD c), some (iD n), some (.ref p), some (iD (drawSt c (i + 1)).1), some (iD i), o]) (kb := decide (10 ^ 18 ≤ c ∧ 0 < (drawSt c i).1)) ?_ (fun hk => ?_) (fun hk => ?_) ?_⟩
    · refine DT.is (DW.t (dw_and (k1 := decide (10 ^ 18 ≤ c)) (k2 := decide (0 < (drawSt c i).1)) (tT (dt_ge (de_var 0 rfl) (de_pow de_int de_int (by decide))) ?_) fun _ => dw_and1 (tT (dt_gt (de_var 3 rfl) de_int) (by omega)))) (by simp)
      have e1 : (10 : Int) ^ (18 : Int).toNat = 1000000000000000000 := by decide
      have e2 : (10 : Nat) ^ 18 = 1000000000000000000 := by decide
      rw [e1, e2]
      omega
    · have hc := of_decide_eq_true hk
      refine dss_app (de_var 2 rfl) (de_mod (de_int1 T.f_int (de_var 3 rfl)) de_int (by omega)) l2 hz (.cons rfl (.cons rfl (.cons rfl (.cons rfl (.cons rfl (.skip .nil)))))) (noL_iDs _) rfl fun H3 b3 t3 l3 => ?_
      refine dss_asg 3 nd (de_fdiv (de_var 3 rfl) de_int (by omega)) (dss_nil fun H4 s4 => ⟨(b3.same s2 (fun a ha => by rw [show a = p by simpa using ha]; exact bp)).trans s4, ?_, none, ?_⟩)
      · have e : drawF c (i + 1) = drawF c i ++ [(drawSt c i).1 % 4096] := by
          show (drawSt c (i + 1)).2 = _
          rw [drawSt, if_pos hc]
          rfl
        rw [e, iDs_app]
        exact l3.mono s4
      · rw [show (drawSt c (i + 1)).1 = (drawSt c i).1 / 4096 by rw [drawSt, if_pos hc]]
        rfl
    · have hc := of_decide_eq_false hk
      refine dss_asg 5 nd (de_mod (de_int1 T.f_int (de_add (de_mul (de_var 0 rfl) de_int (.inr (by omega))) (de_mul (de_add (de_var 4 rfl) de_int) de_int (.inr (by omega))))) de_int (by omega)) ?_
      refine dss_asg 5 nd (de_mod (de_int1 T.f_int (de_add (de_add (de_mul (de_var 5 rfl) (de_var 5 rfl) (.inl ?_)) (de_mul (de_var 5 rfl) de_int (.inr (by omega)))) (de_mul (de_var 4 rfl) de_int (.inr (by omega))))) de_int (by omega)) ?_
      · have h1 := Int.emod_nonneg ((c : Int) * 48271 + ((i : Int) + 1) * 69621) (show (2147483647 : Int) ≠ 0 by omega)
        have h2 := Int.emod_lt_of_pos ((c : Int) * 48271 + ((i : Int) + 1) * 69621) (show (0 : Int) < 2147483647 by omega)
        omega
      refine dss_asg 5 nd (de_mod (de_int1 T.f_int (de_add (de_add (de_mul (de_var 5 rfl) (de_var 5 rfl) (.inl ?_)) (de_var 0 rfl)) (de_mul de_int (de_var 4 rfl) (.inl (by omega))))) de_int (by omega)) ?_
      · generalize ((c : Int) * 48271 + ((i : Int) + 1) * 69621) % 2147483647 = m0
        have h1 := Int.emod_nonneg (m0 * m0 + m0 * 16807 + (i : Int) * 7919) (show (2147483629 : Int) ≠ 0 by omega)
        have h2 := Int.emod_lt_of_pos (m0 * m0 + m0 * 16807 + (i : Int) * 7919) (show (0 : Int) < 2147483629 by omega)
        omega
      refine dss_app (d := iD (mixF c i)) (de_var 2 rfl) ((de_mod (de_fdiv (de_var 5 rfl) de_int (by omega)) de_int (by omega)).is rfl) l2 hz (.cons rfl (.cons rfl (.cons rfl (.cons rfl (.cons rfl (.cons rfl .nil)))))) (noL_iDs _) rfl fun H3 b3 t3 l3 => ?_
      have e : drawF c (i + 1) = drawF c i ++ [mixF c i] := by
        show (drawSt c (i + 1)).2 = _
        rw [drawSt, if_neg hc]
        rfl
      rw [e, show (drawSt c (i + 1)).1 = (drawSt c i).1 by rw [drawSt, if_neg hc], iDs_app]
      exact dss_nil fun H4 s4 => ⟨(b3.same s2 (fun a ha => by rw [show a = p by simpa using ha]; exact bp)).trans s4, l3.mono s4, _, rfl⟩
    · rintro ρ1 H1 ⟨s3, l3, o, rfl⟩
      exact dss_nil fun H4 s4 => ⟨_, .same (.same (.same (.same (.drop (.drop .nil))))), s3.trans s4, l3.mono s4, rfl⟩
  · rintro H0 s0 ρ' H' ⟨s2, l2, rfl⟩
    rw [forR_nat] at l2
    exact dss_ret (de_frz (de_var 2 rfl) l2) fun H3 s3 => ⟨rfl, s2.trans s3⟩
end
end K5
namespace K5
open PySem PySem.Spec PyProof.Rows L2
theorem bt_bool : bootBuiltins "bool" = some (.type "bool") := by decide +kernel
theorem bt_str : bootBuiltins "str" = some (.type "str") := by decide +kernel
theorem bt_int : bootBuiltins "int" = some (.type "int") := by decide +kernel
theorem bt_list : bootBuiltins "list" = some (.type "list") := by decide +kernel
theorem bt_tuple : bootBuiltins "tuple" = some (.type "tuple") := by decide +kernel
theorem k_ib : kitB "int" "bool" = some false := by decide +kernel
theorem k_is : kitB "int" "str" = some false := by decide +kernel
theorem k_ii : kitB "int" "int" = some true := by decide +kernel
theorem k_tb : kitB "tuple" "bool" = some false := by decide +kernel
theorem k_ts : kitB "tuple" "str" = some false := by decide +kernel
theorem k_ti : kitB "tuple" "int" = some false := by decide +kernel
theorem k_tl : kitB "tuple" "list" = some false := by decide +kernel
theorem k_tt : kitB "tuple" "tuple" = some true := by decide +kernel
theorem k_nb : kitB "NoneType" "bool" = some false := by decide +kernel
/-- ints, None, tuples of such, k deep -/
def okL : Nat → D → Bool
  | _, .int _ => true
  | _, .non => true
  | k + 1, .tup ds => decide (ds.length ≤ 90000) && ds.all (okL k)
  | _, _ => false
def S_like (k : Nat) : Hp → List D → D → Prop := fun _ ds d => ∃ e, okL k e = true ∧ ds = [e, e] ∧ d = .bl true
/-- the size behind i turns -/
def stS (l : List Nat) : Nat → Nat
  | 0 => l.length
  | i + 1 => if (decide (0 < stS l i) && decide (l.getD (stS l i - 1) 1 = 0)) = true then stS l i - 1 else stS l i
def stC (l : List Nat) (i : Nat) : Bool := decide (0 < stS l i) && decide (l.getD (stS l i - 1) 1 = 0)
theorem stS_le (l : List Nat) : ∀ i, stS l i ≤ l.length
  | 0 => Nat.le_refl _
  | i + 1 => by
    have ih := stS_le l i
    rw [stS]
    split <;> omega
theorem iDs_take (l : List Nat) (n : Nat) : iDs (l.take n) = (iDs l).take n := List.map_take
theorem stS_snoc (l : List Nat) (x : Nat) (hx : x ≠ 0) : ∀ i, stS (l ++ [x]) i = l.length + 1
  | 0 => by rw [stS]; simp
  | i + 1 => by
    rw [stS, stS_snoc l x hx i, if_neg]
    simp [hx]
theorem stS_snoc0 (l : List Nat) : ∀ i, stS (l ++ [0]) (i + 1) = stS l i
  | 0 => by
    rw [stS, stS, stS, if_pos]
    · simp
    · simp
  | i + 1 => by
    rw [stS, stS_snoc0 l i, stS]
    have hle := stS_le l i
    by_cases h : 0 < stS l i
    · have e : (l ++ [0]).getD (stS l i - 1) 1 = l.getD (stS l i - 1) 1 := by
        rw [List.getD_eq_getElem?_getD, List.getD_eq_getElem?_getD, List.getElem?_append_left (by omega)]
      rw [e]
    · rw [if_neg (by simp [h]), if_neg (by simp [h])]
theorem stS_end (l : List Nat) : l.take (stS l l.length) = stripF l := by
  induction h : l.length generalizing l with
  | zero =>
    have : l = [] := List.eq_nil_of_length_eq_zero h
    subst this
    rfl
  | succ n ih =>
    obtain ⟨m, x, rfl⟩ : ∃ m x, l = m ++ [x] := ⟨l.dropLast, l.getLast (by intro e; subst e; cases h), (List.dropLast_concat_getLast _).symm⟩
    have hm : m.length = n := by simpa using h
    unfold stripF
    rw [List.reverse_append]
    by_cases hx : x = 0
    · subst hx
      rw [stS_snoc0, List.take_append_of_le_length (by rw [← hm]; exact stS_le m _)]
      have := ih m hm
      unfold stripF at this
      simpa using this
    · rw [stS_snoc m x hx, List.take_of_length_le (by simp)]
      simp [hx]
section
variable {P : Program} {w : World} {K : PySem.W.Frag} {mg : Str → Option Value} {base : Heap} (T : Tx K mg)
include T
theorem ok_like : ∀ k, Cal P w K mg base (k + 1) "_law_like" (spF (S_like k)) := by
  intro k
  induction k with
  | zero =>
    refine calF T.g__law_like (fn__law_like T) sc__law_like (by decide) (fun H ds d h => by obtain ⟨e, _, rfl, _⟩ := h; rfl) fun cdv A outer s H E hr ds d hS => ?_
    obtain ⟨e, he, rfl, rfl⟩ := hS
    cases e with
    | non => exact dss_leave (DT.is (dt_isN (de_var 1 rfl)) rfl) (dss_ret (de_isN (de_var 0 rfl)) fun H2 s2 => ⟨rfl, s2⟩)
    | int i =>
      refine dss_skip (DT.is (dt_isN (de_var 1 rfl)) rfl) (dss_skip (dt_val (de_isiT (de_var 1 rfl) rfl T.f_bool bt_bool k_ib T.f_isinstance)) (dss_skip (dt_val (de_isiT (de_var 1 rfl) rfl T.f_str bt_str k_is T.f_isinstance)) ?_))
      refine dss_leave (dt_val (de_isiT (de_var 1 rfl) rfl T.f_int bt_int k_ii T.f_isinstance)) (dss_ret (d := .bl true) (DE.is (de_and (k1 := true) (k2 := true) (de_isiT (de_var 0 rfl) rfl T.f_int bt_int k_ii T.f_isinstance) fun _ => (de_and (k1 := true) (k2 := true) (de_notV (k := false) (de_isiT (de_var 0 rfl) rfl T.f_bool bt_bool k_ib T.f_isinstance)) fun _ => de_one (DE.is (de_eq (de_var 0 rfl) (de_var 1 rfl)) (congrArg D.bl (decide_eq_true rfl))))) rfl) fun H2 s2 => ⟨rfl, s2⟩)
    | bl b => cases he
    | str x => cases he
    | ref a => cases he
    | tup es => cases he
    | lst es => cases he
  | succ k ih =>
    refine calF T.g__law_like (fn__law_like T) sc__law_like (by decide) (fun H ds d h => by obtain ⟨e, _, rfl, _⟩ := h; rfl) fun cdv A outer s H E hr ds d hS => ?_
    obtain ⟨e, he, rfl, rfl⟩ := hS
    have nd := sc__law_like.nd
    cases e with
    | non => exact dss_leave (DT.is (dt_isN (de_var 1 rfl)) rfl) (dss_ret (de_isN (de_var 0 rfl)) fun H2 s2 => ⟨rfl, s2⟩)
    | int i =>
      refine dss_skip (DT.is (dt_isN (de_var 1 rfl)) rfl) (dss_skip (dt_val (de_isiT (de_var 1 rfl) rfl T.f_bool bt_bool k_ib T.f_isinstance)) (dss_skip (dt_val (de_isiT (de_var 1 rfl) rfl T.f_str bt_str k_is T.f_isinstance)) ?_))
      refine dss_leave (dt_val (de_isiT (de_var 1 rfl) rfl T.f_int bt_int k_ii T.f_isinstance)) (dss_ret (d := .bl true) (DE.is (de_and (k1 := true) (k2 := true) (de_isiT (de_var 0 rfl) rfl T.f_int bt_int k_ii T.f_isinstance) fun _ => (de_and (k1 := true) (k2 := true) (de_notV (k := false) (de_isiT (de_var 0 rfl) rfl T.f_bool bt_bool k_ib T.f_isinstance)) fun _ => de_one (DE.is (de_eq (de_var 0 rfl) (de_var 1 rfl)) (congrArg D.bl (decide_eq_true rfl))))) rfl) fun H2 s2 => ⟨rfl, s2⟩)
    | tup es =>
      obtain ⟨h1, h2⟩ := Bool.and_eq_true_iff.mp (show (decide (es.length ≤ 90000) && es.all (okL k)) = true from he)
      have hz := of_decide_eq_true h1
      refine dss_skip (DT.is (dt_isN (de_var 1 rfl)) rfl) (dss_skip (dt_val (de_isiT (de_var 1 rfl) rfl T.f_bool bt_bool k_tb T.f_isinstance)) (dss_skip (dt_val (de_isiT (de_var 1 rfl) rfl T.f_str bt_str k_ts T.f_isinstance)) ?_))
      refine dss_skip (dt_val (de_isiT (de_var 1 rfl) rfl T.f_int bt_int k_ti T.f_isinstance)) ?_
      refine dss_skip (DW.t (dw_or (k1 := false) (k2 := false) (dt_neB (k1 := false) (k2 := false) (de_isiT (de_var 1 rfl) rfl T.f_list bt_list k_tl T.f_isinstance) (de_isiT (de_var 0 rfl) rfl T.f_list bt_list k_tl T.f_isinstance)) fun _ => dw_or1 (dt_neB (k1 := true) (k2 := true) (de_isiT (de_var 1 rfl) rfl T.f_tuple bt_tuple k_tt T.f_isinstance) (de_isiT (de_var 0 rfl) rfl T.f_tuple bt_tuple k_tt T.f_isinstance)))) ?_
      refine dss_skip (DT.is (dt_ne (de_lenT T.f_len (de_var 0 rfl)) (de_lenT T.f_len (de_var 1 rfl))) (by simp)) ?_
      refine dss_ret (d := .bl true) (DE.is (de_allB (bs := List.replicate es.length true) T.f_all ?_) (by simp)) fun H2 s2 => ⟨rfl, s2⟩
      rw [List.map_replicate]
      refine de_lcR 2 nd (m := es.length) (de_lenT T.f_len (de_var 1 rfl)) (by simp) ?_ (by simp; omega) (fun j e hj s0 H0 C cl fp => ?_) (show BlkOk N__law_like (defScope st__law_like) _ _ from blkOk_by (by decide +kernel)) T.f_range
      · clear hz h1 he h2
        induction es with
        | nil => rfl
        | cons a l ih2 => exact ih2
      · have hj2 : j < es.length := by
          have := (List.getElem?_eq_some_iff.mp hj).1
          simpa using this
        have hg : es[j]? = some es[j] := List.getElem?_eq_getElem hj2
        obtain rfl : D.bl true = e := by
          rw [List.getElem?_replicate, if_pos hj2] at hj
          exact Option.some.inj hj
        exact de_call ih hr (Nat.le_refl _) (da_cons (de_ixT (de_var 0 rfl) (de_var 2 rfl) (ixN_nat hj2) hg) (da_cons (de_ixT (de_var 1 rfl) (de_var 2 rfl) (ixN_nat hj2) hg) da_nil)) (fun H2 _ => ⟨es[j], List.all_eq_true.mp h2 _ (List.getElem_mem hj2), rfl, rfl⟩)
    | bl b => cases he
    | str x => cases he
    | ref a => cases he
    | lst es => cases he
def S_law_strip : Hp → List D → D → Prop := fun _ ds d => ∃ l : List Nat, l.length < 1000000 ∧ ds = [.tup (iDs l)] ∧ d = .tup (iDs (stripF l))
theorem ok_law_strip : Cal P w K mg base 1 "_law_strip" (spF S_law_strip) := by
  refine calF T.g__law_strip (fn__law_strip T) sc__law_strip (by decide) (fun H ds d h => by obtain ⟨p, _, rfl, _⟩ := h; rfl) fun cdv A outer s H E hr ds d hS => ?_
  obtain ⟨l, hl, rfl, rfl⟩ := hS
  have nd := sc__law_strip.nd
  refine dss_asg 1 nd (de_lenT T.f_len (de_var 0 rfl)) ?_
  refine dss_forR (fun H0 i ρ' H' => Sx H H' ∧ ρ' = [some (.tup (iDs l)), some (iD (stS l i)), none]) (DE.is (de_lenT T.f_len (de_var 0 rfl)) (by rw [List.length_map])) (by omega) ?_ ?_ ?_ T.f_range
  · exact fun H2 s2 => ⟨_, Wk.refl _, s2, by rw [List.length_map]; rfl⟩
  · rintro H0 s0 i ρ' H' hi ⟨s2, rfl⟩
    have hle := stS_le l i
    refine ⟨_, dg_name 2 nd, dss_if (fun ρ1 H1 => Sx H H1 ∧ ρ1 = [some (.tup (iDs l)), some (iD (stS l (i + 1))), some (iD i)]) (kb := stC l i) ?_ (fun hk => ?_) (fun hk => ?_) ?_⟩
    · refine DW.t (dw_and (k1 := decide (0 < stS l i)) (tT (dt_gt (de_var 1 rfl) de_int) (by omega)) fun hp => dw_and1 ?_)
      have hp := of_decide_eq_true hp
      have hlt : stS l i - 1 < l.length := by omega
      have hg : (iDs l)[stS l i - 1]? = some (iD l[stS l i - 1]) := by rw [List.getElem?_map, List.getElem?_eq_getElem hlt]; rfl
      have h0 : l.getD (stS l i - 1) 1 = l[stS l i - 1] := by rw [List.getD_eq_getElem?_getD, List.getElem?_eq_getElem hlt]; rfl
      rw [h0]
      refine tT (dt_eq (de_ixT (de_var 0 rfl) (DE.is (de_sub (de_var 1 rfl) de_int) (d' := iD (stS l i - 1)) ?_) (ixN_nat (by rw [List.length_map]; exact hlt)) hg) de_int) (by omega)
      show D.int _ = D.int _
      congr 1
      omega
    · refine dss_asg 1 nd (DE.is (de_sub (de_var 1 rfl) de_int) (d' := iD (stS l (i + 1))) ?_) (dss_nil fun H3 s3 => ⟨s2.trans s3, rfl⟩)
      have hp : 0 < stS l i := of_decide_eq_true (Bool.and_eq_true_iff.mp hk).1
      rw [show stS l (i + 1) = stS l i - 1 by rw [stS]; exact if_pos hk]
      show D.int _ = D.int _
      congr 1
      omega
    · refine dss_nil fun H3 s3 => ⟨s2.trans s3, ?_⟩
      rw [show stS l (i + 1) = stS l i by rw [stS]; exact if_neg (by intro z; rw [show (decide (0 < stS l i) && decide (l.getD (stS l i - 1) 1 = 0)) = stC l i from rfl, hk] at z; cases z)]
      rfl
    · rintro ρ1 H1 ⟨s3, rfl⟩
      exact dss_nil fun H4 s4 => ⟨_, .same (.same (.drop .nil)), s3.trans s4, rfl⟩
  · rintro H0 s0 ρ' H' ⟨s2, rfl⟩
    refine dss_ret (d := .tup (iDs (stripF l))) (DE.is (de_tupleT T.f_tuple (de_sliceT (de_var 0 rfl) do_no (do_so (de_var 1 rfl)))) ?_) fun H3 s3 => ⟨rfl, s2.trans s3⟩
    rw [forR_nat, cut_to, ← iDs_take, stS_end]
end
end K5
namespace K5
open PySem PySem.Spec PyProof.Rows L2
structure Rl where
  s : Nat
  a : Nat
  w : Nat
  m : Int
  f : Nat
structure Cf where
  s : Nat
  l : List Nat
  a : Nat
  r : List Nat
def rlD (r : Rl) : D := .tup [iD r.s, iD r.a, iD r.w, .int r.m, iD r.f]
def rlV (r : Rl) : D := .tup [iD r.w, .int r.m, iD r.f]
def rlK (r : Rl) : List L2.Key := [Sum.inl (r.s : Int), Sum.inl (r.a : Int)]
def cfD (c : Cf) : D := .tup [iD c.s, .tup (iDs c.l), iD c.a, .tup (iDs c.r)]
def optD (o : Option Cf) : D := match o with
  | some c => cfD c
  | none => .non
def tabE (rs : List Rl) : List (List L2.Key × D) := rs.map fun r => (rlK r, rlV r)
def look (rs : List Rl) (s a : Nat) : Option Rl := rs.find? fun r => decide (r.s = s ∧ r.a = a)
def stepT (rs : List Rl) (c : Cf) : Option Cf := match look rs c.s c.a with
  | none => none
  | some r => if r.m = 0 then some ⟨r.f, c.l, r.w, c.r⟩ else if r.m = 1 then some ⟨r.f, stripF (r.w :: c.l), (c.r ++ [0]).headD 0, c.r.drop 1⟩
    else some ⟨r.f, c.l.drop 1, (c.l ++ [0]).headD 0, stripF (r.w :: c.r)⟩
def manyT (rs : List Rl) : Nat → Option Cf → Option Cf
  | 0, o => o
  | n + 1, o => manyT rs n (o.bind (stepT rs))
theorem val_tabE (s a : Nat) : ∀ rs : List Rl, valD (tabE rs) [Sum.inl (s : Int), Sum.inl (a : Int)] = (look rs s a).map rlV
  | [] => rfl
  | r :: rs => by
    have ih := val_tabE s a rs
    unfold valD look tabE at ih ⊢
    rw [List.map_cons, List.find?_cons, List.find?_cons]
    have e : decide ((rlK r, rlV r).1 = [Sum.inl (s : Int), Sum.inl (a : Int)]) = decide (r.s = s ∧ r.a = a) := by
      rw [decide_eq_decide]
      show rlK r = _ ↔ _
      unfold rlK
      constructor
      · intro h
        injection h with h1 h2
        injection h2 with h2 _
        injection h1 with h1
        injection h2 with h2
        omega
      · rintro ⟨rfl, rfl⟩
        rfl
    rw [e]
    cases decide (r.s = s ∧ r.a = a) with
    | true => rfl
    | false => exact ih
theorem noLk_tabE : ∀ rs : List Rl, noLk (tabE rs) = true
  | [] => rfl
  | r :: rs => noLk_tabE rs
theorem putE_new (rs : List Rl) (r : Rl) (h : look rs r.s r.a = none) : putE (tabE rs) (rlK r) (rlV r) = tabE (rs ++ [r]) := by
  unfold putE
  rw [if_neg]
  · unfold tabE
    rw [List.map_append]
    rfl
  · have h2 := val_tabE r.s r.a rs
    rw [h] at h2
    unfold valD at h2
    have h3 : (tabE rs).find? (fun kv => decide (kv.1 = rlK r)) = none := by
      cases q : (tabE rs).find? (fun kv => decide (kv.1 = rlK r)) with
      | none => rfl
      | some z =>
        have q2 : (tabE rs).find? (fun kv => decide (kv.1 = [Sum.inl (r.s : Int), Sum.inl (r.a : Int)])) = some z := q
        rw [q2] at h2
        cases h2
    intro hany
    rw [List.any_eq_true] at hany
    obtain ⟨x, hx, hx2⟩ := hany
    exact absurd hx2 (List.find?_eq_none.mp h3 x hx)
/-- no two rules of one state and symbol -/
def Uniq (rs : List Rl) : Prop := rs.Pairwise fun r q => ¬(r.s = q.s ∧ r.a = q.a)
theorem look_pre {rs : List Rl} (u : Uniq rs) {i : Nat} {r : Rl} (h : rs[i]? = some r) : look (rs.take i) r.s r.a = none := by
  unfold look
  rw [List.find?_eq_none]
  intro q hq hc
  obtain ⟨j, hj, e⟩ := List.getElem_of_mem hq
  rw [List.length_take] at hj
  rw [List.getElem_take] at e
  obtain ⟨hi, er⟩ := List.getElem?_eq_some_iff.mp h
  have z := List.pairwise_iff_getElem.mp u j i (by omega) hi (by omega)
  rw [e, er] at z
  exact z (of_decide_eq_true hc)
section
variable {P : Program} {w : World} {K : PySem.W.Frag} {mg : Str → Option Value} {base : Heap} (T : Tx K mg)
include T
/-- the rule that a draw gives -/
def ruleOf (n m s a d : Nat) : Option Rl := if d % 6 > 0 then some ⟨s, a, d / 6 % m, ((d / 60 % 3 : Nat) : Int) - 1, d / 180 % n⟩ else none
def rowRules (dr : List Nat) (n m s : Nat) : Nat → List Rl
  | 0 => []
  | a + 1 => rowRules dr n m s a ++ (ruleOf n m s a (dr.getD ((s * m + a) % dr.length) 0)).toList
def allRules (dr : List Nat) (n m : Nat) : Nat → List Rl
  | 0 => []
  | s + 1 => allRules dr n m s ++ rowRules dr n m s m
omit T in
theorem rowRules_length (dr : List Nat) (n m s : Nat) : ∀ a, (rowRules dr n m s a).length ≤ a
  | 0 => Nat.le_refl _
  | a + 1 => by
    have ih := rowRules_length dr n m s a
    rw [rowRules, List.length_append]
    have : (ruleOf n m s a (dr.getD ((s * m + a) % dr.length) 0)).toList.length ≤ 1 := by cases ruleOf n m s a (dr.getD ((s * m + a) % dr.length) 0) <;> simp
    omega
omit T in
theorem allRules_length (dr : List Nat) (n m : Nat) : ∀ s, (allRules dr n m s).length ≤ s * m
  | 0 => Nat.zero_le _
  | s + 1 => by
    have ih := allRules_length dr n m s
    have := rowRules_length dr n m s m
    rw [allRules, List.length_append, Nat.succ_mul]
    omega
def rlDs (rs : List Rl) : List D := rs.map rlD
omit T in
theorem noL_rlDs : ∀ rs : List Rl, noLs (rlDs rs) = true
  | [] => rfl
  | r :: rs => noL_rlDs rs
def S_law_rules : Hp → List D → D → Prop := fun _ ds d => ∃ dr n m, 0 < dr.length ∧ 1 ≤ n ∧ n ≤ 2 ∧ 1 ≤ m ∧ m ≤ 2 ∧ ds = [.lst (iDs dr), iD n, iD m] ∧ d = .lst (rlDs (allRules dr n m n))
theorem ok_law_rules : Cal P w K mg base 1 "_law_rules" (spF S_law_rules) := by
  refine calF T.g__law_rules (fn__law_rules T) sc__law_rules (by decide) (fun H ds d h => by obtain ⟨p, _, _, _, _, _, _, _, rfl, _⟩ := h; rfl) fun cdv A outer s H E hr ds d hS => ?_
  obtain ⟨dr, n, m, hdr, hn, hn2, hm, hm2, rfl, rfl⟩ := hS
  have nd := sc__law_rules.nd
  refine dss_thaw 0 rfl fun a0 Ha sa la => ?_
  refine dss_asgX 3 nd (dx_lst da_nil) fun d1 H1 q1 => ?_
  obtain ⟨p, rfl, bp, lp, s1⟩ := q1
  refine dss_forR (fun H0 i ρ' H' => Sx Ha H' ∧ LstAt H' p (rlDs (allRules dr n m i)) ∧ ρ' = [some (.ref a0), some (iD n), some (iD m), some (.ref p), none, none, none]) (de_var 1 rfl) (by omega) ?_ ?_ ?_ T.f_range
  · exact fun H2 s2 => ⟨_, Wk.refl _, s1.trans s2, lp.mono s2, rfl⟩
  · rintro H0 s0 i ρ' H' hi ⟨s2, l2, rfl⟩
    have hal := allRules_length dr n m i
    have him : i * m ≤ 4 := by
      have : i * m ≤ 2 * 2 := Nat.mul_le_mul (by omega) hm2
      omega
    refine ⟨_, dg_name 4 nd, dss_forR (fun H0 j ρ' H' => Sx Ha H' ∧ LstAt H' p (rlDs (allRules dr n m i ++ rowRules dr n m i j)) ∧ ρ' = [some (.ref a0), some (iD n), some (iD m), some (.ref p), some (iD i), none, none]) (de_var 2 rfl) (by omega) ?_ ?_ ?_ T.f_range⟩
    · exact fun H3 s3 => ⟨_, Wk.refl _, s2.trans s3, by rw [rowRules, List.append_nil]; exact l2.mono s3, rfl⟩
    · rintro H3 s3 j ρ' H4 hj ⟨s4, l4, rfl⟩
      have hlt : (i * m + j) % dr.length < dr.length := Nat.mod_lt _ hdr
      have hg : dr.getD ((i * m + j) % dr.length) 0 = dr[(i * m + j) % dr.length] := by rw [List.getD_eq_getElem?_getD, List.getElem?_eq_getElem hlt]; rfl
      have hrl := rowRules_length dr n m i j
      refine ⟨_, dg_name 5 nd, dss_asg 6 nd (d := iD (dr.getD ((i * m + j) % dr.length) 0)) (de_ixA (t := (i * m + j) % dr.length) (de_var 0 rfl) (DE.is (de_mod (de_add (de_mul (de_var 4 rfl) (de_var 2 rfl) (.inl (by omega))) (de_var 5 rfl)) (de_lenA T.f_len (de_var 0 rfl) (la.mono s4)) (by rw [List.length_map]; omega)) (d' := iD ((i * m + j) % dr.length)) (by rw [List.length_map]; rfl)) (la.mono s4) (ixN_nat (by rw [List.length_map]; exact hlt)) (by rw [hg, List.getElem?_map, List.getElem?_eq_getElem hlt]; rfl)) ?_⟩
      generalize hdv : dr.getD ((i * m + j) % dr.length) 0 = dv
      refine dss_if (fun ρ1 H1 => Sx Ha H1 ∧ LstAt H1 p (rlDs (allRules dr n m i ++ rowRules dr n m i (j + 1))) ∧ ρ1 = [some (.ref a0), some (iD n), some (iD m), some (.ref p), some (iD i), some (iD j), some (iD dv)]) (kb := decide (dv % 6 > 0)) (tT (dt_gt (de_mod (de_var 6 rfl) de_int (by omega)) de_int) (by omega)) (fun hk => ?_) (fun hk => ?_) ?_
      · have hc : dv % 6 > 0 := of_decide_eq_true hk
        refine dss_app (de_var 3 rfl) (DE.is (d' := rlD ⟨i, j, dv / 6 % m, ((dv / 60 % 3 : Nat) : Int) - 1, dv / 180 % n⟩) (de_tp (da_cons (de_var 4 rfl) (da_cons (de_var 5 rfl) (da_cons (de_mod (de_fdiv (de_var 6 rfl) de_int (by omega)) (de_var 2 rfl) (by omega)) (da_cons (de_sub (de_mod (de_fdiv (de_var 6 rfl) de_int (by omega)) de_int (by omega)) de_int) (da_cons (de_mod (de_fdiv (de_var 6 rfl) de_int (by omega)) (de_var 1 rfl) (by omega)) da_nil)))))) rfl) l4 (by unfold rlDs; rw [List.length_map, List.length_append]; omega) (.cons rfl (.cons rfl (.cons rfl (.cons rfl (.cons rfl (.cons rfl (.cons rfl .nil))))))) (noL_rlDs _) rfl fun H5 b5 t5 l5 => ?_
        · refine dss_nil fun H6 s6 => ⟨(b5.same s4 (fun a ha => by rw [show a = p by simpa using ha]; exact bp)).trans s6, ?_, rfl⟩
          rw [rowRules, hdv, ruleOf, if_pos hc, ← List.append_assoc]
          unfold rlDs at l5 ⊢
          rw [List.map_append]
          exact l5.mono s6
      · have hc : ¬ dv % 6 > 0 := of_decide_eq_false hk
        refine dss_nil fun H6 s6 => ⟨s4.trans s6, ?_, rfl⟩
        rw [rowRules, hdv, ruleOf, if_neg hc]
        simpa using l4.mono s6
      · rintro ρ1 H1 ⟨s5, l5, rfl⟩
        exact dss_nil fun H6 s6 => ⟨_, .same (.same (.same (.same (.same (.drop (.drop .nil)))))), s5.trans s6, l5.mono s6, rfl⟩
    · rintro H3 s3 ρ' H4 ⟨s4, l4, rfl⟩
      rw [forR_nat] at l4
      exact dss_nil fun H6 s6 => ⟨_, .same (.same (.same (.same (.drop (.same (.same .nil)))))), s4.trans s6, l4.mono s6, rfl⟩
  · rintro H0 s0 ρ' H' ⟨s2, l2, rfl⟩
    rw [forR_nat] at l2
    exact dss_ret (de_frz (de_var 3 rfl) l2) fun H3 s3 => ⟨rfl, (sa.trans s2).trans s3⟩
end
end K5
namespace K5
open PySem PySem.Spec PyProof.Rows L2
theorem SameL.trans {H H1 H2 : Hp} (a : SameL H H1) (b : SameL H1 H2) : SameL H H2 := ⟨a.t.trans b.t, fun c xs e => b.l c xs (a.l c xs e)⟩
theorem SameL.refl (H : Hp) : SameL H H := ⟨SameT.refl H, fun _ _ e => e⟩
section
variable {X : Cx} {e a b c o i iter elt : Expr} {ρ : Rho} {B : Hp} {d : D} {ds es : List D} {pos px p2 pn : Pos} {p : Addr} {k : Nat} {dt : List (List L2.Key × D)} {key : List L2.Key} {scope : Scope} {x : Str} {P : D → Hp → Prop}
theorem dt_dinT (hr : Room k X.A) (hi : DE X i ρ B (.tup (key.map kD))) (ho : DE X o ρ B (.ref p)) (hD : DicT B p dt) (hm : behindInMarks .In o = false := by first | exact nomark _ | rfl) : DT X (.Compare i [.In] [o] pos) ρ B (valD dt key).isSome :=
  fun σ H s r Q q => wT_of (pt_cmp (pc_din (units2 hr) pe_w pe_w) hm) (two hi ho s r fun y x1 H' s' e2 e1 => by
    obtain ⟨o1, g, h⟩ := dget_t (hD.mono (s.trans s')) e2
    refine ⟨p, o1, e1, g, (valD dt key).isSome, ?_, q H' s'⟩
    rcases h with ⟨h1, h2⟩ | ⟨v, d', h1, h2, _⟩ <;> rw [h1, h2] <;> rfl)
theorem dt_dnotT (hr : Room k X.A) (hi : DE X i ρ B (.tup (key.map kD))) (ho : DE X o ρ B (.ref p)) (hD : DicT B p dt) (hm : behindInMarks .NotIn o = false := by first | exact nomark _ | rfl) : DT X (.Compare i [.NotIn] [o] pos) ρ B (!(valD dt key).isSome) :=
  fun σ H s r Q q => wT_of (pt_cmp (pc_dnotin (units2 hr) pe_w pe_w) hm) (two hi ho s r fun y x1 H' s' e2 e1 => by
    obtain ⟨o1, g, h⟩ := dget_t (hD.mono (s.trans s')) e2
    refine ⟨p, o1, e1, g, !(valD dt key).isSome, ?_, q H' s'⟩
    rcases h with ⟨h1, h2⟩ | ⟨v, d', h1, h2, _⟩ <;> rw [h1, h2] <;> rfl)
theorem dt_notInI {m : Int} {ns : List Int} (ha : DE X a ρ B (.int m)) (hb : DE X b ρ B (.tup (ns.map D.int))) (hm : behindInMarks .NotIn b = false := by rfl) : DT X (.Compare a [.NotIn] [b] pos) ρ B (!decide (m ∈ ns)) :=
  dt_cmp op_notIn_seq hm ha hb fun H x y s e1 e2 Q q => by
    obtain ⟨p1, xs, rfl, h1, l1⟩ := e2
    have ex := l1.ints
    subst ex
    refine ⟨p1, _, rfl, .inr (SqT.of h1), by rw [show x = V.int m from e1]; rfl, List.all_eq_true.mpr fun v hv => ?_, ?_⟩
    · obtain ⟨i, _, rfl⟩ := List.mem_map.mp hv
      rfl
    · rw [show x = V.int m from e1]
      have z : inV (V.int m) (ns.map V.int) = decide (m ∈ ns) := by
        unfold inV
        rw [Bool.eq_iff_iff, List.any_eq_true, decide_eq_true_iff]
        constructor
        · rintro ⟨v, hv, he⟩
          obtain ⟨i, hi, rfl⟩ := List.mem_map.mp hv
          have : i = m := by simpa [eqV] using he
          exact this ▸ hi
        · intro h
          exact ⟨_, List.mem_map.mpr ⟨m, h, rfl⟩, by simp [eqV]⟩
      show Q (V.bl (!inV (V.int m) (ns.map V.int))) H
      rw [z]
      exact q H (Sx.refl H)
/-- a key's datum -/
def keyD (q : List L2.Key × D) : D := .tup (q.1.map kD)
theorem isKeys_dat {H : Hp} : ∀ {kvs : List (List L2.Key × V)} {es : List (List L2.Key × D)} {bs : List Addr}, IsKeys H kvs bs → KD H kvs es → ∀ b ∈ bs, ∃ q ∈ es, Dat H (keyD q) (.ref b)
  | _, _, _, .nil, _, b, hb => by simp at hb
  | _, _, _, @Paired.cons _ _ _ q0 b0 qs bs r t, h, b, hb => by
    obtain ⟨k, v⟩ := q0
    obtain ⟨d, es', rfl, h1, h2⟩ := h
    (rcases List.mem_cons.mp hb with e | hb)
    · subst e
      refine ⟨(k, d), List.mem_cons_self .., b, _, rfl, r, ?_⟩
      clear r h1
      induction k with
      | nil => rfl
      | cons z zs ih => cases z with
        | inl i => exact ⟨_, _, rfl, rfl, ih⟩
        | inr y => exact ⟨_, _, rfl, rfl, ih⟩
    · obtain ⟨q, hq, dq⟩ := isKeys_dat t h2 b hb
      exact ⟨q, List.mem_cons_of_mem _ hq, dq⟩
/-- the keys in their order, and a permutation of it -/
theorem isKeys_all {H : Hp} : ∀ {kvs : List (List L2.Key × V)} {es : List (List L2.Key × D)} {bs : List Addr}, IsKeys H kvs bs → KD H kvs es → DatL H (es.map keyD) (bs.map V.ref)
  | _, _, _, .nil, h => by
    rw [show _ = [] from h]
    rfl
  | _, _, _, @Paired.cons _ _ _ q0 b0 qs bs r t, h => by
    obtain ⟨k, v⟩ := q0
    obtain ⟨d, es', rfl, h1, h2⟩ := h
    refine ⟨_, _, rfl, ⟨b0, _, rfl, r, ?_⟩, isKeys_all t h2⟩
    clear r h1
    induction k with
    | nil => rfl
    | cons z zs ih => cases z with
      | inl i => exact ⟨_, _, rfl, rfl, ih⟩
      | inr y => exact ⟨_, _, rfl, rfl, ih⟩
theorem datL_perm {H : Hp} {α : Type} (f : α → D) {ys bs : List Addr} (hp : ys.Perm bs) : ∀ es : List α, DatL H (es.map f) (bs.map V.ref) → ∃ es' : List α, es'.Perm es ∧ DatL H (es'.map f) (ys.map V.ref) := by
  induction hp with
  | nil => exact fun es h => ⟨es, .refl _, h⟩
  | cons x _ ih =>
    intro es h
    cases es with
    | nil => cases (show _ = [] from h)
    | cons e es =>
      obtain ⟨v, r, ev, h1, h2⟩ := h
      rw [List.map_cons] at ev
      injection ev with e1 e2
      subst e1 e2
      obtain ⟨es', p, q⟩ := ih es h2
      exact ⟨e :: es', p.cons e, _, _, rfl, h1, q⟩
  | swap x y l =>
    intro es h
    cases es with
    | nil => cases (show _ = [] from h)
    | cons e es =>
      obtain ⟨v, r, ev, h1, h2⟩ := h
      rw [List.map_cons] at ev
      injection ev with e1 e2
      subst e1 e2
      cases es with
      | nil => cases (show _ = [] from h2)
      | cons e' es =>
        obtain ⟨v', r', ev', h1', h2'⟩ := h2
        rw [List.map_cons] at ev'
        injection ev' with e1 e2
        subst e1 e2
        exact ⟨e' :: e :: es, List.Perm.swap e e' es, _, _, rfl, h1', _, _, rfl, h1, h2'⟩
  | trans _ _ ih1 ih2 =>
    intro es h
    obtain ⟨es1, p1, q1⟩ := ih2 es h
    obtain ⟨es2, p2, q2⟩ := ih1 es1 q1
    exact ⟨es2, p2.trans p1, q2⟩
/-- sorted(d) -/
theorem dx_sortedD (hm : X.mg "sorted" = none) (ho : DE X o ρ B (.ref p)) (hD : DicW B p dt) (hk : ∀ q ∈ dt, ∃ i j : Int, q.1 = [Sum.inl i, Sum.inl j]) (hc : X.calm = true := by rfl) (hb : bootBuiltins "sorted" = some (.builtin "sorted") := by decide +kernel) (hg : Gl X "sorted" := by rfl)
    (he : starEach (o :: []) X.env = (false, eval o X.env) :: starEach [] X.env := by rfl) (hpl : (backTo pos (starEach [] X.env)).any (·.1) = false := by rfl) : DX X (.Call (.Name "sorted" px) [o] [] pos) ρ B (fun d H' => Sx B H' ∧ ∃ dt' : List (List L2.Key × D), dt'.Perm dt ∧ d = .lst (dt'.map keyD)) :=
  DX.mk (pe_callB (cr_sortedD hc) hg hm hb (pa_cons pe_w pa_nil he) (by decide) (by decide) he hpl) fun σ H s r Q q => ho σ H s r _ fun v H1 s1 e1 => by
    obtain ⟨kvs, hkv, kd⟩ := hD.mono (s.trans s1)
    refine ⟨p, kvs, by rw [show v = V.ref p from e1], hkv, fun z hz => ?_, fun q1 bs ys hq1 ik hp => ?_⟩
    · obtain ⟨i, hi, e⟩ := List.getElem_of_mem hz
      have hl := kd.length
      have : ∀ {kvs : List (List L2.Key × V)} {dt : List (List L2.Key × D)}, KD H1 kvs dt → ∀ z ∈ kvs, ∃ q ∈ dt, q.1 = z.1 := by
        intro kvs
        induction kvs with
        | nil => intro dt _ z hz; simp at hz
        | cons z0 zs ih =>
          intro dt h z hz
          obtain ⟨d, q, rfl, _, h2⟩ := h
          (rcases List.mem_cons.mp hz with e | hz)
          · subst e
            exact ⟨_, List.mem_cons_self .., rfl⟩
          · obtain ⟨q', m, e⟩ := ih h2 z hz
            exact ⟨q', List.mem_cons_of_mem _ m, e⟩
      obtain ⟨q', m, e'⟩ := this kd z hz
      rw [← e']
      exact hk q' m
    · obtain ⟨dt', p1, p2⟩ := datL_perm keyD hp dt (isKeys_all ik kd)
      exact q _ _ _ ⟨(s.trans s1).trans (Sx.new hq1), dt', p1, rfl⟩ ⟨q1, _, rfl, upd_same, DatL.mono (Sx.new hq1) _ _ p2⟩ (r.mono (s1.trans (Sx.new hq1)))
/-- tuple([elt for x in iter]), iter a list that was made on the way -/
theorem dx_tupLc (P2 : List D → Prop) (i : Nat) (nd : X.N.Nodup) (he : DX X iter ρ B P) (hP : ∀ d H1, P d H1 → Sx B H1 ∧ ∃ ds es : List D, P2 es ∧ d = .lst ds ∧ es.length = ds.length ∧ noLs es = true ∧ es.length ≤ 100000 ∧ ∀ (j : Nat) (d e : D), ds[j]? = some d → es[j]? = some e → DEb X scope elt (ρ.set i (some d)) H1 e)
    (ok : BlkOk X.N X.env.scope scope [(x, i)]) (hmt : X.mg "tuple" = none) (hi : X.N[i]? = some x := by rfl) (hx : ∀ (s : Shared) (H : Hp) (C : Addr) (cl : List (Str × Addr)) (fp : List Addr), (X.blk s H scope (compEnvC scope cl C X.env) fp).env.scope.names.lookup x = some .local := by intros; rfl) (hc : X.calm = true := by rfl)
    (hs : ∀ x, foldedSetIterable iter X.env x = pure x := by intro _; rfl) (hgt : Gl X "tuple" := by rfl)
    (hst : starEach (.ListComp elt [⟨.Name x px, iter, [], 0⟩] scope p2 :: []) X.env = (false, eval (.ListComp elt [⟨.Name x px, iter, [], 0⟩] scope p2) X.env) :: starEach [] X.env := by rfl) (hpl : (backTo pos (starEach [] X.env)).any (·.1) = false := by rfl) :
    DX X (.Call (.Name "tuple" pn) [.ListComp elt [⟨.Name x px, iter, [], 0⟩] scope p2] [] pos) ρ B (fun d' H' => ∃ es, P2 es ∧ d' = .tup es ∧ Sx B H') :=
  DX.mk (pe_callTy call_tuple_of hgt hmt boot_tuple' (pa_cons (pe_lc (g := gName i) (tt := tYes) (te := tAll X scope elt) hc nd (pi_list pe_w) ok (fun s H C cl fp => pg_name nd hi (Or.inl (hx s H C cl fp)) (Or.inr (hx s H C cl fp))) (fun _ _ _ _ _ => pts_nil) (fun s H C cl fp => pe_tAll s H C cl fp) hs) pa_nil hst) (by decide) (by decide) hst hpl) fun σ H s r Q q => he σ H s r _ fun d v H1 p1 e1 r1 => by
    obtain ⟨sb, ds, es, hp2, rfl, hl, n, hz, hel⟩ := hP d H1 p1
    obtain ⟨a, xs, ex, ha, hx1⟩ := e1
    refine ⟨a, ex, ⟨xs, SqL.of ha⟩, fun A0 hA0 => lc_list (K := X.K) (a := a) (xs := xs) (LcP H1 A0 es) (lcp0 hA0) (fun j H' _ p => SqL.of ((lcp_sx hA0 p).k a _ rfl ha)) (fun j y H' hy p => ?_) fun H' pp => ?_⟩
    · obtain ⟨d, hd, dd⟩ := hx1.get' hy
      have hjl : j < es.length := by rw [hl]; exact (List.getElem?_eq_some_iff.mp hd).1
      exact lc_stepD hA0 (Sx.refl H1) r1 n hz p dd (List.getElem?_eq_getElem hjl) (hel j d _ hd (List.getElem?_eq_getElem hjl))
    · have p2 : LcP H1 A0 es es.length H' := by rw [hl, hx1.length]; exact pp
      have sx := lcp_sx hA0 p2
      obtain ⟨bt, acc, hacc, da⟩ := p2
      rw [List.take_length] at da
      refine ⟨A0, acc, rfl, .inl ⟨SqL.of hacc, fun l hl2 => ?_⟩⟩
      exact q (.tup es) _ _ ⟨es, hp2, rfl, sb.trans (sx.trans (Sx.new hl2))⟩ ⟨l, acc, rfl, upd_same, DatL.mono (Sx.new hl2) _ _ da⟩ (r1.mono (sx.trans (Sx.new hl2)))
end
end K5
namespace K5
open PySem PySem.Spec PyProof.Rows L2
theorem rl_get {rs : List Rl} {i : Nat} {d : D} (h : (rlDs rs)[i]? = some d) : ∃ r, rs[i]? = some r ∧ d = rlD r := by
  unfold rlDs at h
  rw [List.getElem?_map] at h
  cases q : rs[i]? with
  | none => rw [q] at h; cases h
  | some r =>
    rw [q] at h
    exact ⟨r, rfl, (Option.some.inj h).symm⟩
theorem take_snoc {α : Type} {l : List α} {i : Nat} {x : α} (h : l[i]? = some x) : l.take (i + 1) = l.take i ++ [x] := by
  rw [List.take_add_one, h]
  rfl
theorem isN_opt (o : Option Cf) : isN (optD o) = o.isNone := by cases o <;> rfl
theorem stripF_le (l : List Nat) : (stripF l).length ≤ l.length := by
  rw [← stS_end, List.length_take]
  have := stS_le l l.length
  omega
theorem stepT_len {rs : List Rl} {c c' : Cf} (h : stepT rs c = some c') : c'.l.length ≤ c.l.length + 1 ∧ c'.r.length ≤ c.r.length + 1 := by
  unfold stepT at h
  cases q : look rs c.s c.a with
  | none => rw [q] at h; cases h
  | some r =>
    rw [q] at h
    simp only at h
    split at h
    · cases h
      simp
    · split at h
      · cases h
        have := stripF_le (r.w :: c.l)
        simp at this ⊢
        omega
      · cases h
        have := stripF_le (r.w :: c.r)
        simp at this ⊢
        omega
section
variable {P : Program} {w : World} {K : PySem.W.Frag} {mg : Str → Option Value} {base : Heap} (T : Tx K mg)
include T
def S_law_table (b : Bool) : Hp → List D → (D → Hp → Prop) → Prop := fun H ds Ψ => ∃ rs, Uniq rs ∧ rs.length < 90000 ∧ ds = [if b then .tup (rlDs rs) else .lst (rlDs rs)] ∧ ∀ p H', H p = none → Sx H H' → DicW H' p (tabE rs) → Ψ (.ref p) H'
theorem ok_law_tableT : Cal P w K mg base 1 "_law_table" (spN (S_law_table true)) := by
  refine calN T.g__law_table (fn__law_table T) sc__law_table (by decide) (fun H ds d h => by obtain ⟨rs, _, _, rfl, _⟩ := h; rfl) fun cdv A outer s H E hr ds Ψ hS => ?_
  obtain ⟨rs, hu, hz, rfl, hΨ⟩ := hS
  have nd := sc__law_table.nd
  refine dss_asgX 1 nd dx_newT fun d1 H1 q1 => ?_
  obtain ⟨p, rfl, bp, dp, s1⟩ := q1
  refine dss_forT (fun H0 i ρ' H' => SameL H0 H' ∧ Sx H H' ∧ DicW H' p (tabE (rs.take i)) ∧ ρ' = [some (.tup (rlDs rs)), some (.ref p), none, none, none, none, none]) (de_var 0 rfl) (noL_rlDs rs) ?_ ?_ ?_ ?_
  · exact fun H2 s2 => ⟨_, Wk.refl _, SameL.refl _, s1.trans s2, dp.mono s2, rfl⟩
  · exact fun _ _ _ _ p => p.1.t
  · rintro H0 s0 i d ρ' H' hd ⟨t1, s2, dp2, rfl⟩
    obtain ⟨r, hr1, rfl⟩ := rl_get hd
    refine ⟨_, dg_tup (dgs_cons (dg_name 2 nd) (dgs_cons (dg_name 3 nd) (dgs_cons (dg_name 4 nd) (dgs_cons (dg_name 5 nd) (dgs_cons (dg_name 6 nd) dgs_nil))))), ?_⟩
    refine dss_dputT (key := rlK r) (d := rlV r) hr (de_tp (da_cons (de_var 4 rfl) (da_cons (de_var 5 rfl) (da_cons (de_var 6 rfl) da_nil)))) (de_var 1 rfl) (de_tp (da_cons (de_var 2 rfl) (da_cons (de_var 3 rfl) da_nil)) (by show 2 ≤ 100000; omega)) dp2 (by unfold tabE; rw [List.length_map, List.length_take]; omega) fun H3 b3 l3 dp3 => ?_
    rw [putE_new _ _ (look_pre hu hr1), ← take_snoc hr1] at dp3
    exact dss_nil fun H4 s4 => ⟨_, .same (.same (.drop (.drop (.drop (.drop (.drop .nil)))))), (t1.trans l3).trans s4.l, (b3.same s2 (fun a ha => by rw [show a = p by simpa using ha]; exact bp)).trans s4, dp3.mono s4, rfl⟩
  · rintro H0 s0 ρ' H' ⟨t1, s2, dp2, rfl⟩
    rw [show (rlDs rs).length = rs.length from List.length_map .., List.take_length] at dp2
    exact dss_ret (de_var 1 rfl) fun H3 s3 => ⟨hΨ p H3 bp (s2.trans s3) (dp2.mono s3), s2.trans s3⟩
theorem ok_law_tableL : Cal P w K mg base 1 "_law_table" (spN (S_law_table false)) := by
  refine calN T.g__law_table (fn__law_table T) sc__law_table (by decide) (fun H ds d h => by obtain ⟨rs, _, _, rfl, _⟩ := h; rfl) fun cdv A outer s H E hr ds Ψ hS => ?_
  obtain ⟨rs, hu, hz, rfl, hΨ⟩ := hS
  have nd := sc__law_table.nd
  refine dss_asgX 1 nd dx_newT fun d1 H1 q1 => ?_
  obtain ⟨p, rfl, bp, dp, s1⟩ := q1
  refine dss_forL (fun H0 i ρ' H' => SameL H0 H' ∧ Sx H H' ∧ DicW H' p (tabE (rs.take i)) ∧ ρ' = [some (.lst (rlDs rs)), some (.ref p), none, none, none, none, none]) (de_var 0 rfl) ?_ ?_ ?_ ?_
  · exact fun H2 s2 => ⟨_, Wk.refl _, SameL.refl _, s1.trans s2, dp.mono s2, rfl⟩
  · exact fun _ _ _ _ p => p.1
  · rintro H0 s0 i d ρ' H' hd ⟨t1, s2, dp2, rfl⟩
    obtain ⟨r, hr1, rfl⟩ := rl_get hd
    refine ⟨_, dg_tup (dgs_cons (dg_name 2 nd) (dgs_cons (dg_name 3 nd) (dgs_cons (dg_name 4 nd) (dgs_cons (dg_name 5 nd) (dgs_cons (dg_name 6 nd) dgs_nil))))), ?_⟩
    refine dss_dputT (key := rlK r) (d := rlV r) hr (de_tp (da_cons (de_var 4 rfl) (da_cons (de_var 5 rfl) (da_cons (de_var 6 rfl) da_nil)))) (de_var 1 rfl) (de_tp (da_cons (de_var 2 rfl) (da_cons (de_var 3 rfl) da_nil)) (by show 2 ≤ 100000; omega)) dp2 (by unfold tabE; rw [List.length_map, List.length_take]; omega) fun H3 b3 l3 dp3 => ?_
    rw [putE_new _ _ (look_pre hu hr1), ← take_snoc hr1] at dp3
    exact dss_nil fun H4 s4 => ⟨_, .same (.same (.drop (.drop (.drop (.drop (.drop .nil)))))), (t1.trans l3).trans s4.l, (b3.same s2 (fun a ha => by rw [show a = p by simpa using ha]; exact bp)).trans s4, dp3.mono s4, rfl⟩
  · rintro H0 s0 ρ' H' ⟨t1, s2, dp2, rfl⟩
    rw [show (rlDs rs).length = rs.length from List.length_map .., List.take_length] at dp2
    exact dss_ret (de_var 1 rfl) fun H3 s3 => ⟨hΨ p H3 bp (s2.trans s3) (dp2.mono s3), s2.trans s3⟩
def S_law_tstep : Hp → List D → D → Prop := fun H ds d => ∃ p rs c, DicT H p (tabE rs) ∧ c.l.length ≤ 500000 ∧ c.r.length ≤ 500000 ∧ ds = [.ref p, cfD c] ∧ d = optD (stepT rs c)
theorem ok_law_tstep : Cal P w K mg base 2 "_law_turing_step" (spF S_law_tstep) := by
  have hst := ok_law_strip (P := P) (w := w) (base := base) T
  refine calF T.g__law_turing_step (fn__law_turing_step T) sc__law_turing_step (by decide) (fun H ds d h => by obtain ⟨p, rs, c, _, _, _, rfl, _⟩ := h; rfl) fun cdv A outer s H E hr ds d hS => ?_
  obtain ⟨p, rs, c, dp, hl, hrr, rfl, rfl⟩ := hS
  have nd := sc__law_turing_step.nd
  refine dss_unp (de_var 1 rfl) (dg_tup (dgs_cons (dg_name 2 nd) (dgs_cons (dg_name 3 nd) (dgs_cons (dg_name 4 nd) (dgs_cons (dg_name 5 nd) dgs_nil))))) ?_
  refine dss_guard (kb := !((look rs c.s c.a).map rlV).isSome) (DT.is (dt_dnotT (key := [Sum.inl (c.s : Int), Sum.inl (c.a : Int)]) hr (de_tp (da_cons (de_var 2 rfl) (da_cons (de_var 4 rfl) da_nil))) (de_var 0 rfl) dp) (by rw [val_tabE])) (fun hk => ?_) (fun hk => ?_)
  · refine dss_ret de_non fun H2 s2 => ⟨?_, s2⟩
    unfold stepT
    cases q : look rs c.s c.a with
    | none => rfl
    | some r => rw [q] at hk; cases hk
  · obtain ⟨r, hlk⟩ : ∃ r, look rs c.s c.a = some r := by
      cases q : look rs c.s c.a with
      | none => rw [q] at hk; cases hk
      | some r => exact ⟨r, rfl⟩
    have hv : valD (tabE rs) [Sum.inl (c.s : Int), Sum.inl (c.a : Int)] = some (rlV r) := by rw [val_tabE, hlk]; rfl
    refine dss_unp (d := rlV r) (de_dgetT hr (de_var 0 rfl) (de_tp (da_cons (de_var 2 rfl) (da_cons (de_var 4 rfl) da_nil))) dp hv) (dg_tup (dgs_cons (dg_name 6 nd) (dgs_cons (dg_name 7 nd) (dgs_cons (dg_name 8 nd) dgs_nil)))) ?_
    refine dss_guard (kb := decide (r.m = 0)) (dt_eq (de_var 7 rfl) de_int) (fun hk1 => ?_) (fun hk1 => ?_)
    · refine dss_ret (de_tp (da_cons (de_var 8 rfl) (da_cons (de_var 3 rfl) (da_cons (de_var 6 rfl) (da_cons (de_var 5 rfl) da_nil))))) fun H2 s2 => ⟨?_, s2⟩
      unfold stepT
      rw [hlk]
      simp only [if_pos (of_decide_eq_true hk1)]
      rfl
    · have hm0 := of_decide_eq_false hk1
      have hd0 : ∀ l : List Nat, (iDs l ++ [iD 0])[0]? = some (iD ((l ++ [0]).headD 0)) := fun l => by cases l <;> rfl
      refine dss_guard (kb := decide (r.m = 1)) (dt_eq (de_var 7 rfl) de_int) (fun hk2 => ?_) (fun hk2 => ?_)
      · refine dss_ret (d := cfD ⟨r.f, stripF (r.w :: c.l), (c.r ++ [0]).headD 0, c.r.drop 1⟩) (de_tp (da_cons (de_var 8 rfl) (da_cons (de_call hst hr (by decide) (da_cons (de_catT (de_tp (da_cons (de_var 6 rfl) da_nil)) (de_var 3 rfl) (by simp; omega)) da_nil) fun H _ => ⟨r.w :: c.l, by simp; omega, rfl, rfl⟩) (da_cons (de_ixT (t := 0) (de_catT (de_var 5 rfl) (de_tp (da_cons de_int da_nil)) (by simp; omega)) de_int (by exact ixN_nat (by simp)) (hd0 c.r)) (da_cons (DE.is (de_sliceT (de_var 5 rfl) (do_so de_int) do_no) (d' := .tup (iDs (c.r.drop 1))) ?_) da_nil))))) fun H2 s2 => ⟨?_, s2⟩
        · exact congrArg D.tup ((cut_from (iDs c.r) 1).trans List.map_drop.symm)
        · unfold stepT
          rw [hlk]
          simp only [if_neg hm0, if_pos (of_decide_eq_true hk2)]
          rfl
      · refine dss_ret (d := cfD ⟨r.f, c.l.drop 1, (c.l ++ [0]).headD 0, stripF (r.w :: c.r)⟩) (de_tp (da_cons (de_var 8 rfl) (da_cons (DE.is (de_sliceT (de_var 3 rfl) (do_so de_int) do_no) (d' := .tup (iDs (c.l.drop 1))) ?_) (da_cons (de_ixT (t := 0) (de_catT (de_var 3 rfl) (de_tp (da_cons de_int da_nil)) (by simp; omega)) de_int (by exact ixN_nat (by simp)) (hd0 c.l)) (da_cons (de_call hst hr (by decide) (da_cons (de_catT (de_tp (da_cons (de_var 6 rfl) da_nil)) (de_var 5 rfl) (by simp; omega)) da_nil) fun H _ => ⟨r.w :: c.r, by simp; omega, rfl, rfl⟩) da_nil))))) fun H2 s2 => ⟨?_, s2⟩
        · exact congrArg D.tup ((cut_from (iDs c.l) 1).trans List.map_drop.symm)
        · unfold stepT
          rw [hlk]
          simp only [if_neg hm0, if_neg (of_decide_eq_false hk2)]
          rfl
def runD (p : Addr) : D := .lst [.str "turing", .ref p]
def S_law_go : Hp → List D → D → Prop := fun H ds d => ∃ p rs c, DicT H p (tabE rs) ∧ c.l.length ≤ 500000 ∧ c.r.length ≤ 500000 ∧ ds = [runD p, cfD c] ∧ d = optD (stepT rs c)
theorem ok_law_go : Cal P w K mg base 3 "_law_go" (spF S_law_go) := by
  have hst := ok_law_tstep (P := P) (w := w) (base := base) T
  refine calF T.g__law_go (fn__law_go T) sc__law_go (by decide) (fun H ds d h => by obtain ⟨p, rs, c, _, _, _, rfl, _⟩ := h; rfl) fun cdv A outer s H E hr ds d hS => ?_
  obtain ⟨p, rs, c, dp, hl, hrr, rfl, rfl⟩ := hS
  have nd := sc__law_go.nd
  refine dss_unp (de_var 0 rfl) (dg_lst (dgs_cons (dg_name 2 nd) (dgs_cons (dg_name 3 nd) dgs_nil))) ?_
  refine dss_leave (DT.is (dt_eqS (de_var 2 rfl) de_str) (decide_eq_true rfl)) (dss_ret (de_call hst hr (by decide) (da_cons (de_var 3 rfl) (da_cons (de_var 1 rfl) da_nil)) fun H2 s2 => ⟨p, rs, c, dp.mono s2, hl, hrr, rfl, rfl⟩) fun H2 s2 => ⟨rfl, s2⟩)
def S_law_many : Hp → List D → D → Prop := fun H ds d => ∃ p rs c n, DicT H p (tabE rs) ∧ c.l.length + n ≤ 500000 ∧ c.r.length + n ≤ 500000 ∧ ds = [runD p, cfD c, iD n] ∧ d = optD (manyT rs n (some c))
omit T in
theorem manyT_succ (rs : List Rl) : ∀ (n : Nat) (o : Option Cf), manyT rs (n + 1) o = (manyT rs n o).bind (stepT rs)
  | 0, o => rfl
  | n + 1, o => by
    show manyT rs (n + 1) (o.bind (stepT rs)) = (manyT rs n (o.bind (stepT rs))).bind (stepT rs)
    exact manyT_succ rs n _
omit T in
theorem manyT_len {rs : List Rl} {c : Cf} : ∀ {n : Nat} {c' : Cf}, manyT rs n (some c) = some c' → c'.l.length ≤ c.l.length + n ∧ c'.r.length ≤ c.r.length + n
  | 0, c', h => by
    cases (show some c = some c' from h)
    simp
  | n + 1, c', h => by
    rw [manyT_succ] at h
    cases q : manyT rs n (some c) with
    | none => rw [q] at h; cases h
    | some c1 =>
      rw [q] at h
      obtain ⟨a1, a2⟩ := manyT_len q
      obtain ⟨b1, b2⟩ := stepT_len (show stepT rs c1 = some c' from h)
      omega
theorem ok_law_many : Cal P w K mg base 4 "_law_many" (spF S_law_many) := by
  have hgo := ok_law_go (P := P) (w := w) (base := base) T
  refine calF T.g__law_many (fn__law_many T) sc__law_many (by decide) (fun H ds d h => by obtain ⟨p, rs, c, n, _, _, _, rfl, _⟩ := h; rfl) fun cdv A outer s H E hr ds d hS => ?_
  obtain ⟨p, rs, c, n, dp, hl, hrr, rfl, rfl⟩ := hS
  have nd := sc__law_many.nd
  refine dss_forR (fun H0 i ρ' H' => Sx H H' ∧ ρ' = [some (runD p), some (optD (manyT rs i (some c))), some (iD n), none]) (de_var 2 rfl) (by omega) ?_ ?_ ?_ T.f_range
  · exact fun H2 s2 => ⟨_, Wk.refl _, s2, rfl⟩
  · rintro H0 s0 i ρ' H' hi ⟨s2, rfl⟩
    refine ⟨_, dg_name 3 nd, dss_if (fun ρ1 H1 => Sx H H1 ∧ ρ1 = [some (runD p), some (optD (manyT rs (i + 1) (some c))), some (iD n), some (iD i)]) (kb := !(manyT rs i (some c)).isNone) (DT.is (dt_notN (de_var 1 rfl)) (by rw [isN_opt])) (fun hk => ?_) (fun hk => ?_) ?_⟩
    · cases q : manyT rs i (some c) with
      | none => rw [q] at hk; cases hk
      | some c1 =>
        obtain ⟨a1, a2⟩ := manyT_len q
        refine dss_asg 1 nd (de_call hgo hr (by decide) (da_cons (de_var 0 rfl) (da_cons (de_var 1 rfl) da_nil)) fun H3 s3 => ⟨p, rs, c1, dp.mono (s2.trans s3), by omega, by omega, rfl, rfl⟩) (dss_nil fun H3 s3 => ⟨s2.trans s3, ?_⟩)
        rw [manyT_succ, q]
        rfl
    · cases q : manyT rs i (some c) with
      | some c1 => rw [q] at hk; cases hk
      | none =>
        refine dss_nil fun H3 s3 => ⟨s2.trans s3, ?_⟩
        rw [manyT_succ, q]
        rfl
    · rintro ρ1 H1 ⟨s3, rfl⟩
      exact dss_nil fun H4 s4 => ⟨_, .same (.same (.same (.drop .nil))), s3.trans s4, rfl⟩
  · rintro H0 s0 ρ' H' ⟨s2, rfl⟩
    rw [forR_nat]
    exact dss_ret (de_var 1 rfl) fun H3 s3 => ⟨rfl, s2.trans s3⟩
def S_is_count : Hp → List D → D → Prop := fun _ ds d => ∃ n m : Nat, m ≤ n ∧ ds = [iD n, iD m] ∧ d = .bl true
theorem ok_is_count : Cal P w K mg base 1 "_law_is_count" (spF S_is_count) := by
  refine calF T.g__law_is_count (fn__law_is_count T) sc__law_is_count (by decide) (fun H ds d h => by obtain ⟨n, m, _, rfl, _⟩ := h; rfl) fun cdv A outer s H E hr ds d hS => ?_
  obtain ⟨n, m, hm, rfl, rfl⟩ := hS
  exact dss_ret (d := .bl true) (DE.is (de_and (k1 := true) (k2 := true) (de_isiT (de_var 0 rfl) rfl T.f_int bt_int k_ii T.f_isinstance) fun _ => de_and (k1 := true) (k2 := true) (de_notV (k := false) (de_isiT (de_var 0 rfl) rfl T.f_bool bt_bool k_ib T.f_isinstance)) fun _ => de_one (DE.is (de_ge (de_var 0 rfl) (de_var 1 rfl)) (congrArg D.bl (decide_eq_true (by omega))))) rfl) fun H2 s2 => ⟨rfl, s2⟩
end
end K5
namespace K5
open PySem PySem.Spec PyProof.Rows L2
section
variable (X : Cx)
def DN (e : Expr) (ρ : Rho) (B : Hp) (P : D → Hp → Prop) : Prop := ∀ σ H, Sx B H → Rep H σ ρ → ∀ Q : VK, (∀ d v H', P d H' → Sx H H' → Dat H' d v → Q v H') → wE X e σ H Q
def DAN (es : List Expr) (ρ : Rho) (B : Hp) (P : List D → Hp → Prop) : Prop := ∀ σ H, Sx B H → Rep H σ ρ → ∀ Q : List V → Hp → Prop, (∀ ds vs H', P ds H' → Sx H H' → DatL H' ds vs → Q vs H') → wA X es σ H Q
end
section
variable {X : Cx} {e a o : Expr} {es : List Expr} {rest : List Stmt} {ρ : Rho} {B : Hp} {d : D} {ds : List D} {P P' : D → Hp → Prop} {N : Rho → Hp → Prop} {R : D → Hp → Prop} {pos px apos pos' : Pos} {k j : Nat} {p C : Addr} {x m : Str} {gs : List (Str × D)}
theorem DE.n (h : DE X e ρ B d) : DN X e ρ B (fun d' H' => d' = d ∧ Sx B H') := fun σ H s r Q q => h σ H s r _ fun v H' s' e' => q d v H' ⟨rfl, s.trans s'⟩ s' e'
theorem DN.dx (h : DN X e ρ B P) : DX X e ρ B (fun d H' => P d H' ∧ Sx B H') := fun σ H s r Q q => h σ H s r _ fun d v H' p s' e' => q d v H' ⟨p, s.trans s'⟩ e' (r.mono s')
theorem DN.imp (h : DN X e ρ B P) (i : ∀ d H', Sx B H' → P d H' → P' d H') : DN X e ρ B P' := fun σ H s r Q q => h σ H s r _ fun d v H' p s' e' => q d v H' (i d H' (s.trans s') p) s' e'
theorem dnc {S : Hp → List D → (D → Hp → Prop) → Prop} (cl : Cal X.prog X.w X.K X.mg X.base k x (spN S)) (hr : Room j X.A) (hk : k ≤ j) (ha : DA X (e :: es) ρ B ds) (hS : ∀ H, Sx B H → S H ds P) (hg : Gl X x := by rfl) (hdb : (x == ("__debug__" : Str)) = false := by decide)
    (he : starEach (e :: es) X.env = (false, eval e X.env) :: starEach es X.env := by rfl) (hpl : (backTo pos (starEach es X.env)).any (·.1) = false := by rfl) : DN X (.Call (.Name x px) (e :: es) [] pos) ρ B P := by
  obtain ⟨f, fd, ps, F, hm, kp, b⟩ := cl.ex
  exact fun σ H s r Q q => wE_of (pe_call F (hr.mono hk) hg hm kp b .nil pass0 pa_w hdb he hpl) (ha σ H s r _ fun vs H1 s1 e1 => ⟨ds, P, by rw [List.append_nil]; exact e1, hS H1 (s.trans s1), fun d v H2 p2 e2 t2 => q d v H2 p2 (s1.trans t2) e2⟩)
/-- a new instance: what the __init__ promised, at an address that was free -/
theorem dn_make {S : Hp → Addr → List D → (Hp → Prop) → Prop} {dvs : List V} {des : List D} {Pm : Addr → Hp → Prop} (mk : Mak X.prog X.w X.K X.mg X.base k x C (spI C S) dvs) (hr : Room j X.A) (hk : k + 1 ≤ j) (ha : DA X (e :: es) ρ B ds) (hdv : ∀ H, DatL H des dvs)
    (hS : ∀ H y, Sx B H → B y = none → Ins H y C [] → S H y (ds ++ des) (Pm y)) (hg : Gl X x := by rfl) (hdb : (x == ("__debug__" : Str)) = false := by decide)
    (he : starEach (e :: es) X.env = (false, eval e X.env) :: starEach es X.env := by rfl) (hpl : (backTo pos (starEach es X.env)).any (·.1) = false := by rfl) : DN X (.Call (.Name x px) (e :: es) [] pos) ρ B (fun d H => ∃ y, d = .ref y ∧ B y = none ∧ Pm y H) := by
  obtain ⟨f, fd, ps, dsv, M, F, hm, b, dv⟩ := mk.ex
  exact fun σ H s r Q q => wE_of (pe_make M F (hr.mono hk) hg hm b dv pass0 pa_w hdb he hpl) (ha σ H s r _ fun vs H1 s1 e1 y dy ny nd nex => by
    have s2 := made_sx (C := C) ny nd nex
    have by0 : B y = none := (s.trans s1).free ny
    refine ⟨y, ds ++ des, vs ++ dvs, Pm y, rfl, (DatL.mono s2 _ _ e1).append (hdv _), made_ins, hS _ y ((s.trans s1).trans s2) by0 made_ins, fun H3 p3 b3 => ⟨rfl, ?_⟩⟩
    have s13 : Sx H1 H3 := b3.same s2 (fun a ha => by rw [show a = y by simpa using ha]; exact ny)
    exact q (.ref y) _ H3 ⟨y, rfl, by0, p3⟩ (s1.trans s13) rfl)
/-- C(): no argument -/
theorem dn_make0 {S : Hp → Addr → List D → (Hp → Prop) → Prop} {Pm : Addr → Hp → Prop} (mk : Mak X.prog X.w X.K X.mg X.base k x C (spI C S) []) (hr : Room j X.A) (hk : k + 1 ≤ j)
    (hS : ∀ H y, Sx B H → B y = none → Ins H y C [] → S H y [] (Pm y)) (hg : Gl X x := by rfl) (hdb : (x == ("__debug__" : Str)) = false := by decide) : DN X (.Call (.Name x px) [] [] pos) ρ B (fun d H => ∃ y, d = .ref y ∧ B y = none ∧ Pm y H) := by
  obtain ⟨f, fd, ps, dsv, M, F, hm, b, dv⟩ := mk.ex
  cases dv
  exact fun σ H s r Q q => wE_of (pe_make0 M F (hr.mono hk) hg hm b .nil pass0 hdb) (fun y dy ny nd nex => by
    have s2 := made_sx (C := C) ny nd nex
    have by0 : B y = none := s.free ny
    refine ⟨y, [], [], Pm y, rfl, rfl, made_ins, hS _ y (s.trans s2) by0 made_ins, fun H3 p3 b3 => ⟨rfl, ?_⟩⟩
    have s13 : Sx H H3 := b3.same s2 (fun a ha => by rw [show a = y by simpa using ha]; exact ny)
    exact q (.ref y) _ H3 ⟨y, rfl, by0, p3⟩ s13 rfl)
theorem dan_nil : DAN X [] ρ B (fun ds H => ds = []) := fun σ H s r Q q => wA_of pa_nil (q [] [] H rfl (Sx.refl H) rfl)
theorem dan_cons {P1 : D → Hp → Prop} {P2 : D → List D → Hp → Prop} (h : DN X e ρ B P1) (t : ∀ d H1, Sx B H1 → P1 d H1 → DAN X es ρ H1 (P2 d)) (hs : starEach (e :: es) X.env = (false, eval e X.env) :: starEach es X.env := by rfl) :
    DAN X (e :: es) ρ B (fun ds H => ∃ d r H1, ds = d :: r ∧ P1 d H1 ∧ Sx B H1 ∧ Sx H1 H ∧ P2 d r H) := fun σ H s r Q q =>
  wA_of (pa_cons pe_w pa_w hs) (h σ H s r _ fun d v H1 p1 s1 e1 => t d H1 (s.trans s1) p1 σ H1 (Sx.refl H1) (r.mono s1) _ fun ds vs H2 p2 s2 e2 => q (d :: ds) (v :: vs) H2 ⟨d, ds, H1, rfl, p1, s.trans s1, s2, p2⟩ (s1.trans s2) ⟨v, vs, rfl, Dat.mono s2 _ _ e1, e2⟩)
theorem DAN.imp {P1 P2 : List D → Hp → Prop} (h : DAN X es ρ B P1) (i : ∀ ds H', Sx B H' → P1 ds H' → P2 ds H') : DAN X es ρ B P2 := fun σ H s r Q q => h σ H s r _ fun ds vs H' p s' e' => q ds vs H' (i ds H' (s.trans s') p) s' e'
theorem dn_lst {P1 : List D → Hp → Prop} (h : DAN X es ρ B P1) (hl : ∀ ds H', P1 ds H' → ds.length ≤ 100000) : DN X (.List es pos) ρ B (fun d H => ∃ ds H1, d = .lst ds ∧ P1 ds H1 ∧ Sx B H1 ∧ Sx H1 H) := fun σ H s r Q q =>
  wE_of (pe_lst pa_w) (h σ H s r _ fun ds vs H1 p1 s1 e1 => ⟨Nat.le_trans (by rw [← e1.length]; exact hl ds H1 p1) (by decide), fun p hp => q (.lst ds) _ _ ⟨ds, H1, rfl, p1, s.trans s1, Sx.new hp⟩ (s1.trans (Sx.new hp)) ⟨p, vs, rfl, upd_same, DatL.mono (Sx.new hp) _ _ e1⟩⟩)
theorem dss_retN' (he : DN X e ρ B P) (h : ∀ d H, Sx B H → P d H → R d H) : DSs X (.Return (some e) pos :: rest) ρ B N R := dss_retX he.dx fun d H q => h d H q.2 q.1
theorem dss_asgN (i : Nat) (nd : X.N.Nodup) (he : DN X e ρ B P) (h : ∀ d H1, Sx B H1 → P d H1 → DSs X rest (ρ.set i (some d)) H1 N R) (hi : X.N[i]? = some x := by rfl) (hx : Loc X.env.scope x := by first | exact Or.inl rfl | exact Or.inr rfl)
    (hs : swapsWith e (some (.Name x pos')) pos.line X.env = pure false := by rfl) (hf : X.fn x = true ∨ X.env.scope.names.lookup x = some .local := by first | exact .inl rfl | exact .inr rfl) : DSs X (.Assign [.Name x pos'] e pos :: rest) ρ B N R :=
  dss_asgX i nd he.dx (fun d H1 q => h d H1 q.2 q.1) hi hx hs hf
theorem dss_unpN {tg : Expr} (he : DN X e ρ B P) (h : ∀ d H1, Sx B H1 → P d H1 → ∃ ρ1, DG X tg d ρ ρ1 ∧ DSs X rest ρ1 H1 N R) (hs : swapsWithSole [tg] e pos.line X.env = pure false := by rfl) (hw : swappedStores [tg] e X.env = pure none := by rfl)
    (h1 : (assignEach [tg] X.env).map (·.2) = [assign tg X.env] := by rfl) : DSs X (.Assign [tg] e pos :: rest) ρ B N R := dss_unpX he.dx (fun d H1 q => h d H1 q.2 q.1) hs hw h1
theorem dss_exprN (he : DN X e ρ B P) (h : ∀ d H1, Sx B H1 → P d H1 → DSs X rest ρ H1 N R) (hs : swapsWith e none pos.line X.env = pure false := by rfl) : DSs X (.Expr e pos :: rest) ρ B N R :=
  dss_exprX he.dx (fun d H1 q => h d H1 q.2 q.1) hs
/-- o.f = e, e made on the way -/
theorem dss_fldX {f : Str} (p : Addr) (he : DX X e ρ B P) (hc : Cls X.K C) (hn : NoAttr X.K C f) (h : ∀ d H1, P d H1 → DE X o ρ H1 (.ref p) ∧ ∃ gs, Ins H1 p C gs ∧ gs.length < 1000 ∧ ∀ H2, But [p] H1 H2 → SameL H1 H2 → Ins H2 p C (putD f d gs) → DSs X rest ρ H2 N R)
    (hs : swapsWith e (some (.Attribute o f pos')) pos.line X.env = pure false := by rfl) : DSs X (.Assign [.Attribute o f pos'] e pos :: rest) ρ B N R :=
  dss_of (ps_fld pe_w pe_w hs) fun σ H s r Dn k1 k2 => he σ H s r _ fun d v H1 p1 e1 r1 => by
    obtain ⟨ho, gs, hi, hz, hh⟩ := h d H1 p1
    refine ho σ H1 (Sx.refl H1) r1 _ fun u H2 s2 e2 => ?_
    obtain ⟨dx, fs, eH, rf⟩ := hi.mono s2
    have sl : SameL H2 (upd H2 p (.ins C dx (putF f v fs))) := SameL.upd (fun xs z => by rw [eH] at z; cases z) (fun xs z => by rw [eH] at z; cases z)
    have bt : But [p] H2 (upd H2 p (.ins C dx (putF f v fs))) := But.upd (fun u z => by rw [eH] at z; cases z; rfl)
    refine ⟨p, C, dx, fs, e2, eH, hc, hn, by rw [rf.length]; exact hz, ?_⟩
    exact go_on (hh _ (s2.thenBut bt) ⟨fun a xs z => sl.t a xs (s2.tt a xs z), fun a xs z => sl.l a xs (s2.l.l a xs z)⟩ ⟨dx, _, upd_same, (rf.put (Dat.mono s2 d v e1)).monoL sl⟩) (Sx.refl _) ((r1.mono s2).monoL sl) k1 k2
end
theorem perm_of_map {α β : Type} (f : α → β) {l l2 : List β} (h : l.Perm l2) : ∀ m : List α, l2 = m.map f → ∃ m' : List α, m'.Perm m ∧ l = m'.map f := by
  induction h with
  | nil => exact fun m e => ⟨m, .refl _, e⟩
  | cons x _ ih =>
    intro m e
    cases m with
    | nil => cases e
    | cons a m =>
      rw [List.map_cons] at e
      injection e with e1 e2
      obtain ⟨m', p, q⟩ := ih m e2
      exact ⟨a :: m', p.cons a, by rw [List.map_cons, ← e1, q]⟩
  | swap x y l =>
    intro m e
    match m, e with
    | a :: b :: m, e =>
      (rw [List.map_cons, List.map_cons] at e)
      injection e with e1 e2
      injection e2 with e2 e3
      exact ⟨b :: a :: m, List.Perm.swap a b m, by rw [List.map_cons, List.map_cons, ← e1, ← e2, ← e3]⟩
  | trans _ _ ih1 ih2 =>
    intro m e
    obtain ⟨m1, p1, q1⟩ := ih2 m e
    obtain ⟨m2, p2, q2⟩ := ih1 m1 q1
    exact ⟨m2, p2.trans p1, q2⟩
end K5
namespace K5
open PySem PySem.Spec PyProof.Rows L2
structure RlOk (n m : Nat) (r : Rl) : Prop where
  s : r.s < n
  f : r.f < n
  a : r.a < m
  w : r.w < m
  m : r.m = -1 ∨ r.m = 0 ∨ r.m = 1
/-- a Turing machine at t: n states, m symbols, the rules rs -/
def TurAt (K : PySem.W.Frag) (H : Hp) (t : Addr) (n m : Nat) (rs : List Rl) : Prop :=
  ∃ ta rs', Ins H t (He.ga K "Turing") [("states", iD n), ("symbols", iD m), ("table", .ref ta), ("rules", .tup (rlDs rs'))] ∧ DicW H ta (tabE rs) ∧ rs'.Perm rs
theorem TurAt.mono {K : PySem.W.Frag} {H H' : Hp} {t : Addr} {n m : Nat} {rs : List Rl} (h : TurAt K H t n m rs) (s : Sx H H') : TurAt K H' t n m rs := by
  obtain ⟨ta, rs', a, b, c⟩ := h
  exact ⟨ta, rs', a.mono s, b.mono s, c⟩
theorem look_mem {rs : List Rl} (u : Uniq rs) {r : Rl} (h : r ∈ rs) : look rs r.s r.a = some r := by
  induction rs with
  | nil => simp at h
  | cons q rs ih =>
    obtain ⟨u1, u2⟩ := List.pairwise_cons.mp u
    unfold look
    rw [List.find?_cons]
    (rcases List.mem_cons.mp h with e | h)
    · subst e
      rw [decide_eq_true ⟨rfl, rfl⟩]
    · rw [decide_eq_false (fun z => u1 r h ⟨z.1, z.2⟩)]
      exact ih u2 h
section
variable {P : Program} {w : World} {K : PySem.W.Frag} {mg : Str → Option Value} {base : Heap} (T : Tx K mg)
include T
def S_Turing_init (K : PySem.W.Frag) : Hp → Addr → List D → (Hp → Prop) → Prop := fun H y ds Ψ => ∃ n m rs, 1 ≤ n ∧ n ≤ 20000 ∧ 2 ≤ m ∧ m ≤ 400 ∧ (∀ r ∈ rs, RlOk n m r) ∧ Uniq rs ∧ rs.length < 90000 ∧ ds = [iD n, iD m, .lst (rlDs rs)] ∧ ∀ H', TurAt K H' y n m rs → Ψ H'
theorem mk_Turing : Mak P w K mg base 1 "Turing" (He.ga K "Turing") (spI (He.ga K "Turing") (S_Turing_init K)) [] := by
  refine makI T.k_Turing T.g_Turing (fn_Turing_init T) sc_Turing_init (by decide) (fun H y ds Ψ h => by obtain ⟨n, m, rs, _, _, _, _, _, _, _, rfl, _⟩ := h; rfl) fun cdv A outer s H E hr y ds Ψ hy hS => ?_
  obtain ⟨n, m, rs, hn1, hn2, hm1, hm2, hok, hu, hz, rfl, hΨ⟩ := hS
  have nd := sc_Turing_init.nd
  refine dss_skip (DW.t (dw_or (k1 := false) (k2 := false) (DT.is (dt_not (k := true) (DT.is (dt_leLe de_int (de_var 1 rfl) (de_gint T.i_MOST_STATES_turing)) (by simp; omega))) rfl) fun _ => dw_or1 (DT.is (dt_not (k := true) (DT.is (dt_leLe de_int (de_var 2 rfl) (de_gint T.i_MOST_SYMBOLS_turing)) (by simp; omega))) rfl))) ?_
  refine dss_asgX 4 nd dx_newT fun d1 H1 q1 => ?_
  obtain ⟨p, rfl, bp, dp, s1⟩ := q1
  have hyn : H y ≠ none := hy.ne
  refine dss_forL (fun H0 i ρ' H' => SameL H0 H' ∧ Sx H H' ∧ DicW H' p (tabE (rs.take i)) ∧ ρ' = [some (.ref y), some (iD n), some (iD m), some (.lst (rlDs rs)), some (.ref p), none, none, none, none, none, none]) (de_var 3 rfl) ?_ ?_ ?_ ?_
  · exact fun H2 s2 => ⟨_, Wk.refl _, SameL.refl _, s1.trans s2, dp.mono s2, rfl⟩
  · exact fun _ _ _ _ p => p.1
  · rintro H0 s0 i d ρ' H' hd ⟨t1, s2, dp2, rfl⟩
    obtain ⟨r, hr1, rfl⟩ := rl_get hd
    have ok := hok r (List.mem_of_getElem? hr1)
    refine ⟨_, dg_tup (dgs_cons (dg_name 5 nd) (dgs_cons (dg_name 6 nd) (dgs_cons (dg_name 7 nd) (dgs_cons (dg_name 8 nd) (dgs_cons (dg_name 9 nd) dgs_nil))))), ?_⟩
    have h1 := ok.s
    have h2 := ok.f
    have h3 := ok.a
    have h4 := ok.w
    refine dss_skip (DW.t (dw_or (k1 := false) (k2 := false) (DT.is (dt_not (k := true) (DT.is (dt_leLt de_int (de_var 5 rfl) (de_var 1 rfl)) (by simp; omega))) rfl) fun _ => dw_or1 (DT.is (dt_not (k := true) (DT.is (dt_leLt de_int (de_var 9 rfl) (de_var 1 rfl)) (by simp; omega))) rfl))) ?_
    refine dss_skip (DW.t (dw_or (k1 := false) (k2 := false) (DT.is (dt_not (k := true) (DT.is (dt_leLt de_int (de_var 6 rfl) (de_var 2 rfl)) (by simp; omega))) rfl) fun _ => dw_or (k1 := false) (k2 := false) (DT.is (dt_not (k := true) (DT.is (dt_leLt de_int (de_var 7 rfl) (de_var 2 rfl)) (by simp; omega))) rfl) fun _ => dw_or1 (DT.is (dt_notInI (ns := [-1, 0, 1]) (de_var 8 rfl) (de_tp (da_cons (de_neg de_int) (da_cons de_int (da_cons de_int da_nil))))) (by have := ok.m; simp; omega)))) ?_
    refine dss_skip (DT.is (dt_dinT (key := rlK r) hr (de_tp (da_cons (de_var 5 rfl) (da_cons (de_var 6 rfl) da_nil)) (by show 2 ≤ 100000; omega)) (de_var 4 rfl) dp2.r) (by rw [show rlK r = [Sum.inl (r.s : Int), Sum.inl (r.a : Int)] from rfl, val_tabE, look_pre hu hr1]; rfl)) ?_
    refine dss_dputT (key := rlK r) (d := rlV r) hr (de_tp (da_cons (de_var 7 rfl) (da_cons (de_var 8 rfl) (da_cons (de_var 9 rfl) da_nil)))) (de_var 4 rfl) (de_tp (da_cons (de_var 5 rfl) (da_cons (de_var 6 rfl) da_nil)) (by show 2 ≤ 100000; omega)) dp2 (by unfold tabE; rw [List.length_map, List.length_take]; omega) fun H3 b3 l3 dp3 => ?_
    rw [putE_new _ _ (look_pre hu hr1), ← take_snoc hr1] at dp3
    exact dss_nil fun H4 s4 => ⟨_, .same (.same (.same (.same (.same (.drop (.drop (.drop (.drop (.drop (.same .nil)))))))))), (t1.trans l3).trans s4.l, (b3.same s2 (fun a ha => by rw [show a = p by simpa using ha]; exact bp)).trans s4, dp3.mono s4, rfl⟩
  · rintro H0 s0 ρ' H' ⟨t1, s2, dp2, rfl⟩
    rw [show (rlDs rs).length = rs.length from List.length_map .., List.take_length] at dp2
    have hyp : p ∉ [y] := fun z => by
      rw [show p = y by simpa using z] at bp
      exact hyn bp
    refine dss_fld (de_var 0 rfl) (de_var 1 rfl) (hy.mono s2) T.c_Turing T.n_Turing_states (by decide) fun H2 b2 l2 i2 => ?_
    have dp3 := dp2.but b2 hyp (noLk_tabE rs) l2.t
    refine dss_fld (de_var 0 rfl) (de_var 2 rfl) i2 T.c_Turing T.n_Turing_symbols (by show 1 < 1000; omega) fun H3 b3 l3 i3 => ?_
    have dp4 := dp3.but b3 hyp (noLk_tabE rs) l3.t
    refine dss_fld (de_var 0 rfl) (de_var 4 rfl) i3 T.c_Turing T.n_Turing_table (by show 2 < 1000; omega) fun H4 b4 l4 i4 => ?_
    have dp5 := dp4.but b4 hyp (noLk_tabE rs) l4.t
    have bH4 : But [y] H H4 := s2.thenBut ((b2.trans b3).trans b4)
    have hkeys : ∀ q ∈ tabE rs, ∃ i j : Int, q.1 = [Sum.inl i, Sum.inl j] := fun q hq => by
      obtain ⟨r, _, rfl⟩ := List.mem_map.mp hq
      exact ⟨_, _, rfl⟩
    refine dss_fldX y (dx_tupLc (fun es => ∃ rs', rs'.Perm rs ∧ es = rlDs rs') (P := fun d H' => Sx H4 H' ∧ ∃ dt' : List (List L2.Key × D), dt'.Perm (tabE rs) ∧ d = .lst (dt'.map keyD)) 10 nd (dx_sortedD T.f_sorted (de_var 4 rfl) dp5 hkeys) ?_ (show BlkOk N_Turing_init (defScope st_Turing_init) _ _ from blkOk_by (by decide +kernel)) T.f_tuple) T.c_Turing T.n_Turing_rules ?_
    · rintro d H5 ⟨s5, dt', pm, rfl⟩
      obtain ⟨rs', pm', rfl⟩ := perm_of_map _ pm rs rfl
      refine ⟨s5, _, rlDs rs', ⟨rs', pm', rfl⟩, rfl, by unfold rlDs; simp, noL_rlDs rs', by unfold rlDs; rw [List.length_map, pm'.length_eq]; omega, ?_⟩
      intro j d e hd he s0 H0 C cl fp
      obtain ⟨r, hr1, rfl⟩ := rl_get he
      have ed : keyD (rlK r, rlV r) = d := by
        rw [List.map_map, List.getElem?_map, hr1] at hd
        exact Option.some.inj hd
      subst ed
      have hm : r ∈ rs := pm'.mem_iff.mp (List.mem_of_getElem? hr1)
      exact DE.is (d' := rlD r) (de_catT (de_var 10 rfl) (de_dgetT (key := rlK r) (d := rlV r) hr (de_var 4 rfl) (de_var 10 rfl) (dp5.mono s5).r (by rw [show rlK r = [Sum.inl (r.s : Int), Sum.inl (r.a : Int)] from rfl, val_tabE, look_mem hu hm]; rfl)) (by show 2 + 3 ≤ 1000000; omega)) rfl
    · rintro d H6 ⟨es, ⟨rs', pm', rfl⟩, rfl, s6⟩
      refine ⟨de_var 0 rfl, _, i4.mono s6, by show 3 < 1000; omega, fun H7 b7 l7 i7 => dss_nil fun H8 s8 => ⟨hΨ H8 ⟨p, rs', i7.mono s8, ((dp5.mono s6).but b7 hyp (noLk_tabE rs) l7.t).mono s8, pm'⟩, ((bH4.sx s6).trans b7).sx s8⟩⟩
/-- a rule's value, or None -/
def rlO : Option Rl → D
  | some r => rlV r
  | none => .non
def S_rule (K : PySem.W.Frag) : Hp → List D → D → Prop := fun H ds d => ∃ t n m rs s a, TurAt K H t n m rs ∧ ds = [.ref t, iD s, iD a] ∧ d = rlO (look rs s a)
theorem mt_rule : Met P w K mg base 1 (He.ga K "Turing") "rule" (spF (S_rule K)) := by
  refine metF T.c_Turing T.m_Turing_rule (fn_Turing_rule T) sc_Turing_rule (by decide) (fun H ds d h => by obtain ⟨t, n, m, rs, s, a, _, rfl, _⟩ := h; rfl) fun cdv A outer s H E hr ds d hS => ?_
  obtain ⟨t, n, m, rs, s0, a, ht, rfl, rfl⟩ := hS
  obtain ⟨ta, rs', hi, dp, _⟩ := ht
  refine dss_ret (DE.is (de_getT1 (key := [Sum.inl (s0 : Int), Sum.inl (a : Int)]) hr (de_fld (de_var 0 rfl) hi T.c_Turing T.n_Turing_table rfl) (de_tp (da_cons (de_var 1 rfl) (da_cons (de_var 2 rfl) da_nil))) dp.r) (d' := rlO (look rs s0 a)) ?_) fun H2 s2 => ⟨rfl, s2⟩
  rw [val_tabE]
  cases look rs s0 a <;> rfl
end
end K5
namespace K5
open PySem PySem.Spec PyProof.Rows L2
inductive Op where
  | fin
  | inc (c f : Nat)
  | dec (c f o : Nat)
def opD : Op → D
  | .fin => .tup [.str "end"]
  | .inc c f => .tup [.str "inc", iD c, iD f]
  | .dec c f o => .tup [.str "dec", iD c, iD f, iD o]
def opDs (p : List Op) : List D := p.map opD
theorem noL_opDs : ∀ p : List Op, noLs (opDs p) = true
  | [] => rfl
  | .fin :: p => noL_opDs p
  | .inc _ _ :: p => noL_opDs p
  | .dec _ _ _ :: p => noL_opDs p
def OpOk (n len : Nat) : Op → Prop
  | .fin => True
  | .inc c f => c < n ∧ f < len
  | .dec c f o => c < n ∧ f < len ∧ o < len
def RegAt (K : PySem.W.Frag) (H : Hp) (g : Addr) (n : Nat) (p : List Op) : Prop := Ins H g (He.ga K "Registers") [("count", iD n), ("instructions", .tup (opDs p))]
theorem RegAt.mono {K : PySem.W.Frag} {H H' : Hp} {g : Addr} {n : Nat} {p : List Op} (h : RegAt K H g n p) (s : Sx H H') : RegAt K H' g n p := Ins.mono h s
def setv (vs : List Nat) (c x : Nat) : List Nat := vs.take c ++ [x] ++ vs.drop (c + 1)
def stepR (p : List Op) (c : Nat × List Nat) : Option (Nat × List Nat) := match p[c.1]? with
  | none => none
  | some .fin => none
  | some (.inc k f) => some (f, setv c.2 k (c.2.getD k 0 + 1))
  | some (.dec k f o) => if c.2.getD k 0 = 0 then some (o, c.2) else some (f, setv c.2 k (c.2.getD k 0 - 1))
def vcD (c : Nat × List Nat) : D := .tup [iD c.1, .tup (iDs c.2)]
def vcO : Option (Nat × List Nat) → D
  | some c => vcD c
  | none => .non
mutual
def toPy : D → PyData
  | .tup ds => .tuple (toPys ds)
  | .int i => .int i
  | .str x => .str x
  | .bl b => .bool b
  | _ => .none
def toPys : List D → List PyData
  | [] => []
  | d :: ds => toPy d :: toPys ds
end
mutual
def okPy : D → Bool
  | .tup ds => okPys ds
  | .int _ => true
  | .str x => PyData.canLay0 (.str x)
  | .bl _ => true
  | .non => true
  | _ => false
def okPys : List D → Bool
  | [] => true
  | d :: ds => okPy d && okPys ds
end
mutual
theorem dp_of {K : PySem.W.Frag} {H : Hp} : ∀ (d : D) (v : V), okPy d = true → Dat H d v → Dp K H v (toPy d)
  | .tup ds, v, n, h => by
    obtain ⟨a, xs, rfl, h1, h2⟩ := h
    exact .tup (SqT.of h1) (dp_ofs ds xs n h2)
  | .int i, v, _, h => by rw [show v = V.int i from h]; exact .int i
  | .str x, v, _, h => by rw [show v = V.str x from h]; exact .str x
  | .bl b, v, _, h => by rw [show v = V.bl b from h]; exact .bl b
  | .non, v, _, h => by rw [show v = V.non from h]; exact .non
  | .ref _, _, n, _ => by cases n
  | .lst _, _, n, _ => by cases n
theorem dp_ofs {K : PySem.W.Frag} {H : Hp} : ∀ (ds : List D) (xs : List V), okPys ds = true → DatL H ds xs → DpAll K H xs (toPys ds)
  | [], xs, _, h => by rw [show xs = [] from h]; exact .nil
  | d :: ds, xs, n, h => by
    obtain ⟨x, r, rfl, h1, h2⟩ := h
    obtain ⟨n1, n2⟩ := Bool.and_eq_true_iff.mp (show (okPy d && okPys ds) = true from n)
    exact .cons (dp_of d x n1 h1) (dp_ofs ds r n2 h2)
end
mutual
theorem eqv_refl : ∀ d : D, okPy d = true → PyData.eqv (toPy d) (toPy d) = true
  | .tup ds, n => eqv_refls ds n
  | .int i, _ => by simp [toPy, PyData.eqv]
  | .str x, _ => by simp [toPy, PyData.eqv]
  | .bl b, _ => by simp [toPy, PyData.eqv]
  | .non, _ => rfl
  | .ref _, n => by cases n
  | .lst _, n => by cases n
theorem eqv_refls : ∀ ds : List D, okPys ds = true → PyData.eqvAll (toPys ds) (toPys ds) = true
  | [], _ => rfl
  | d :: ds, n => by
    obtain ⟨n1, n2⟩ := Bool.and_eq_true_iff.mp (show (okPy d && okPys ds) = true from n)
    show (PyData.eqv (toPy d) (toPy d) && PyData.eqvAll (toPys ds) (toPys ds)) = true
    rw [eqv_refl d n1, eqv_refls ds n2]
    rfl
end
theorem canLay_ops : ∀ p : List Op, okPys (opDs p) = true ∧ PyData.canLayAll0 (toPys (opDs p)) = true
  | [] => ⟨rfl, rfl⟩
  | o :: p => by
    obtain ⟨h1, h2⟩ := canLay_ops p
    have e : PyData.canLay0 (.str "end") = true ∧ PyData.canLay0 (.str "inc") = true ∧ PyData.canLay0 (.str "dec") = true := by decide +kernel
    have q : okPy (opD o) = true ∧ PyData.canLay0 (toPy (opD o)) = true := by
      cases o <;> simp [opD, okPy, okPys, toPy, toPys, PyData.canLay0, PyData.canLayAll0, e] <;> first | simpa [PyData.canLay0] using e.1 | simpa [PyData.canLay0] using e.2.1 | simpa [PyData.canLay0] using e.2.2
    exact ⟨by show (okPy (opD o) && okPys (opDs p)) = true; rw [q.1, h1]; rfl, by show (PyData.canLay0 (toPy (opD o)) && PyData.canLayAll0 (toPys (opDs p))) = true; rw [q.2, h2]; rfl⟩
theorem depth_ops (p : List Op) : (toPy (.tup (opDs p))).depth ≤ 64 := by
  have : ∀ p : List Op, PyData.depthAll (toPys (opDs p)) ≤ 3 := fun p => by
    induction p with
    | nil => simp [opDs, toPys, PyData.depthAll]
    | cons o p ih =>
      have h1 : (toPy (opD o)).depth ≤ 3 := by cases o <;> simp [opD, toPy, toPys, PyData.depth, PyData.depthAll]
      show PyData.depthAll (toPy (opD o) :: toPys (opDs p)) ≤ 3
      simp [PyData.depthAll]
      omega
  have h := this p
  simp [toPy, PyData.depth]
  omega
section
variable {X : Cx} {a b : Expr} {ρ : Rho} {B : Hp} {d : D} {pos : Pos} {k : Nat}
/-- x == y of equal plain data -/
theorem de_eqP (hr : Room k X.A) (ha : DE X a ρ B d) (hb : DE X b ρ B d) (h1 : okPy d = true) (h2 : PyData.canLay0 (toPy d) = true) (h3 : (toPy d).depth ≤ 64) : DE X (.Compare a [.Eq] [b] pos) ρ B (.bl true) :=
  de_cmp (op_eqD hr.units) (nomark _) ha hb fun H x y s e1 e2 Q q => by
    refine ⟨_, _, dp_of d x h1 e1, dp_of d y h1 e2, ?_, ?_, q _ H (Sx.refl H) (by rw [eqv_refl d h1]; rfl)⟩
    all_goals
      unfold SeqAt.shaped
      rw [Bool.and_eq_true]
      exact ⟨h2, decide_eq_true h3⟩
end
section
variable {P : Program} {w : World} {K : PySem.W.Frag} {mg : Str → Option Value} {base : Heap} (T : Tx K mg)
include T
def S_Reg_eq (K : PySem.W.Frag) : Hp → List D → D → Prop := fun H ds d => ∃ g n p, RegAt K H g n p ∧ ds = [.ref g, .ref g] ∧ d = .bl true
theorem hl_Reg_eq : ∀ H ds d, S_Reg_eq K H ds d → ds.length = P_Registers_eq.length := fun H ds d h => by obtain ⟨g, n, p, _, rfl, _⟩ := h; rfl
theorem ok_Reg_eq {fd : FuncData} (F : Fun K "__eq__" "Registers.__eq__" st_Registers_eq (He.ma K (He.ga K "Registers") "__eq__") fd) : FnOk P w K mg base CX0 1 (He.ma K (He.ga K "Registers") "__eq__") fd P_Registers_eq (spF (S_Reg_eq K)) := by
  refine okF F sc_Registers_eq (by decide) (hl_Reg_eq T) fun cdv A outer s H E hr ds d hS => ?_
  obtain ⟨g, n, p, hg, rfl, rfl⟩ := hS
  obtain ⟨c1, c2⟩ := canLay_ops p
  refine dss_skip (DT.is (dt_not (dt_val (de_isiO (de_var 1 rfl) hg T.is_Registers T.g_Registers T.is_Registers.me T.f_isinstance))) rfl) ?_
  refine dss_ret (d := .bl true) (DE.is (de_and (k1 := true) (k2 := true) (DE.is (de_eq (de_fld (de_var 0 rfl) hg T.c_Registers T.n_Registers_count rfl) (de_fld (de_var 1 rfl) hg T.c_Registers T.n_Registers_count rfl)) (congrArg D.bl (decide_eq_true rfl))) fun _ => de_one (de_eqP hr (de_fld (de_var 0 rfl) hg T.c_Registers T.n_Registers_instructions rfl) (de_fld (de_var 1 rfl) hg T.c_Registers T.n_Registers_instructions rfl) c1 c2 (depth_ops p))) rfl) fun H2 s2 => ⟨rfl, s2⟩
def S_Reg_step (K : PySem.W.Frag) : Hp → List D → D → Prop := fun H ds d => ∃ g n p c, RegAt K H g n p ∧ c.1 < p.length ∧ c.2.length = n ∧ n ≤ 2000 ∧ (∀ o ∈ p, OpOk n p.length o) ∧ ds = [.ref g, vcD c] ∧ d = vcO (stepR p c)
theorem mt_Reg_step : Met P w K mg base 1 (He.ga K "Registers") "step" (spF (S_Reg_step K)) := by
  refine metF T.c_Registers T.m_Registers_step (fn_Registers_step T) sc_Registers_step (by decide) (fun H ds d h => by obtain ⟨g, n, p, c, _, _, _, _, _, rfl, _⟩ := h; rfl) fun cdv A outer s H E hr ds d hS => ?_
  obtain ⟨g, n, p, ⟨pl, vs⟩, hg, hpl, hvl, hn, hok, rfl, rfl⟩ := hS
  have nd := sc_Registers_step.nd
  replace hpl : pl < p.length := hpl
  replace hvl : vs.length = n := hvl
  have hgo : (opDs p)[pl]? = some (opD p[pl]) := by unfold opDs; rw [List.getElem?_map, List.getElem?_eq_getElem hpl]; rfl
  have hop := hok _ (List.getElem_mem hpl)
  refine dss_unp (de_var 1 rfl) (dg_tup (dgs_cons (dg_name 2 nd) (dgs_cons (dg_name 3 nd) dgs_nil))) ?_
  refine dss_asg 4 nd (de_ixT (t := pl) (de_fld (de_var 0 rfl) hg T.c_Registers T.n_Registers_instructions rfl) (de_var 2 rfl) (ixN_nat (by unfold opDs; rw [List.length_map]; exact hpl)) hgo) ?_
  have hgp : p[pl]? = some p[pl] := List.getElem?_eq_getElem hpl
  unfold stepR
  simp only [hgp]
  generalize p[pl] = o at hop
  have seti : ∀ (c x : Nat), c < vs.length → iDs (setv vs c x) = cutD (iDs vs) none (some (c : Int)) ++ [iD x] ++ cutD (iDs vs) (some ((c + 1 : Nat) : Int)) none := fun c x hc => by
    unfold setv
    rw [cut_to, cut_from, iDs_app, iDs_app, ← iDs_take]
    congr 1
    exact List.map_drop
  have gv : ∀ c, c < vs.length → (iDs vs)[c]? = some (iD (vs.getD c 0)) := fun c hc => by rw [List.getElem?_map, List.getD_eq_getElem?_getD, List.getElem?_eq_getElem hc]; rfl
  cases o with
  | fin => exact dss_leave (DT.is (dt_eqS (x := "end") (de_ixT (t := 0) (de_var 4 rfl) de_int rfl rfl) de_str) (decide_eq_true rfl)) (dss_ret de_non fun H2 s2 => ⟨rfl, s2⟩)
  | inc c f =>
    have hc : c < vs.length := by rw [hvl]; exact hop.1
    refine dss_skip (DT.is (dt_eqS (x := "inc") (de_ixT (t := 0) (de_var 4 rfl) de_int rfl rfl) de_str) (by decide +kernel)) ?_
    refine dss_asg 5 nd (de_ixT (t := 1) (d := iD c) (de_var 4 rfl) de_int rfl rfl) ?_
    refine dss_leave (DT.is (dt_eqS (x := "inc") (de_ixT (t := 0) (de_var 4 rfl) de_int rfl rfl) de_str) (decide_eq_true rfl)) (dss_ret (d := vcD (f, setv vs c (vs.getD c 0 + 1))) (DE.is (de_tp (da_cons (de_ixT (t := 2) (d := iD f) (de_var 4 rfl) de_int rfl rfl) (da_cons (de_catT (de_catT (de_sliceT (de_var 3 rfl) do_no (do_so (de_var 5 rfl))) (de_tp (da_cons (de_add (de_ixT (t := c) (de_var 3 rfl) (de_var 5 rfl) (ixN_nat (by rw [List.length_map]; exact hc)) (gv c hc)) de_int) da_nil)) ?_) (de_sliceT (de_var 3 rfl) (do_so (de_add (de_var 5 rfl) de_int)) do_no) ?_) da_nil))) ?_) fun H2 s2 => ⟨rfl, s2⟩)
    · rw [cut_to, List.length_take, List.length_map]; simp; omega
    · rw [cut_to, List.length_append, List.length_take, List.length_map, show ((c : Int) + 1) = ((c + 1 : Nat) : Int) from rfl, cut_from, List.length_drop, List.length_map]; simp; omega
    · show D.tup [_, D.tup _] = D.tup [_, D.tup _]
      rw [seti c _ hc]
      rfl
  | dec c f o =>
    have hc : c < vs.length := by rw [hvl]; exact hop.1
    refine dss_skip (DT.is (dt_eqS (x := "dec") (de_ixT (t := 0) (de_var 4 rfl) de_int rfl rfl) de_str) (by decide +kernel)) ?_
    refine dss_asg 5 nd (de_ixT (t := 1) (d := iD c) (de_var 4 rfl) de_int rfl rfl) ?_
    refine dss_skip (DT.is (dt_eqS (x := "dec") (de_ixT (t := 0) (de_var 4 rfl) de_int rfl rfl) de_str) (by decide +kernel)) ?_
    refine dss_guard (kb := decide (vs.getD c 0 = 0)) (tT (dt_eq (de_ixT (t := c) (de_var 3 rfl) (de_var 5 rfl) (ixN_nat (by rw [List.length_map]; exact hc)) (gv c hc)) de_int) (by omega)) (fun hk => ?_) (fun hk => ?_)
    · refine dss_ret (d := vcD (o, vs)) (de_tp (da_cons (de_ixT (t := 3) (d := iD o) (de_var 4 rfl) de_int rfl rfl) (da_cons (de_var 3 rfl) da_nil))) fun H2 s2 => ⟨?_, s2⟩
      simp only [if_pos (of_decide_eq_true hk)]
      rfl
    · have h0 := of_decide_eq_false hk
      refine dss_ret (d := vcD (f, setv vs c (vs.getD c 0 - 1))) (DE.is (de_tp (da_cons (de_ixT (t := 2) (d := iD f) (de_var 4 rfl) de_int rfl rfl) (da_cons (de_catT (de_catT (de_sliceT (de_var 3 rfl) do_no (do_so (de_var 5 rfl))) (de_tp (da_cons (de_sub (de_ixT (t := c) (de_var 3 rfl) (de_var 5 rfl) (ixN_nat (by rw [List.length_map]; exact hc)) (gv c hc)) de_int) da_nil)) ?_) (de_sliceT (de_var 3 rfl) (do_so (de_add (de_var 5 rfl) de_int)) do_no) ?_) da_nil))) ?_) fun H2 s2 => ⟨?_, s2⟩
      · rw [cut_to, List.length_take, List.length_map]; simp; omega
      · rw [cut_to, List.length_append, List.length_take, List.length_map, show ((c : Int) + 1) = ((c + 1 : Nat) : Int) from rfl, cut_from, List.length_drop, List.length_map]; simp; omega
      · show D.tup [_, D.tup _] = D.tup [_, D.tup _]
        rw [seti c _ hc, show iD (vs.getD c 0 - 1) = D.int ((vs.getD c 0 : Int) - 1) by show D.int _ = D.int _; congr 1; omega]
        rfl
      · simp only [if_neg h0]
        rfl
end
end K5
namespace K5
open PySem PySem.Spec PyProof.Rows L2
section
variable {X : Cx} {iter : Expr} {ρ : Rho} {B : Hp} {ds : List D} {ns : List Int} {x y T f : Str} {scope : Scope} {c P : Addr} {k j iy : Nat} {p1 p2 p3 p4 p5 p6 px pos gpos pq : Pos}
theorem range_all (ns : List Int) (m : Int) : (List.range ns.length).all (fun i => match ns[i]? with | some n => decide (0 ≤ n) && decide (n < m) | none => false) = ns.all fun n => decide (0 ≤ n) && decide (n < m) := by
  (rw [Bool.eq_iff_iff, List.all_eq_true, List.all_eq_true])
  constructor
  · intro h n hn
    obtain ⟨i, hi, e⟩ := List.getElem_of_mem hn
    have q := h i (List.mem_range.mpr hi)
    rw [List.getElem?_eq_getElem hi, e] at q
    exact q
  · intro h i hi
    have hi' := (List.mem_range.mp hi)
    rw [List.getElem?_eq_getElem hi']
    exact (h _ (List.getElem_mem hi'))
theorem de_allR (iy : Nat) (hr : Room k X.A) (hm : X.mg "all" = none) (hml : X.mg "len" = none) (TB : GxR.TabB X.base X.mg c P) (hcode : X.env.code = .ref c) (S : GxR.GenS X.env scope x) (hi : DE X iter ρ B (.tup (ns.map D.int))) (hρ : ρ[iy]? = some (some (.lst ds))) (TG : GxR.TabG B P)
    (hy : X.N[iy]? = some y := by rfl) (hk : X.env.scope.names.lookup y = some .cell := by rfl) (hf : scope.names.lookup y = some .free := by rfl) (hlen : scope.names.lookup ("len" : Str) = some NameKind.globalImplicit := by rfl) (hclo : (cloFrom X.env.cells scope.names []).lookup y = some ((X.env.cells.lookup y).getD 0) := by rfl)
    (hd1 : (x == ("__debug__" : Str)) = false := by decide) (hd2 : (y == ("__debug__" : Str)) = false := by decide) (hd3 : (y == ("__classdict__" : Str)) = false := by decide) (hg : Gl X "all" := by rfl) (hs : ∀ v, genFold iter X.env v = pure v := by intro _; rfl)
    (he : starEach [.GeneratorExp (.Compare (.Constant (.int 0) j p1) [.LtE, .Lt] [.Name x p2, .Call (.Name "len" p3) [.Name y p4] [] p5] p6) [⟨.Name x px, iter, [], 0⟩] scope gpos] X.env = (false, eval (.GeneratorExp (.Compare (.Constant (.int 0) j p1) [.LtE, .Lt] [.Name x p2, .Call (.Name "len" p3) [.Name y p4] [] p5] p6) [⟨.Name x px, iter, [], 0⟩] scope gpos) X.env) :: starEach [] X.env := by rfl) :
    DE X (.Call (.Name "all" pq) [.GeneratorExp (.Compare (.Constant (.int 0) j p1) [.LtE, .Lt] [.Name x p2, .Call (.Name "len" p3) [.Name y p4] [] p5] p6) [⟨.Name x px, iter, [], 0⟩] scope gpos] [] pos) ρ B (.bl (ns.all fun n => decide (0 ≤ n) && decide (n < (ds.length : Int)))) :=
  DE.mk (pe_allG hr hm TB hcode S pe_w hg (by decide +kernel) hs he) fun σ H s r Q q => hi σ H s r _ fun v H1 s1 e1 => by
    obtain ⟨a, xs, rfl, ha, hx⟩ := e1
    have ex := hx.ints
    subst ex
    obtain ⟨u, hu, il, ys, rfl, hL, hys⟩ := r.2 iy _ hρ
    have hL1 : H1 il = some (.lst ys) := s1.k _ _ rfl hL
    have tg := (s.trans s1).t P TG
    obtain ⟨ps, hP, _⟩ := id tg
    refine ⟨a, ns.map V.int, _, rfl, .inr (SqT.of ha), tg, fun pins s2 I its rv => elt_range I hP rfl rv hL1 hy hu hk S.kind S.loc hf hlen hclo hml hd1 hd2 hd3, fun H2 hT => ?_⟩
    refine q _ H2 (s1.trans (Sx.tab tg hT)) ?_
    rw [List.length_map]
    exact congrArg V.bl ((range_all ns (ys.length : Int)).trans (by rw [← hys.length]))
/-- what each item of the list is: an instance whose attribute f is an instance of a class that is no T -/
theorem de_anyI {Ct : Addr} (hr : Room k X.A) (hm : X.mg "any" = none) (TB : GxR.TabB X.base X.mg c P) (hcode : X.env.code = .ref c) (S : GxR.GenS X.env scope x) (hi : DE X iter ρ B (.lst ds)) (TG : GxR.TabG B P)
    (hds : ∀ d ∈ ds, ∃ a b C gs C' gs', d = .ref a ∧ Ins B a C gs ∧ Cls X.K C ∧ NoAttr X.K C f ∧ gs.lookup f = some (.ref b) ∧ Ins B b C' gs' ∧ C8.InsC X.K C' ∧ PySem.W.kitOne X.K (.ref C') (.ref Ct) = some false)
    (hmi : X.mg "isinstance" = none) (hmT : X.mg T = some (.ref Ct)) (hg1 : scope.names.lookup ("isinstance" : Str) = some NameKind.globalImplicit := by rfl) (hg2 : scope.names.lookup T = some .globalImplicit := by rfl) (hb : bootBuiltins "isinstance" = some (.builtin "isinstance") := by decide +kernel)
    (hba : ∀ env, attributeBase (.Name x p2) f env (eval (.Name x p2) env) = eval (.Name x p2) env := by intro _; rfl)
    (hd1 : (x == ("__debug__" : Str)) = false := by decide) (hd2 : (T == ("__debug__" : Str)) = false := by decide) (hg : Gl X "any" := by rfl) (hs : ∀ v, genFold iter X.env v = pure v := by intro _; rfl)
    (he : starEach [.GeneratorExp (.Call (.Name "isinstance" p1) [.Attribute (.Name x p2) f p3, .Name T p4] [] p5) [⟨.Name x px, iter, [], 0⟩] scope gpos] X.env = (false, eval (.GeneratorExp (.Call (.Name "isinstance" p1) [.Attribute (.Name x p2) f p3, .Name T p4] [] p5) [⟨.Name x px, iter, [], 0⟩] scope gpos) X.env) :: starEach [] X.env := by rfl) :
    DE X (.Call (.Name "any" pq) [.GeneratorExp (.Call (.Name "isinstance" p1) [.Attribute (.Name x p2) f p3, .Name T p4] [] p5) [⟨.Name x px, iter, [], 0⟩] scope gpos] [] pos) ρ B (.bl false) :=
  DE.mk (pe_anyG hr hm TB hcode S pe_w hg hs he) fun σ H s r Q q => hi σ H s r _ fun v H1 s1 e1 => by
    obtain ⟨a, xs, rfl, ha, hx⟩ := e1
    have tg := (s.trans s1).t P TG
    obtain ⟨ps, hP, _⟩ := id tg
    refine ⟨a, xs, _, rfl, .inl (SqL.of ha), tg, fun pins s2 I its rv => elt_isi (C1 := 0) (C2 := 0) I hP rv (fun v hv => ?_) S.kind S.loc hg1 hg2 hmi hmT hb hba hd1 hd2, fun H2 hT => ?_⟩
    · obtain ⟨i, hil, e⟩ := List.getElem_of_mem hv
      have hxi : xs[i]? = some v := by rw [List.getElem?_eq_getElem hil, e]
      obtain ⟨d, hd, dd⟩ := hx.get' hxi
      obtain ⟨a', b, C, gs, C', gs', rfl, i1, cl, na, lk, i2, ic, ko⟩ := hds d (List.mem_of_getElem? hd)
      obtain ⟨dx, fs, h1, f1⟩ := i1.mono (s.trans s1)
      obtain ⟨dx', fs', h2, f2⟩ := i2.mono (s.trans s1)
      obtain ⟨u, lu, du⟩ := f1.get lk
      exact ⟨a', b, C, dx, fs, C', dx', fs', dd, h1, cl, na, by rw [lu, show u = V.ref b from du], h2, TyOf.ins h2 ic.cl ic.ha ic.hn ic.htk ic.hm, ko⟩
    · refine q _ H2 (s1.trans (Sx.tab tg hT)) ?_
      show V.bl _ = V.bl false
      simp
end
end K5
namespace K5
open PySem PySem.Spec PyProof.Rows L2
abbrev qReg : He.Defn := ("Registers", some "__init__")
abbrev qCh : He.Defn := ("Chain", some "__init__")
theorem drop_opD (o : Op) : cutD (match o with | .fin => [.str "end"] | .inc c f => [.str "inc", iD c, iD f] | .dec c f o => [.str "dec", iD c, iD f, iD o]) (some 2) none = (match o with | .fin => [] | .inc _ f => [iD f] | .dec _ f o => [iD f, iD o]) := by
  cases o <;> exact cut_from _ 2
section
variable {P : Program} {w : World} {K : PySem.W.Frag} {mg : Str → Option Value} {base : Heap} (T : Tx K mg)
include T
def S_Reg_init (K : PySem.W.Frag) : Hp → Addr → List D → (Hp → Prop) → Prop := fun H y ds Ψ => ∃ n p, 1 ≤ n ∧ n ≤ 2000 ∧ 1 ≤ p.length ∧ p.length ≤ 90000 ∧ (∀ o ∈ p, OpOk n p.length o) ∧ GxR.TabG H (He.cT K qReg).2 ∧ ds = [iD n, .lst (opDs p)] ∧ ∀ H', RegAt K H' y n p → Ψ H'
theorem mk_Registers (TB : GxR.TabB base mg (He.codeOf K qReg) (He.cT K qReg).2) : Mak P w K mg base 1 "Registers" (He.ga K "Registers") (spI (He.ga K "Registers") (S_Reg_init K)) [] := by
  refine makG T.k_Registers T.g_Registers (fn_Registers_init T) (q := qReg) rfl sc_Registers_init (by decide) (fun H y ds Ψ h => by obtain ⟨n, p, _, _, _, _, _, _, rfl, _⟩ := h; rfl) fun A outer s H E hr y ds Ψ hy hS => ?_
  obtain ⟨n, p, hn1, hn2, hp1, hp2, hok, tg, rfl, hΨ⟩ := hS
  have nd := sc_Registers_init.nd
  have ol : (opDs p).length = p.length := List.length_map ..
  refine dss_skip (DW.t (dw_or (k1 := false) (k2 := false) (DT.is (dt_not (k := true) (DT.is (dt_leLe de_int (de_var 1 rfl) (de_gint T.i_MOST_REGISTERS_registers)) (by simp; omega))) rfl) fun _ => dw_or1 (DT.is (dt_not (k := true) (DT.is (dt_leLe de_int (de_lenL T.f_len (de_var 2 rfl)) (de_gint T.i_MOST_INSTRUCTIONS_registers)) (by rw [ol]; simp; omega))) rfl))) ?_
  refine dss_forL (fun H0 i ρ' H' => Sx H0 H' ∧ Sx H H' ∧ ρ' = [some (.ref y), some (iD n), some (.lst (opDs p)), none, none]) (de_var 2 rfl) ?_ ?_ ?_ ?_
  · exact fun H2 s2 => ⟨_, Wk.refl _, Sx.refl _, s2, rfl⟩
  · exact fun _ _ _ _ q => q.1.l
  · rintro H0 s0 i d ρ' H' hd ⟨t1, s2, rfl⟩
    obtain ⟨o, ho, rfl⟩ : ∃ o, p[i]? = some o ∧ d = opD o := by
      unfold opDs at hd
      rw [List.getElem?_map] at hd
      cases q : p[i]? with
      | none => rw [q] at hd; cases hd
      | some o => rw [q] at hd; exact ⟨o, rfl, (Option.some.inj hd).symm⟩
    have ok := hok o (List.mem_of_getElem? ho)
    refine ⟨_, dg_name 3 nd, ?_⟩
    cases o with
    | fin =>
      refine dss_skip (DT.is (dt_neS (x := "end") (de_ixT (t := 0) (de_var 3 rfl) de_int rfl rfl) de_str) (by decide +kernel)) (dss_nil fun H4 s4 => ⟨_, .same (.same (.same (.drop (.same .nil)))), t1.trans s4, s2.trans s4, rfl⟩)
    | inc c f =>
      obtain ⟨k1, k2⟩ := ok
      refine dss_ifT (N1 := fun ρ1 H1 => Sx H' H1 ∧ ρ1 = [some (.ref y), some (iD n), some (.lst (opDs p)), some (opD (.inc c f)), some (.tup [iD f])]) (DT.is (dt_neS (x := "inc") (de_ixT (t := 0) (de_var 3 rfl) de_int rfl rfl) de_str) (by decide +kernel)) ?_ ?_
      · refine dss_asg 4 nd (DE.is (d' := .tup [iD f]) (de_sliceT (ds := [.str "inc", iD c, iD f]) (de_var 3 rfl) (do_so de_int) do_no) (congrArg D.tup (cut_from _ 2))) ?_
        refine dss_skip (DW.t (dw_or (k1 := false) (k2 := false) (DT.is (dt_not (k := true) (DT.is (dt_leLt de_int (de_ixT (t := 1) (d := iD c) (de_var 3 rfl) de_int rfl rfl) (de_var 1 rfl)) (by simp; omega))) rfl) fun _ => dw_or1 (DT.is (dt_not (k := true) (dt_val (DE.is (de_allR (ns := [(f : Int)]) 2 hr T.f_all T.f_len TB rfl ⟨rfl, rfl, by decide +kernel, rfl, rfl, ?_⟩ (de_var 4 rfl) rfl (s2.t _ tg)) ?_))) rfl))) ?_
        · intro z hz e
          exact cell_has (by
            have := hz
            revert z
            decide +kernel)
        · rw [ol]; simp; omega
        · exact dss_nil fun H4 s4 => ⟨s4, rfl⟩
      · rintro ρ1 H1 ⟨s3, rfl⟩
        exact dss_nil fun H4 s4 => ⟨_, .same (.same (.same (.drop (.drop .nil)))), (t1.trans s3).trans s4, (s2.trans s3).trans s4, rfl⟩
    | dec c f g =>
      obtain ⟨k1, k2, k3⟩ := ok
      refine dss_ifT (N1 := fun ρ1 H1 => Sx H' H1 ∧ ρ1 = [some (.ref y), some (iD n), some (.lst (opDs p)), some (opD (.dec c f g)), some (.tup [iD f, iD g])]) (DT.is (dt_neS (x := "dec") (de_ixT (t := 0) (de_var 3 rfl) de_int rfl rfl) de_str) (by decide +kernel)) ?_ ?_
      · refine dss_asg 4 nd (DE.is (d' := .tup [iD f, iD g]) (de_sliceT (ds := [.str "dec", iD c, iD f, iD g]) (de_var 3 rfl) (do_so de_int) do_no) (congrArg D.tup (cut_from _ 2))) ?_
        refine dss_skip (DW.t (dw_or (k1 := false) (k2 := false) (DT.is (dt_not (k := true) (DT.is (dt_leLt de_int (de_ixT (t := 1) (d := iD c) (de_var 3 rfl) de_int rfl rfl) (de_var 1 rfl)) (by simp; omega))) rfl) fun _ => dw_or1 (DT.is (dt_not (k := true) (dt_val (DE.is (de_allR (ns := [(f : Int), (g : Int)]) 2 hr T.f_all T.f_len TB rfl ⟨rfl, rfl, by decide +kernel, rfl, rfl, ?_⟩ (de_var 4 rfl) rfl (s2.t _ tg)) ?_))) rfl))) ?_
        · intro z hz e
          exact cell_has (by
            have := hz
            revert z
            decide +kernel)
        · rw [ol]; simp; omega
        · exact dss_nil fun H4 s4 => ⟨s4, rfl⟩
      · rintro ρ1 H1 ⟨s3, rfl⟩
        exact dss_nil fun H4 s4 => ⟨_, .same (.same (.same (.drop (.drop .nil)))), (t1.trans s3).trans s4, (s2.trans s3).trans s4, rfl⟩
  · rintro H0 s0 ρ' H' ⟨t1, s2, rfl⟩
    refine dss_fld (de_var 0 rfl) (de_var 1 rfl) (hy.mono s2) T.c_Registers T.n_Registers_count (by decide) fun H2 b2 l2 i2 => ?_
    refine dss_fld (de_var 0 rfl) (de_tupleL T.f_tuple (de_var 2 rfl)) i2 T.c_Registers T.n_Registers_instructions (by show 1 < 1000; omega) fun H3 b3 l3 i3 => ?_
    exact dss_nil fun H4 s4 => ⟨hΨ H4 (RegAt.mono i3 s4), (s2.thenBut (b2.trans b3)).sx s4⟩
end
end K5
namespace K5
open PySem PySem.Spec PyProof.Rows L2
section
variable {P : Program} {w : World} {K : PySem.W.Frag} {mg : Str → Option Value} {base : Heap} {x m qual : Str} {st : Stmt} {f C : Addr} {fd : FuncData} {Ns ps : List Str} {k : Nat}
theorem metN {S : Hp → List D → (D → Hp → Prop) → Prop} (c : Cls K C) (hm : Meth K C m f) (fn : ∃ fd, Fun K x qual st f fd ∧ Binds K fd ps []) (sc : FnScope Ns ps (defScope st)) (hps : ps.length ≤ Ns.length) (hl : ∀ H ds Ψ, S H ds Ψ → ds.length = ps.length)
    (h : ∀ (cdv : Value) (A : Around) (outer : List Env) (s : Shared) (H : Hp) (E : XK), Room k (A.deeper (envOfC qual (defScope st) s.heap.objs.size f cdv)) → ∀ ds Ψ, S H ds Ψ →
      DSs (cxD P w K mg base Ns qual st f cdv A outer s H E) (defBody st) (slots Ns ds) H (fun _ H' => Ψ .non H' ∧ Sx H H') (fun d' H' => Ψ d' H' ∧ Sx H H')) : Met P w K mg base (k + 1) C m (spN S) := by
  obtain ⟨fd, F, b⟩ := fn
  exact ⟨f, fd, ps, c, hm, okN F sc hps hl h, b⟩
end
section
variable {X : Cx} {e o : Expr} {es : List Expr} {ρ : Rho} {B : Hp} {ds : List D} {P : D → Hp → Prop} {pos apos : Pos} {k j : Nat} {p C : Addr} {m : Str} {gs : List (Str × D)}
theorem dn_meth {pl : Sem Bool} {S : Hp → List D → (D → Hp → Prop) → Prop} (mt : Met X.prog X.w X.K X.mg X.base k C m (spN S)) (hr : Room j X.A) (hk : k ≤ j) (ho : DE X o ρ B (.ref p)) (hi : Ins B p C gs) (hl : gs.lookup m = none) (ha : DA X (e :: es) ρ B ds) (hS : ∀ H, Sx B H → S H (.ref p :: ds) P)
    (hst : (starEach (e :: es) X.env = (false, eval e X.env) :: starEach es X.env ) := by rfl) (hpl : (backTo pos (starEach es X.env)).any (·.1) = false := by rfl)
    (hev : eval (.Call (.Attribute o m apos) (e :: es) [] pos) X.env = (do
      let ov ← eval o X.env
      standAt apos.atName
      let (g, fst) ← holding [ov] (getMethod ov m pl)
      callWith pos g fst (backTo pos (starEach (e :: es) X.env)) (backToKw pos (keywordEach [] X.env))) := by rfl) : DN X (.Call (.Attribute o m apos) (e :: es) [] pos) ρ B P :=
  fun σ H s r Q q => wE_of (pe_mtG (pl := pl) pe_w hr pa_w hst hpl hev) (ho σ H s r _ fun v H1 s1 e1 => by
    obtain ⟨dx, fs, eH, rf⟩ := hi.mono (s.trans s1)
    refine ⟨p, C, dx, fs, k, _, e1, eH, rf.none hl, hk, mt, ha σ H1 (s.trans s1) (r.mono s1) _ fun vs H2 s2 e2 => ?_⟩
    exact ⟨.ref p :: ds, P, ⟨v, vs, rfl, e1, e2⟩, hS H2 ((s.trans s1).trans s2), fun d u H3 p3 e3 t3 => q d u H3 p3 ((s1.trans s2).trans t3) e3⟩)
end
/-- a place, or the name of one -/
inductive Lb where
  | n (k : Nat)
  | two (s a : Nat)
  | one (p : Nat)
def lbK : Lb → List L2.Key
  | .n _ => []
  | .two s a => [.inr "at", .inl (s : Int), .inl (a : Int)]
  | .one p => [.inr "at", .inl (p : Int)]
def lbD : Lb → D
  | .n k => iD k
  | .two s a => .tup [.str "at", iD s, iD a]
  | .one p => .tup [.str "at", iD p]
inductive WOp where
  | fin
  | inc (c : Nat) (f : Lb)
  | dec (c : Nat) (f o : Lb)
def wD : WOp → D
  | .fin => .tup [.str "end"]
  | .inc c f => .tup [.str "inc", iD c, lbD f]
  | .dec c f o => .tup [.str "dec", iD c, lbD f, lbD o]
def wDs (ws : List WOp) : List D := ws.map wD
theorem noL_lb : ∀ l : Lb, noL (lbD l) = true
  | .n _ => rfl
  | .two _ _ => rfl
  | .one _ => rfl
theorem noL_w : ∀ o : WOp, noL (wD o) = true
  | .fin => rfl
  | .inc c f => by show (true && (true && (noL (lbD f) && true))) = true; rw [noL_lb]; rfl
  | .dec c f o => by show (true && (true && (noL (lbD f) && (noL (lbD o) && true)))) = true; rw [noL_lb, noL_lb]; rfl
theorem noL_ws : ∀ ws : List WOp, noLs (wDs ws) = true
  | [] => rfl
  | o :: ws => by show (noL (wD o) && noLs (wDs ws)) = true; rw [noL_w, noL_ws]; rfl
abbrev Mks := List (List L2.Key × D)
/-- a writer at g: its list at il, its marks at pl -/
structure WrAt (K : PySem.W.Frag) (H : Hp) (g il pl : Addr) (ws : List WOp) (ps : Mks) : Prop where
  i : Ins H g (He.ga K "Writer") [("instructions", .ref il), ("places", .ref pl)]
  l : LstAt H il (wDs ws)
  d : DicW H pl ps
  n : noLk ps = true
theorem WrAt.mono {K : PySem.W.Frag} {H H' : Hp} {g il pl : Addr} {ws : List WOp} {ps : Mks} (h : WrAt K H g il pl ws ps) (s : Sx H H') : WrAt K H' g il pl ws ps := ⟨h.i.mono s, h.l.mono s, h.d.mono s, h.n⟩
/-- the writer has gone on: all else stands -/
structure Aft (K : PySem.W.Frag) (H H' : Hp) (g il pl : Addr) (ws : List WOp) (ps : Mks) : Prop where
  b : But [il, pl] H H'
  t : SameT H H'
  w : WrAt K H' g il pl ws ps
theorem Aft.pre {K : PySem.W.Frag} {B H H' : Hp} {g il pl : Addr} {ws : List WOp} {ps : Mks} (h : Aft K H H' g il pl ws ps) (s : Sx B H) : Aft K B H' g il pl ws ps := ⟨s.thenBut h.b, s.tt.trans h.t, h.w⟩
theorem Aft.post {K : PySem.W.Frag} {H H' H2 : Hp} {g il pl : Addr} {ws : List WOp} {ps : Mks} (h : Aft K H H' g il pl ws ps) (s : Sx H' H2) : Aft K H H2 g il pl ws ps := ⟨h.b.sx s, h.t.trans s.tt, h.w.mono s⟩
theorem Aft.trans {K : PySem.W.Frag} {H H1 H2 : Hp} {g il pl : Addr} {ws ws2 : List WOp} {ps ps2 : Mks} (a : Aft K H H1 g il pl ws ps) (h : Aft K H1 H2 g il pl ws2 ps2) : Aft K H H2 g il pl ws2 ps2 := ⟨a.b.trans h.b, a.t.trans h.t, h.w⟩
theorem WrAt.aft {K : PySem.W.Frag} {H : Hp} {g il pl : Addr} {ws : List WOp} {ps : Mks} (h : WrAt K H g il pl ws ps) : Aft K H H g il pl ws ps := ⟨But.refl H, SameT.refl H, h⟩
theorem WrAt.notIn {K : PySem.W.Frag} {H : Hp} {g il pl a C : Addr} {ws : List WOp} {ps : Mks} {gs : List (Str × D)} (h : WrAt K H g il pl ws ps) (i : Ins H a C gs) : a ∉ [il, pl] := by
  obtain ⟨dx, fs, e, _⟩ := i
  obtain ⟨xs, e1, _⟩ := h.l
  obtain ⟨kvs, e2, _⟩ := h.d
  intro z
  (rcases List.mem_cons.mp z with z | z)
  · rw [z, e1] at e
    cases e
  · rw [show a = pl by simpa using z, e2] at e
    cases e
theorem Aft.ins {K : PySem.W.Frag} {H H' : Hp} {g il pl a C : Addr} {ws ws2 : List WOp} {ps ps2 : Mks} {gs : List (Str × D)} (h : Aft K H H' g il pl ws2 ps2) (h0 : WrAt K H g il pl ws ps) (i : Ins H a C gs) (n : noLf gs = true) : Ins H' a C gs := i.but h.b (h0.notIn i) n h.t
theorem WrAt.ne {K : PySem.W.Frag} {H : Hp} {g il pl tp : Addr} {ws : List WOp} {ps : Mks} {n : Int} {r : List D} (h : WrAt K H g il pl ws ps) (l : LstAt H tp (.int n :: r)) : tp ∉ [il, pl] := by
  obtain ⟨xs, e1, l1⟩ := h.l
  obtain ⟨kvs, e2, _⟩ := h.d
  obtain ⟨ys, e3, v, ys', rfl, l2, _⟩ := l
  intro z
  (rcases List.mem_cons.mp z with z | z)
  · rw [z, e1] at e3
    have e4 : xs = v :: ys' := by injection e3 with e3; injection e3
    subst e4
    cases ws with
    | nil => exact absurd l1 (by intro z; cases (show _ :: _ = [] from z))
    | cons o ws =>
      obtain ⟨u, r', e5, l3, _⟩ := l1
      injection e5 with e5 _
      subst e5
      rw [show v = V.int n from l2] at l3
      cases o <;> (obtain ⟨a, _, e6, _⟩ := l3; cases e6)
  · rw [show tp = pl by simpa using z, e2] at e3
    cases e3
def addW (n c a : Nat) (f : Lb) : List WOp := ((List.range (a - 1)).map fun i => .inc c (.n (n + i + 1))) ++ [.inc c f]
def moveW (n src m t : Nat) (f : Lb) : List WOp := .dec src (.n (n + 1)) f :: (((List.range (m - 1)).map fun i => .inc t (.n (n + i + 2))) ++ [.inc t (.n n)])
theorem addW_len {n c a : Nat} {f : Lb} (h : 1 ≤ a) : (addW n c a f).length = a := by
  unfold addW
  simp
  omega
theorem moveW_len {n src m t : Nat} {f : Lb} (h : 1 ≤ m) : (moveW n src m t f).length = m + 1 := by
  unfold moveW
  simp
  omega
section
variable {P : Program} {w : World} {K : PySem.W.Frag} {mg : Str → Option Value} {base : Heap} (T : Tx K mg)
include T
omit T in
theorem wr_app {B : Hp} {g il pl : Addr} {ws : List WOp} {ps : Mks} (o : WOp) (h : WrAt K B g il pl ws ps) {H1 : Hp} (b : But [il] B H1) (t : SameT B H1) (l : LstAt H1 il (wDs ws ++ [wD o])) : Aft K B H1 g il pl (ws ++ [o]) ps := by
  obtain ⟨dx, fs, e, r⟩ := id h.i
  obtain ⟨xs, e1, _⟩ := id h.l
  obtain ⟨kvs, e2, _⟩ := id h.d
  have n1 : g ∉ [il] := fun z => by rw [show g = il by simpa using z, e1] at e; cases e
  have n2 : pl ∉ [il] := fun z => by rw [show pl = il by simpa using z, e1] at e2; cases e2
  refine ⟨b.sub fun a ha => by rw [show a = il by simpa using ha]; exact List.mem_cons_self, t, h.i.but b n1 rfl t, ?_, h.d.but b n2 h.n t, h.n⟩
  unfold wDs at l ⊢
  rw [List.map_append]
  exact l
def S_Wr_inc (K : PySem.W.Frag) : Hp → List D → (D → Hp → Prop) → Prop := fun H ds Ψ => ∃ g il pl ws ps c f, WrAt K H g il pl ws ps ∧ ws.length < 90000 ∧ ds = [.ref g, iD c, lbD f] ∧ ∀ H', Aft K H H' g il pl (ws ++ [.inc c f]) ps → Ψ .non H'
theorem mt_Wr_inc : Met P w K mg base 1 (He.ga K "Writer") "inc" (spX (S_Wr_inc K)) := by
  refine metX T.c_Writer T.m_Writer_inc (fn_Writer_inc T) sc_Writer_inc (by decide) (fun H ds d h => by obtain ⟨g, il, pl, ws, ps, c, f, _, _, rfl, _⟩ := h; rfl) fun cdv A outer s H E hr ds Ψ hS => ?_
  obtain ⟨g, il, pl, ws, ps, c, f, hw, hz, rfl, hΨ⟩ := hS
  refine dss_app (de_fld (de_var 0 rfl) hw.i T.c_Writer T.n_Writer_instructions rfl) (d := wD (.inc c f)) (de_tp (da_cons de_str (da_cons (de_var 1 rfl) (da_cons (de_var 2 rfl) da_nil)))) hw.l (by unfold wDs; rw [List.length_map]; omega) (.cons rfl (.cons rfl (.cons (noL_lb f) .nil))) (noL_ws ws) (noL_w _) fun H1 b1 t1 l1 => ?_
  exact dss_nil fun H2 s2 => ⟨hΨ H2 ((wr_app (.inc c f) hw b1 t1 l1).post s2), t1.trans s2.tt⟩
def S_Wr_dec (K : PySem.W.Frag) : Hp → List D → (D → Hp → Prop) → Prop := fun H ds Ψ => ∃ g il pl ws ps c f o, WrAt K H g il pl ws ps ∧ ws.length < 90000 ∧ ds = [.ref g, iD c, lbD f, lbD o] ∧ ∀ H', Aft K H H' g il pl (ws ++ [.dec c f o]) ps → Ψ .non H'
theorem mt_Wr_dec : Met P w K mg base 1 (He.ga K "Writer") "dec" (spX (S_Wr_dec K)) := by
  refine metX T.c_Writer T.m_Writer_dec (fn_Writer_dec T) sc_Writer_dec (by decide) (fun H ds d h => by obtain ⟨g, il, pl, ws, ps, c, f, o, _, _, rfl, _⟩ := h; rfl) fun cdv A outer s H E hr ds Ψ hS => ?_
  obtain ⟨g, il, pl, ws, ps, c, f, o, hw, hz, rfl, hΨ⟩ := hS
  refine dss_app (de_fld (de_var 0 rfl) hw.i T.c_Writer T.n_Writer_instructions rfl) (d := wD (.dec c f o)) (de_tp (da_cons de_str (da_cons (de_var 1 rfl) (da_cons (de_var 2 rfl) (da_cons (de_var 3 rfl) da_nil))))) hw.l (by unfold wDs; rw [List.length_map]; omega) (.cons rfl (.cons rfl (.cons (noL_lb f) (.cons (noL_lb o) .nil)))) (noL_ws ws) (noL_w _) fun H1 b1 t1 l1 => ?_
  exact dss_nil fun H2 s2 => ⟨hΨ H2 ((wr_app (.dec c f o) hw b1 t1 l1).post s2), t1.trans s2.tt⟩
def S_Wr_end (K : PySem.W.Frag) : Hp → List D → (D → Hp → Prop) → Prop := fun H ds Ψ => ∃ g il pl ws ps, WrAt K H g il pl ws ps ∧ ws.length < 90000 ∧ ds = [.ref g] ∧ ∀ H', Aft K H H' g il pl (ws ++ [.fin]) ps → Ψ .non H'
theorem mt_Wr_end : Met P w K mg base 1 (He.ga K "Writer") "end" (spX (S_Wr_end K)) := by
  refine metX T.c_Writer T.m_Writer_end (fn_Writer_end T) sc_Writer_end (by decide) (fun H ds d h => by obtain ⟨g, il, pl, ws, ps, _, _, rfl, _⟩ := h; rfl) fun cdv A outer s H E hr ds Ψ hS => ?_
  obtain ⟨g, il, pl, ws, ps, hw, hz, rfl, hΨ⟩ := hS
  refine dss_app (de_fld (de_var 0 rfl) hw.i T.c_Writer T.n_Writer_instructions rfl) (d := wD .fin) (de_tp (da_cons de_str da_nil)) hw.l (by unfold wDs; rw [List.length_map]; omega) (.cons rfl .nil) (noL_ws ws) (noL_w _) fun H1 b1 t1 l1 => ?_
  exact dss_nil fun H2 s2 => ⟨hΨ H2 ((wr_app .fin hw b1 t1 l1).post s2), t1.trans s2.tt⟩
omit T in
theorem noLk_put {ps : Mks} {key : List L2.Key} {d : D} (n : noLk ps = true) (h : noL d = true) : noLk (putE ps key d) = true := by
  unfold putE
  split
  · unfold noLk at n ⊢
    rw [List.all_map]
    rw [List.all_eq_true] at n ⊢
    intro q hq
    have := n q hq
    simp only [Function.comp]
    split
    · exact h
    · exact this
  · unfold noLk at n ⊢
    rw [List.all_append, n]
    simpa using h
def S_Wr_mark (K : PySem.W.Frag) : Hp → List D → (D → Hp → Prop) → Prop := fun H ds Ψ => ∃ g il pl ws ps key, WrAt K H g il pl ws ps ∧ ps.length < 90000 ∧ ds = [.ref g, .tup (key.map kD)] ∧ ∀ H', Aft K H H' g il pl ws (putE ps key (iD ws.length)) → Ψ .non H'
omit T in
theorem noL_key : ∀ key : List L2.Key, noLs (key.map kD) = true
  | [] => rfl
  | .inl _ :: k => noL_key k
  | .inr _ :: k => noL_key k
theorem mt_Wr_mark : Met P w K mg base 1 (He.ga K "Writer") "mark" (spX (S_Wr_mark K)) := by
  refine metX T.c_Writer T.m_Writer_mark (fn_Writer_mark T) sc_Writer_mark (by decide) (fun H ds d h => by obtain ⟨g, il, pl, ws, ps, key, _, _, rfl, _⟩ := h; rfl) fun cdv A outer s H E hr ds Ψ hS => ?_
  obtain ⟨g, il, pl, ws, ps, key, hw, hz, rfl, hΨ⟩ := hS
  have wl : (wDs ws).length = ws.length := List.length_map ..
  refine dss_dputT (key := key) (d := iD ws.length) hr (DE.is (de_lenA T.f_len (de_fld (de_var 0 rfl) hw.i T.c_Writer T.n_Writer_instructions rfl) hw.l) (by rw [wl])) (de_fld (de_var 0 rfl) hw.i T.c_Writer T.n_Writer_places rfl) (de_var 1 rfl) hw.d (by omega) fun H1 b1 l1 d1 => ?_
  obtain ⟨dx, fs, e, r⟩ := id hw.i
  obtain ⟨xs, e1, _⟩ := id hw.l
  obtain ⟨kvs, e2, _⟩ := id hw.d
  have n1 : g ∉ [pl] := fun z => by rw [show g = pl by simpa using z, e2] at e; cases e
  have n2 : il ∉ [pl] := fun z => by rw [show il = pl by simpa using z, e2] at e1; cases e1
  have a1 : Aft K H H1 g il pl ws (putE ps key (iD ws.length)) := ⟨b1.sub fun a ha => by rw [show a = pl by simpa using ha]; exact List.mem_cons_of_mem _ List.mem_cons_self, l1.t, hw.i.but b1 n1 rfl l1.t, hw.l.but b1 n2 (noL_ws ws) l1.t, d1, noLk_put hw.n rfl⟩
  exact dss_nil fun H2 s2 => ⟨hΨ H2 (a1.post s2), l1.t.trans s2.tt⟩
/-- what a label stands for -/
def resD (ps : Mks) : Lb → D
  | .n k => iD k
  | .two s a => (valD ps (lbK (.two s a))).getD (lbD (.two s a))
  | .one p => (valD ps (lbK (.one p))).getD (lbD (.one p))
def S_Wr_place (K : PySem.W.Frag) : Hp → List D → D → Prop := fun H ds d => ∃ g il pl ws ps l, WrAt K H g il pl ws ps ∧ ds = [.ref g, lbD l] ∧ d = resD ps l
theorem mt_Wr_place : Met P w K mg base 1 (He.ga K "Writer") "place" (spF (S_Wr_place K)) := by
  refine metF T.c_Writer T.m_Writer_place (fn_Writer_place T) sc_Writer_place (by decide) (fun H ds d h => by obtain ⟨g, il, pl, ws, ps, l, _, rfl, _⟩ := h; rfl) fun cdv A outer s H E hr ds d hS => ?_
  obtain ⟨g, il, pl, ws, ps, l, hw, rfl, rfl⟩ := hS
  cases l with
  | n k => exact dss_ret (de_getI2 hr (de_fld (de_var 0 rfl) hw.i T.c_Writer T.n_Writer_places rfl) (de_var 1 rfl) (de_var 1 rfl) hw.d) fun H2 s2 => ⟨rfl, s2⟩
  | two s a => exact dss_ret (de_getT2 (key := lbK (.two s a)) hr (de_fld (de_var 0 rfl) hw.i T.c_Writer T.n_Writer_places rfl) (de_var 1 rfl) (de_var 1 rfl) hw.d.r) fun H2 s2 => ⟨rfl, s2⟩
  | one p => exact dss_ret (de_getT2 (key := lbK (.one p)) hr (de_fld (de_var 0 rfl) hw.i T.c_Writer T.n_Writer_places rfl) (de_var 1 rfl) (de_var 1 rfl) hw.d.r) fun H2 s2 => ⟨rfl, s2⟩
end
end K5
namespace K5
open PySem PySem.Spec PyProof.Rows L2
def rop (r : Lb → Nat) : WOp → Op
  | .fin => .fin
  | .inc c f => .inc c (r f)
  | .dec c f o => .dec c (r f) (r o)
def lbs : WOp → List Lb
  | .fin => []
  | .inc _ f => [f]
  | .dec _ f o => [f, o]
theorem noLs_rep (n : Nat) (t : Nat) : noLs (List.replicate n (iD t)) = true := by
  induction n with
  | zero => rfl
  | succ n ih => exact ih
section
variable {P : Program} {w : World} {K : PySem.W.Frag} {mg : Str → Option Value} {base : Heap} (T : Tx K mg)
include T
def S_Wr_add (K : PySem.W.Frag) : Hp → List D → (D → Hp → Prop) → Prop := fun H ds Ψ => ∃ g il pl ws ps c a f, WrAt K H g il pl ws ps ∧ 1 ≤ a ∧ ws.length + a < 90000 ∧ ds = [.ref g, iD c, iD a, lbD f] ∧ ∀ H', Aft K H H' g il pl (ws ++ addW ws.length c a f) ps → Ψ .non H'
theorem mt_Wr_add : Met P w K mg base 2 (He.ga K "Writer") "add" (spX (S_Wr_add K)) := by
  have mi := mt_Wr_inc (P := P) (w := w) (base := base) T
  refine metX T.c_Writer T.m_Writer_add (fn_Writer_add T) sc_Writer_add (by decide) (fun H ds d h => by obtain ⟨g, il, pl, ws, ps, c, a, f, _, _, _, rfl, _⟩ := h; rfl) fun cdv A outer s H E hr ds Ψ hS => ?_
  obtain ⟨g, il, pl, ws, ps, c, a, f, hw, ha1, hz, rfl, hΨ⟩ := hS
  have nd := sc_Writer_add.nd
  have wl : (wDs ws).length = ws.length := List.length_map ..
  refine dss_asg 4 nd (DE.is (d' := iD ws.length) (de_lenA T.f_len (de_fld (de_var 0 rfl) hw.i T.c_Writer T.n_Writer_instructions rfl) hw.l) (by rw [wl])) ?_
  refine dss_forR (fun H0 i ρ' H' => Aft K H H' g il pl (ws ++ (List.range i).map fun t => .inc c (.n (ws.length + t + 1))) ps ∧ ρ' = [some (.ref g), some (iD c), some (iD a), some (lbD f), some (iD ws.length), none]) (de_sub (de_var 2 rfl) de_int) (by omega) ?_ ?_ ?_ T.f_range
  · exact fun H2 s2 => ⟨_, Wk.refl _, by simpa using hw.aft.post s2, rfl⟩
  · rintro H0 s0 i ρ' H' hi ⟨a1, rfl⟩
    refine ⟨_, dg_name 5 nd, ?_⟩
    refine dss_exprX (dx_meth mi hr (by decide) (de_var 0 rfl) a1.w.i rfl (da_cons (de_var 1 rfl) (da_cons (DE.is (d' := lbD (.n (ws.length + i + 1))) (de_add (de_add (de_var 4 rfl) (de_var 5 rfl)) de_int) rfl) da_nil)) (P := fun d H1 => Aft K H' H1 g il pl ((ws ++ (List.range i).map fun t => .inc c (.n (ws.length + t + 1))) ++ [.inc c (.n (ws.length + i + 1))]) ps) (.cons rfl (.cons rfl (.cons rfl (.cons (noL_lb f) (.cons rfl (.cons rfl .nil)))))) fun H2 s2 => ⟨g, il, pl, _, ps, c, .n (ws.length + i + 1), a1.w.mono s2, by simp; omega, rfl, fun H3 a3 => a3.pre s2⟩) fun d H1 a2 => ?_
    refine dss_nil fun H4 s4 => ⟨_, .same (.same (.same (.same (.same (.drop .nil))))), ?_, rfl⟩
    rw [List.range_succ, List.map_append, ← List.append_assoc]
    exact (a1.trans a2).post s4
  · rintro H0 s0 ρ' H' ⟨a1, rfl⟩
    rw [show ((a : Int) - 1).toNat = a - 1 by omega] at a1
    refine dss_exprX (dx_meth mi hr (by decide) (de_var 0 rfl) a1.w.i rfl (da_cons (de_var 1 rfl) (da_cons (de_var 3 rfl) da_nil)) (P := fun d H1 => Aft K H' H1 g il pl ((ws ++ (List.range (a - 1)).map fun t => .inc c (.n (ws.length + t + 1))) ++ [.inc c f]) ps) (.cons rfl (.cons rfl (.cons rfl (.cons (noL_lb f) (.cons rfl (.skip .nil)))))) fun H2 s2 => ⟨g, il, pl, _, ps, c, f, a1.w.mono s2, by simp; omega, rfl, fun H3 a3 => a3.pre s2⟩) fun d H1 a2 => ?_
    have a3 := a1.trans a2
    rw [List.append_assoc] at a3
    exact dss_nil fun H4 s4 => ⟨hΨ H4 (a3.post s4), (a3.post s4).t⟩
def S_Wr_move (K : PySem.W.Frag) : Hp → List D → (D → Hp → Prop) → Prop := fun H ds Ψ => ∃ g il pl ws ps c m t f, WrAt K H g il pl ws ps ∧ 1 ≤ m ∧ ws.length + m < 90000 ∧ ds = [.ref g, iD c, .lst (List.replicate m (iD t)), lbD f] ∧ ∀ H', Aft K H H' g il pl (ws ++ moveW ws.length c m t f) ps → Ψ .non H'
theorem mt_Wr_move : Met P w K mg base 2 (He.ga K "Writer") "move" (spX (S_Wr_move K)) := by
  have mi := mt_Wr_inc (P := P) (w := w) (base := base) T
  have md := mt_Wr_dec (P := P) (w := w) (base := base) T
  refine metX T.c_Writer T.m_Writer_move (fn_Writer_move T) sc_Writer_move (by decide) (fun H ds d h => by obtain ⟨g, il, pl, ws, ps, c, m, t, f, _, _, _, rfl, _⟩ := h; rfl) fun cdv A outer s H E hr ds Ψ hS => ?_
  obtain ⟨g, il, pl, ws, ps, c, m, t, f, hw, hm1, hz, rfl, hΨ⟩ := hS
  have nd := sc_Writer_move.nd
  have wl : (wDs ws).length = ws.length := List.length_map ..
  refine dss_thaw 2 rfl fun tp Ha sa lt => ?_
  have hwa := hw.mono sa
  have tn : tp ∉ [il, pl] := by
    obtain ⟨m', rfl⟩ : ∃ m', m = m' + 1 := ⟨m - 1, by omega⟩
    exact hwa.ne (n := (t : Int)) (r := List.replicate m' (iD t)) lt
  refine dss_asg 4 nd (DE.is (d' := iD ws.length) (de_lenA T.f_len (de_fld (de_var 0 rfl) hwa.i T.c_Writer T.n_Writer_instructions rfl) hwa.l) (by rw [wl])) ?_
  refine dss_exprX (dx_meth md hr (by decide) (de_var 0 rfl) hwa.i rfl (da_cons (de_var 1 rfl) (da_cons (DE.is (d' := lbD (.n (ws.length + 1))) (de_add (de_var 4 rfl) de_int) rfl) (da_cons (de_var 3 rfl) da_nil))) (P := fun d H1 => Aft K Ha H1 g il pl (ws ++ [.dec c (.n (ws.length + 1)) f]) ps) (.cons rfl (.cons rfl (.cons rfl (.cons (noL_lb f) (.cons rfl (.skip .nil)))))) fun H2 s2 => ⟨g, il, pl, _, ps, c, .n (ws.length + 1), f, hwa.mono s2, by omega, rfl, fun H3 a3 => a3.pre s2⟩) fun d0 H1 a1 => ?_
  have rl : ∀ n, (List.replicate n (iD t)).length = n := fun n => List.length_replicate
  have ltA : ∀ {H' : Hp} {ws' : List WOp}, Aft K Ha H' g il pl ws' ps → LstAt H' tp (List.replicate m (iD t)) := fun a => lt.but a.b tn (noLs_rep _ _) a.t
  refine dss_forR (fun H0 i ρ' H' => Aft K Ha H' g il pl (ws ++ .dec c (.n (ws.length + 1)) f :: (List.range i).map fun u => .inc t (.n (ws.length + u + 2))) ps ∧ ρ' = [some (.ref g), some (iD c), some (.ref tp), some (lbD f), some (iD ws.length), none]) (de_sub (DE.is (de_lenA T.f_len (de_var 2 rfl) (ltA a1)) (by rw [rl])) de_int) (by omega) ?_ ?_ ?_ T.f_range
  · exact fun H2 s2 => ⟨_, Wk.refl _, by simpa using a1.post s2, rfl⟩
  · rintro H0 s0 i ρ' H' hi ⟨a2, rfl⟩
    refine ⟨_, dg_name 5 nd, ?_⟩
    have him : i < m := by omega
    refine dss_exprX (dx_meth mi hr (by decide) (de_var 0 rfl) a2.w.i rfl (da_cons (d := iD t) (de_ixA (t := i) (de_var 2 rfl) (de_var 5 rfl) (ltA a2) (by rw [rl]; exact ixN_nat him) (by rw [List.getElem?_replicate, if_pos him])) (da_cons (DE.is (d' := lbD (.n (ws.length + i + 2))) (de_add (de_add (de_var 4 rfl) (de_var 5 rfl)) de_int) rfl) da_nil)) (P := fun d H1 => Aft K H' H1 g il pl ((ws ++ .dec c (.n (ws.length + 1)) f :: (List.range i).map fun u => .inc t (.n (ws.length + u + 2))) ++ [.inc t (.n (ws.length + i + 2))]) ps) (.cons rfl (.cons rfl (.cons rfl (.cons (noL_lb f) (.cons rfl (.cons rfl .nil)))))) fun H2 s2 => ⟨g, il, pl, _, ps, t, .n (ws.length + i + 2), a2.w.mono s2, by simp; omega, rfl, fun H3 a3 => a3.pre s2⟩) fun d H1 a3 => ?_
    refine dss_nil fun H4 s4 => ⟨_, .same (.same (.same (.same (.same (.drop .nil))))), ?_, rfl⟩
    have a4 := (a2.trans a3).post s4
    rw [List.append_assoc, List.cons_append] at a4
    rw [List.range_succ, List.map_append]
    exact a4
  · rintro H0 s0 ρ' H' ⟨a2, rfl⟩
    rw [show ((m : Int) - 1).toNat = m - 1 by omega] at a2
    have him : m - 1 < m := by omega
    refine dss_exprX (dx_meth mi hr (by decide) (de_var 0 rfl) a2.w.i rfl (da_cons (d := iD t) (de_ixA (t := m - 1) (de_var 2 rfl) (de_neg de_int) (ltA a2) (by rw [rl]; exact ixN_last (by omega)) (by rw [List.getElem?_replicate, if_pos him])) (da_cons (DE.is (d' := lbD (.n ws.length)) (de_var 4 rfl) rfl) da_nil)) (P := fun d H1 => Aft K H' H1 g il pl ((ws ++ .dec c (.n (ws.length + 1)) f :: (List.range (m - 1)).map fun u => .inc t (.n (ws.length + u + 2))) ++ [.inc t (.n ws.length)]) ps) (.cons rfl (.cons rfl (.cons rfl (.cons (noL_lb f) (.cons rfl (.skip .nil)))))) fun H2 s2 => ⟨g, il, pl, _, ps, t, .n ws.length, a2.w.mono s2, by simp; omega, rfl, fun H3 a3 => a3.pre s2⟩) fun d H1 a3 => ?_
    have a4 := a2.trans a3
    rw [List.append_assoc, List.cons_append] at a4
    have a5 := a4.pre sa
    exact dss_nil fun H4 s4 => ⟨hΨ H4 (a5.post s4), (a5.post s4).t⟩
def S_Wr_init (K : PySem.W.Frag) : Hp → Addr → List D → (Hp → Prop) → Prop := fun H y ds Ψ => ds = [] ∧ ∀ H' il pl, H il = none → H pl = none → WrAt K H' y il pl [] [] → Ψ H'
theorem mk_Writer : Mak P w K mg base 1 "Writer" (He.ga K "Writer") (spI (He.ga K "Writer") (S_Wr_init K)) [] := by
  refine makI T.k_Writer T.g_Writer (fn_Writer_init T) sc_Writer_init (by decide) (fun H y ds Ψ h => by obtain ⟨rfl, _⟩ := h; rfl) fun cdv A outer s H E hr y ds Ψ hy hS => ?_
  obtain ⟨rfl, hΨ⟩ := hS
  refine dss_fldX y (dx_lst da_nil) T.c_Writer T.n_Writer_instructions ?_
  rintro d H1 ⟨il, rfl, bi, li, s1⟩
  refine ⟨de_var 0 rfl, _, hy.mono s1, by decide, fun H2 b2 l2 i2 => ?_⟩
  have niy : il ∉ [y] := fun z => by rw [show il = y by simpa using z] at bi; exact hy.ne bi
  have li2 := li.but b2 niy rfl l2.t
  refine dss_fldX y dx_newT T.c_Writer T.n_Writer_places ?_
  rintro d H3 ⟨pl, rfl, bp, dp, s3⟩
  refine ⟨de_var 0 rfl, _, i2.mono s3, by show 1 < 1000; omega, fun H4 b4 l4 i4 => ?_⟩
  have npy : pl ∉ [y] := fun z => by rw [show pl = y by simpa using z] at bp; exact i2.ne bp
  have bt : But [y] H H4 := s1.thenBut ((b2.sx s3).trans b4)
  have hp0 : H pl = none := by
    cases q : H pl with
    | none => rfl
    | some o => exact absurd bp ((s1.thenBut b2).n pl (by rw [q]; simp))
  exact dss_nil fun H5 s5 => ⟨hΨ H5 il pl bi hp0 ⟨i4.mono s5, ((li2.mono s3).but b4 niy rfl l4.t).mono s5, (dp.but b4 npy rfl l4.t).mono s5, rfl⟩, bt.sx s5⟩
def S_Wr_prog (K : PySem.W.Frag) : Hp → List D → (D → Hp → Prop) → Prop := fun H ds Ψ => ∃ g il pl ws ps n r, WrAt K H g il pl ws ps ∧ 1 ≤ n ∧ n ≤ 2000 ∧ 1 ≤ ws.length ∧ ws.length < 90000 ∧ (∀ o ∈ ws, ∀ l ∈ lbs o, resD ps l = iD (r l)) ∧ (∀ o ∈ ws, OpOk n ws.length (rop r o)) ∧ GxR.TabG H (He.cT K qReg).2 ∧ ds = [.ref g, iD n] ∧ ∀ q H', H q = none → Sx H H' → RegAt K H' q n (ws.map (rop r)) → Ψ (.ref q) H'
theorem mt_Wr_prog (TB : GxR.TabB base mg (He.codeOf K qReg) (He.cT K qReg).2) : Met P w K mg base 3 (He.ga K "Writer") "program" (spN (S_Wr_prog K)) := by
  have mp := mt_Wr_place (P := P) (w := w) (base := base) T
  have mr := mk_Registers (P := P) (w := w) (base := base) T TB
  refine metN T.c_Writer T.m_Writer_program (fn_Writer_program T) sc_Writer_program (by decide) (fun H ds d h => by obtain ⟨g, il, pl, ws, ps, n, r, _, _, _, _, _, _, _, _, rfl, _⟩ := h; rfl) fun cdv A outer s H E hr ds Ψ hS => ?_
  obtain ⟨g, il, pl, ws, ps, n, r, hw, hn1, hn2, hz1, hz, hres, hok, tg, rfl, hΨ⟩ := hS
  have nd := sc_Writer_program.nd
  have wl : (wDs ws).length = ws.length := List.length_map ..
  refine dss_asgX 2 nd (dx_lst da_nil) ?_
  rintro d H1 ⟨q, rfl, bq, lq, s1⟩
  refine dss_forA (p := il) (ds := wDs ws) (fun H0 i ρ' H' => But [q] H0 H' ∧ SameT H0 H' ∧ Sx H H' ∧ LstAt H' q (opDs ((ws.take i).map (rop r))) ∧ ρ' = [some (.ref g), some (iD n), some (.ref q), none, none]) (de_fld (de_var 0 rfl) (hw.i.mono s1) T.c_Writer T.n_Writer_instructions rfl) (hw.l.mono s1) (noL_ws ws) ?_ ?_ ?_ ?_
  · exact fun H2 s2 => ⟨_, Wk.refl _, But.refl _, SameT.refl _, s1.trans s2, by simpa [opDs] using lq.mono s2, rfl⟩
  · rintro H0 i ρ' H' ⟨b, t, _, _, _⟩
    refine ⟨t, fun xs e => b.k il _ (fun z => ?_) rfl e⟩
    rw [show il = q by simpa using z] at hw
    exact hw.l.ne bq
  · rintro H0 s0 i d ρ' H' hd ⟨b2, t2, s2, l2, rfl⟩
    obtain ⟨o, ho, rfl⟩ : ∃ o, ws[i]? = some o ∧ d = wD o := by
      unfold wDs at hd
      rw [List.getElem?_map] at hd
      cases q : ws[i]? with
      | none => rw [q] at hd; cases hd
      | some o => rw [q] at hd; exact ⟨o, rfl, (Option.some.inj hd).symm⟩
    have hil : i < ws.length := (List.getElem?_eq_some_iff.mp ho).1
    have hro := hres o (List.mem_of_getElem? ho)
    refine ⟨_, dg_name 3 nd, ?_⟩
    refine dss_app (d := opD (rop r o)) (de_var 2 rfl) ?_ l2 (by unfold opDs; simp; omega) (.cons rfl (.cons rfl (.cons rfl (.cons (noL_w o) (.skip .nil))))) (noL_opDs _) (by cases o <;> rfl) fun H3 b3 t3 l3 => ?_
    · have hel : ∀ (ls : List Lb), (∀ l ∈ ls, resD ps l = iD (r l)) → ∀ (j : Nat) (d e : D), (ls.map lbD)[j]? = some d → (ls.map fun l => iD (r l))[j]? = some e → ∃ l, d = lbD l ∧ e = resD ps l := fun ls hls j d e h1 h2 => by
        rw [List.getElem?_map] at h1 h2
        cases q : ls[j]? with
        | none => rw [q] at h1; cases h1
        | some l =>
          rw [q] at h1 h2
          exact ⟨l, (Option.some.inj h1).symm, by rw [hls l (List.mem_of_getElem? q)]; exact (Option.some.inj h2).symm⟩
      have noi : ∀ ls : List Lb, noLs (ls.map fun l => iD (r l)) = true := fun ls => by
        induction ls with
        | nil => rfl
        | cons _ _ ih => exact ih
      cases o with
      | fin =>
        refine DE.is (de_catT (de_sliceT (ds := [.str "end"]) (de_var 3 rfl) do_no (do_so de_int)) (de_tupleL T.f_tuple (de_lcT (es := ([] : List Lb).map fun l => iD (r l)) (ds := ([] : List Lb).map lbD) 4 nd (DE.is (d' := .tup (([] : List Lb).map lbD)) (de_sliceT (ds := [.str "end"]) (de_var 3 rfl) (do_so de_int) do_no) rfl) rfl rfl (by simp) (fun j d e h1 h2 => absurd h1 (by simp)) (show BlkOk N_Writer_program (defScope st_Writer_program) _ _ from blkOk_by (by decide +kernel)))) (by rw [show ((2 : Int)) = ((2 : Nat) : Int) from rfl, cut_to]; simp)) (by rw [show ((2 : Int)) = ((2 : Nat) : Int) from rfl, cut_to]; rfl)
      | inc c f =>
        refine DE.is (de_catT (de_sliceT (ds := [.str "inc", iD c, lbD f]) (de_var 3 rfl) do_no (do_so de_int)) (de_tupleL T.f_tuple (de_lcT (es := [f].map fun l => iD (r l)) (ds := [f].map lbD) 4 nd (DE.is (d' := .tup ([f].map lbD)) (de_sliceT (ds := [.str "inc", iD c, lbD f]) (de_var 3 rfl) (do_so de_int) do_no) (congrArg D.tup (cut_from _ 2))) rfl (noi _) (by simp) (fun j d e h1 h2 => ?_) (show BlkOk N_Writer_program (defScope st_Writer_program) _ _ from blkOk_by (by decide +kernel)))) (by rw [show ((2 : Int)) = ((2 : Nat) : Int) from rfl, cut_to]; simp)) ?_
        · obtain ⟨l, rfl, rfl⟩ := hel [f] hro j d e h1 h2
          intro s0 H0 C cl fp
          exact de_meth mp hr (by decide) (de_var 0 rfl) (hw.i.mono s2) rfl (da_cons (de_var 4 rfl) da_nil) fun H5 s5 => ⟨g, il, pl, ws, ps, l, hw.mono (s2.trans s5), rfl, rfl⟩
        · rw [show ((2 : Int)) = ((2 : Nat) : Int) from rfl, cut_to]
          rfl
      | dec c f f2 =>
        refine DE.is (de_catT (de_sliceT (ds := [.str "dec", iD c, lbD f, lbD f2]) (de_var 3 rfl) do_no (do_so de_int)) (de_tupleL T.f_tuple (de_lcT (es := [f, f2].map fun l => iD (r l)) (ds := [f, f2].map lbD) 4 nd (DE.is (d' := .tup ([f, f2].map lbD)) (de_sliceT (ds := [.str "dec", iD c, lbD f, lbD f2]) (de_var 3 rfl) (do_so de_int) do_no) (congrArg D.tup (cut_from _ 2))) rfl (noi _) (by simp) (fun j d e h1 h2 => ?_) (show BlkOk N_Writer_program (defScope st_Writer_program) _ _ from blkOk_by (by decide +kernel)))) (by rw [show ((2 : Int)) = ((2 : Nat) : Int) from rfl, cut_to]; simp)) ?_
        · obtain ⟨l, rfl, rfl⟩ := hel [f, f2] hro j d e h1 h2
          intro s0 H0 C cl fp
          exact de_meth mp hr (by decide) (de_var 0 rfl) (hw.i.mono s2) rfl (da_cons (de_var 4 rfl) da_nil) fun H5 s5 => ⟨g, il, pl, ws, ps, l, hw.mono (s2.trans s5), rfl, rfl⟩
        · rw [show ((2 : Int)) = ((2 : Nat) : Int) from rfl, cut_to]
          rfl
    · refine dss_nil fun H4 s4 => ⟨_, .same (.same (.same (.drop (.same .nil)))), (b2.trans b3).sx s4, (t2.trans t3).trans s4.tt, (b3.same s2 (fun a ha => by rw [show a = q by simpa using ha]; exact bq)).trans s4, ?_, rfl⟩
      rw [take_snoc ho, List.map_append]
      unfold opDs at l3 ⊢
      rw [List.map_append]
      exact l3.mono s4
  · rintro H0 s0 ρ' H' ⟨b2, t2, s2, l2, rfl⟩
    rw [wl, List.take_length] at l2
    have pl2 : (ws.map (rop r)).length = ws.length := List.length_map ..
    refine dss_retN' (dn_make mr hr (by decide) (da_cons (de_var 1 rfl) (da_cons (de_frz (de_var 2 rfl) l2) da_nil)) (fun H => DatL.nil) (Pm := fun y H3 => RegAt K H3 y n (ws.map (rop r))) fun H3 y s3 hy i3 => ⟨n, ws.map (rop r), hn1, hn2, by omega, by omega, fun o ho => ?_, (s2.trans s3).t _ tg, rfl, fun H4 h4 => h4⟩) fun d H3 s3 q3 => ?_
    · obtain ⟨o', ho', rfl⟩ := List.mem_map.mp ho
      rw [pl2]
      exact hok o' ho'
    · obtain ⟨y, rfl, hy, ry⟩ := q3
      exact ⟨hΨ y H3 (s2.free hy) (s2.trans s3) ry, s2.trans s3⟩
end
end K5
namespace K5
open PySem PySem.Spec PyProof.Rows L2
theorem datL_ofKeys {H : Hp} : ∀ k : List L2.Key, DatL H (k.map kD) (k.map kV)
  | [] => rfl
  | .inl _ :: zs => ⟨_, _, rfl, rfl, datL_ofKeys zs⟩
  | .inr _ :: zs => ⟨_, _, rfl, rfl, datL_ofKeys zs⟩
theorem KD.at_ {H : Hp} : ∀ {kvs : List (List L2.Key × V)} {es : List (List L2.Key × D)} {i : Nat} {k : List L2.Key} {v : V}, KD H kvs es → kvs[i]? = some (k, v) → ∃ d, es[i]? = some (k, d)
  | [], es, i, k, v, h, e => by simp at e
  | (k0, v0) :: kvs, _, 0, k, v, h, e => by
    obtain ⟨d, r, rfl, _, _⟩ := h
    simp at e
    exact ⟨d, by rw [← e.1]; rfl⟩
  | (k0, v0) :: kvs, _, i + 1, k, v, h, e => by
    obtain ⟨d, r, rfl, _, h2⟩ := h
    obtain ⟨d', q⟩ := KD.at_ (i := i) h2 (by simpa using e)
    exact ⟨d', by simpa using q⟩
section
variable {X : Cx} {tg iter : Expr} {bd rest : List Stmt} {ρ : Rho} {B : Hp} {N : Rho → Hp → Prop} {R : D → Hp → Prop} {pos : Pos} {p : Addr} {dt : List (List L2.Key × D)}
theorem dss_forDT (P : LP) (hD : DicW B p dt) (he : ∀ HL, But [p] B HL → SameL B HL → DicT HL p dt → DE X iter ρ HL (.ref p))
    (h0 : ∀ HL, But [p] B HL → SameL B HL → DicT HL p dt → ∃ ρ0, Wk ρ ρ0 ∧ P HL 0 ρ0 HL)
    (hT : ∀ HL i ρ' H', DicT HL p dt → P HL i ρ' H' → SameL HL H' ∧ ∀ o, isTb o = false → HL p = some o → H' p = some o)
    (hs : ∀ HL, But [p] B HL → SameL B HL → DicT HL p dt → ∀ (i : Nat) q ρ' H', dt[i]? = some q → P HL i ρ' H' → ∃ ρ1, DG X tg (keyD q) ρ' ρ1 ∧ DSs X bd ρ1 H' (fun ρ2 H2 => ∃ ρ3, Wk ρ2 ρ3 ∧ P HL (i + 1) ρ3 H2) (fun _ _ => False))
    (hd : ∀ HL, But [p] B HL → SameL B HL → DicT HL p dt → ∀ ρ' H' H'', P HL dt.length ρ' H' → But [p] H' H'' → SameL H' H'' → DicW H'' p dt → DSs X rest ρ' H'' N R) (hp : PassesOwn (model X.prog X.w) X.A X.env X.xe := by exact PassesOwn.never) (hc : X.calm = true := by rfl)
    (hfs : ∀ x, foldedSetIterable iter X.env x = pure x := by intro _; rfl) : DSs X (.For tg iter bd [] pos :: rest) ρ B N R :=
  dss_of (ps_lock (ps_for hp hc (pi_keys pe_w) pg_w pss_w hfs)) fun σ H s r Dn k1 k2 => by
    obtain ⟨kvs, hk, kd⟩ := hD.mono s
    refine ⟨p, .dT kvs, hk, trivial, fun od => ?_⟩
    have slL : SameL H (upd H p (.frz od (.dT kvs))) := SameL.upd (fun xs z => by rw [hk] at z; cases z) (fun xs z => by rw [hk] at z; cases z)
    have btL : But [p] B (upd H p (.frz od (.dT kvs))) := s.thenBut (But.upd fun u z => by rw [hk] at z; cases z; rfl)
    have slB : SameL B (upd H p (.frz od (.dT kvs))) := s.l.trans slL
    have rL := r.monoL slL
    have hpL : upd H p (.frz od (.dT kvs)) p = some (.frz od (.dT kvs)) := upd_same
    have kdL := kd.monoL slL
    generalize upd H p (.frz od (.dT kvs)) = HL at slL btL slB rL hpL kdL
    have dT : DicT HL p dt := ⟨kvs, .inr ⟨od, hpL⟩, kdL⟩
    refine he HL btL slB dT σ HL (Sx.refl HL) rL _ fun v H1 s1 e1 => ?_
    have hp1 : H1 p = some (.frz od (.dT kvs)) := s1.k p _ rfl hpL
    refine ⟨p, od, e1, .inr ⟨kvs, hp1, ?_⟩⟩
    have bt1 := btL.sx s1
    have sl1 := slB.trans s1.l
    have dT1 : DicT H1 p dt := dT.mono s1
    have hl : kvs.length = dt.length := kdL.length
    refine for_it (walk_keysT (o := od) (d := p) (kvs := kvs)) (fun i σ' H' => ∃ ρ', Rep H' σ' ρ' ∧ P H1 i ρ' H') ?_ ?_ ?_ ?_
    · obtain ⟨ρ0, wk, q⟩ := h0 H1 bt1 sl1 dT1
      exact ⟨ρ0, (rL.mono s1).weak wk, q⟩
    · rintro i σ' H' _ ⟨ρ', _, q⟩
      exact (hT _ _ _ _ dT1 q).2 _ rfl hp1
    · rintro i y σ' H' H2 hi ⟨ρ', r', q⟩ ⟨rfl, k, v', qa, hkv, rfl, hqa⟩
      obtain ⟨d, hdt⟩ := kdL.at_ hkv
      obtain ⟨ρ1, g, b⟩ := hs H1 bt1 sl1 dT1 i _ ρ' H2 hdt q
      refine g σ' H2 (.ref qa) r' ⟨qa, _, rfl, hqa, datL_ofKeys k⟩ _ fun σ2 r2 => b σ2 H2 (Sx.refl H2) r2 _ (fun ρ2 σ3 H3 n3 r3 => ?_) (fun _ _ _ z _ => z.elim)
      obtain ⟨ρ3, w3, p3⟩ := n3
      exact ⟨ρ3, r3.weak w3, p3⟩
    · rintro σ' H' ⟨ρ', r', q⟩
      rw [hl] at q
      obtain ⟨t1, t2⟩ := hT _ _ _ _ dT1 q
      have hp' := t2 _ rfl hp1
      refine ⟨hp', ?_⟩
      have sl2 : SameL H' (upd H' p (.dT kvs)) := SameL.upd (fun xs z => by rw [hp'] at z; cases z) (fun xs z => by rw [hp'] at z; cases z)
      exact go_on (hd H1 bt1 sl1 dT1 ρ' H' _ q (But.upd fun u z => by rw [hp'] at z; cases z; rfl) sl2 ⟨kvs, upd_same, ((kdL.monoL s1.l).monoL t1).monoL sl2⟩) (Sx.refl _) (r'.monoL sl2) k1 k2
end
end K5
namespace K5
open PySem PySem.Spec PyProof.Rows L2
def pushW (n m side w : Nat) : List WOp :=
  moveW n side m 2 (.n (n + 1 + m)) ++ ((if w > 0 then addW (n + (m + 1)) 2 w (.n (n + (m + 1) + w)) else []) ++ moveW (n + (m + 1) + w) 2 1 side (.n (n + (m + 1) + w + 2)))
def popA (n m side : Nat) (k : Nat) : List WOp := (List.range k).map fun r => .dec side (.n (n + r + 1)) (.n (n + m + 1 + 2 * r))
def popB (n side f : Nat) : Nat → List WOp
  | 0 => []
  | k + 1 => popB n side f k ++ moveW (n + 2 * k) 2 1 side (.two f k)
def popW (n m side f : Nat) : List WOp := popA n m side m ++ .inc 2 (.n n) :: popB (n + m + 1) side f m
def pairW (rs : List Rl) (n m s a : Nat) : List WOp := match look rs s a with
  | none => [.fin]
  | some r => if r.m = 0 then addW n 2 1 (.n (n + 1)) ++ [.dec 2 (.two r.f r.w) (.two r.f r.w)] else
    pushW n m (if r.m = 1 then 0 else 1) r.w ++ popW (n + (m + 1 + r.w + 2)) m (1 - (if r.m = 1 then 0 else 1)) r.f
theorem popA_len (n m side k : Nat) : (popA n m side k).length = k := by simp [popA]
theorem popB_len (n side f : Nat) : ∀ k, (popB n side f k).length = 2 * k
  | 0 => rfl
  | k + 1 => by
    show (popB n side f k ++ moveW (n + 2 * k) 2 1 side (.two f k)).length = _
    rw [List.length_append, popB_len n side f k, moveW_len (by omega)]
    omega
theorem pushW_len {n m side w : Nat} (h : 1 ≤ m) : (pushW n m side w).length = m + 1 + w + 2 := by
  unfold pushW
  rw [List.length_append, List.length_append, moveW_len h, moveW_len (by omega)]
  split
  · rw [addW_len (by omega)]
    omega
  · simp
    omega
theorem popW_len {n m side f : Nat} : (popW n m side f).length = 3 * m + 1 := by
  unfold popW
  rw [List.length_append, List.length_cons, popA_len, popB_len]
  omega
/-- a machine's object, with its table's address -/
structure TurX (K : PySem.W.Frag) (H : Hp) (t ta : Addr) (n m : Nat) (rs rs' : List Rl) : Prop where
  i : Ins H t (He.ga K "Turing") [("states", iD n), ("symbols", iD m), ("table", .ref ta), ("rules", .tup (rlDs rs'))]
  d : DicW H ta (tabE rs)
  p : rs'.Perm rs
theorem TurX.at_ {K : PySem.W.Frag} {H : Hp} {t ta : Addr} {n m : Nat} {rs rs' : List Rl} (h : TurX K H t ta n m rs rs') : TurAt K H t n m rs := ⟨ta, rs', h.i, h.d, h.p⟩
theorem TurX.mono {K : PySem.W.Frag} {H H' : Hp} {t ta : Addr} {n m : Nat} {rs rs' : List Rl} (h : TurX K H t ta n m rs rs') (s : Sx H H') : TurX K H' t ta n m rs rs' := ⟨h.i.mono s, h.d.mono s, h.p⟩
theorem noLf_tur (n m : Nat) (ta : Addr) (rs : List Rl) : noLf [("states", iD n), ("symbols", iD m), ("table", .ref ta), ("rules", .tup (rlDs rs))] = true := by
  show (true && (true && (true && (noLs (rlDs rs) && true)))) = true
  rw [noL_rlDs]
  rfl
theorem TurX.aft {K : PySem.W.Frag} {H H' : Hp} {t ta g il pl : Addr} {n m : Nat} {rs rs' : List Rl} {ws ws2 : List WOp} {ps ps2 : Mks} (h : TurX K H t ta n m rs rs') (hw : WrAt K H g il pl ws ps) (hp : ta ≠ pl) (a : Aft K H H' g il pl ws2 ps2) : TurX K H' t ta n m rs rs' := by
  refine ⟨a.ins hw h.i (noLf_tur _ _ _ _), h.d.but a.b (fun z => ?_) (noLk_tabE rs) a.t, h.p⟩
  (rcases List.mem_cons.mp z with z | z)
  · obtain ⟨kvs, e, _⟩ := h.d
    obtain ⟨xs, e1, _⟩ := hw.l
    rw [z, e1] at e
    cases e
  · exact hp (by simpa using z)
section
variable {P : Program} {w : World} {K : PySem.W.Frag} {mg : Str → Option Value} {base : Heap} (T : Tx K mg)
include T
abbrev T2S (K : PySem.W.Frag) (H : Hp) (y t : Addr) : Prop := Ins H y (He.ga K "TuringToRegisters") [("source", .ref t)]
def S_push (K : PySem.W.Frag) : Hp → List D → (D → Hp → Prop) → Prop := fun H ds Ψ => ∃ y t ta n m rs rs' g il pl ws ps c v, T2S K H y t ∧ TurX K H t ta n m rs rs' ∧ ta ≠ pl ∧ 1 ≤ m ∧ m ≤ 100 ∧ WrAt K H g il pl ws ps ∧ ws.length + m + v + 10 < 80000 ∧ v ≤ 100 ∧ ds = [.ref y, .ref g, iD c, iD v] ∧ ∀ H', Aft K H H' g il pl (ws ++ pushW ws.length m c v) ps → Ψ .non H'
theorem mt_push : Met P w K mg base 3 (He.ga K "TuringToRegisters") "write_push" (spX (S_push K)) := by
  have mm := mt_Wr_move (P := P) (w := w) (base := base) T
  have ma := mt_Wr_add (P := P) (w := w) (base := base) T
  refine metX T.c_TuringToRegisters T.m_TuringToRegisters_write_push (fn_TuringToRegisters_write_push T) sc_TuringToRegisters_write_push (by decide) (fun H ds d h => by obtain ⟨y, t, ta, n, m, rs, rs', g, il, pl, ws, ps, c, v, _, _, _, _, _, _, _, _, rfl, _⟩ := h; rfl) fun cdv A outer s H E hr ds Ψ hS => ?_
  obtain ⟨y, t, ta, n, m, rs, rs', g, il, pl, ws, ps, c, v, hy, ht, hta, hm1, hm2, hw, hz, hv, rfl, hΨ⟩ := hS
  have nd := sc_TuringToRegisters_write_push.nd
  have wl : ∀ ws : List WOp, (wDs ws).length = ws.length := fun _ => List.length_map ..
  refine dss_asg 4 nd (d := iD m) (de_fld (de_fld (de_var 0 rfl) hy T.c_TuringToRegisters T.n_TuringToRegisters_source rfl) ht.i T.c_Turing T.n_Turing_symbols rfl) ?_
  have pn : Plain [some (.ref y), some (.ref g), some (iD c), some (iD v), some (iD m)] := .cons rfl (.cons rfl (.cons rfl (.cons rfl (.cons rfl .nil))))
  refine dss_exprX (dx_meth mm hr (by decide) (de_var 1 rfl) hw.i rfl (da_cons (de_var 2 rfl) (da_cons (de_repL (de_ls (da_cons (de_gint T.i_HELPER) da_nil)) (de_var 4 rfl) (by omega)) (da_cons (DE.is (d' := lbD (.n (ws.length + 1 + m))) (de_add (de_add (de_lenA T.f_len (de_fld (de_var 1 rfl) hw.i T.c_Writer T.n_Writer_instructions rfl) hw.l) de_int) (de_var 4 rfl)) (by rw [wl]; rfl)) da_nil))) (P := fun d H1 => Aft K H H1 g il pl (ws ++ moveW ws.length c m 2 (.n (ws.length + 1 + m))) ps) pn fun H2 s2 => ⟨g, il, pl, _, ps, c, m, 2, .n (ws.length + 1 + m), hw.mono s2, hm1, by omega, rfl, fun H3 a3 => a3.pre s2⟩) fun d H1 a1 => ?_
  have l1 : (ws ++ moveW ws.length c m 2 (.n (ws.length + 1 + m))).length = ws.length + (m + 1) := by rw [List.length_append, moveW_len hm1]
  refine dss_if (fun ρ2 H2 => Aft K H H2 g il pl (ws ++ moveW ws.length c m 2 (.n (ws.length + 1 + m)) ++ (if v > 0 then addW (ws.length + (m + 1)) 2 v (.n (ws.length + (m + 1) + v)) else [])) ps ∧ ρ2 = [some (.ref y), some (.ref g), some (iD c), some (iD v), some (iD m)]) (kb := decide (v > 0)) (DT.is (dt_gt (de_var 3 rfl) de_int) (decide_eq_decide.mpr (by omega))) (fun hk => ?_) (fun hk => ?_) ?_
  · have hv0 := of_decide_eq_true hk
    refine dss_exprX (dx_meth ma hr (by decide) (de_var 1 rfl) a1.w.i rfl (da_cons (de_gint T.i_HELPER) (da_cons (de_var 3 rfl) (da_cons (DE.is (d' := lbD (.n (ws.length + (m + 1) + v))) (de_add (de_lenA T.f_len (de_fld (de_var 1 rfl) a1.w.i T.c_Writer T.n_Writer_instructions rfl) a1.w.l) (de_var 3 rfl)) (by rw [wl, l1]; rfl)) da_nil))) (P := fun d H2 => Aft K H1 H2 g il pl (ws ++ moveW ws.length c m 2 (.n (ws.length + 1 + m)) ++ addW (ws.length + (m + 1)) 2 v (.n (ws.length + (m + 1) + v))) ps) pn fun H2 s2 => ⟨g, il, pl, _, ps, 2, v, .n (ws.length + (m + 1) + v), a1.w.mono s2, hv0, by rw [l1]; omega, rfl, fun H3 a3 => by rw [l1] at a3; exact a3.pre s2⟩) fun d H2 a2 => ?_
    exact dss_nil fun H3 s3 => ⟨by rw [if_pos hv0]; exact (a1.trans a2).post s3, rfl⟩
  · have hv0 := of_decide_eq_false hk
    exact dss_nil fun H3 s3 => ⟨by rw [if_neg hv0, List.append_nil]; exact a1.post s3, rfl⟩
  · rintro ρ2 H2 ⟨a2, rfl⟩
    have l2 : (ws ++ moveW ws.length c m 2 (.n (ws.length + 1 + m)) ++ (if v > 0 then addW (ws.length + (m + 1)) 2 v (.n (ws.length + (m + 1) + v)) else [])).length = ws.length + (m + 1) + v := by
      rw [List.length_append, l1]
      split
      · rw [addW_len (by omega)]
      · simp
        omega
    refine dss_exprX (dx_meth mm hr (by decide) (de_var 1 rfl) a2.w.i rfl (da_cons (de_gint T.i_HELPER) (da_cons (de_ls (da_cons (de_var 2 rfl) da_nil)) (da_cons (DE.is (d' := lbD (.n (ws.length + (m + 1) + v + 2))) (de_add (de_lenA T.f_len (de_fld (de_var 1 rfl) a2.w.i T.c_Writer T.n_Writer_instructions rfl) a2.w.l) de_int) (by rw [wl, l2]; rfl)) da_nil))) (P := fun d H3 => Aft K H2 H3 g il pl ((ws ++ moveW ws.length c m 2 (.n (ws.length + 1 + m)) ++ (if v > 0 then addW (ws.length + (m + 1)) 2 v (.n (ws.length + (m + 1) + v)) else [])) ++ moveW (ws.length + (m + 1) + v) 2 1 c (.n (ws.length + (m + 1) + v + 2))) ps) pn fun H3 s3 => ⟨g, il, pl, _, ps, 2, 1, c, .n (ws.length + (m + 1) + v + 2), a2.w.mono s3, by omega, by rw [l2]; omega, rfl, fun H4 a4 => by rw [l2] at a4; exact a4.pre s3⟩) fun d H3 a3 => ?_
    have a4 := a2.trans a3
    rw [List.append_assoc, List.append_assoc] at a4
    exact dss_nil fun H5 s5 => ⟨hΨ H5 (a4.post s5), (a4.post s5).t⟩
def S_pop (K : PySem.W.Frag) : Hp → List D → (D → Hp → Prop) → Prop := fun H ds Ψ => ∃ y t ta n m rs rs' g il pl ws ps c v, T2S K H y t ∧ TurX K H t ta n m rs rs' ∧ ta ≠ pl ∧ 1 ≤ m ∧ m ≤ 100 ∧ WrAt K H g il pl ws ps ∧ ws.length + 3 * m + 10 < 80000 ∧ ds = [.ref y, .ref g, iD c, iD v] ∧ ∀ H', Aft K H H' g il pl (ws ++ popW ws.length m c v) ps → Ψ .non H'
theorem mt_pop : Met P w K mg base 3 (He.ga K "TuringToRegisters") "write_pop" (spX (S_pop K)) := by
  have mm := mt_Wr_move (P := P) (w := w) (base := base) T
  have mi := mt_Wr_inc (P := P) (w := w) (base := base) T
  have md := mt_Wr_dec (P := P) (w := w) (base := base) T
  refine metX T.c_TuringToRegisters T.m_TuringToRegisters_write_pop (fn_TuringToRegisters_write_pop T) sc_TuringToRegisters_write_pop (by decide) (fun H ds d h => by obtain ⟨y, t, ta, n, m, rs, rs', g, il, pl, ws, ps, c, v, _, _, _, _, _, _, _, rfl, _⟩ := h; rfl) fun cdv A outer s H E hr ds Ψ hS => ?_
  obtain ⟨y, t, ta, n, m, rs, rs', g, il, pl, ws, ps, c, v, hy, ht, hta, hm1, hm2, hw, hz, rfl, hΨ⟩ := hS
  have nd := sc_TuringToRegisters_write_pop.nd
  have wl : ∀ ws : List WOp, (wDs ws).length = ws.length := fun _ => List.length_map ..
  refine dss_asg 4 nd (d := iD m) (de_fld (de_fld (de_var 0 rfl) hy T.c_TuringToRegisters T.n_TuringToRegisters_source rfl) ht.i T.c_Turing T.n_Turing_symbols rfl) ?_
  refine dss_asg 5 nd (DE.is (d' := iD ws.length) (de_lenA T.f_len (de_fld (de_var 1 rfl) hw.i T.c_Writer T.n_Writer_instructions rfl) hw.l) (by rw [wl])) ?_
  refine dss_asg 6 nd (DE.is (d' := iD (ws.length + m + 1)) (de_add (de_add (de_var 5 rfl) (de_var 4 rfl)) de_int) rfl) ?_
  refine dss_forR (fun H0 i ρ' H' => Aft K H H' g il pl (ws ++ popA ws.length m c i) ps ∧ ρ' = [some (.ref y), some (.ref g), some (iD c), some (iD v), some (iD m), some (iD ws.length), some (iD (ws.length + m + 1)), none]) (de_var 4 rfl) (by omega) ?_ ?_ ?_ T.f_range
  · exact fun H2 s2 => ⟨_, Wk.refl _, by simpa [popA] using hw.aft.post s2, rfl⟩
  · rintro H0 s0 i ρ' H' hi ⟨a1, rfl⟩
    refine ⟨_, dg_name 7 nd, ?_⟩
    refine dss_exprX (dx_meth md hr (by decide) (de_var 1 rfl) a1.w.i rfl (da_cons (de_var 2 rfl) (da_cons (DE.is (d' := lbD (.n (ws.length + i + 1))) (de_add (de_add (de_var 5 rfl) (de_var 7 rfl)) de_int) rfl) (da_cons (DE.is (d' := lbD (.n (ws.length + m + 1 + 2 * i))) (de_add (de_var 6 rfl) (de_mul de_int (de_var 7 rfl) (by omega))) rfl) da_nil))) (P := fun d H1 => Aft K H' H1 g il pl (ws ++ popA ws.length m c i ++ [.dec c (.n (ws.length + i + 1)) (.n (ws.length + m + 1 + 2 * i))]) ps) (.cons rfl (.cons rfl (.cons rfl (.cons rfl (.cons rfl (.cons rfl (.cons rfl (.cons rfl .nil)))))))) fun H2 s2 => ⟨g, il, pl, _, ps, c, .n (ws.length + i + 1), .n (ws.length + m + 1 + 2 * i), a1.w.mono s2, by rw [List.length_append, popA_len]; omega, rfl, fun H3 a3 => a3.pre s2⟩) fun d H1 a2 => ?_
    refine dss_nil fun H4 s4 => ⟨_, .same (.same (.same (.same (.same (.same (.same (.drop .nil))))))), ?_, rfl⟩
    have a3 := (a1.trans a2).post s4
    unfold popA at a3 ⊢
    rw [List.range_succ, List.map_append, ← List.append_assoc]
    exact a3
  · rintro H0 s0 ρ' H' ⟨a1, rfl⟩
    rw [show ((m : Int)).toNat = m from Int.toNat_natCast m] at a1
    have pn : Plain [some (.ref y), some (.ref g), some (iD c), some (iD v), some (iD m), some (iD ws.length), some (iD (ws.length + m + 1)), none] := .cons rfl (.cons rfl (.cons rfl (.cons rfl (.cons rfl (.cons rfl (.cons rfl (.skip .nil)))))))
    refine dss_exprX (dx_meth mi hr (by decide) (de_var 1 rfl) a1.w.i rfl (da_cons (de_gint T.i_HELPER) (da_cons (DE.is (d' := lbD (.n ws.length)) (de_var 5 rfl) rfl) da_nil)) (P := fun d H1 => Aft K H' H1 g il pl (ws ++ popA ws.length m c m ++ [WOp.inc 2 (.n ws.length)]) ps) pn fun H2 s2 => ⟨g, il, pl, _, ps, 2, .n ws.length, a1.w.mono s2, by rw [List.length_append, popA_len]; omega, rfl, fun H3 a3 => a3.pre s2⟩) fun d H1 a2 => ?_
    have l2 : (ws ++ popA ws.length m c m ++ [WOp.inc 2 (.n ws.length)]).length = ws.length + m + 1 := by rw [List.length_append, List.length_append, popA_len]; rfl
    have a3 := a1.trans a2
    refine dss_forR (fun H0 i ρ' H' => Aft K H H' g il pl (ws ++ popA ws.length m c m ++ [WOp.inc 2 (.n ws.length)] ++ popB (ws.length + m + 1) c v i) ps ∧ ρ' = [some (.ref y), some (.ref g), some (iD c), some (iD v), some (iD m), some (iD ws.length), some (iD (ws.length + m + 1)), none]) (de_var 4 rfl) (by omega) ?_ ?_ ?_ T.f_range
    · exact fun H2 s2 => ⟨_, Wk.refl _, by simpa [popB] using a3.post s2, rfl⟩
    · rintro H4 s4 i ρ' H5 hi ⟨a4, rfl⟩
      have l3 : (ws ++ popA ws.length m c m ++ [WOp.inc 2 (.n ws.length)] ++ popB (ws.length + m + 1) c v i).length = ws.length + m + 1 + 2 * i := by rw [List.length_append, l2, popB_len]
      refine ⟨_, dg_name 7 nd, ?_⟩
      refine dss_exprX (dx_meth mm hr (by decide) (de_var 1 rfl) a4.w.i rfl (da_cons (de_gint T.i_HELPER) (da_cons (de_ls (da_cons (de_var 2 rfl) da_nil)) (da_cons (DE.is (d' := lbD (.two v i)) (de_tp (da_cons de_str (da_cons (de_var 3 rfl) (da_cons (de_var 7 rfl) da_nil)))) rfl) da_nil))) (P := fun d H1 => Aft K H5 H1 g il pl (ws ++ popA ws.length m c m ++ [WOp.inc 2 (.n ws.length)] ++ popB (ws.length + m + 1) c v i ++ moveW (ws.length + m + 1 + 2 * i) 2 1 c (.two v i)) ps) (.cons rfl (.cons rfl (.cons rfl (.cons rfl (.cons rfl (.cons rfl (.cons rfl (.cons rfl .nil)))))))) fun H2 s2 => ⟨g, il, pl, _, ps, 2, 1, c, .two v i, a4.w.mono s2, by omega, by rw [l3]; omega, rfl, fun H3 a3 => by rw [l3] at a3; exact a3.pre s2⟩) fun d H6 a5 => ?_
      refine dss_nil fun H7 s7 => ⟨_, .same (.same (.same (.same (.same (.same (.same (.drop .nil))))))), ?_, rfl⟩
      have a6 := (a4.trans a5).post s7
      show Aft K H H7 g il pl (ws ++ popA ws.length m c m ++ [WOp.inc 2 (.n ws.length)] ++ (popB (ws.length + m + 1) c v i ++ moveW (ws.length + m + 1 + 2 * i) 2 1 c (.two v i))) ps
      rw [← List.append_assoc]
      exact a6
    · rintro H4 s4 ρ' H5 ⟨a4, rfl⟩
      rw [show ((m : Int)).toNat = m from Int.toNat_natCast m, List.append_assoc, List.append_assoc] at a4
      exact dss_nil fun H6 s6 => ⟨hΨ H6 (a4.post s6), (a4.post s6).t⟩
omit T in
theorem isN_rlO (o : Option Rl) : isN (rlO o) = o.isNone := by cases o <;> rfl
def S_pair (K : PySem.W.Frag) : Hp → List D → (D → Hp → Prop) → Prop := fun H ds Ψ => ∃ y t ta n m rs rs' g il pl ws ps s a, T2S K H y t ∧ TurX K H t ta n m rs rs' ∧ ta ≠ pl ∧ (∀ r ∈ rs, RlOk n m r) ∧ 1 ≤ m ∧ m ≤ 100 ∧ WrAt K H g il pl ws ps ∧ ws.length < 70000 ∧ ds = [.ref y, .ref g, iD s, iD a] ∧ ∀ H', Aft K H H' g il pl (ws ++ pairW rs ws.length m s a) ps → Ψ .non H'
theorem mt_pair : Met P w K mg base 4 (He.ga K "TuringToRegisters") "write_pair" (spX (S_pair K)) := by
  have mpu := mt_push (P := P) (w := w) (base := base) T
  have mpo := mt_pop (P := P) (w := w) (base := base) T
  have mr := mt_rule (P := P) (w := w) (base := base) T
  have ma := mt_Wr_add (P := P) (w := w) (base := base) T
  have md := mt_Wr_dec (P := P) (w := w) (base := base) T
  have me := mt_Wr_end (P := P) (w := w) (base := base) T
  refine metX T.c_TuringToRegisters T.m_TuringToRegisters_write_pair (fn_TuringToRegisters_write_pair T) sc_TuringToRegisters_write_pair (by decide) (fun H ds d h => by obtain ⟨y, t, ta, n, m, rs, rs', g, il, pl, ws, ps, s, a, _, _, _, _, _, _, _, _, rfl, _⟩ := h; rfl) fun cdv A outer s H E hr ds Ψ hS => ?_
  obtain ⟨y, t, ta, n, m, rs, rs', g, il, pl, ws, ps, st, a, hy, ht, hta, hok, hm1, hm2, hw, hz, rfl, hΨ⟩ := hS
  have nd := sc_TuringToRegisters_write_pair.nd
  have wl : ∀ ws : List WOp, (wDs ws).length = ws.length := fun _ => List.length_map ..
  refine dss_asg 4 nd (d := rlO (look rs st a)) (de_meth mr hr (by decide) (de_fld (de_var 0 rfl) hy T.c_TuringToRegisters T.n_TuringToRegisters_source rfl) ht.i rfl (da_cons (de_var 2 rfl) (da_cons (de_var 3 rfl) da_nil)) fun H2 s2 => ⟨t, n, m, rs, st, a, (ht.mono s2).at_, rfl, rfl⟩) ?_
  unfold pairW at hΨ
  cases hl : look rs st a with
  | none =>
    rw [hl] at hΨ
    refine dss_leave (DT.is (dt_isN (de_var 4 rfl)) rfl) (dss_exprX (dx_meth0 me hr (by decide) (de_var 1 rfl) hw.i rfl (P := fun d H1 => Aft K H H1 g il pl (ws ++ [WOp.fin]) ps) (.cons rfl (.cons rfl (.cons rfl (.cons rfl (.cons rfl (.skip (.skip (.skip (.skip .nil))))))))) fun H2 s2 => ⟨g, il, pl, _, ps, hw.mono s2, by omega, rfl, fun H3 a3 => a3.pre s2⟩) fun d H1 a1 => ?_)
    exact dss_retN fun H3 s3 => ⟨hΨ H3 (a1.post s3), (a1.post s3).t⟩
  | some r =>
    rw [hl] at hΨ
    simp only at hΨ
    have hr1 : r ∈ rs := by
      unfold look at hl
      exact List.mem_of_find?_eq_some hl
    have ok := hok r hr1
    have okw := ok.w
    refine dss_skip (DT.is (dt_isN (de_var 4 rfl)) rfl) ?_
    refine dss_unp (d := rlV r) (de_var 4 rfl) (dg_tup (dgs_cons (dg_name 5 nd) (dgs_cons (dg_name 6 nd) (dgs_cons (dg_name 7 nd) dgs_nil)))) ?_
    refine dss_guard (kb := decide (r.m = 0)) (dt_eq (de_var 6 rfl) de_int) (fun hk => ?_) (fun hk => ?_)
    · have hm0 := of_decide_eq_true hk
      rw [if_pos hm0] at hΨ
      have pn : Plain [some (.ref y), some (.ref g), some (iD st), some (iD a), some (rlV r), some (iD r.w), some (.int r.m), some (iD r.f), none] := .cons rfl (.cons rfl (.cons rfl (.cons rfl (.cons rfl (.cons rfl (.cons rfl (.cons rfl (.skip .nil))))))))
      refine dss_exprX (dx_meth ma hr (by decide) (de_var 1 rfl) hw.i rfl (da_cons (de_gint T.i_HELPER) (da_cons (d := iD 1) de_int (da_cons (DE.is (d' := lbD (.n (ws.length + 1))) (de_add (de_lenA T.f_len (de_fld (de_var 1 rfl) hw.i T.c_Writer T.n_Writer_instructions rfl) hw.l) de_int) (by rw [wl]; rfl)) da_nil))) (P := fun d H1 => Aft K H H1 g il pl (ws ++ addW ws.length 2 1 (.n (ws.length + 1))) ps) pn fun H2 s2 => ⟨g, il, pl, _, ps, 2, 1, .n (ws.length + 1), hw.mono s2, by omega, by omega, rfl, fun H3 a3 => a3.pre s2⟩) fun d H1 a1 => ?_
      refine dss_exprX (dx_meth md hr (by decide) (de_var 1 rfl) a1.w.i rfl (da_cons (de_gint T.i_HELPER) (da_cons (d := lbD (.two r.f r.w)) (de_tp (da_cons de_str (da_cons (de_var 7 rfl) (da_cons (de_var 5 rfl) da_nil)))) (da_cons (d := lbD (.two r.f r.w)) (de_tp (da_cons de_str (da_cons (de_var 7 rfl) (da_cons (de_var 5 rfl) da_nil)))) da_nil))) (P := fun d H2 => Aft K H1 H2 g il pl (ws ++ addW ws.length 2 1 (.n (ws.length + 1)) ++ [.dec 2 (.two r.f r.w) (.two r.f r.w)]) ps) pn fun H2 s2 => ⟨g, il, pl, _, ps, 2, .two r.f r.w, .two r.f r.w, a1.w.mono s2, by rw [List.length_append, addW_len (by omega)]; omega, rfl, fun H3 a3 => a3.pre s2⟩) fun d H2 a2 => ?_
      have a3 := a1.trans a2
      rw [List.append_assoc] at a3
      exact dss_retN fun H3 s3 => ⟨hΨ H3 (a3.post s3), (a3.post s3).t⟩
    · have hm0 := of_decide_eq_false hk
      rw [if_neg hm0] at hΨ
      generalize hc : (if r.m = 1 then 0 else 1) = c at hΨ
      have hc1 : c ≤ 1 := by rw [← hc]; split <;> omega
      have pn : Plain [some (.ref y), some (.ref g), some (iD st), some (iD a), some (rlV r), some (iD r.w), some (.int r.m), some (iD r.f), some (iD c)] := .cons rfl (.cons rfl (.cons rfl (.cons rfl (.cons rfl (.cons rfl (.cons rfl (.cons rfl (.cons rfl .nil))))))))
      refine dss_asg 8 nd (d := iD c) (de_ifExp (k := decide (r.m = 1)) (dt_eq (de_var 6 rfl) de_int) (fun hk => ?_) (fun hk => ?_)) ?_
      · rw [← hc, if_pos (of_decide_eq_true hk)]
        exact de_gint T.i_LEFT_tapenumbers
      · rw [← hc, if_neg (of_decide_eq_false hk)]
        exact de_gint T.i_RIGHT_tapenumbers
      · refine dss_exprX (dx_meth mpu hr (by decide) (de_var 0 rfl) hy rfl (da_cons (de_var 1 rfl) (da_cons (de_var 8 rfl) (da_cons (de_var 5 rfl) da_nil))) (P := fun d H1 => Aft K H H1 g il pl (ws ++ pushW ws.length m c r.w) ps) pn fun H2 s2 => ⟨y, t, ta, n, m, rs, rs', g, il, pl, ws, ps, c, r.w, hy.mono s2, ht.mono s2, hta, hm1, hm2, hw.mono s2, by omega, by omega, rfl, fun H3 a3 => a3.pre s2⟩) fun d H1 a1 => ?_
        have l1 : (ws ++ pushW ws.length m c r.w).length = ws.length + (m + 1 + r.w + 2) := by rw [List.length_append, pushW_len hm1]
        have hy1 := a1.ins hw hy rfl
        have ht1 := ht.aft hw hta a1
        refine dss_exprX (dx_meth mpo hr (by decide) (de_var 0 rfl) hy1 rfl (da_cons (de_var 1 rfl) (da_cons (DE.is (d' := iD (1 - c)) (de_sub de_int (de_var 8 rfl)) (by show D.int _ = D.int _; congr 1; omega)) (da_cons (de_var 7 rfl) da_nil))) (P := fun d H2 => Aft K H1 H2 g il pl (ws ++ pushW ws.length m c r.w ++ popW (ws.length + (m + 1 + r.w + 2)) m (1 - c) r.f) ps) pn fun H2 s2 => ⟨y, t, ta, n, m, rs, rs', g, il, pl, _, ps, 1 - c, r.f, hy1.mono s2, ht1.mono s2, hta, hm1, hm2, a1.w.mono s2, by rw [l1]; omega, rfl, fun H3 a3 => by rw [l1] at a3; exact a3.pre s2⟩) fun d H2 a2 => ?_
        have a3 := a1.trans a2
        rw [List.append_assoc] at a3
        exact dss_nil fun H3 s3 => ⟨hΨ H3 (a3.post s3), (a3.post s3).t⟩
end
end K5
namespace K5
open PySem PySem.Spec PyProof.Rows L2
theorem But.cut {A : List Addr} {y : Addr} {H H' : Hp} (b : But A H H') (h : ∀ a ∈ A, a ≠ y → H a = none) : But [y] H H' :=
  ⟨fun a o m i e => b.k a o (fun z => by rw [h a z (fun q => m (by rw [q]; exact List.mem_cons_self))] at e; cases e) i e, b.t, b.n⟩
theorem But.back {A : List Addr} {H H' : Hp} (b : But A H H') {p : Addr} (h : H' p = none) : H p = none := by
  cases q : H p with
  | none => rfl
  | some o => exact absurd h (b.n p (by rw [q]; simp))
/-- the marks: state, symbol, place -/
def mksE (ms : List (Nat × Nat × Nat)) : Mks := ms.map fun q => (lbK (.two q.1 q.2.1), iD q.2.2)
def prsE (ms : List (Nat × Nat × Nat)) : List (L2.Key × D) := ms.map fun q => (Sum.inl (q.2.2 : Int), .tup [iD q.1, iD q.2.1])
def pairStep (rs : List Rl) (m s a : Nat) (st : List WOp × Mks) : List WOp × Mks := (st.1 ++ pairW rs st.1.length m s a, putE st.2 (lbK (.two s a)) (iD st.1.length))
def rowW (rs : List Rl) (m s : Nat) : Nat → List WOp × Mks → List WOp × Mks
  | 0, st => st
  | a + 1, st => pairStep rs m s a (rowW rs m s a st)
def allW (rs : List Rl) (m : Nat) : Nat → List WOp × Mks
  | 0 => ([], [])
  | s + 1 => rowW rs m s m (allW rs m s)
structure T2Mid (K : PySem.W.Frag) (H : Hp) (y t ta n m : Nat) (rs rs' : List Rl) (g il pl : Addr) (ws : List WOp) (gs : List (Str × D)) : Prop where
  y : Ins H y (He.ga K "TuringToRegisters") gs
  g : Ins H g (He.ga K "Writer") [("instructions", .ref il), ("places", .ref pl)]
  l : LstAt H il (wDs ws)
  t : TurX K H t ta n m rs rs'
theorem LstAt.butL {H H' : Hp} {a : Addr} {ds : List D} (h : LstAt H a ds) (t : SameL H H') : LstAt H' a ds := by
  obtain ⟨xs, e, r⟩ := h
  exact ⟨xs, t.l a xs e, DatL.monoL t ds xs r⟩
theorem T2Mid.but {K : PySem.W.Frag} {H H' : Hp} {y t ta n m : Nat} {rs rs' : List Rl} {g il pl p : Addr} {ws : List WOp} {gs : List (Str × D)} (h : T2Mid K H y t ta n m rs rs' g il pl ws gs) (b : But [p] H H') (l : SameL H H') (h1 : y ≠ p) (h2 : g ≠ p) (h3 : t ≠ p) (h4 : ta ≠ p) : T2Mid K H' y t ta n m rs rs' g il pl ws gs :=
  ⟨h.y.butL b (by simpa using h1) l, h.g.butL b (by simpa using h2) l, h.l.butL l, h.t.i.butL b (by simpa using h3) l, h.t.d.but b (by simpa using h4) (noLk_tabE rs) l.t, h.t.p⟩
theorem T2Mid.mono {K : PySem.W.Frag} {H H' : Hp} {y t ta n m : Nat} {rs rs' : List Rl} {g il pl : Addr} {ws : List WOp} {gs : List (Str × D)} (h : T2Mid K H y t ta n m rs rs' g il pl ws gs) (s : Sx H H') : T2Mid K H' y t ta n m rs rs' g il pl ws gs := ⟨h.y.mono s, h.g.mono s, h.l.mono s, h.t.mono s⟩
theorem ins_len {H : Hp} {a C C' : Addr} {gs gs' : List (Str × D)} (h : Ins H a C gs) (h' : Ins H a C' gs') : gs.length = gs'.length := by
  obtain ⟨_, _, e, q⟩ := h
  obtain ⟨_, _, e2, q2⟩ := h'
  rw [e] at e2
  injection e2 with e2
  injection e2 with _ _ e3
  rw [← q.length, ← q2.length, e3]
theorem ins_ne_dic {H : Hp} {a p C : Addr} {gs : List (Str × D)} {es : Mks} (h : Ins H a C gs) (d : DicW H p es) : a ≠ p := by
  rintro rfl
  obtain ⟨_, _, e, _⟩ := h
  obtain ⟨_, e2, _⟩ := d
  rw [e2] at e
  cases e
theorem DicW.butN {H H' : Hp} {A : List Addr} {a : Addr} {es : Mks} (h : DicW H a es) (s : But A H H') (hA : a ∉ A) (l : SameL H H') : DicW H' a es := let ⟨k, e, q⟩ := h; ⟨k, s.k _ _ hA rfl e, q.monoL l⟩
theorem DicK.butN {H H' : Hp} {A : List Addr} {a : Addr} {es : List (L2.Key × D)} (h : DicK H a es) (s : But A H H') (hA : a ∉ A) (l : SameL H H') : DicK H' a es := let ⟨k, e, q⟩ := h; ⟨k, s.k _ _ hA rfl e, q.monoL l⟩
/-- the translation of a Turing machine to registers, at y -/
structure T2At (K : PySem.W.Frag) (H : Hp) (y t ta pl pr g n m : Nat) (rs rs' : List Rl) (ms : List (Nat × Nat × Nat)) (prog : List Op) : Prop where
  y : Ins H y (He.ga K "TuringToRegisters") [("source", .ref t), ("places", .ref pl), ("pairs", .ref pr), ("target", .ref g)]
  t : TurX K H t ta n m rs rs'
  pl : DicW H pl (mksE ms)
  pr : DicK H pr (prsE ms)
  g : RegAt K H g 3 prog
theorem T2At.mono {K : PySem.W.Frag} {H H' : Hp} {y t ta pl pr g n m : Nat} {rs rs' : List Rl} {ms : List (Nat × Nat × Nat)} {prog : List Op} (h : T2At K H y t ta pl pr g n m rs rs' ms prog) (s : Sx H H') : T2At K H' y t ta pl pr g n m rs rs' ms prog := ⟨h.y.mono s, h.t.mono s, h.pl.mono s, h.pr.mono s, h.g.mono s⟩
/-- what the machine must be -/
structure T2Ok (n m : Nat) (rs : List Rl) (ms : List (Nat × Nat × Nat)) (r : Lb → Nat) : Prop where
  ok : ∀ r ∈ rs, RlOk n m r
  m1 : 1 ≤ m
  m8 : m ≤ 8
  n100 : n ≤ 100
  bd : ∀ s, s < n → ∀ a, a < m → (rowW rs m s a (allW rs m s)).1.length < 70000 ∧ (rowW rs m s a (allW rs m s)).2.length < 80000
  mks : (allW rs m n).2 = mksE ms
  vl : ∀ q ∈ ms, valD (mksE ms) (lbK (.two q.1 q.2.1)) = some (iD q.2.2)
  pt : ∀ i q, ms[i]? = some q → putE (prsE (ms.take i)) (Sum.inl (q.2.2 : Int)) (.tup [iD q.1, iD q.2.1]) = prsE (ms.take (i + 1))
  ml : ms.length < 90000
  rsv : ∀ o ∈ (allW rs m n).1, ∀ l ∈ lbs o, resD (mksE ms) l = iD (r l)
  op : ∀ o ∈ (allW rs m n).1, OpOk 3 (allW rs m n).1.length (rop r o)
  l1 : 1 ≤ (allW rs m n).1.length
  l2 : (allW rs m n).1.length < 90000
section
variable {P : Program} {w : World} {K : PySem.W.Frag} {mg : Str → Option Value} {base : Heap} (T : Tx K mg)
include T
def S_T2_init (K : PySem.W.Frag) : Hp → Addr → List D → (Hp → Prop) → Prop := fun H y ds Ψ => ∃ t ta n m rs rs' ms r, TurX K H t ta n m rs rs' ∧ T2Ok n m rs ms r ∧ GxR.TabG H (He.cT K qReg).2 ∧ ds = [.ref t] ∧ ∀ H' pl pr g, T2At K H' y t ta pl pr g n m rs rs' ms ((allW rs m n).1.map (rop r)) → Ψ H'
theorem mk_T2R (TB : GxR.TabB base mg (He.codeOf K qReg) (He.cT K qReg).2) : Mak P w K mg base 5 "TuringToRegisters" (He.ga K "TuringToRegisters") (spI (He.ga K "TuringToRegisters") (S_T2_init K)) [] := by
  have mw := mk_Writer (P := P) (w := w) (base := base) T
  have mm := mt_Wr_mark (P := P) (w := w) (base := base) T
  have mp := mt_pair (P := P) (w := w) (base := base) T
  have mg' := mt_Wr_prog (P := P) (w := w) (base := base) T TB
  refine makI T.k_TuringToRegisters T.g_TuringToRegisters (fn_TuringToRegisters_init T) sc_TuringToRegisters_init (by decide) (fun H y ds Ψ h => by obtain ⟨t, ta, n, m, rs, rs', ms, r, _, _, _, rfl, _⟩ := h; rfl) fun cdv A outer s H E hr y ds Ψ hy hS => ?_
  obtain ⟨t, ta, n, m, rs, rs', ms, r, ht, ok, tg, rfl, hΨ⟩ := hS
  have nd := sc_TuringToRegisters_init.nd
  have hm1 := ok.m1
  have hm8 := ok.m8
  have hn := ok.n100
  have hyt : t ≠ y := by
    rintro rfl
    have := ins_len hy ht.i
    simp at this
  refine dss_skip (DW.t (dw_or (k1 := false) (k2 := false) (DT.is (dt_not (k := true) (dt_val (de_isiO (de_var 1 rfl) ht.i T.is_Turing T.g_Turing T.is_Turing.me T.f_isinstance))) rfl) fun _ => dw_or (k1 := false) (k2 := false) (DT.is (dt_gt (m := (n : Int)) (de_fld (de_var 1 rfl) ht.i T.c_Turing T.n_Turing_states rfl) (de_gint T.i_MOST_STATES_tapenumbers)) (by simp; omega)) fun _ => dw_or1 (DT.is (dt_gt (m := (m : Int)) (de_fld (de_var 1 rfl) ht.i T.c_Turing T.n_Turing_symbols rfl) (de_gint T.i_MOST_SYMBOLS_tapenumbers)) (by simp; omega)))) ?_
  refine dss_fld (de_var 0 rfl) (de_var 1 rfl) hy T.c_TuringToRegisters T.n_TuringToRegisters_source (by decide) fun H1 b1 l1 i1 => ?_
  have hta : ta ≠ y := fun z => ins_ne_dic hy ht.d z.symm
  have ht1 : TurX K H1 t ta n m rs rs' := ⟨ht.i.butL b1 (by simpa using hyt) l1, ht.d.but b1 (by simpa using hta) (noLk_tabE rs) l1.t, ht.p⟩
  refine dss_asgN 2 nd (dn_make0 mw hr (by decide) (Pm := fun g H' => ∃ il pl, H1 il = none ∧ H1 pl = none ∧ WrAt K H' g il pl [] []) fun H2 g s2 hg i2 => ⟨rfl, fun H' il pl q1 q2 q3 => ⟨il, pl, s2.free q1, s2.free q2, q3⟩⟩) ?_
  rintro d H2 s2 ⟨g, rfl, hg, il, pl, hil, hpl, hw⟩
  have hy2 : T2S K H2 y t := i1.mono s2
  have ht2 := ht1.mono s2
  have htp : ta ≠ pl := by
    rintro rfl
    exact ht1.d.ne hpl
  have hyg : y ≠ g := by
    rintro rfl
    exact i1.ne hg
  refine dss_forR (fun H0 i ρ' H' => Aft K H2 H' g il pl (allW rs m i).1 (allW rs m i).2 ∧ ρ' = [some (.ref y), some (.ref t), some (.ref g), none, none, none]) (DE.is (d' := .int (n : Int)) (de_fld (de_var 1 rfl) ht2.i T.c_Turing T.n_Turing_states rfl) rfl) (by omega) ?_ ?_ ?_ T.f_range
  · exact fun H3 s3 => ⟨_, Wk.refl _, hw.aft.post s3, rfl⟩
  · rintro H0 s0 i ρ' H' hi ⟨a1, rfl⟩
    refine ⟨_, dg_name 3 nd, ?_⟩
    have hin : i < n := by omega
    have tA : ∀ {Hx : Hp} {wx : List WOp} {px : Mks}, Aft K H2 Hx g il pl wx px → TurX K Hx t ta n m rs rs' := fun a => ht2.aft hw htp a
    refine dss_forR (fun H0 j ρ' H4 => Aft K H2 H4 g il pl (rowW rs m i j (allW rs m i)).1 (rowW rs m i j (allW rs m i)).2 ∧ ρ' = [some (.ref y), some (.ref t), some (.ref g), some (iD i), none, none]) (DE.is (d' := .int (m : Int)) (de_fld (de_var 1 rfl) (tA a1).i T.c_Turing T.n_Turing_symbols rfl) rfl) (by omega) ?_ ?_ ?_ T.f_range
    · exact fun H3 s3 => ⟨_, .same (.same (.same (.same (.drop (.same .nil))))), a1.post s3, rfl⟩
    · rintro H5 s5 j ρ' H6 hj ⟨a2, rfl⟩
      have hjm : j < m := by omega
      obtain ⟨bb1, bb2⟩ := ok.bd i hin j hjm
      refine ⟨_, dg_name 4 nd, ?_⟩
      have pn : Plain [some (.ref y), some (.ref t), some (.ref g), some (iD i), some (iD j), none] := .cons rfl (.cons rfl (.cons rfl (.cons rfl (.cons rfl (.skip .nil)))))
      generalize hst : rowW rs m i j (allW rs m i) = st at a2 bb1 bb2
      have est : rowW rs m i (j + 1) (allW rs m i) = pairStep rs m i j st := by rw [← hst]; rfl
      refine dss_exprX (dx_meth mm hr (by decide) (de_var 2 rfl) a2.w.i rfl (da_cons (d := .tup ((lbK (.two i j)).map kD)) (de_tp (da_cons de_str (da_cons (de_var 3 rfl) (da_cons (de_var 4 rfl) da_nil))) (by show 3 ≤ 100000; omega)) da_nil) (P := fun d H7 => Aft K H6 H7 g il pl st.1 (putE st.2 (lbK (.two i j)) (iD st.1.length))) pn fun H7 s7 => ⟨g, il, pl, _, _, lbK (.two i j), a2.w.mono s7, by omega, rfl, fun H3 a3 => a3.pre s7⟩) fun d H7 a3 => ?_
      have a4 := a2.trans a3
      refine dss_exprX (dx_meth mp hr (by decide) (de_var 0 rfl) (a4.ins hw hy2 rfl) rfl (da_cons (de_var 2 rfl) (da_cons (de_var 3 rfl) (da_cons (de_var 4 rfl) da_nil))) (P := fun d H8 => Aft K H7 H8 g il pl (st.1 ++ pairW rs st.1.length m i j) (putE st.2 (lbK (.two i j)) (iD st.1.length))) pn fun H8 s8 => ⟨y, t, ta, n, m, rs, rs', g, il, pl, _, _, i, j, (a4.ins hw hy2 rfl).mono s8, (tA a4).mono s8, htp, ok.ok, hm1, by omega, a4.w.mono s8, by omega, rfl, fun H3 a3 => a3.pre s8⟩) fun d H8 a5 => ?_
      exact dss_nil fun H9 s9 => ⟨_, .same (.same (.same (.same (.drop (.same .nil))))), by rw [est]; exact (a4.trans a5).post s9, rfl⟩
    · rintro H5 s5 ρ' H6 ⟨a2, rfl⟩
      rw [show ((m : Int)).toNat = m from Int.toNat_natCast m] at a2
      exact dss_nil fun H9 s9 => ⟨_, .same (.same (.same (.drop (.same (.same .nil))))), a2.post s9, rfl⟩
  · rintro H0 s0 ρ' H3 ⟨a1, rfl⟩
    rw [show ((n : Int)).toNat = n from Int.toNat_natCast n] at a1
    have hy3 := a1.ins hw hy2 rfl
    have ht3 := ht2.aft hw htp a1
    have ll2 := ok.l2
    generalize hW : (allW rs m n).1 = ws at a1 ll2
    rw [ok.mks] at a1
    have yp := ins_ne_dic hy3 a1.w.d
    have gp := ins_ne_dic a1.w.i a1.w.d
    have tp := ins_ne_dic ht3.i a1.w.d
    refine dss_fld (de_var 0 rfl) (de_fld (de_var 2 rfl) a1.w.i T.c_Writer T.n_Writer_places rfl) hy3 T.c_TuringToRegisters T.n_TuringToRegisters_places (by show 1 < 1000; omega) fun H4 b4 l4 i4 => ?_
    have md4 : T2Mid K H4 y t ta n m rs rs' g il pl ws [("source", .ref t), ("places", .ref pl)] := ⟨i4, a1.w.i.butL b4 (by simpa using hyg.symm) l4, a1.w.l.butL l4, ht3.i.butL b4 (by simpa using hyt) l4, ht3.d.but b4 (by simpa using hta) (noLk_tabE rs) l4.t, ht3.p⟩
    have dp4 := a1.w.d.butN b4 (by simpa using yp.symm) l4
    refine dss_fldX y dx_newK T.c_TuringToRegisters T.n_TuringToRegisters_pairs ?_
    rintro d H5 ⟨pr, rfl, hpr, dr, s5⟩
    have md5 := md4.mono s5
    have pry : pr ≠ y := by rintro rfl; exact md4.y.ne hpr
    have prg : pr ≠ g := by rintro rfl; exact md4.g.ne hpr
    have prt : pr ≠ t := by rintro rfl; exact md4.t.i.ne hpr
    have prta : pr ≠ ta := by rintro rfl; exact md4.t.d.ne hpr
    have prp : pr ≠ pl := by rintro rfl; exact dp4.ne hpr
    refine ⟨de_var 0 rfl, _, md5.y, by show 2 < 1000; omega, fun H6 b6 l6 i6 => ?_⟩
    have md6 : T2Mid K H6 y t ta n m rs rs' g il pl ws [("source", .ref t), ("places", .ref pl), ("pairs", .ref pr)] := ⟨i6, md5.g.butL b6 (by simpa using hyg.symm) l6, md5.l.butL l6, md5.t.i.butL b6 (by simpa using hyt) l6, md5.t.d.but b6 (by simpa using hta) (noLk_tabE rs) l6.t, md5.t.p⟩
    have dp6 := (dp4.mono s5).butN b6 (by simpa using yp.symm) l6
    have dr6 := dr.butN b6 (by simpa using pry) l6
    have mlen : (mksE ms).length = ms.length := List.length_map ..
    refine dss_forDT (p := pl) (dt := mksE ms) (fun HL i ρ' H' => But [pr] HL H' ∧ SameL HL H' ∧ DicK H' pr (prsE (ms.take i)) ∧ ρ' = [some (.ref y), some (.ref t), some (.ref g), none, none, none]) dp6 ?_ ?_ ?_ ?_ ?_
    · exact fun HL bL sL dL => de_fld (de_var 2 rfl) (md6.g.butL bL (by simpa using gp) sL) T.c_Writer T.n_Writer_places rfl
    · exact fun HL bL sL dL => ⟨_, Wk.refl _, But.refl _, SameL.refl _, dr6.butN bL (by simpa using prp) sL, rfl⟩
    · exact fun HL i ρ' H' dL q => ⟨q.2.1, fun o io e => q.1.k pl o (by simpa using prp.symm) io e⟩
    · rintro HL bL sL dL i q ρ' H' hq ⟨b7, l7, d7, rfl⟩
      obtain ⟨q0, hq0, rfl⟩ : ∃ q0, ms[i]? = some q0 ∧ q = (lbK (.two q0.1 q0.2.1), iD q0.2.2) := by
        unfold mksE at hq
        rw [List.getElem?_map] at hq
        cases z : ms[i]? with
        | none => rw [z] at hq; cases hq
        | some q0 => rw [z] at hq; exact ⟨q0, rfl, (Option.some.inj hq).symm⟩
      obtain ⟨u, v, x⟩ := q0
      have mL := md6.but bL sL yp gp tp htp
      have m7 := mL.but b7 l7 pry.symm prg.symm prt.symm prta.symm
      have dT7 : DicT H' pl (mksE ms) := by
        obtain ⟨kvs, rd, kd⟩ := dL
        refine ⟨kvs, ?_, kd.monoL l7⟩
        rcases rd with e | ⟨od, e⟩
        · exact .inl (b7.k pl _ (by simpa using prp.symm) rfl e)
        · exact .inr ⟨od, b7.k pl _ (by simpa using prp.symm) rfl e⟩
      refine ⟨_, dg_name 5 nd, ?_⟩
      refine dss_ifT (N1 := fun ρ1 H1 => (But [pr] HL H1 ∧ SameL HL H1 ∧ DicK H1 pr (prsE (ms.take (i + 1)))) ∧ ρ1 = [some (.ref y), some (.ref t), some (.ref g), none, none, some (keyD (lbK (.two u v), iD x))]) (DT.is (dt_eqS (x := "at") (de_ixT (t := 0) (ds := [.str "at", iD u, iD v]) (de_var 5 rfl) de_int rfl rfl) de_str) (decide_eq_true rfl)) ?_ ?_
      · refine dss_dputK (key := Sum.inl (x : Int)) (d := .tup [iD u, iD v]) hr (DE.is (de_sliceT (ds := [.str "at", iD u, iD v]) (de_var 5 rfl) (do_so de_int) do_no) (congrArg D.tup (cut_from _ 1))) (de_fld (de_var 0 rfl) m7.y T.c_TuringToRegisters T.n_TuringToRegisters_pairs rfl) (de_dgetT (key := lbK (.two u v)) hr (de_fld (de_var 2 rfl) m7.g T.c_Writer T.n_Writer_places rfl) (de_var 5 rfl) dT7 (ok.vl _ (List.mem_of_getElem? hq0))) d7 (by have := ok.ml; unfold prsE; rw [List.length_map, List.length_take]; omega) fun H8 b8 l8 d8 => ?_
        rw [ok.pt i _ hq0] at d8
        exact dss_nil fun H9 s9 => ⟨⟨(b7.trans b8).sx s9, (l7.trans l8).trans s9.l, d8.mono s9⟩, rfl⟩
      · rintro ρ1 H1 ⟨⟨q1, q2, q3⟩, rfl⟩
        exact dss_nil fun H9 s9 => ⟨_, .same (.same (.same (.same (.same (.drop .nil))))), q1.sx s9, q2.trans s9.l, q3.mono s9, rfl⟩
    · rintro HL bL sL dL ρ' H' H7 ⟨b7, l7, d7, rfl⟩ b8 l8 dp8
      rw [mlen, List.take_length] at d7
      have mL := md6.but bL sL yp gp tp htp
      have m7 := (mL.but b7 l7 pry.symm prg.symm prt.symm prta.symm).but b8 l8 yp gp tp htp
      have dr8 := d7.butN b8 (by simpa using prp) l8
      have hw8 : WrAt K H7 g il pl ws (mksE ms) := ⟨m7.g, m7.l, dp8, by rw [← ok.mks] at *; exact a1.w.n⟩
      have bAll : But [y, il, pl, pr] H H7 := by
        refine (b1.sub ?_).trans (s2.but.trans ((a1.b.sub ?_).trans ((b4.sub ?_).trans (s5.but.trans ((b6.sub ?_).trans ((bL.sub ?_).trans ((b7.sub ?_).trans (b8.sub ?_))))))))
        all_goals
          intro a ha
          simp at ha ⊢
          first | exact .inl ha | exact .inr (.inl ha) | exact .inr (.inr (.inl ha)) | exact .inr (.inr (.inr ha)) | (rcases ha with ha | ha <;> simp [ha])
      have hprH : H pr = none := b1.back (s2.free (a1.b.back (b4.back hpr)))
      refine dss_fldX y (dn_meth mg' hr (by decide) (de_var 2 rfl) hw8.i rfl (da_cons (d := iD 3) de_int da_nil) (P := fun d H' => ∃ q, d = .ref q ∧ RegAt K H' q 3 (ws.map (rop r))) fun H8 s8 => ⟨g, il, pl, ws, mksE ms, 3, r, hw8.mono s8, by omega, by omega, by rw [← hW]; exact ok.l1, by rw [← hW]; exact ok.l2, by rw [← hW]; exact ok.rsv, by rw [← hW]; exact ok.op, s8.t _ (bAll.t _ tg), rfl, fun q H' hq sq rq => ⟨q, rfl, rq⟩⟩).dx T.c_TuringToRegisters T.n_TuringToRegisters_target ?_
      rintro d H8 ⟨⟨q, rfl, rq⟩, s8⟩
      refine ⟨de_var 0 rfl, _, m7.y.mono s8, by show 3 < 1000; omega, fun H9 b9 l9 i9 => ?_⟩
      have qy : q ≠ y := by
        rintro rfl
        have := ins_len rq (m7.y.mono s8)
        simp at this
      refine dss_nil fun H10 s10 => ⟨?_, ?_⟩
      · refine hΨ H10 pl pr q ?_
        rw [hW]
        refine T2At.mono ⟨i9, ⟨(m7.t.mono s8).i.butL b9 (by simpa using hyt) l9, (m7.t.mono s8).d.but b9 (by simpa using hta) (noLk_tabE rs) l9.t, m7.t.p⟩, (dp8.mono s8).butN b9 (by simpa using yp.symm) l9, (dr8.mono s8).butN b9 (by simpa using pry) l9, Ins.butL rq b9 (by simpa using qy) l9⟩ s10
      · refine (bAll.cut ?_).trans ((s8.thenBut b9).sx s10)
        intro a ha hay
        rcases List.mem_cons.mp ha with h | h
        · exact absurd h hay
        · rcases List.mem_cons.mp h with h | h
          · rw [h]; exact b1.back hil
          · rcases List.mem_cons.mp h with h | h
            · rw [h]; exact b1.back hpl
            · rw [show a = pr by simpa using h]; exact hprH
end
end K5
namespace K5
open PySem PySem.Spec PyProof.Rows L2
structure T2I where
  y : Nat
  t : Nat
  ta : Nat
  pl : Nat
  pr : Nat
  g : Nat
  n : Nat
  m : Nat
  rs : List Rl
  rs' : List Rl
  ms : List (Nat × Nat × Nat)
  prog : List Op
abbrev T2H (K : PySem.W.Frag) (H : Hp) (I : T2I) : Prop := T2At K H I.y I.t I.ta I.pl I.pr I.g I.n I.m I.rs I.rs' I.ms I.prog
def cost1 (m : Nat) (r : Rl) (l rr : Nat) : Nat := if r.m = 0 then 2 else
  (if r.m = -1 then rr else l) * (m + 1) + 1 + r.w + 2 * ((if r.m = -1 then rr else l) * m + r.w) + 1 + (if r.m = -1 then l else rr) / m * (m + 1) + (if r.m = -1 then l else rr) % m + 1 + 2 * ((if r.m = -1 then l else rr) / m) + 1
section
variable {P : Program} {w : World} {K : PySem.W.Frag} {mg : Str → Option Value} {base : Heap} (T : Tx K mg)
include T
def S_T2_pic (K : PySem.W.Frag) : Hp → List D → D → Prop := fun H ds d => ∃ I c x, T2H K H I ∧ I.m < 100 ∧ valD (mksE I.ms) (lbK (.two c.s c.a)) = some (iD x) ∧ ds = [.ref I.y, cfD c] ∧ d = vcD (x, [numOf I.m c.l, numOf I.m c.r, 0])
theorem mt_T2_pic : Met P w K mg base 2 (He.ga K "TuringToRegisters") "picture" (spF (S_T2_pic K)) := by
  have mn := ok_number_of (P := P) (w := w) (base := base) T
  refine metF T.c_TuringToRegisters T.m_TuringToRegisters_picture (fn_TuringToRegisters_picture T) sc_TuringToRegisters_picture (by decide) (fun H ds d h => by obtain ⟨I, c, x, _, _, _, rfl, _⟩ := h; rfl) fun cdv A outer s H E hr ds d hS => ?_
  obtain ⟨I, c, x, h, hm, hv, rfl, rfl⟩ := hS
  have nd := sc_TuringToRegisters_picture.nd
  refine dss_unp (de_var 1 rfl) (dg_tup (dgs_cons (dg_name 2 nd) (dgs_cons (dg_name 3 nd) (dgs_cons (dg_name 4 nd) (dgs_cons (dg_name 5 nd) dgs_nil))))) ?_
  refine dss_asg 6 nd (d := iD I.m) (de_fld (de_fld (de_var 0 rfl) h.y T.c_TuringToRegisters T.n_TuringToRegisters_source rfl) h.t.i T.c_Turing T.n_Turing_symbols rfl) ?_
  refine dss_ret (d := vcD (x, [numOf I.m c.l, numOf I.m c.r, 0])) (de_tp (da_cons (de_dgetT (key := lbK (.two c.s c.a)) hr (de_fld (de_var 0 rfl) h.y T.c_TuringToRegisters T.n_TuringToRegisters_places rfl) (de_tp (da_cons de_str (da_cons (de_var 2 rfl) (da_cons (de_var 4 rfl) da_nil))) (by show 3 ≤ 100000; omega)) h.pl.r hv) (da_cons (de_tp (da_cons (d := iD (numOf I.m c.l)) (de_call mn hr (by decide) (da_cons (de_var 3 rfl) (da_cons (de_var 6 rfl) da_nil)) fun H2 s2 => ⟨c.l, I.m, hm, rfl, rfl⟩) (da_cons (d := iD (numOf I.m c.r)) (de_call mn hr (by decide) (da_cons (de_var 5 rfl) (da_cons (de_var 6 rfl) da_nil)) fun H2 s2 => ⟨c.r, I.m, hm, rfl, rfl⟩) (da_cons de_int da_nil)))) da_nil))) fun H2 s2 => ⟨rfl, s2⟩
def S_T2_back (K : PySem.W.Frag) : Hp → List D → D → Prop := fun H ds d => ∃ (I : T2I) (s a x l r z : Nat), T2H K H I ∧ 2 ≤ I.m ∧ I.m < 100 ∧ l < 2 ^ 60 ∧ r < 2 ^ 60 ∧ valD (prsE I.ms) (Sum.inl (x : Int)) = some (.tup [iD s, iD a]) ∧ ds = [.ref I.y, vcD (x, [l, r, z])] ∧ d = cfD ⟨s, digs I.m l, a, digs I.m r⟩
theorem mt_T2_back : Met P w K mg base 2 (He.ga K "TuringToRegisters") "read_back" (spF (S_T2_back K)) := by
  have mn := ok_symbols_of (P := P) (w := w) (base := base) T
  refine metF T.c_TuringToRegisters T.m_TuringToRegisters_read_back (fn_TuringToRegisters_read_back T) sc_TuringToRegisters_read_back (by decide) (fun H ds d h => by obtain ⟨I, c, x, _, _, _, _, _, _, _, _, _, _, rfl, _⟩ := h; rfl) fun cdv A outer s H E hr ds d hS => ?_
  obtain ⟨I, st, a, x, l, r, z, h, hm2, hm, hl, hrr, hv, rfl, rfl⟩ := hS
  have nd := sc_TuringToRegisters_read_back.nd
  refine dss_unp (de_var 1 rfl) (dg_tup (dgs_cons (dg_name 2 nd) (dgs_cons (dg_name 3 nd) dgs_nil))) ?_
  refine dss_unp (d := .tup [iD st, iD a]) (de_dgetK (key := Sum.inl (x : Int)) hr (de_fld (de_var 0 rfl) h.y T.c_TuringToRegisters T.n_TuringToRegisters_pairs rfl) (de_var 2 rfl) h.pr hv) (dg_tup (dgs_cons (dg_name 4 nd) (dgs_cons (dg_name 5 nd) dgs_nil))) ?_
  refine dss_asg 6 nd (d := iD I.m) (de_fld (de_fld (de_var 0 rfl) h.y T.c_TuringToRegisters T.n_TuringToRegisters_source rfl) h.t.i T.c_Turing T.n_Turing_symbols rfl) ?_
  refine dss_ret (d := cfD ⟨st, digs I.m l, a, digs I.m r⟩) (de_tp (da_cons (de_var 4 rfl) (da_cons (d := .tup (iDs (digs I.m l))) (de_call mn hr (by decide) (da_cons (d := iD l) (de_ixT (t := 0) (de_var 3 rfl) (de_gint T.i_LEFT_tapenumbers) rfl rfl) (da_cons (de_var 6 rfl) da_nil)) fun H2 s2 => ⟨l, I.m, hm2, hm, hl, rfl, rfl⟩) (da_cons (de_var 5 rfl) (da_cons (d := .tup (iDs (digs I.m r))) (de_call mn hr (by decide) (da_cons (d := iD r) (de_ixT (t := 1) (de_var 3 rfl) (de_gint T.i_RIGHT_tapenumbers) rfl rfl) (da_cons (de_var 6 rfl) da_nil)) fun H2 s2 => ⟨r, I.m, hm2, hm, hrr, rfl, rfl⟩) da_nil))))) fun H2 s2 => ⟨rfl, s2⟩
def S_T2_cost (K : PySem.W.Frag) : Hp → List D → D → Prop := fun H ds d => ∃ I c r, T2H K H I ∧ 2 ≤ I.m ∧ I.m < 100 ∧ numOf I.m c.l < 2 ^ 60 ∧ numOf I.m c.r < 2 ^ 60 ∧ look I.rs c.s c.a = some r ∧ r.w < 2 ^ 60 ∧ ds = [.ref I.y, cfD c] ∧ d = iD (cost1 I.m r (numOf I.m c.l) (numOf I.m c.r))
theorem mt_T2_cost : Met P w K mg base 2 (He.ga K "TuringToRegisters") "cost" (spF (S_T2_cost K)) := by
  have mn := ok_number_of (P := P) (w := w) (base := base) T
  have mr := mt_rule (P := P) (w := w) (base := base) T
  refine metF T.c_TuringToRegisters T.m_TuringToRegisters_cost (fn_TuringToRegisters_cost T) sc_TuringToRegisters_cost (by decide) (fun H ds d h => by obtain ⟨I, c, r, _, _, _, _, _, _, _, rfl, _⟩ := h; rfl) fun cdv A outer s H E hr ds d hS => ?_
  obtain ⟨I, c, r, h, hm2, hm, hl, hrr, hlk, hw, rfl, rfl⟩ := hS
  have nd := sc_TuringToRegisters_cost.nd
  refine dss_unp (de_var 1 rfl) (dg_tup (dgs_cons (dg_name 2 nd) (dgs_cons (dg_name 3 nd) (dgs_cons (dg_name 4 nd) (dgs_cons (dg_name 5 nd) dgs_nil))))) ?_
  refine dss_unp (d := rlV r) (de_meth mr hr (by decide) (de_fld (de_var 0 rfl) h.y T.c_TuringToRegisters T.n_TuringToRegisters_source rfl) h.t.i rfl (da_cons (de_var 2 rfl) (da_cons (de_var 4 rfl) da_nil)) fun H2 s2 => ⟨I.t, I.n, I.m, I.rs, c.s, c.a, (h.t.mono s2).at_, rfl, by rw [hlk]; rfl⟩) (dg_tup (dgs_cons (dg_name 6 nd) (dgs_cons (dg_name 7 nd) (dgs_cons (dg_name 8 nd) dgs_nil)))) ?_
  refine dss_guard (kb := decide (r.m = 0)) (dt_eq (de_var 7 rfl) de_int) (fun hk => ?_) (fun hk => ?_)
  · refine dss_ret (d := iD 2) de_int fun H2 s2 => ⟨?_, s2⟩
    unfold cost1
    rw [if_pos (of_decide_eq_true hk)]
  · have h0 := of_decide_eq_false hk
    refine dss_asg 9 nd (d := iD I.m) (de_fld (de_fld (de_var 0 rfl) h.y T.c_TuringToRegisters T.n_TuringToRegisters_source rfl) h.t.i T.c_Turing T.n_Turing_symbols rfl) ?_
    refine dss_asg 10 nd (d := iD (numOf I.m c.l)) (de_call mn hr (by decide) (da_cons (de_var 3 rfl) (da_cons (de_var 9 rfl) da_nil)) fun H2 s2 => ⟨c.l, I.m, hm, rfl, rfl⟩) ?_
    refine dss_asg 11 nd (d := iD (numOf I.m c.r)) (de_call mn hr (by decide) (da_cons (de_var 5 rfl) (da_cons (de_var 9 rfl) da_nil)) fun H2 s2 => ⟨c.r, I.m, hm, rfl, rfl⟩) ?_
    generalize hL : numOf I.m c.l = L at hl
    generalize hR : numOf I.m c.r = R at hrr
    unfold cost1
    rw [if_neg h0]
    generalize hb : (if r.m = -1 then R else L) = b
    generalize ha : (if r.m = -1 then L else R) = a
    have hb2 : b < 2 ^ 60 := by rw [← hb]; split <;> assumption
    have ha2 : a < 2 ^ 60 := by rw [← ha]; split <;> assumption
    refine dss_if (fun ρ1 H1 => Sx H H1 ∧ ρ1 = [some (.ref I.y), some (cfD c), some (iD c.s), some (.tup (iDs c.l)), some (iD c.a), some (.tup (iDs c.r)), some (iD r.w), some (.int r.m), some (iD r.f), some (iD I.m), some (iD b), some (iD a), none]) (kb := decide (r.m = -1)) (dt_eq (de_var 7 rfl) (de_neg de_int)) (fun hk => ?_) (fun hk => ?_) ?_
    · have h1 := of_decide_eq_true hk
      rw [if_pos h1] at hb ha
      subst hb ha
      exact dss_par 10 11 nd (da_cons (de_var 11 rfl) (da_cons (de_var 10 rfl) da_nil)) (dss_nil fun H3 s3 => ⟨s3, rfl⟩) (by decide)
    · have h1 := of_decide_eq_false hk
      rw [if_neg h1] at hb ha
      subst hb ha
      exact dss_nil fun H3 s3 => ⟨s3, rfl⟩
    · rintro ρ1 H1 ⟨s1, rfl⟩
      have hmi : (I.m : Int) < 100 := by omega
      have hm0 : (0 : Int) < I.m := by omega
      refine dss_asg 12 nd (DE.is (d' := iD (b * (I.m + 1) + 1 + r.w + 2 * (b * I.m + r.w) + 1)) (de_add (de_add (de_add (de_add (de_mul (de_var 10 rfl) (de_add (de_var 9 rfl) de_int) (.inr ⟨by omega, by omega⟩)) de_int) (de_var 6 rfl)) (de_mul de_int (de_add (de_mul (de_var 10 rfl) (de_var 9 rfl) (.inr ⟨by omega, by omega⟩)) (de_var 6 rfl)) (.inl ⟨by omega, by omega⟩))) de_int) rfl) ?_
      refine dss_ret (DE.is (de_add (de_add (de_add (de_add (de_add (de_var 12 rfl) (de_mul (de_fdiv (de_var 11 rfl) (de_var 9 rfl) ⟨hm0, by omega⟩) (de_add (de_var 9 rfl) de_int) (.inr ⟨by omega, by omega⟩))) (de_mod (de_var 11 rfl) (de_var 9 rfl) hm0)) de_int) (de_mul de_int (de_fdiv (de_var 11 rfl) (de_var 9 rfl) ⟨hm0, by omega⟩) (.inl ⟨by omega, by omega⟩))) de_int) rfl) fun H2 s2 => ⟨rfl, s1.trans s2⟩
def S_zero : Hp → List D → D → Prop := fun H ds d => ∃ a c, ds = [a, c] ∧ d = iD 0
theorem mt_T2_last : Met P w K mg base 1 (He.ga K "TuringToRegisters") "last_steps" (spF S_zero) := by
  refine metF T.c_TuringToRegisters T.m_TuringToRegisters_last_steps (fn_TuringToRegisters_last_steps T) sc_TuringToRegisters_last_steps (by decide) (fun H ds d h => by obtain ⟨a, c, rfl, _⟩ := h; rfl) fun cdv A outer s H E hr ds d hS => ?_
  obtain ⟨a, c, rfl, rfl⟩ := hS
  exact dss_ret de_int fun H2 s2 => ⟨rfl, s2⟩
end
end K5
namespace K5
open PySem PySem.Spec PyProof.Rows L2
def triN : Nat → Nat
  | 0 => 0
  | k + 1 => triN k + k
def divA (n p k : Nat) : List WOp := (List.range k).map fun r => .dec 0 (.n (n + r + 1)) (.n (if r = 0 then n + p + 1 else n + 2 * p + 4 + triN r))
def divC (n p : Nat) : Nat → List WOp
  | 0 => []
  | k + 1 => divC n p k ++ addW (n + 2 * p + 4 + triN (k + 1)) 0 (k + 1) (.n (n + p + 3))
def divW (n p : Nat) (f o : Lb) : List WOp := divA n p p ++ (.inc 1 (.n n) :: (moveW (n + p + 1) 1 1 0 f ++ (moveW (n + p + 3) 1 p 0 o ++ divC n p (p - 1))))
def pOf (c : Nat) : Nat := [2, 3, 5].getD c 0
def instW (n : Nat) : Op → List WOp
  | .fin => [.fin]
  | .inc c f => moveW n 0 (pOf c) 1 (.n (n + 1 + pOf c)) ++ moveW (n + pOf c + 1) 1 1 0 (.one f)
  | .dec c f o => divW n (pOf c) (.one f) (.one o)
theorem divA_len (n p k : Nat) : (divA n p k).length = k := by simp [divA]
theorem divC_len (n p : Nat) : ∀ k, (divC n p k).length = triN (k + 1)
  | 0 => rfl
  | k + 1 => by
    show (divC n p k ++ addW _ 0 (k + 1) _).length = triN (k + 1) + (k + 1)
    rw [List.length_append, divC_len n p k, addW_len (by omega)]
theorem divW_len {n p : Nat} {f o : Lb} (h : 1 ≤ p) : (divW n p f o).length = 2 * p + 4 + triN p := by
  unfold divW
  rw [List.length_append, List.length_cons, List.length_append, List.length_append, divA_len, moveW_len (by omega), moveW_len h, divC_len, show p - 1 + 1 = p by omega]
  omega
theorem triN_le : ∀ k, triN k ≤ k * k
  | 0 => Nat.le_refl _
  | k + 1 => by
    have h := triN_le k
    show triN k + k ≤ (k + 1) * (k + 1)
    rw [Nat.add_mul, Nat.mul_add]
    omega
def dkE (b k : Nat) : List (L2.Key × D) := (List.range k).map fun i => (Sum.inl ((i + 1 : Nat) : Int), iD (b + triN (i + 1)))
theorem noLk_dkE (b : Nat) (k : Nat) : noLk (dkE b k) = true := by
  unfold noLk dkE
  rw [List.all_map, List.all_eq_true]
  intro i _
  rfl
theorem putE_dkE (b k : Nat) : putE (dkE b k) (Sum.inl ((k + 1 : Nat) : Int)) (iD (b + triN (k + 1))) = dkE b (k + 1) := by
  unfold putE
  rw [if_neg]
  · unfold dkE
    rw [List.range_succ, List.map_append]
    rfl
  · intro z
    rw [List.any_eq_true] at z
    obtain ⟨q, hq, e⟩ := z
    unfold dkE at hq
    obtain ⟨i, hi, rfl⟩ := List.mem_map.mp hq
    have h1 := List.mem_range.mp hi
    have h2 := of_decide_eq_true e
    injection h2 with h2
    omega
theorem val_dkE (b r : Nat) : ∀ k, valD (dkE b k) (Sum.inl (r : Int)) = if 1 ≤ r ∧ r ≤ k then some (iD (b + triN r)) else none
  | 0 => by rw [if_neg (by omega)]; rfl
  | k + 1 => by
    have ih := val_dkE b r k
    unfold valD dkE at ih ⊢
    rw [List.range_succ, List.map_append, List.find?_append]
    cases q : ((List.range k).map fun i => ((Sum.inl ((i + 1 : Nat) : Int) : L2.Key), iD (b + triN (i + 1)))).find? fun kv => decide (kv.1 = Sum.inl (r : Int)) with
    | some z =>
      rw [q] at ih
      simp only [Option.map_some] at ih
      by_cases h : 1 ≤ r ∧ r ≤ k
      · rw [if_pos h] at ih
        rw [if_pos (by omega)]
        exact ih
      · rw [if_neg h] at ih
        cases ih
    | none =>
      rw [q] at ih
      simp only [Option.map_none] at ih
      have h : ¬ (1 ≤ r ∧ r ≤ k) := fun h => by rw [if_pos h] at ih; cases ih
      simp only [Option.none_or, List.map_cons, List.map_nil, List.find?_cons, List.find?_nil]
      by_cases hr : r = k + 1
      · subst hr
        rw [if_pos (by omega)]
        simp
      · rw [if_neg (by omega)]
        rw [decide_eq_false (fun z => by injection z with z; omega)]
        rfl
theorem Ins.thaw {H : Hp} {y C : Addr} {f : Str} {ds : List D} {g2 : List (Str × D)} : ∀ {g1 : List (Str × D)}, Ins H y C (g1 ++ (f, .lst ds) :: g2) → ∃ a, Ins H y C (g1 ++ (f, .ref a) :: g2) ∧ LstAt H a ds := by
  intro g1 h
  obtain ⟨dx, fs, e, q⟩ := h
  have : ∀ (g1 : List (Str × D)) (fs : List (Str × V)), FD H fs (g1 ++ (f, .lst ds) :: g2) → ∃ a, FD H fs (g1 ++ (f, .ref a) :: g2) ∧ LstAt H a ds := by
    intro g1
    induction g1 with
    | nil =>
      intro fs q
      cases fs with
      | nil => cases (show _ :: _ = [] from q)
      | cons f0 fs =>
        obtain ⟨d, r, e1, e2, e3⟩ := q
        injection e1 with e1 e4
        injection e1 with e5 e6
        subst e6
        obtain ⟨a, xs, ev, hx, hl⟩ := e2
        exact ⟨a, ⟨.ref a, r, by rw [← e4, e5]; rfl, ev, e3⟩, xs, hx, hl⟩
    | cons g0 g1 ih =>
      intro fs q
      cases fs with
      | nil => cases (show _ :: _ = [] from q)
      | cons f0 fs =>
        obtain ⟨d, r, e1, e2, e3⟩ := q
        injection e1 with e1 e4
        rw [← e4] at e3
        obtain ⟨a, h1, h2⟩ := ih fs e3
        exact ⟨a, ⟨d, _, by rw [e1]; rfl, e2, h1⟩, h2⟩
  obtain ⟨a, h1, h2⟩ := this g1 fs q
  exact ⟨a, ⟨dx, fs, e, h1⟩, h2⟩
section
variable {P : Program} {w : World} {K : PySem.W.Frag} {mg : Str → Option Value} {base : Heap} (T : Tx K mg)
include T
def S_division (K : PySem.W.Frag) : Hp → List D → (D → Hp → Prop) → Prop := fun H ds Ψ => ∃ y g il pl ws ps p f o, WrAt K H g il pl ws ps ∧ 1 ≤ p ∧ p ≤ 100 ∧ ws.length < 60000 ∧ ds = [.ref y, .ref g, iD p, lbD f, lbD o] ∧ ∀ H', Aft K H H' g il pl (ws ++ divW ws.length p f o) ps → Ψ .non H'
theorem mt_division : Met P w K mg base 3 (He.ga K "RegistersToCounters") "write_division" (spX (S_division K)) := by
  have mi := mt_Wr_inc (P := P) (w := w) (base := base) T
  have md := mt_Wr_dec (P := P) (w := w) (base := base) T
  have mm := mt_Wr_move (P := P) (w := w) (base := base) T
  have ma := mt_Wr_add (P := P) (w := w) (base := base) T
  refine metX T.c_RegistersToCounters T.m_RegistersToCounters_write_division (fn_RegistersToCounters_write_division T) sc_RegistersToCounters_write_division (by decide) (fun H ds d h => by obtain ⟨y, g, il, pl, ws, ps, p, f, o, _, _, _, _, rfl, _⟩ := h; rfl) fun cdv A outer s H E hr ds Ψ hS => ?_
  obtain ⟨y, g, il, pl, ws, ps, p, f, o, hw, hp1, hp2, hz, rfl, hΨ⟩ := hS
  have nd := sc_RegistersToCounters_write_division.nd
  have wl : ∀ ws : List WOp, (wDs ws).length = ws.length := fun _ => List.length_map ..
  have tri : ∀ k, k ≤ p → triN k ≤ 10000 := fun k hk => Nat.le_trans (triN_le k) (Nat.le_trans (Nat.mul_le_mul (Nat.le_trans hk hp2) (Nat.le_trans hk hp2)) (by decide))
  generalize hn : ws.length = n at hΨ hz
  refine dss_asg 5 nd (DE.is (d' := iD n) (de_lenA T.f_len (de_fld (de_var 1 rfl) hw.i T.c_Writer T.n_Writer_instructions rfl) hw.l) (by rw [wl, hn])) ?_
  refine dss_asg 6 nd (DE.is (d' := iD (n + p + 1)) (de_add (de_add (de_var 5 rfl) (de_var 2 rfl)) de_int) rfl) ?_
  refine dss_asg 7 nd (DE.is (d' := iD (n + p + 3)) (de_add (de_var 6 rfl) de_int) rfl) ?_
  refine dss_asgX 8 nd dx_newK ?_
  rintro d H1 ⟨q, rfl, hq, dq, s1⟩
  refine dss_asg 9 nd (DE.is (d' := iD (n + 2 * p + 4 + triN 1)) (de_add (de_add (de_var 7 rfl) de_int) (de_var 2 rfl)) (by show D.int _ = D.int _; congr 1; show _ = (((n + 2 * p + 4 + (0 + 0) : Nat)) : Int); omega)) ?_
  refine dss_forR2 (fun H0 i ρ' H' => But [q] H1 H' ∧ SameT H1 H' ∧ DicK H' q (dkE (n + 2 * p + 4) i) ∧ ρ' = [some (.ref y), some (.ref g), some (iD p), some (lbD f), some (lbD o), some (iD n), some (iD (n + p + 1)), some (iD (n + p + 3)), some (.ref q), some (iD (n + 2 * p + 4 + triN (i + 1))), none]) de_int (de_var 2 rfl) (by omega) ?_ ?_ ?_ T.f_range
  · exact fun H2 s2 => ⟨_, Wk.refl _, s2.but, s2.tt, dq.mono s2, rfl⟩
  · rintro H0 s0 i ρ' H' hi ⟨b2, t2, d2, rfl⟩
    refine ⟨_, dg_name 10 nd, ?_⟩
    refine dss_dputK (key := Sum.inl ((i + 1 : Nat) : Int)) (d := iD (n + 2 * p + 4 + triN (i + 1))) hr (de_var 9 rfl) (de_var 8 rfl) (DE.is (de_var 10 rfl) (by show D.int _ = D.int _; congr 1; omega)) d2 (by unfold dkE; simp; omega) fun H3 b3 l3 d3 => ?_
    rw [putE_dkE] at d3
    refine dss_aug 9 nd (n1 := ((n + 2 * p + 4 + triN (i + 1) : Nat) : Int)) (n2 := 1 + (i : Int)) rfl (de_var 10 rfl) (dss_nil fun H4 s4 => ⟨_, .same (.same (.same (.same (.same (.same (.same (.same (.same (.same (.drop .nil)))))))))), (b2.trans b3).sx s4, (t2.trans l3.t).trans s4.tt, d3.mono s4, ?_⟩)
    rw [show D.int (((n + 2 * p + 4 + triN (i + 1) : Nat) : Int) + (1 + (i : Int))) = iD (n + 2 * p + 4 + triN (i + 1 + 1)) by
      show D.int _ = D.int _
      congr 1
      show _ = ((n + 2 * p + 4 + (triN (i + 1) + (i + 1)) : Nat) : Int)
      omega]
  · rintro H0 s0 ρ' H2 ⟨b2, t2, d2, rfl⟩
    rw [show ((p : Int) - 1).toNat = p - 1 by omega] at d2 ⊢
    rw [show p - 1 + 1 = p by omega]
    have hqil : q ∉ [il, pl] := by
      intro z
      (rcases List.mem_cons.mp z with z | z)
      · rw [z] at hq; exact hw.l.ne hq
      · rw [show q = pl by simpa using z] at hq; exact hw.d.ne hq
    have hgq : g ∉ [q] := fun z => by rw [show g = q by simpa using z] at hw; exact hw.i.ne hq
    have hiq : il ∉ [q] := fun z => hqil (by rw [show il = q by simpa using z]; exact List.mem_cons_self)
    have hpq : pl ∉ [q] := fun z => hqil (by rw [show pl = q by simpa using z]; exact List.mem_cons_of_mem _ List.mem_cons_self)
    have hw1 := hw.mono s1
    have hw2 : WrAt K H2 g il pl ws ps := ⟨hw1.i.but b2 hgq rfl t2, hw1.l.but b2 hiq (noL_ws ws) t2, hw1.d.but b2 hpq hw.n t2, hw.n⟩
    have sH2 : Sx H H2 := b2.same s1 (fun a ha => by rw [show a = q by simpa using ha]; exact hq)
    refine dss_forR (fun H0 i ρ' H' => Aft K H2 H' g il pl (ws ++ divA n p i) ps ∧ ρ' = [some (.ref y), some (.ref g), some (iD p), some (lbD f), some (lbD o), some (iD n), some (iD (n + p + 1)), some (iD (n + p + 3)), some (.ref q), some (iD (n + 2 * p + 4 + triN p)), none]) (de_var 2 rfl) (by omega) ?_ ?_ ?_ T.f_range
    · exact fun H3 s3 => ⟨_, Wk.refl _, by simpa [divA] using hw2.aft.post s3, rfl⟩
    · rintro H3 s3 i ρ' H4 hi ⟨a1, rfl⟩
      have hip : i < p := by omega
      refine ⟨_, dg_name 10 nd, ?_⟩
      have dq4 : DicK H4 q (dkE (n + 2 * p + 4) (p - 1)) := d2.but a1.b hqil (noLk_dkE _ _) a1.t
      refine dss_exprX (dx_meth md hr (by decide) (de_var 1 rfl) a1.w.i rfl (da_cons (d := iD 0) de_int (da_cons (DE.is (d' := lbD (.n (n + i + 1))) (de_add (de_add (de_var 5 rfl) (de_var 10 rfl)) de_int) rfl) (da_cons (DE.is (d' := lbD (.n (if i = 0 then n + p + 1 else n + 2 * p + 4 + triN i))) (de_getK2 (key := Sum.inl (i : Int)) hr (de_var 8 rfl) (de_var 10 rfl) (de_var 6 rfl) dq4) ?_) da_nil))) (P := fun d H5 => Aft K H4 H5 g il pl (ws ++ divA n p i ++ [.dec 0 (.n (n + i + 1)) (.n (if i = 0 then n + p + 1 else n + 2 * p + 4 + triN i))]) ps) (.cons rfl (.cons rfl (.cons rfl (.cons (noL_lb f) (.cons (noL_lb o) (.cons rfl (.cons rfl (.cons rfl (.cons rfl (.cons rfl (.cons rfl .nil))))))))))) fun H5 s5 => ⟨g, il, pl, _, ps, 0, .n (n + i + 1), .n (if i = 0 then n + p + 1 else n + 2 * p + 4 + triN i), a1.w.mono s5, by rw [List.length_append, divA_len]; omega, rfl, fun H6 a6 => a6.pre s5⟩) fun d H5 a2 => ?_
      · rw [val_dkE]
        by_cases h0 : i = 0
        · rw [if_neg (by omega), if_pos h0]
          rfl
        · rw [if_pos (by omega), if_neg h0]
          rfl
      · refine dss_nil fun H6 s6 => ⟨_, .same (.same (.same (.same (.same (.same (.same (.same (.same (.same (.drop .nil)))))))))), ?_, rfl⟩
        have a3 := (a1.trans a2).post s6
        unfold divA at a3 ⊢
        rw [List.range_succ, List.map_append, ← List.append_assoc]
        exact a3
    · rintro H3 s3 ρ' H4 ⟨a1, rfl⟩
      rw [show ((p : Int)).toNat = p from Int.toNat_natCast p] at a1
      have pn : Plain [some (.ref y), some (.ref g), some (iD p), some (lbD f), some (lbD o), some (iD n), some (iD (n + p + 1)), some (iD (n + p + 3)), some (.ref q), some (iD (n + 2 * p + 4 + triN p)), none] := (.cons rfl (.cons rfl (.cons rfl (.cons (noL_lb f) (.cons (noL_lb o) (.cons rfl (.cons rfl (.cons rfl (.cons rfl (.cons rfl (.skip .nil)))))))))))
      have a0 := a1.pre sH2
      have l1 : (ws ++ divA n p p).length = n + p := by rw [List.length_append, divA_len, hn]
      generalize hw1e : ws ++ divA n p p = w1 at a0 l1 a1
      refine dss_exprX (dx_meth mi hr (by decide) (de_var 1 rfl) a0.w.i rfl (da_cons (d := iD 1) de_int (da_cons (DE.is (d' := lbD (.n n)) (de_var 5 rfl) rfl) da_nil)) (P := fun d H5 => Aft K H4 H5 g il pl (w1 ++ [.inc 1 (.n n)]) ps) pn fun H5 s5 => ⟨g, il, pl, _, ps, 1, .n n, a0.w.mono s5, by omega, rfl, fun H6 a6 => a6.pre s5⟩) fun d H5 a2 => ?_
      have l2 : (w1 ++ [WOp.inc 1 (.n n)]).length = n + p + 1 := by rw [List.length_append, l1]; rfl
      refine dss_exprX (dx_meth mm hr (by decide) (de_var 1 rfl) a2.w.i rfl (da_cons (d := iD 1) de_int (da_cons (d := .lst (List.replicate 1 (iD 0))) (de_ls (da_cons de_int da_nil)) (da_cons (de_var 3 rfl) da_nil))) (P := fun d H6 => Aft K H5 H6 g il pl (w1 ++ [.inc 1 (.n n)] ++ moveW (n + p + 1) 1 1 0 f) ps) pn fun H6 s6 => ⟨g, il, pl, _, ps, 1, 1, 0, f, a2.w.mono s6, by omega, by rw [l2]; omega, rfl, fun H7 a7 => by rw [l2] at a7; exact a7.pre s6⟩) fun d H6 a3 => ?_
      have l3 : (w1 ++ [WOp.inc 1 (.n n)] ++ moveW (n + p + 1) 1 1 0 f).length = n + p + 3 := by rw [List.length_append, l2, moveW_len (by omega)]
      refine dss_exprX (dx_meth mm hr (by decide) (de_var 1 rfl) a3.w.i rfl (da_cons (d := iD 1) de_int (da_cons (d := .lst (List.replicate p (iD 0))) (de_repL (de_ls (da_cons de_int da_nil)) (de_var 2 rfl) (by omega)) (da_cons (de_var 4 rfl) da_nil))) (P := fun d H7 => Aft K H6 H7 g il pl (w1 ++ [.inc 1 (.n n)] ++ moveW (n + p + 1) 1 1 0 f ++ moveW (n + p + 3) 1 p 0 o) ps) pn fun H7 s7 => ⟨g, il, pl, _, ps, 1, p, 0, o, a3.w.mono s7, hp1, by rw [l3]; omega, rfl, fun H8 a8 => by rw [l3] at a8; exact a8.pre s7⟩) fun d H7 a4 => ?_
      have l4 : (w1 ++ [WOp.inc 1 (.n n)] ++ moveW (n + p + 1) 1 1 0 f ++ moveW (n + p + 3) 1 p 0 o).length = n + 2 * p + 4 := by rw [List.length_append, l3, moveW_len hp1]; omega
      have a5 := ((a0.trans a2).trans a3).trans a4
      generalize hw4 : w1 ++ [WOp.inc 1 (.n n)] ++ moveW (n + p + 1) 1 1 0 f ++ moveW (n + p + 3) 1 p 0 o = w4 at a5 l4
      refine dss_forR2 (fun H0 i ρ' H' => Aft K H H' g il pl (w4 ++ divC n p i) ps ∧ ρ' = [some (.ref y), some (.ref g), some (iD p), some (lbD f), some (lbD o), some (iD n), some (iD (n + p + 1)), some (iD (n + p + 3)), some (.ref q), some (iD (n + 2 * p + 4 + triN p)), none]) de_int (de_var 2 rfl) (by omega) ?_ ?_ ?_ T.f_range
      · exact fun H8 s8 => ⟨_, Wk.refl _, by simpa [divC] using a5.post s8, rfl⟩
      · rintro H8 s8 i ρ' H9 hi ⟨a6, rfl⟩
        have l5 : (w4 ++ divC n p i).length = n + 2 * p + 4 + triN (i + 1) := by rw [List.length_append, l4, divC_len]
        have t5 := tri (i + 1) (by omega)
        refine ⟨_, dg_name 10 nd, ?_⟩
        refine dss_exprX (dx_meth ma hr (by decide) (de_var 1 rfl) a6.w.i rfl (da_cons (d := iD 0) de_int (da_cons (d := iD (i + 1)) (DE.is (de_var 10 rfl) (by show D.int _ = D.int _; congr 1; omega)) (da_cons (DE.is (d' := lbD (.n (n + p + 3))) (de_var 7 rfl) rfl) da_nil))) (P := fun d H10 => Aft K H9 H10 g il pl (w4 ++ divC n p i ++ addW (n + 2 * p + 4 + triN (i + 1)) 0 (i + 1) (.n (n + p + 3))) ps) (.cons rfl (.cons rfl (.cons rfl (.cons (noL_lb f) (.cons (noL_lb o) (.cons rfl (.cons rfl (.cons rfl (.cons rfl (.cons rfl (.cons rfl .nil))))))))))) fun H10 s10 => ⟨g, il, pl, _, ps, 0, i + 1, .n (n + p + 3), a6.w.mono s10, by omega, by rw [l5]; omega, rfl, fun H11 a11 => by rw [l5] at a11; exact a11.pre s10⟩) fun d H10 a7 => ?_
        refine dss_nil fun H11 s11 => ⟨_, .same (.same (.same (.same (.same (.same (.same (.same (.same (.same (.drop .nil)))))))))), ?_, rfl⟩
        show Aft K H H11 g il pl (w4 ++ (divC n p i ++ addW (n + 2 * p + 4 + triN (i + 1)) 0 (i + 1) (.n (n + p + 3)))) ps
        rw [← List.append_assoc]
        exact (a6.trans a7).post s11
      · rintro H8 s8 ρ' H9 ⟨a6, rfl⟩
        rw [show ((p : Int) - 1).toNat = p - 1 by omega] at a6
        have a7 : Aft K H H9 g il pl (ws ++ divW n p f o) ps := by
          unfold divW
          rw [← hw4, ← hw1e] at a6
          simpa only [List.append_assoc, List.cons_append, List.nil_append] using a6
        exact dss_nil fun H12 s12 => ⟨hΨ H12 (a7.post s12), (a7.post s12).t⟩
end
end K5
namespace K5
open PySem PySem.Spec PyProof.Rows L2
def instStep (o : Op) (k : Nat) (st : List WOp × Mks) : List WOp × Mks := (st.1 ++ instW st.1.length o, putE st.2 (lbK (.one k)) (iD st.1.length))
def instsW (prog : List Op) : Nat → List WOp × Mks
  | 0 => ([], [])
  | k + 1 => instStep (prog.getD k .fin) k (instsW prog k)
structure R2Ok (prog : List Op) (xs : List Nat) (r : Lb → Nat) : Prop where
  op3 : ∀ o ∈ prog, OpOk 3 prog.length o
  ln : prog.length ≤ 400
  bd : ∀ k, k < prog.length → (instsW prog k).1.length < 60000 ∧ (instsW prog k).2.length < 80000
  xl : xs.length = prog.length
  vl : ∀ (k x : Nat), xs[k]? = some x → valD (instsW prog prog.length).2 (lbK (.one k)) = some (iD x)
  rsv : ∀ o ∈ (instsW prog prog.length).1, ∀ l ∈ lbs o, resD (instsW prog prog.length).2 l = iD (r l)
  op2 : ∀ o ∈ (instsW prog prog.length).1, OpOk 2 (instsW prog prog.length).1.length (rop r o)
  l1 : 1 ≤ (instsW prog prog.length).1.length
  l2 : (instsW prog prog.length).1.length < 90000
structure R2I where
  y : Nat
  sg : Nat
  pm : Nat
  pp : Nat
  g : Nat
  prog : List Op
  xs : List Nat
  prog2 : List Op
/-- the translation of registers to two counters -/
structure R2At (K : PySem.W.Frag) (H : Hp) (I : R2I) : Prop where
  y : Ins H I.y (He.ga K "RegistersToCounters") [("source", .ref I.sg), ("primes", .ref I.pm), ("places", .ref I.pp), ("target", .ref I.g)]
  pm : LstAt H I.pm (iDs [2, 3, 5])
  pp : LstAt H I.pp (iDs I.xs)
  sg : RegAt K H I.sg 3 I.prog
  g : RegAt K H I.g 2 I.prog2
theorem R2At.mono {K : PySem.W.Frag} {H H' : Hp} {I : R2I} (h : R2At K H I) (s : Sx H H') : R2At K H' I := ⟨h.y.mono s, h.pm.mono s, h.pp.mono s, h.sg.mono s, h.g.mono s⟩
theorem noLf_reg (n : Nat) (p : List Op) : noLf [("count", iD n), ("instructions", .tup (opDs p))] = true := by
  show (true && (noLs (opDs p) && true)) = true
  rw [noL_opDs]
  rfl
section
variable {P : Program} {w : World} {K : PySem.W.Frag} {mg : Str → Option Value} {base : Heap} (T : Tx K mg)
include T
abbrev R2S (K : PySem.W.Frag) (H : Hp) (y sg pm : Addr) : Prop := Ins H y (He.ga K "RegistersToCounters") [("source", .ref sg), ("primes", .ref pm)]
def S_inst (K : PySem.W.Frag) : Hp → List D → (D → Hp → Prop) → Prop := fun H ds Ψ => ∃ y sg pm g il pl ws ps o len, R2S K H y sg pm ∧ LstAt H pm (iDs [2, 3, 5]) ∧ OpOk 3 len o ∧ WrAt K H g il pl ws ps ∧ ws.length < 60000 ∧ ds = [.ref y, .ref g, opD o] ∧ ∀ H', Aft K H H' g il pl (ws ++ instW ws.length o) ps → Ψ .non H'
theorem mt_inst : Met P w K mg base 4 (He.ga K "RegistersToCounters") "write_instruction" (spX (S_inst K)) := by
  have me := mt_Wr_end (P := P) (w := w) (base := base) T
  have mm := mt_Wr_move (P := P) (w := w) (base := base) T
  have md := mt_division (P := P) (w := w) (base := base) T
  refine metX T.c_RegistersToCounters T.m_RegistersToCounters_write_instruction (fn_RegistersToCounters_write_instruction T) sc_RegistersToCounters_write_instruction (by decide) (fun H ds d h => by obtain ⟨y, sg, pm, g, il, pl, ws, ps, o, len, _, _, _, _, _, rfl, _⟩ := h; rfl) fun cdv A outer s H E hr ds Ψ hS => ?_
  obtain ⟨y, sg, pm, g, il, pl, ws, ps, o, len, hy, hpm, ok, hw, hz, rfl, hΨ⟩ := hS
  have nd := sc_RegistersToCounters_write_instruction.nd
  have wl : ∀ ws : List WOp, (wDs ws).length = ws.length := fun _ => List.length_map ..
  have pv : ∀ c, c < 3 → ([2, 3, 5] : List Nat)[c]? = some (pOf c) ∧ 1 ≤ pOf c ∧ pOf c ≤ 5 := fun c hc => by
    match c, hc with
    | 0, _ => exact ⟨rfl, by decide, by decide⟩
    | 1, _ => exact ⟨rfl, by decide, by decide⟩
    | 2, _ => exact ⟨rfl, by decide, by decide⟩
  have ix : ∀ c, c < 3 → (iDs [2, 3, 5])[c]? = some (iD (pOf c)) := fun c hc => by
    rw [List.getElem?_map, (pv c hc).1]
    rfl
  cases o with
  | fin =>
    refine dss_leave (DT.is (dt_eqS (x := "end") (de_ixT (t := 0) (ds := [.str "end"]) (de_var 2 rfl) de_int rfl rfl) de_str) (decide_eq_true rfl)) (dss_exprX (dx_meth0 me hr (by decide) (de_var 1 rfl) hw.i rfl (P := fun d H1 => Aft K H H1 g il pl (ws ++ [WOp.fin]) ps) (.cons rfl (.cons rfl (.cons rfl (.skip .nil)))) fun H2 s2 => ⟨g, il, pl, _, ps, hw.mono s2, by omega, rfl, fun H3 a3 => a3.pre s2⟩) fun d H1 a1 => ?_)
    exact dss_retN fun H3 s3 => ⟨hΨ H3 (a1.post s3), (a1.post s3).t⟩
  | inc c f =>
    obtain ⟨hc, hf⟩ := ok
    obtain ⟨_, p1, p2⟩ := pv c hc
    refine dss_skip (DT.is (dt_eqS (x := "inc") (de_ixT (t := 0) (ds := [.str "inc", iD c, iD f]) (de_var 2 rfl) de_int rfl rfl) de_str) (by decide +kernel)) ?_
    refine dss_asg 3 nd (d := iD (pOf c)) (de_ixA (t := c) (de_fld (de_var 0 rfl) hy T.c_RegistersToCounters T.n_RegistersToCounters_primes rfl) (de_ixT (t := 1) (ds := [.str "inc", iD c, iD f]) (d := iD c) (de_var 2 rfl) de_int rfl rfl) hpm (by exact ixN_nat hc) (ix c hc)) ?_
    have pn : Plain [some (.ref y), some (.ref g), some (opD (.inc c f)), some (iD (pOf c))] := .cons rfl (.cons rfl (.cons rfl (.cons rfl .nil)))
    unfold instW at hΨ
    simp only at hΨ
    generalize pOf c = p at p1 p2 hΨ pn
    refine dss_leave (DT.is (dt_eqS (x := "inc") (de_ixT (t := 0) (ds := [.str "inc", iD c, iD f]) (de_var 2 rfl) de_int rfl rfl) de_str) (decide_eq_true rfl)) ?_
    refine dss_exprX (dx_meth mm hr (by decide) (de_var 1 rfl) hw.i rfl (da_cons (d := iD 0) de_int (da_cons (d := .lst (List.replicate p (iD 1))) (de_repL (de_ls (da_cons de_int da_nil)) (de_var 3 rfl) (by omega)) (da_cons (DE.is (d' := lbD (.n (ws.length + 1 + p))) (de_add (de_add (de_lenA T.f_len (de_fld (de_var 1 rfl) hw.i T.c_Writer T.n_Writer_instructions rfl) hw.l) de_int) (de_var 3 rfl)) (by rw [wl]; rfl)) da_nil))) (P := fun d H1 => Aft K H H1 g il pl (ws ++ moveW ws.length 0 p 1 (.n (ws.length + 1 + p))) ps) pn fun H2 s2 => ⟨g, il, pl, _, ps, 0, p, 1, .n (ws.length + 1 + p), hw.mono s2, p1, by omega, rfl, fun H3 a3 => a3.pre s2⟩) fun d H1 a1 => ?_
    have l1 : (ws ++ moveW ws.length 0 p 1 (.n (ws.length + 1 + p))).length = ws.length + p + 1 := by rw [List.length_append, moveW_len p1]; omega
    refine dss_exprX (dx_meth mm hr (by decide) (de_var 1 rfl) a1.w.i rfl (da_cons (d := iD 1) de_int (da_cons (d := .lst (List.replicate 1 (iD 0))) (de_ls (da_cons de_int da_nil)) (da_cons (d := lbD (.one f)) (de_tp (da_cons de_str (da_cons (de_ixT (t := 2) (ds := [.str "inc", iD c, iD f]) (d := iD f) (de_var 2 rfl) de_int rfl rfl) da_nil))) da_nil))) (P := fun d H2 => Aft K H1 H2 g il pl (ws ++ moveW ws.length 0 p 1 (.n (ws.length + 1 + p)) ++ moveW (ws.length + p + 1) 1 1 0 (.one f)) ps) pn fun H2 s2 => ⟨g, il, pl, _, ps, 1, 1, 0, .one f, a1.w.mono s2, by omega, by rw [l1]; omega, rfl, fun H3 a3 => by rw [l1] at a3; exact a3.pre s2⟩) fun d H2 a2 => ?_
    have a3 := a1.trans a2
    rw [List.append_assoc] at a3
    exact dss_retN fun H3 s3 => ⟨hΨ H3 (a3.post s3), (a3.post s3).t⟩
  | dec c f o =>
    obtain ⟨hc, hf⟩ := ok
    obtain ⟨_, p1, p2⟩ := pv c hc
    refine dss_skip (DT.is (dt_eqS (x := "dec") (de_ixT (t := 0) (ds := [.str "dec", iD c, iD f, iD o]) (de_var 2 rfl) de_int rfl rfl) de_str) (by decide +kernel)) ?_
    refine dss_asg 3 nd (d := iD (pOf c)) (de_ixA (t := c) (de_fld (de_var 0 rfl) hy T.c_RegistersToCounters T.n_RegistersToCounters_primes rfl) (de_ixT (t := 1) (ds := [.str "dec", iD c, iD f, iD o]) (d := iD c) (de_var 2 rfl) de_int rfl rfl) hpm (by exact ixN_nat hc) (ix c hc)) ?_
    have pn : Plain [some (.ref y), some (.ref g), some (opD (.dec c f o)), some (iD (pOf c))] := .cons rfl (.cons rfl (.cons rfl (.cons rfl .nil)))
    unfold instW at hΨ
    simp only at hΨ
    generalize pOf c = p at p1 p2 hΨ pn
    refine dss_skip (DT.is (dt_eqS (x := "dec") (de_ixT (t := 0) (ds := [.str "dec", iD c, iD f, iD o]) (de_var 2 rfl) de_int rfl rfl) de_str) (by decide +kernel)) ?_
    refine dss_exprX (dx_meth md hr (by decide) (de_var 0 rfl) hy rfl (da_cons (de_var 1 rfl) (da_cons (de_var 3 rfl) (da_cons (d := lbD (.one f)) (de_tp (da_cons de_str (da_cons (de_ixT (t := 2) (ds := [.str "dec", iD c, iD f, iD o]) (d := iD f) (de_var 2 rfl) de_int rfl rfl) da_nil))) (da_cons (d := lbD (.one o)) (de_tp (da_cons de_str (da_cons (de_ixT (t := 3) (ds := [.str "dec", iD c, iD f, iD o]) (d := iD o) (de_var 2 rfl) de_int rfl rfl) da_nil))) da_nil)))) (P := fun d H1 => Aft K H H1 g il pl (ws ++ divW ws.length p (.one f) (.one o)) ps) pn fun H2 s2 => ⟨y, g, il, pl, _, ps, p, .one f, .one o, hw.mono s2, p1, by omega, hz, rfl, fun H3 a3 => a3.pre s2⟩) fun d H1 a1 => ?_
    exact dss_nil fun H3 s3 => ⟨hΨ H3 (a1.post s3), (a1.post s3).t⟩
def S_R2_init (K : PySem.W.Frag) : Hp → Addr → List D → (Hp → Prop) → Prop := fun H y ds Ψ => ∃ sg prog xs r, RegAt K H sg 3 prog ∧ R2Ok prog xs r ∧ GxR.TabG H (He.cT K qReg).2 ∧ ds = [.ref sg] ∧ ∀ H' pm pp g, R2At K H' ⟨y, sg, pm, pp, g, prog, xs, (instsW prog prog.length).1.map (rop r)⟩ → Ψ H'
theorem mk_R2C (TB : GxR.TabB base mg (He.codeOf K qReg) (He.cT K qReg).2) : Mak P w K mg base 5 "RegistersToCounters" (He.ga K "RegistersToCounters") (spI (He.ga K "RegistersToCounters") (S_R2_init K)) [] := by
  have mw := mk_Writer (P := P) (w := w) (base := base) T
  have mm := mt_Wr_mark (P := P) (w := w) (base := base) T
  have mi := mt_inst (P := P) (w := w) (base := base) T
  have mpr := ok_primes3 (P := P) (w := w) (base := base) T
  have mg' := mt_Wr_prog (P := P) (w := w) (base := base) T TB
  refine makI T.k_RegistersToCounters T.g_RegistersToCounters (fn_RegistersToCounters_init T) sc_RegistersToCounters_init (by decide) (fun H y ds Ψ h => by obtain ⟨sg, prog, xs, r, _, _, _, rfl, _⟩ := h; rfl) fun cdv A outer s H E hr y ds Ψ hy hS => ?_
  obtain ⟨sg, prog, xs, r, hsg, ok, tg, rfl, hΨ⟩ := hS
  have nd := sc_RegistersToCounters_init.nd
  have hln := ok.ln
  have ol : (opDs prog).length = prog.length := List.length_map ..
  have sy : sg ≠ y := by
    rintro rfl
    have := ins_len hy hsg
    simp at this
  refine dss_skip (DW.t (dw_or (k1 := false) (k2 := false) (DT.is (dt_not (k := true) (dt_val (de_isiO (de_var 1 rfl) hsg T.is_Registers T.g_Registers T.is_Registers.me T.f_isinstance))) rfl) fun _ => dw_or1 (DT.is (dt_gt (m := 3) (de_fld (de_var 1 rfl) hsg T.c_Registers T.n_Registers_count rfl) (de_gint T.i_MOST_REGISTERS_twocounters)) (by decide)))) ?_
  refine dss_skip (DT.is (dt_gt (de_lenT T.f_len (de_fld (de_var 1 rfl) hsg T.c_Registers T.n_Registers_instructions rfl)) (de_gint T.i_MOST_INSTRUCTIONS_twocounters)) (by rw [ol]; simp; omega)) ?_
  refine dss_fld (de_var 0 rfl) (de_var 1 rfl) hy T.c_RegistersToCounters T.n_RegistersToCounters_source (by decide) fun H1 b1 l1 i1 => ?_
  have hsg1 : RegAt K H1 sg 3 prog := Ins.butL hsg b1 (by simpa using sy) l1
  refine dss_fld (d := .lst (iDs [2, 3, 5])) (de_var 0 rfl) (de_call mpr hr (by decide) (da_cons (de_fld (de_var 1 rfl) hsg1 T.c_Registers T.n_Registers_count rfl) da_nil) fun H2 s2 => ⟨rfl, rfl⟩) i1 T.c_RegistersToCounters T.n_RegistersToCounters_primes (by show 1 < 1000; omega) fun H2 b2 l2 i2 => ?_
  obtain ⟨pm, i2', hpm⟩ := Ins.thaw (g1 := [("source", .ref sg)]) (g2 := []) i2
  have hsg2 : RegAt K H2 sg 3 prog := Ins.butL hsg1 b2 (by simpa using sy) l2
  refine dss_asgN 2 nd (dn_make0 mw hr (by decide) (Pm := fun g H' => ∃ il pl, H2 il = none ∧ H2 pl = none ∧ WrAt K H' g il pl [] []) fun H3 g s3 hg i3 => ⟨rfl, fun H' il pl q1 q2 q3 => ⟨il, pl, s3.free q1, s3.free q2, q3⟩⟩) ?_
  rintro d H3 s3 ⟨g, rfl, hg, il, pl, hil, hpl, hw⟩
  have hy3 : R2S K H3 y sg pm := Ins.mono i2' s3
  have hsg3 := hsg2.mono s3
  have hpm3 := hpm.mono s3
  have hyg : y ≠ g := by
    rintro rfl
    exact i2.ne hg
  have pmA : ∀ {Hx : Hp} {wx : List WOp} {px : Mks}, Aft K H3 Hx g il pl wx px → LstAt Hx pm (iDs [2, 3, 5]) := fun a => hpm3.but a.b (hw.ne (n := 2) (r := iDs [3, 5]) hpm3) rfl a.t
  have sgA : ∀ {Hx : Hp} {wx : List WOp} {px : Mks}, Aft K H3 Hx g il pl wx px → RegAt K Hx sg 3 prog := fun a => Aft.ins a hw hsg3 (noLf_reg _ _)
  refine dss_forR (fun H0 i ρ' H' => Aft K H3 H' g il pl (instsW prog i).1 (instsW prog i).2 ∧ ρ' = [some (.ref y), some (.ref sg), some (.ref g), none]) (de_lenT T.f_len (de_fld (de_var 1 rfl) hsg3 T.c_Registers T.n_Registers_instructions rfl)) (by rw [ol]; omega) ?_ ?_ ?_ T.f_range
  · exact fun H4 s4 => ⟨_, Wk.refl _, hw.aft.post s4, rfl⟩
  · rintro H0 s0 i ρ' H' hi ⟨a1, rfl⟩
    rw [ol] at hi
    have hin : i < prog.length := by omega
    obtain ⟨bb1, bb2⟩ := ok.bd i hin
    have hgo : (opDs prog)[i]? = some (opD prog[i]) := by unfold opDs; rw [List.getElem?_map, List.getElem?_eq_getElem hin]; rfl
    have est : instsW prog (i + 1) = instStep prog[i] i (instsW prog i) := by
      show instStep (prog.getD i .fin) i (instsW prog i) = _
      rw [List.getD_eq_getElem?_getD, List.getElem?_eq_getElem hin]
      rfl
    have hop := ok.op3 _ (List.getElem_mem hin)
    refine ⟨_, dg_name 3 nd, ?_⟩
    have pn : Plain [some (.ref y), some (.ref sg), some (.ref g), some (iD i)] := .cons rfl (.cons rfl (.cons rfl (.cons rfl .nil)))
    generalize instsW prog i = st at a1 bb1 bb2 est
    refine dss_exprX (dx_meth mm hr (by decide) (de_var 2 rfl) a1.w.i rfl (da_cons (d := .tup ((lbK (.one i)).map kD)) (de_tp (da_cons de_str (da_cons (de_var 3 rfl) da_nil)) (by show 2 ≤ 100000; omega)) da_nil) (P := fun d H7 => Aft K H' H7 g il pl st.1 (putE st.2 (lbK (.one i)) (iD st.1.length))) pn fun H7 s7 => ⟨g, il, pl, _, _, lbK (.one i), a1.w.mono s7, by omega, rfl, fun H3 a3 => a3.pre s7⟩) fun d H7 a3 => ?_
    have a4 := a1.trans a3
    refine dss_exprX (dx_meth mi hr (by decide) (de_var 0 rfl) (a4.ins hw hy3 rfl) rfl (da_cons (de_var 2 rfl) (da_cons (d := opD prog[i]) (de_ixT (t := i) (de_fld (de_var 1 rfl) (sgA a4) T.c_Registers T.n_Registers_instructions rfl) (de_var 3 rfl) (by rw [ol]; exact ixN_nat hin) hgo) da_nil)) (P := fun d H8 => Aft K H7 H8 g il pl (st.1 ++ instW st.1.length prog[i]) (putE st.2 (lbK (.one i)) (iD st.1.length))) pn fun H8 s8 => ⟨y, sg, pm, g, il, pl, _, _, prog[i], prog.length, (a4.ins hw hy3 rfl).mono s8, (pmA a4).mono s8, hop, a4.w.mono s8, by omega, rfl, fun H3 a3 => a3.pre s8⟩) fun d H8 a5 => ?_
    exact dss_nil fun H9 s9 => ⟨_, .same (.same (.same (.drop .nil))), by rw [est]; exact (a4.trans a5).post s9, rfl⟩
  · rintro H0 s0 ρ' H4 ⟨a1, rfl⟩
    rw [show (((opDs prog).length : Nat) : Int).toNat = prog.length by rw [ol]; exact Int.toNat_natCast _] at a1
    have hy4 := a1.ins hw hy3 rfl
    have hsg4 := sgA a1
    have hpm4 := pmA a1
    have ok1 := ok.vl
    have hok2 := ok.rsv
    have hok3 := ok.op2
    have hok4 := ok.l1
    have hok5 := ok.l2
    generalize hW : instsW prog prog.length = st at a1 ok1 hok2 hok3 hok4 hok5 hΨ
    refine dss_fld (d := .lst (iDs xs)) (de_var 0 rfl) (de_lcR (m := prog.length) 3 nd (DE.is (de_lenT T.f_len (de_fld (de_var 1 rfl) hsg4 T.c_Registers T.n_Registers_instructions rfl)) (by rw [ol])) (by rw [List.length_map, ok.xl]) ?_ (by rw [List.length_map, ok.xl]; omega) (fun j e he s0 H0 C cl fp => ?_) (show BlkOk N_RegistersToCounters_init (defScope st_RegistersToCounters_init) _ _ from blkOk_by (by decide +kernel)) T.f_range) hy4 T.c_RegistersToCounters T.n_RegistersToCounters_places (by show 2 < 1000; omega) fun H5 b5 l5 i5 => ?_
    · have : ∀ xs : List Nat, noLs (iDs xs) = true := fun xs => by
        induction xs with
        | nil => rfl
        | cons _ _ ih => exact ih
      exact this xs
    · obtain ⟨x, hx, rfl⟩ : ∃ x, xs[j]? = some x ∧ e = iD x := by
        rw [List.getElem?_map] at he
        cases q : xs[j]? with
        | none => rw [q] at he; cases he
        | some x => rw [q] at he; exact ⟨x, rfl, (Option.some.inj he).symm⟩
      exact de_dgetT (key := lbK (.one j)) hr (de_fld (de_var 2 rfl) a1.w.i T.c_Writer T.n_Writer_places rfl) (de_tp (da_cons de_str (da_cons (de_var 3 rfl) da_nil)) (by show 2 ≤ 100000; omega)) a1.w.d.r (ok1 j x hx)
    · obtain ⟨pp, i5', hpp⟩ := Ins.thaw (g1 := [("source", .ref sg), ("primes", .ref pm)]) (g2 := []) i5
      have hw5 : WrAt K H5 g il pl st.1 st.2 := ⟨a1.w.i.butL b5 (by simpa using hyg.symm) l5, a1.w.l.butL l5, a1.w.d.butN b5 (by simpa using (ins_ne_dic hy4 a1.w.d).symm) l5, a1.w.n⟩
      have hsg5 : RegAt K H5 sg 3 prog := Ins.butL hsg4 b5 (by simpa using sy) l5
      have hpm5 := hpm4.butL l5
      have bAll : But [y, il, pl] H H5 := by
        refine (b1.sub ?_).trans ((b2.sub ?_).trans (s3.but.trans ((a1.b.sub ?_).trans (b5.sub ?_))))
        all_goals
          intro a ha
          simp at ha ⊢
          first | exact .inl ha | exact .inr ha
      refine dss_fldX y (dn_meth mg' hr (by decide) (de_var 2 rfl) hw5.i rfl (da_cons (d := iD 2) de_int da_nil) (P := fun d H' => ∃ q, d = .ref q ∧ RegAt K H' q 2 (st.1.map (rop r))) fun H8 s8 => ⟨g, il, pl, st.1, st.2, 2, r, hw5.mono s8, by omega, by omega, hok4, hok5, hok2, hok3, s8.t _ (bAll.t _ tg), rfl, fun q H' hq sq rq => ⟨q, rfl, rq⟩⟩).dx T.c_RegistersToCounters T.n_RegistersToCounters_target ?_
      rintro d H8 ⟨⟨q, rfl, rq⟩, s8⟩
      refine ⟨de_var 0 rfl, _, i5'.mono s8, by show 3 < 1000; omega, fun H9 b9 l9 i9 => ?_⟩
      have qy : q ≠ y := by
        rintro rfl
        have := ins_len rq (i5'.mono s8)
        simp at this
      refine dss_nil fun H10 s10 => ⟨?_, ?_⟩
      · refine hΨ H10 pm pp q (R2At.mono ⟨i9, (hpm5.mono s8).butL l9, (hpp.mono s8).butL l9, Ins.butL (hsg5.mono s8) b9 (by simpa using sy) l9, Ins.butL rq b9 (by simpa using qy) l9⟩ s10)
      · refine (bAll.cut ?_).trans ((s8.thenBut b9).sx s10)
        intro a ha hay
        rcases List.mem_cons.mp ha with h | h
        · exact absurd h hay
        · rcases List.mem_cons.mp h with h | h
          · rw [h]; exact b1.back (b2.back hil)
          · rw [show a = pl by simpa using h]; exact b1.back (b2.back hpl)
end
end K5
namespace K5
open PySem PySem.Spec PyProof.Rows L2
/-- the number of three counters -/
def gN (a b c : Nat) : Nat := 2 ^ a * 3 ^ b * 5 ^ c
theorem gN_prod (a b c : Nat) : prodW [(2, a), (3, b), (5, c)] = gN a b c := by
  show 1 * 2 ^ a * 3 ^ b * 5 ^ c = _
  rw [Nat.one_mul]
  rfl
theorem gN_lt {a b c : Nat} (ha : a ≤ 12) (hb : b ≤ 12) (hc : c ≤ 12) : 2 ^ a ≤ 2 ^ 12 ∧ 3 ^ b ≤ 3 ^ 12 ∧ 5 ^ c ≤ 5 ^ 12 ∧ gN a b c < 2 ^ 62 := by
  have h1 : 2 ^ a ≤ 2 ^ 12 := Nat.pow_le_pow_right (by decide) ha
  have h2 : 3 ^ b ≤ 3 ^ 12 := Nat.pow_le_pow_right (by decide) hb
  have h3 : 5 ^ c ≤ 5 ^ 12 := Nat.pow_le_pow_right (by decide) hc
  exact ⟨h1, h2, h3, Nat.lt_of_le_of_lt (Nat.mul_le_mul (Nat.mul_le_mul h1 h2) h3) (by decide)⟩
theorem gN_pos (a b c : Nat) : 1 ≤ gN a b c := Nat.mul_pos (Nat.mul_pos (Nat.pow_pos (by decide)) (Nat.pow_pos (by decide))) (Nat.pow_pos (by decide))
def cost2 (o : Op) (N : Nat) : Nat := match o with
  | .fin => 0
  | .inc c _ => N * (pOf c + 1) + 1 + 2 * N * pOf c + 1
  | .dec c _ _ => if N % pOf c = 0 then N / pOf c * (pOf c + 1) + 1 + 2 * (N / pOf c) + 1 else 2 * (N / pOf c * (pOf c + 1) + N % pOf c + 1)
section
variable {P : Program} {w : World} {K : PySem.W.Frag} {mg : Str → Option Value} {base : Heap} (T : Tx K mg)
include T
def S_R2_pic (K : PySem.W.Frag) : Hp → List D → D → Prop := fun H ds d => ∃ (I : R2I) (pc x a b c : Nat), R2At K H I ∧ I.xs[pc]? = some x ∧ a ≤ 12 ∧ b ≤ 12 ∧ c ≤ 12 ∧ ds = [.ref I.y, vcD (pc, [a, b, c])] ∧ d = vcD (x, [gN a b c, 0])
theorem mt_R2_pic : Met P w K mg base 3 (He.ga K "RegistersToCounters") "picture" (spF (S_R2_pic K)) := by
  have mc := ok_check_picture (P := P) (w := w) (base := base) T
  have mp := ok_product_of (P := P) (w := w) (base := base) T
  refine metF T.c_RegistersToCounters T.m_RegistersToCounters_picture (fn_RegistersToCounters_picture T) sc_RegistersToCounters_picture (by decide) (fun H ds d h => by obtain ⟨I, pc, x, a, b, c, _, _, _, _, _, rfl, _⟩ := h; rfl) fun cdv A outer s H E hr ds d hS => ?_
  obtain ⟨I, pc, x, a, b, c, h, hx, ha, hb, hc, rfl, rfl⟩ := hS
  have nd := sc_RegistersToCounters_picture.nd
  obtain ⟨g1, g2, g3, g4⟩ := gN_lt ha hb hc
  have hxl : pc < I.xs.length := (List.getElem?_eq_some_iff.mp hx).1
  refine dss_unp (de_var 1 rfl) (dg_tup (dgs_cons (dg_name 2 nd) (dgs_cons (dg_name 3 nd) dgs_nil))) ?_
  refine dss_expr (d := .non) (de_call mc hr (by decide) (da_cons (d := iD (a + b + c)) (DE.is (de_sumT (ns := [(a : Int), (b : Int), (c : Int)]) T.f_sum (de_var 3 rfl)) (by show D.int _ = D.int _; congr 1; simp; omega)) da_nil) fun H2 s2 => ⟨a + b + c, by omega, rfl, rfl⟩) ?_
  refine dss_ret (d := vcD (x, [gN a b c, 0])) (de_tp (da_cons (d := iD x) (de_ixA (t := pc) (de_fld (de_var 0 rfl) h.y T.c_RegistersToCounters T.n_RegistersToCounters_places rfl) (de_var 2 rfl) h.pp (by rw [List.length_map]; exact ixN_nat hxl) (by rw [List.getElem?_map, hx]; rfl)) (da_cons (de_tp (da_cons (d := iD (gN a b c)) (de_call mp hr (by decide) (da_cons (d := .lst (iDs [2, 3, 5])) (de_frz (de_fld (de_var 0 rfl) h.y T.c_RegistersToCounters T.n_RegistersToCounters_primes rfl) h.pm) (da_cons (de_var 3 rfl) da_nil)) fun H2 s2 => ⟨[(2, a), (3, b), (5, c)], fun q hq => ?_, fun i => ?_, rfl, by rw [gN_prod]⟩) (da_cons de_int da_nil))) da_nil))) fun H2 s2 => ⟨rfl, s2⟩
  · simp only [List.mem_cons, List.not_mem_nil, or_false] at hq
    rcases hq with rfl | rfl | rfl
    · exact ⟨by show 1 ≤ 2; decide, by show a < 1000; omega, Nat.lt_of_le_of_lt g1 (by decide)⟩
    · exact ⟨by show 1 ≤ 3; decide, by show b < 1000; omega, Nat.lt_of_le_of_lt g2 (by decide)⟩
    · exact ⟨by show 1 ≤ 5; decide, by show c < 1000; omega, Nat.lt_of_le_of_lt g3 (by decide)⟩
  · have e2 := (gN_lt ha hb (Nat.zero_le 12)).2.2.2
    have e1 := (gN_lt ha (Nat.zero_le 12) (Nat.zero_le 12)).2.2.2
    match i with
    | 0 => exact (by decide : 1 < 2 ^ 62)
    | 1 => exact Nat.lt_of_le_of_lt (by show 1 * 2 ^ a ≤ gN a 0 0; unfold gN; omega) e1
    | 2 => exact Nat.lt_of_le_of_lt (by show 1 * 2 ^ a * 3 ^ b ≤ gN a b 0; unfold gN; rw [Nat.one_mul]; omega) e2
    | i + 3 =>
      rw [show List.take (i + 3) [(2, a), (3, b), (5, c)] = [(2, a), (3, b), (5, c)] from List.take_of_length_le (by simp), gN_prod]
      exact g4
def S_R2_back (K : PySem.W.Frag) : Hp → List D → D → Prop := fun H ds d => ∃ (I : R2I) (pc x a b c m2 m3 m5 z : Nat), R2At K H I ∧ I.xs[pc]? = some x ∧ (∀ (i z : Nat), i < pc → I.xs[i]? = some z → z ≠ x) ∧ a ≤ 12 ∧ b ≤ 12 ∧ c ≤ 12 ∧ (gN a b c = 2 ^ a * m2 ∧ m2 % 2 ≠ 0) ∧ (gN a b c = 3 ^ b * m3 ∧ m3 % 3 ≠ 0) ∧ (gN a b c = 5 ^ c * m5 ∧ m5 % 5 ≠ 0) ∧ ds = [.ref I.y, vcD (x, [gN a b c, z])] ∧ d = vcD (pc, [a, b, c])
theorem mt_R2_back : Met P w K mg base 2 (He.ga K "RegistersToCounters") "read_back" (spF (S_R2_back K)) := by
  have me := ok_exponent (P := P) (w := w) (base := base) T
  refine metF T.c_RegistersToCounters T.m_RegistersToCounters_read_back (fn_RegistersToCounters_read_back T) sc_RegistersToCounters_read_back (by decide) (fun H ds d h => by obtain ⟨I, pc, x, a, b, c, m2, m3, m5, z, _, _, _, _, _, _, _, _, _, rfl, _⟩ := h; rfl) fun cdv A outer s H E hr ds d hS => ?_
  obtain ⟨I, pc, x, a, b, c, m2, m3, m5, z, h, hx, hno, ha, hb, hc, ⟨e2, n2⟩, ⟨e3, n3⟩, ⟨e5, n5⟩, rfl, rfl⟩ := hS
  have nd := sc_RegistersToCounters_read_back.nd
  refine dss_unp (de_var 1 rfl) (dg_tup (dgs_cons (dg_name 2 nd) (dgs_cons (dg_name 3 nd) dgs_nil))) ?_
  refine dss_asg 4 nd (d := .tup (iDs [a, b, c])) (de_tupleL T.f_tuple (de_lcL (ds := iDs [2, 3, 5]) 5 nd (de_frz (de_fld (de_var 0 rfl) h.y T.c_RegistersToCounters T.n_RegistersToCounters_primes rfl) h.pm) rfl rfl (by simp) (fun j d e hd he s0 H0 C cl fp => ?_) (show BlkOk N_RegistersToCounters_read_back (defScope st_RegistersToCounters_read_back) _ _ from blkOk_by (by decide +kernel)))) ?_
  · obtain ⟨p, k, m, rfl, rfl, hp, hp2, he2, hm, hk⟩ : ∃ p k m : Nat, d = iD p ∧ e = iD k ∧ 2 ≤ p ∧ p < 1000 ∧ gN a b c = p ^ k * m ∧ m % p ≠ 0 ∧ k ≤ 12 := by
      match j, hd, he with
      | 0, hd, he => exact ⟨2, a, m2, (Option.some.inj hd).symm, (Option.some.inj he).symm, by omega, by omega, e2, n2, ha⟩
      | 1, hd, he => exact ⟨3, b, m3, (Option.some.inj hd).symm, (Option.some.inj he).symm, by omega, by omega, e3, n3, hb⟩
      | 2, hd, he => exact ⟨5, c, m5, (Option.some.inj hd).symm, (Option.some.inj he).symm, by omega, by omega, e5, n5, hc⟩
      | j + 3, hd, he => simp at hd
    exact de_call me hr (by decide) (da_cons (d := iD p) (de_var 5 rfl) (da_cons (d := iD (gN a b c)) (de_ixT (t := 0) (de_var 3 rfl) de_int rfl rfl) da_nil)) fun H2 s2 => ⟨p, k, m, hp, hp2, by rcases Nat.eq_zero_or_pos m with z | z; (· rw [z] at hm; simp at hm); exact z, hm, by omega, by rw [he2], rfl⟩
  · refine dss_ret (d := vcD (pc, [a, b, c])) (de_tp (da_cons (d := iD pc) (de_index (ns := I.xs.map fun (x : Nat) => (x : Int)) (n := (x : Int)) (j := pc) (DE.is (de_frz (de_fld (de_var 0 rfl) h.y T.c_RegistersToCounters T.n_RegistersToCounters_places rfl) h.pp) (by rw [List.map_map]; rfl)) (de_var 2 rfl) (by rw [List.getElem?_map, hx]; rfl) (fun i z hi hz => ?_)) (da_cons (de_var 4 rfl) da_nil))) fun H2 s2 => ⟨rfl, s2⟩
    rw [List.getElem?_map] at hz
    cases q : I.xs[i]? with
    | none => rw [q] at hz; cases hz
    | some z' =>
      rw [q] at hz
      have hz2 : (z' : Int) = z := Option.some.inj hz
      have := hno i z' hi q
      omega
def S_R2_cost (K : PySem.W.Frag) : Hp → List D → D → Prop := fun H ds d => ∃ (I : R2I) (pc x a b c len : Nat) (o : Op), R2At K H I ∧ I.xs[pc]? = some x ∧ I.prog[pc]? = some o ∧ OpOk 3 len o ∧ o ≠ .fin ∧ a ≤ 12 ∧ b ≤ 12 ∧ c ≤ 12 ∧ ds = [.ref I.y, vcD (pc, [a, b, c])] ∧ d = iD (cost2 o (gN a b c))
theorem mt_R2_cost : Met P w K mg base 4 (He.ga K "RegistersToCounters") "cost" (spF (S_R2_cost K)) := by
  have mp := mt_R2_pic (P := P) (w := w) (base := base) T
  refine metF T.c_RegistersToCounters T.m_RegistersToCounters_cost (fn_RegistersToCounters_cost T) sc_RegistersToCounters_cost (by decide) (fun H ds d h => by obtain ⟨I, pc, x, a, b, c, len, o, _, _, _, _, _, _, _, _, rfl, _⟩ := h; rfl) fun cdv A outer s H E hr ds d hS => ?_
  obtain ⟨I, pc, x, a, b, c, len, o, h, hx, ho, ok, hof, ha, hb, hc, rfl, rfl⟩ := hS
  have nd := sc_RegistersToCounters_cost.nd
  obtain ⟨_, _, _, g4⟩ := gN_lt ha hb hc
  have hpl : pc < I.prog.length := (List.getElem?_eq_some_iff.mp ho).1
  have ix : ∀ c, c < 3 → (iDs [2, 3, 5])[c]? = some (iD (pOf c)) ∧ 2 ≤ pOf c ∧ pOf c ≤ 5 := fun c hc => by
    match c, hc with
    | 0, _ => exact ⟨rfl, by decide, by decide⟩
    | 1, _ => exact ⟨rfl, by decide, by decide⟩
    | 2, _ => exact ⟨rfl, by decide, by decide⟩
  refine dss_unp (de_var 1 rfl) (dg_tup (dgs_cons (dg_name 2 nd) (dgs_cons (dg_name 3 nd) dgs_nil))) ?_
  refine dss_asg 4 nd (d := opD o) (de_ixT (t := pc) (de_fld (de_fld (de_var 0 rfl) h.y T.c_RegistersToCounters T.n_RegistersToCounters_source rfl) h.sg T.c_Registers T.n_Registers_instructions rfl) (de_var 2 rfl) (by unfold opDs; rw [List.length_map]; exact ixN_nat hpl) (by unfold opDs; rw [List.getElem?_map, ho]; rfl)) ?_
  refine dss_unp (d := vcD (x, [gN a b c, 0])) (de_meth mp hr (by decide) (de_var 0 rfl) h.y rfl (da_cons (de_var 1 rfl) da_nil) fun H2 s2 => ⟨I, pc, x, a, b, c, h.mono s2, hx, ha, hb, hc, rfl, rfl⟩) (dg_tup (dgs_cons (dg_name 5 nd) (dgs_cons (dg_tup (dgs_cons (dg_name 6 nd) (dgs_cons (dg_name 5 nd) dgs_nil))) dgs_nil))) ?_
  generalize gN a b c = N at g4
  cases o with
  | fin => exact absurd rfl hof
  | inc k f =>
    obtain ⟨i1, p1, p2⟩ := ix k ok.1
    unfold cost2
    simp only
    refine dss_asg 7 nd (d := iD (pOf k)) (de_ixA (t := k) (de_fld (de_var 0 rfl) h.y T.c_RegistersToCounters T.n_RegistersToCounters_primes rfl) (de_ixT (t := 1) (ds := [.str "inc", iD k, iD f]) (d := iD k) (de_var 4 rfl) de_int rfl rfl) h.pm (by exact ixN_nat ok.1) i1) ?_
    generalize pOf k = p at p1 p2
    refine dss_leave (DT.is (dt_eqS (x := "inc") (de_ixT (t := 0) (ds := [.str "inc", iD k, iD f]) (de_var 4 rfl) de_int rfl rfl) de_str) (decide_eq_true rfl)) (dss_ret (DE.is (d := .int ((N : Int) * ((p : Int) + 1) + 1 + 2 * (N : Int) * (p : Int) + 1)) (de_add (de_add (de_add (de_mul (de_var 6 rfl) (de_add (de_var 7 rfl) de_int) (.inr ⟨by omega, by omega⟩)) de_int) (de_mul (de_mul de_int (de_var 6 rfl) (.inl ⟨by omega, by omega⟩)) (de_var 7 rfl) (.inr ⟨by omega, by omega⟩))) de_int) rfl) fun H2 s2 => ⟨?_, s2⟩)
    show D.int _ = D.int _
    congr 1
  | dec k f f2 =>
    obtain ⟨i1, p1, p2⟩ := ix k ok.1
    unfold cost2
    simp only
    refine dss_asg 7 nd (d := iD (pOf k)) (de_ixA (t := k) (de_fld (de_var 0 rfl) h.y T.c_RegistersToCounters T.n_RegistersToCounters_primes rfl) (de_ixT (t := 1) (ds := [.str "dec", iD k, iD f, iD f2]) (d := iD k) (de_var 4 rfl) de_int rfl rfl) h.pm (by exact ixN_nat ok.1) i1) ?_
    generalize pOf k = p at p1 p2
    refine dss_skip (DT.is (dt_eqS (x := "dec") (de_ixT (t := 0) (ds := [.str "dec", iD k, iD f, iD f2]) (de_var 4 rfl) de_int rfl rfl) de_str) (by decide +kernel)) ?_
    refine dss_asg 8 nd (DE.is (d' := iD (N / p)) (de_fdiv (de_var 6 rfl) (de_var 7 rfl) ⟨by omega, by omega⟩) rfl) ?_
    refine dss_asg 9 nd (DE.is (d' := iD (N % p)) (de_mod (de_var 6 rfl) (de_var 7 rfl) (by omega)) rfl) ?_
    have hq : N / p ≤ N := Nat.div_le_self _ _
    generalize N / p = q at hq
    generalize N % p = rr
    refine dss_guard (kb := decide (rr = 0)) (DT.is (dt_eq (de_var 9 rfl) de_int) (decide_eq_decide.mpr (by omega))) (fun hk => ?_) (fun hk => ?_)
    · refine dss_ret (DE.is (d' := iD (q * (p + 1) + 1 + 2 * q + 1)) (de_add (de_add (de_add (de_mul (de_var 8 rfl) (de_add (de_var 7 rfl) de_int) (.inr ⟨by omega, by omega⟩)) de_int) (de_mul de_int (de_var 8 rfl) (.inl ⟨by omega, by omega⟩))) de_int) rfl) fun H2 s2 => ⟨by rw [if_pos (of_decide_eq_true hk)], s2⟩
    · refine dss_ret (DE.is (d' := iD (2 * (q * (p + 1) + rr + 1))) (de_mul de_int (de_add (de_add (de_mul (de_var 8 rfl) (de_add (de_var 7 rfl) de_int) (.inr ⟨by omega, by omega⟩)) (de_var 9 rfl)) de_int) (.inl ⟨by omega, by omega⟩)) rfl) fun H2 s2 => ⟨by rw [if_neg (of_decide_eq_false hk)], s2⟩
theorem mt_R2_last : Met P w K mg base 1 (He.ga K "RegistersToCounters") "last_steps" (spF S_zero) := by
  refine metF T.c_RegistersToCounters T.m_RegistersToCounters_last_steps (fn_RegistersToCounters_last_steps T) sc_RegistersToCounters_last_steps (by decide) (fun H ds d h => by obtain ⟨a, c, rfl, _⟩ := h; rfl) fun cdv A outer s H E hr ds d hS => ?_
  obtain ⟨a, c, rfl, rfl⟩ := hS
  exact dss_ret de_int fun H2 s2 => ⟨rfl, s2⟩
end
end K5
namespace K5
open PySem PySem.Spec PyProof.Rows L2
section
variable {X : Cx} {e o : Expr} {rest : List Stmt} {ρ : Rho} {B : Hp} {d : D} {ds : List D} {P : D → Hp → Prop} {N : Rho → Hp → Prop} {R : D → Hp → Prop} {pos apos pos' tpos : Pos} {p C : Addr} {m n : Int} {gs : List (Str × D)}
theorem dss_fldaug {f : Str} (ho : DE X o ρ B (.ref p)) (he : DE X e ρ B (.int n)) (hi : Ins B p C gs) (hc : Cls X.K C) (hn : NoAttr X.K C f) (hl : gs.lookup f = some (.int m)) (hz : gs.length < 1000) (h : ∀ H1, But [p] B H1 → SameL B H1 → Ins H1 p C (putD f (.int (m + n)) gs) → DSs X rest ρ H1 N R) :
    DSs X (.AugAssign (.Attribute o f tpos) .Add e pos :: rest) ρ B N R :=
  dss_of (ps_fldaug pe_w pe_w in_add) fun σ H s r Dn k1 k2 => ho σ H s r _ fun u H1 s1 e1 => by
    obtain ⟨dx, fs, eH, rf⟩ := hi.mono (s.trans s1)
    obtain ⟨v, lv, dv⟩ := rf.get hl
    refine ⟨p, C, dx, fs, v, e1, eH, hc, hn, lv, he σ H1 (s.trans s1) (r.mono s1) _ fun y H2 s2 e2 => ?_⟩
    have eH2 := s2.k p _ rfl eH
    have rf2 := rf.monoL s2.l
    have sl : SameL H2 (upd H2 p (.ins C dx (putF f (.int (m + n)) fs))) := SameL.upd (fun xs z => by rw [eH2] at z; cases z) (fun xs z => by rw [eH2] at z; cases z)
    have bt : But [p] H2 (upd H2 p (.ins C dx (putF f (.int (m + n)) fs))) := But.upd (fun u z => by rw [eH2] at z; cases z; rfl)
    have s02 := (s.trans s1).trans s2
    refine ⟨m, n, dv, e2, dx, fs, eH2, by rw [rf2.length]; exact hz, ?_⟩
    exact go_on (h _ (s02.thenBut bt) (s02.l.trans sl) ⟨dx, _, upd_same, (rf2.put (d := .int (m + n)) rfl).monoL sl⟩) (Sx.refl _) ((r.mono (s1.trans s2)).monoL sl) k1 k2
/-- o.extend(e), e with an effect -/
theorem dss_extX (ho : DE X o ρ B (.ref p)) (he : DX X e ρ B P) (hL : LstAt B p ds) (pn : Plain ρ) (h : ∀ d H1, P d H1 → ∃ ds1 ds2, d = .lst ds2 ∧ LstAt H1 p ds1 ∧ ds1.length + ds2.length < 100000 ∧ noLs ds1 = true ∧ noLs ds2 = true ∧ ∀ H2, But [p] H1 H2 → SameT H1 H2 → LstAt H2 p (ds1 ++ ds2) → DSs X rest ρ H2 N R)
    (hbase : attributeBase o "extend" X.env (eval o X.env) = eval o X.env := by rfl)
    (hfew : ((backTo pos' (starEach [e] X.env)).all (fun x => !x.1) && (backToKw pos' (keywordEach [] X.env)).all (fun x => x.1.isSome) && decide ([e].length + ([] : List Keyword).length + (if ([] : List Keyword).isEmpty then 0 else 1) < 30)) = true := by rfl)
    (hline : (apos.endLine == pos'.line) = true := by rfl) (hst : starEach [e] X.env = (false, eval e X.env) :: starEach [] X.env := by rfl) (hpl : (backTo pos' (starEach [] X.env)).any (·.1) = false := by rfl)
    (hs : swapsWith (.Call (.Attribute o "extend" apos) [e] [] pos') none pos.line X.env = pure false := by rfl) : DSs X (.Expr (.Call (.Attribute o "extend" apos) [e] [] pos') pos :: rest) ρ B N R :=
  dss_of (ps_expr (pe_bm PySem.F.plainAttrs_list PySem.F.slot_list_extend PySem.F.type_list_extend mt_extend pe_w (pa_cons pe_w pa_nil hst) hbase hfew hline hst hpl) hs) fun σ H s r Dn k1 k2 => ho σ H s r _ fun v H1 s1 e1 => by
    obtain ⟨xs1, hx1, _⟩ := hL.mono (s.trans s1)
    refine ⟨?_, he σ H1 (s.trans s1) (r.mono s1) _ fun d u H2 p2 e2 r2 => ?_⟩
    · rw [show v = V.ref p from e1]
      exact .inl ⟨rfl, xs1, SqL.of hx1⟩
    · obtain ⟨ds1, ds2, rfl, ⟨xs, hx, dx⟩, hz, hn, hd, hh⟩ := h d H2 p2
      obtain ⟨b2, ys, eu, hy, dy⟩ := e2
      have st : SameT H2 (upd H2 p (.lst (xs ++ ys))) := SameT.upd (fun ys z => by rw [hx] at z; cases z)
      have bt : But [p] H2 (upd H2 p (.lst (xs ++ ys))) := But.upd (fun y z => by rw [hx] at z; cases z; rfl)
      refine ⟨p, b2, xs, ys, e1, by rw [eu], hx, hy, by rw [← dx.length, ← dy.length, sizeLine_eq]; omega, ?_⟩
      exact go_on (hh _ bt st ⟨_, upd_same, (DatL.monoT st _ _ hn dx).append (DatL.monoT st _ _ hd dy)⟩) (Sx.refl _) (r2.monoT pn st) k1 k2
end
end K5
namespace K5
open PySem PySem.Spec PyProof.Rows L2
def awy (c : Nat) : Int := if c = 0 then -1 else 1
def growR (pl c f st : Nat) : List Rl := [⟨pl, 2, 2, awy c, st⟩, ⟨st, 1, 1, awy c, st⟩, ⟨st, 0, 1, -awy c, st + 1⟩, ⟨st + 1, 1, 1, -awy c, st + 1⟩, ⟨st + 1, 2, 2, 0, f⟩]
def shrR (pl c f o st : Nat) : List Rl := [⟨pl, 2, 2, awy c, st⟩, ⟨st, 0, 0, -awy c, o⟩, ⟨st, 1, 1, awy c, st + 1⟩, ⟨st + 1, 1, 1, awy c, st + 1⟩, ⟨st + 1, 0, 0, -awy c, st + 2⟩, ⟨st + 2, 1, 0, -awy c, st + 3⟩, ⟨st + 3, 1, 1, -awy c, st + 3⟩, ⟨st + 3, 2, 2, 0, f⟩]
def ctOp (o : Op) (pl : Nat) (s : List Rl × Nat) : List Rl × Nat := match o with
  | .fin => s
  | .inc c f => (s.1 ++ growR pl c f s.2, s.2 + 2)
  | .dec c f o => (s.1 ++ shrR pl c f o s.2, s.2 + 4)
def ctR (prog : List Op) : Nat → List Rl × Nat
  | 0 => ([], prog.length)
  | k + 1 => ctOp (prog.getD k .fin) k (ctR prog k)
section
variable {P : Program} {w : World} {K : PySem.W.Frag} {mg : Str → Option Value} {base : Heap} (T : Tx K mg)
include T
abbrev C2S (K : PySem.W.Frag) (H : Hp) (y sg st : Nat) : Prop := Ins H y (He.ga K "CountersToTuring") [("source", .ref sg), ("states", iD st)]
/-- the translation has taken new states: all else stands -/
structure AftC (K : PySem.W.Frag) (H H' : Hp) (y sg st : Nat) : Prop where
  b : But [y] H H'
  t : SameT H H'
  i : C2S K H' y sg st
omit T in
theorem AftC.pre {B H H' : Hp} {y sg st : Nat} (h : AftC K H H' y sg st) (s : Sx B H) : AftC K B H' y sg st := ⟨s.thenBut h.b, s.tt.trans h.t, h.i⟩
omit T in
theorem AftC.post {H H' H2 : Hp} {y sg st : Nat} (h : AftC K H H' y sg st) (s : Sx H' H2) : AftC K H H2 y sg st := ⟨h.b.sx s, h.t.trans s.tt, h.i.mono s⟩
def S_new (K : PySem.W.Frag) : Hp → List D → (D → Hp → Prop) → Prop := fun H ds Ψ => ∃ y sg st c, C2S K H y sg st ∧ st ≤ 100000 ∧ c ≤ 10 ∧ ds = [.ref y, iD c] ∧ ∀ H', AftC K H H' y sg (st + c) → Ψ (.lst ((List.range c).map fun i => iD (st + i))) H'
theorem mt_new : Met P w K mg base 1 (He.ga K "CountersToTuring") "new_states" (spX (S_new K)) := by
  refine metX T.c_CountersToTuring T.m_CountersToTuring_new_states (fn_CountersToTuring_new_states T) sc_CountersToTuring_new_states (by decide) (fun H ds d h => by obtain ⟨y, sg, st, c, _, _, _, rfl, _⟩ := h; rfl) fun cdv A outer s H E hr ds Ψ hS => ?_
  obtain ⟨y, sg, st, c, hy, hst, hc, rfl, hΨ⟩ := hS
  have nd := sc_CountersToTuring_new_states.nd
  refine dss_asg 2 nd (d := iD st) (de_fld (de_var 0 rfl) hy T.c_CountersToTuring T.n_CountersToTuring_states rfl) ?_
  refine dss_fldaug (m := (st : Int)) (n := (c : Int)) (de_var 0 rfl) (de_var 1 rfl) hy T.c_CountersToTuring T.n_CountersToTuring_states rfl (by show 2 < 1000; omega) fun H1 b1 l1 i1 => ?_
  refine dss_ret (DE.is (d' := .lst ((List.range c).map fun i => iD (st + i))) (de_listRg (n1 := (st : Int)) (n2 := (st : Int) + (c : Int)) (de_var 2 rfl) (de_add (de_var 2 rfl) (de_var 1 rfl)) (by omega) T.f_range T.f_list) ?_) fun H2 s2 => ⟨hΨ H2 ⟨b1.sx s2, l1.t.trans s2.tt, i1.mono s2⟩, l1.t.trans s2.tt⟩
  rw [show ((st : Int) + (c : Int) - (st : Int)).toNat = c by omega]
  rfl
def S_grow (K : PySem.W.Frag) : Hp → List D → (D → Hp → Prop) → Prop := fun H ds Ψ => ∃ y sg st pl c f, C2S K H y sg st ∧ st ≤ 100000 ∧ ds = [.ref y, iD pl, opD (.inc c f)] ∧ ∀ H', AftC K H H' y sg (st + 2) → Ψ (.lst (rlDs (growR pl c f st))) H'
theorem mt_grow : Met P w K mg base 2 (He.ga K "CountersToTuring") "growing" (spX (S_grow K)) := by
  have mn := mt_new (P := P) (w := w) (base := base) T
  refine metX T.c_CountersToTuring T.m_CountersToTuring_growing (fn_CountersToTuring_growing T) sc_CountersToTuring_growing (by decide) (fun H ds d h => by obtain ⟨y, sg, st, pl, c, f, _, _, rfl, _⟩ := h; rfl) fun cdv A outer s H E hr ds Ψ hS => ?_
  obtain ⟨y, sg, st, pl, c, f, hy, hst, rfl, hΨ⟩ := hS
  have nd := sc_CountersToTuring_growing.nd
  refine dss_unp (d := .tup [.str "inc", iD c, iD f]) (de_var 2 rfl) (dg_tup (dgs_cons (dg_name 3 nd) (dgs_cons (dg_name 4 nd) (dgs_cons (dg_name 5 nd) dgs_nil)))) ?_
  refine dss_asg 6 nd (d := .int (awy c)) (de_ifExp (k := decide ((c : Int) = 0)) (dt_eq (de_var 4 rfl) de_int) (fun hk => ?_) (fun hk => ?_)) ?_
  · have := of_decide_eq_true hk
    unfold awy
    rw [if_pos (by omega)]
    exact de_neg de_int
  · have := of_decide_eq_false hk
    unfold awy
    rw [if_neg (by omega)]
    exact de_int
  · unfold growR at hΨ
    generalize awy c = aw at hΨ
    refine dss_unpX (dx_meth mn hr (by decide) (de_var 0 rfl) hy rfl (da_cons (d := iD 2) de_int da_nil) (P := fun d H1 => d = .lst [iD st, iD (st + 1)] ∧ AftC K H H1 y sg (st + 2)) (.cons rfl (.cons rfl (.cons rfl (.cons rfl (.cons rfl (.cons rfl (.cons rfl (.skip (.skip (.skip .nil)))))))))) fun H2 s2 => ⟨y, sg, st, 2, hy.mono s2, hst, by omega, rfl, fun H3 a3 => ⟨rfl, a3.pre s2⟩⟩) ?_
    rintro d H1 ⟨rfl, a1⟩
    refine ⟨_, dg_lst (dgs_cons (dg_name 7 nd) (dgs_cons (dg_name 8 nd) dgs_nil)), ?_⟩
    change DSs _ _ [some (.ref y), some (iD pl), some (opD (.inc c f)), some (.str "inc"), some (iD c), some (iD f), some (.int aw), some (iD st), some (iD (st + 1)), none] _ _ _
    refine dss_asg 9 nd (d := .lst ([.tup [iD pl, iD 2, iD 2, .int aw, iD st], .tup [iD st, iD 1, iD 1, .int aw, iD st], .tup [iD st, iD 0, iD 1, .int (-aw), iD (st + 1)]])) (de_ls (da_cons (d := .tup [iD pl, iD 2, iD 2, .int aw, iD st]) (de_tp (da_cons (de_var 1 rfl) (da_cons (de_gint T.i_MIDDLE) (da_cons (de_gint T.i_MIDDLE) (da_cons (de_var 6 rfl) (da_cons (de_var 7 rfl) da_nil)))))) (da_cons (d := .tup [iD st, iD 1, iD 1, .int aw, iD st]) (de_tp (da_cons (de_var 7 rfl) (da_cons (de_gint T.i_MARK) (da_cons (de_gint T.i_MARK) (da_cons (de_var 6 rfl) (da_cons (de_var 7 rfl) da_nil)))))) (da_cons (d := .tup [iD st, iD 0, iD 1, .int (-aw), iD (st + 1)]) (de_tp (da_cons (de_var 7 rfl) (da_cons de_int (da_cons (de_gint T.i_MARK) (da_cons (de_neg (de_var 6 rfl)) (da_cons (de_var 8 rfl) da_nil)))))) da_nil))) (by show 3 ≤ 100000; omega)) ?_
    refine dss_ret (de_catL (ds2 := [.tup [iD (st + 1), iD 1, iD 1, .int (-aw), iD (st + 1)], .tup [iD (st + 1), iD 2, iD 2, .int 0, iD f]]) (de_var 9 rfl) (de_ls (da_cons (d := .tup [iD (st + 1), iD 1, iD 1, .int (-aw), iD (st + 1)]) (de_tp (da_cons (de_var 8 rfl) (da_cons (de_gint T.i_MARK) (da_cons (de_gint T.i_MARK) (da_cons (de_neg (de_var 6 rfl)) (da_cons (de_var 8 rfl) da_nil)))))) (da_cons (d := .tup [iD (st + 1), iD 2, iD 2, .int 0, iD f]) (de_tp (da_cons (de_var 8 rfl) (da_cons (de_gint T.i_MIDDLE) (da_cons (de_gint T.i_MIDDLE) (da_cons de_int (da_cons (de_var 5 rfl) da_nil)))))) da_nil)) (by show 2 ≤ 100000; omega)) (by simp)) fun H2 s2 => ⟨hΨ H2 (a1.post s2), (a1.post s2).t⟩
def S_shr (K : PySem.W.Frag) : Hp → List D → (D → Hp → Prop) → Prop := fun H ds Ψ => ∃ y sg st pl c f o, C2S K H y sg st ∧ st ≤ 100000 ∧ ds = [.ref y, iD pl, opD (.dec c f o)] ∧ ∀ H', AftC K H H' y sg (st + 4) → Ψ (.lst (rlDs (shrR pl c f o st))) H'
theorem mt_shr : Met P w K mg base 2 (He.ga K "CountersToTuring") "shrinking" (spX (S_shr K)) := by
  have mn := mt_new (P := P) (w := w) (base := base) T
  refine metX T.c_CountersToTuring T.m_CountersToTuring_shrinking (fn_CountersToTuring_shrinking T) sc_CountersToTuring_shrinking (by decide) (fun H ds d h => by obtain ⟨y, sg, st, pl, c, f, o, _, _, rfl, _⟩ := h; rfl) fun cdv A outer s H E hr ds Ψ hS => ?_
  obtain ⟨y, sg, st, pl, c, f, o, hy, hst, rfl, hΨ⟩ := hS
  have nd := sc_CountersToTuring_shrinking.nd
  refine dss_unp (d := .tup [.str "dec", iD c, iD f, iD o]) (de_var 2 rfl) (dg_tup (dgs_cons (dg_name 3 nd) (dgs_cons (dg_name 4 nd) (dgs_cons (dg_name 5 nd) (dgs_cons (dg_name 6 nd) dgs_nil))))) ?_
  refine dss_asg 7 nd (d := .int (awy c)) (de_ifExp (k := decide ((c : Int) = 0)) (dt_eq (de_var 4 rfl) de_int) (fun hk => ?_) (fun hk => ?_)) ?_
  · have := of_decide_eq_true hk
    unfold awy
    rw [if_pos (by omega)]
    exact de_neg de_int
  · have := of_decide_eq_false hk
    unfold awy
    rw [if_neg (by omega)]
    exact de_int
  · unfold shrR at hΨ
    generalize awy c = aw at hΨ
    refine dss_unpX (dx_meth mn hr (by decide) (de_var 0 rfl) hy rfl (da_cons (d := iD 4) de_int da_nil) (P := fun d H1 => d = .lst [iD st, iD (st + 1), iD (st + 2), iD (st + 3)] ∧ AftC K H H1 y sg (st + 4)) (.cons rfl (.cons rfl (.cons rfl (.cons rfl (.cons rfl (.cons rfl (.cons rfl (.cons rfl (.skip (.skip (.skip (.skip (.skip .nil))))))))))))) fun H2 s2 => ⟨y, sg, st, 4, hy.mono s2, hst, by omega, rfl, fun H3 a3 => ⟨rfl, a3.pre s2⟩⟩) ?_
    rintro d H1 ⟨rfl, a1⟩
    refine ⟨_, dg_lst (dgs_cons (dg_name 8 nd) (dgs_cons (dg_name 9 nd) (dgs_cons (dg_name 10 nd) (dgs_cons (dg_name 11 nd) dgs_nil)))), ?_⟩
    change DSs _ _ [some (.ref y), some (iD pl), some (opD (.dec c f o)), some (.str "dec"), some (iD c), some (iD f), some (iD o), some (.int aw), some (iD st), some (iD (st + 1)), some (iD (st + 2)), some (iD (st + 3)), none] _ _ _
    refine dss_asgX 12 nd (dx_lst (ds := [.tup [iD pl, iD 2, iD 2, .int aw, iD st], .tup [iD st, iD 0, iD 0, .int (-aw), iD o], .tup [iD st, iD 1, iD 1, .int aw, iD (st + 1)]]) (da_cons (d := .tup [iD pl, iD 2, iD 2, .int aw, iD st]) (de_tp (da_cons (de_var 1 rfl) (da_cons (de_gint T.i_MIDDLE) (da_cons (de_gint T.i_MIDDLE) (da_cons (de_var 7 rfl) (da_cons (de_var 8 rfl) da_nil)))))) (da_cons (d := .tup [iD st, iD 0, iD 0, .int (-aw), iD o]) (de_tp (da_cons (de_var 8 rfl) (da_cons de_int (da_cons de_int (da_cons (de_neg (de_var 7 rfl)) (da_cons (de_var 6 rfl) da_nil)))))) (da_cons (d := .tup [iD st, iD 1, iD 1, .int aw, iD (st + 1)]) (de_tp (da_cons (de_var 8 rfl) (da_cons (de_gint T.i_MARK) (da_cons (de_gint T.i_MARK) (da_cons (de_var 7 rfl) (da_cons (de_var 9 rfl) da_nil)))))) da_nil))) (by simp)) ?_
    rintro d H2 ⟨q, rfl, hq, lq, s2⟩
    refine dss_ext (ds2 := [.tup [iD (st + 1), iD 1, iD 1, .int aw, iD (st + 1)], .tup [iD (st + 1), iD 0, iD 0, .int (-aw), iD (st + 2)], .tup [iD (st + 2), iD 1, iD 0, .int (-aw), iD (st + 3)]]) (de_var 12 rfl) (de_ls (da_cons (d := .tup [iD (st + 1), iD 1, iD 1, .int aw, iD (st + 1)]) (de_tp (da_cons (de_var 9 rfl) (da_cons (de_gint T.i_MARK) (da_cons (de_gint T.i_MARK) (da_cons (de_var 7 rfl) (da_cons (de_var 9 rfl) da_nil)))))) (da_cons (d := .tup [iD (st + 1), iD 0, iD 0, .int (-aw), iD (st + 2)]) (de_tp (da_cons (de_var 9 rfl) (da_cons de_int (da_cons de_int (da_cons (de_neg (de_var 7 rfl)) (da_cons (de_var 10 rfl) da_nil)))))) (da_cons (d := .tup [iD (st + 2), iD 1, iD 0, .int (-aw), iD (st + 3)]) (de_tp (da_cons (de_var 10 rfl) (da_cons (de_gint T.i_MARK) (da_cons de_int (da_cons (de_neg (de_var 7 rfl)) (da_cons (de_var 11 rfl) da_nil)))))) da_nil))) (by show 3 ≤ 100000; omega)) lq (by simp) (.cons rfl (.cons rfl (.cons rfl (.cons rfl (.cons rfl (.cons rfl (.cons rfl (.cons rfl (.cons rfl (.cons rfl (.cons rfl (.cons rfl (.cons rfl .nil))))))))))))) rfl rfl fun H3 b3 t3 l3 => ?_
    have a3 : AftC K H H3 y sg (st + 4) := ⟨a1.b.trans ((b3.same s2 (fun a ha => by rw [show a = q by simpa using ha]; exact hq)).but), (a1.t.trans s2.tt).trans t3, (a1.i.mono s2).but b3 (fun z => by rw [← show y = q by simpa using z] at hq; exact a1.i.ne hq) rfl t3⟩
    refine dss_ret (de_catA (ds2 := [.tup [iD (st + 3), iD 1, iD 1, .int (-aw), iD (st + 3)], .tup [iD (st + 3), iD 2, iD 2, .int 0, iD f]]) (de_var 12 rfl) l3 (de_ls (da_cons (d := .tup [iD (st + 3), iD 1, iD 1, .int (-aw), iD (st + 3)]) (de_tp (da_cons (de_var 11 rfl) (da_cons (de_gint T.i_MARK) (da_cons (de_gint T.i_MARK) (da_cons (de_neg (de_var 7 rfl)) (da_cons (de_var 11 rfl) da_nil)))))) (da_cons (d := .tup [iD (st + 3), iD 2, iD 2, .int 0, iD f]) (de_tp (da_cons (de_var 11 rfl) (da_cons (de_gint T.i_MIDDLE) (da_cons (de_gint T.i_MIDDLE) (da_cons de_int (da_cons (de_var 5 rfl) da_nil)))))) da_nil)) (by show 2 ≤ 100000; omega)) (by simp)) fun H4 s4 => ⟨hΨ H4 (a3.post s4), (a3.post s4).t⟩
end
end K5
namespace K5
open PySem PySem.Spec PyProof.Rows L2
structure C2Ok (prog : List Op) : Prop where
  pl : prog.length ≤ 3000
  s1 : 1 ≤ (ctR prog prog.length).2
  s2 : (ctR prog prog.length).2 ≤ 20000
  bd : ∀ k, k < prog.length → (ctR prog k).2 ≤ 20000 ∧ (ctR prog k).1.length < 80000
  ok : ∀ r ∈ (ctR prog prog.length).1, RlOk (ctR prog prog.length).2 3 r
  un : Uniq (ctR prog prog.length).1
  ln : (ctR prog prog.length).1.length < 90000
structure C2I where
  y : Nat
  sg : Nat
  g : Nat
  prog : List Op
/-- the translation of two counters to a Turing machine -/
structure C2At (K : PySem.W.Frag) (H : Hp) (I : C2I) : Prop where
  y : Ins H I.y (He.ga K "CountersToTuring") [("source", .ref I.sg), ("states", iD (ctR I.prog I.prog.length).2), ("target", .ref I.g)]
  sg : RegAt K H I.sg 2 I.prog
  g : TurAt K H I.g (ctR I.prog I.prog.length).2 3 (ctR I.prog I.prog.length).1
theorem C2At.mono {K : PySem.W.Frag} {H H' : Hp} {I : C2I} (h : C2At K H I) (s : Sx H H') : C2At K H' I := ⟨h.y.mono s, h.sg.mono s, h.g.mono s⟩
theorem noL_rls (rs : List Rl) : noLs (rlDs rs) = true := noL_rlDs rs
section
variable {P : Program} {w : World} {K : PySem.W.Frag} {mg : Str → Option Value} {base : Heap} (T : Tx K mg)
include T
def S_C2_init (K : PySem.W.Frag) : Hp → Addr → List D → (Hp → Prop) → Prop := fun H y ds Ψ => ∃ sg prog, RegAt K H sg 2 prog ∧ C2Ok prog ∧ ds = [.ref sg] ∧ ∀ H' g, C2At K H' ⟨y, sg, g, prog⟩ → Ψ H'
theorem mk_C2T : Mak P w K mg base 3 "CountersToTuring" (He.ga K "CountersToTuring") (spI (He.ga K "CountersToTuring") (S_C2_init K)) [] := by
  have mgr := mt_grow (P := P) (w := w) (base := base) T
  have msh := mt_shr (P := P) (w := w) (base := base) T
  have mtu := mk_Turing (P := P) (w := w) (base := base) T
  refine makI T.k_CountersToTuring T.g_CountersToTuring (fn_CountersToTuring_init T) sc_CountersToTuring_init (by decide) (fun H y ds Ψ h => by obtain ⟨sg, prog, _, _, rfl, _⟩ := h; rfl) fun cdv A outer s H E hr y ds Ψ hy hS => ?_
  obtain ⟨sg, prog, hsg, ok, rfl, hΨ⟩ := hS
  have nd := sc_CountersToTuring_init.nd
  have hpl := ok.pl
  have ol : (opDs prog).length = prog.length := List.length_map ..
  have sy : sg ≠ y := by
    rintro rfl
    have := ins_len hy hsg
    simp at this
  refine dss_skip (DW.t (dw_or (k1 := false) (k2 := false) (DT.is (dt_not (k := true) (dt_val (de_isiO (de_var 1 rfl) hsg T.is_Registers T.g_Registers T.is_Registers.me T.f_isinstance))) rfl) fun _ => dw_or (k1 := false) (k2 := false) (DT.is (dt_ne (m := 2) (de_fld (de_var 1 rfl) hsg T.c_Registers T.n_Registers_count rfl) de_int) (by decide)) fun _ => dw_or1 (DT.is (dt_gt (de_lenT T.f_len (de_fld (de_var 1 rfl) hsg T.c_Registers T.n_Registers_instructions rfl)) (de_gint T.i_MOST_INSTRUCTIONS_countertapes)) (by rw [ol]; simp; omega)))) ?_
  refine dss_fld (de_var 0 rfl) (de_var 1 rfl) hy T.c_CountersToTuring T.n_CountersToTuring_source (by decide) fun H1 b1 l1 i1 => ?_
  have hsg1 : RegAt K H1 sg 2 prog := Ins.butL hsg b1 (by simpa using sy) l1
  refine dss_fld (d := iD prog.length) (de_var 0 rfl) (DE.is (de_lenT T.f_len (de_fld (de_var 1 rfl) hsg1 T.c_Registers T.n_Registers_instructions rfl)) (by rw [ol])) i1 T.c_CountersToTuring T.n_CountersToTuring_states (by show 1 < 1000; omega) fun H2 b2 l2 i2 => ?_
  have hsg2 : RegAt K H2 sg 2 prog := Ins.butL hsg1 b2 (by simpa using sy) l2
  refine dss_asgX 2 nd (dx_lst da_nil) ?_
  rintro d H3 ⟨q, rfl, hq, lq, s3⟩
  have qy : q ≠ y := by rintro rfl; exact i2.ne hq
  have hq0 : H q = none := b1.back (b2.back hq)
  refine dss_forE (fun H0 i ρ' H' => But [y, q] H0 H' ∧ SameT H0 H' ∧ But [y, q] H H' ∧ C2S K H' y sg (ctR prog i).2 ∧ RegAt K H' sg 2 prog ∧ LstAt H' q (rlDs (ctR prog i).1) ∧ ρ' = [some (.ref y), some (.ref sg), some (.ref q), none, none]) (de_fld (de_var 1 rfl) (hsg2.mono s3) T.c_Registers T.n_Registers_instructions rfl) (noL_opDs prog) ?_ ?_ ?_ ?_ ?_ T.f_enumerate
  · exact fun H4 s4 => ⟨_, Wk.refl _, But.refl _, SameT.refl _, ((b1.trans b2).sub fun a ha => by rw [show a = y by simpa using ha]; exact List.mem_cons_self).sx (s3.trans s4), i2.mono (s3.trans s4), hsg2.mono (s3.trans s4), lq.mono s4, rfl⟩
  · exact fun _ _ _ _ z => z.2.1
  · rintro H0 i ρ' H' H'' ⟨z1, z2, z3, z4, z5, z6, z7⟩ sx
    exact ⟨z1.sx sx, z2.trans sx.tt, z3.sx sx, z4.mono sx, z5.mono sx, z6.mono sx, z7⟩
  · rintro H0 s0 i d ρ' H' hd ⟨z1, z2, z3, z4, z5, z6, rfl⟩
    obtain ⟨o, ho, rfl⟩ : ∃ o, prog[i]? = some o ∧ d = opD o := by
      unfold opDs at hd
      rw [List.getElem?_map] at hd
      cases q : prog[i]? with
      | none => rw [q] at hd; cases hd
      | some o => rw [q] at hd; exact ⟨o, rfl, (Option.some.inj hd).symm⟩
    have hin : i < prog.length := (List.getElem?_eq_some_iff.mp ho).1
    obtain ⟨bb1, bb2⟩ := ok.bd i hin
    have est : ctR prog (i + 1) = ctOp o i (ctR prog i) := by
      show ctOp (prog.getD i .fin) i (ctR prog i) = _
      rw [List.getD_eq_getElem?_getD, ho]
      rfl
    rw [est]
    generalize ctR prog i = st at z4 z6 bb1 bb2
    refine ⟨_, dg_tup (dgs_cons (dg_name 3 nd) (dgs_cons (dg_name 4 nd) dgs_nil)), ?_⟩
    have pn : Plain [some (.ref y), some (.ref sg), some (.ref q), some (iD i), some (opD o)] := .cons rfl (.cons rfl (.cons rfl (.cons rfl (.cons (by cases o <;> rfl) .nil))))
    have fin : ∀ {H4 H5 : Hp} {st' : Nat} {rs' : List Rl}, AftC K H' H4 y sg st' → But [q] H4 H5 → SameT H4 H5 → LstAt H5 q (rlDs rs') → But [y, q] H0 H5 ∧ SameT H0 H5 ∧ But [y, q] H H5 ∧ C2S K H5 y sg st' ∧ RegAt K H5 sg 2 prog ∧ LstAt H5 q (rlDs rs') := fun {H4 H5 st' rs'} a b t l => by
      have bb : But [y, q] H' H5 := (a.b.sub fun u hu => by rw [show u = y by simpa using hu]; exact List.mem_cons_self).trans (b.sub fun u hu => by rw [show u = q by simpa using hu]; exact List.mem_cons_of_mem _ List.mem_cons_self)
      have tt := a.t.trans t
      have sq : sg ≠ q := by
        rintro rfl
        obtain ⟨xs, e, _⟩ := z6
        obtain ⟨_, _, e2, _⟩ := z5
        rw [e] at e2
        cases e2
      refine ⟨z1.trans bb, z2.trans tt, z3.trans bb, a.i.but b (by simpa using qy.symm) rfl t, Ins.but z5 bb (by simp; exact ⟨sy, sq⟩) (noLf_reg _ _) tt, l⟩
    cases o with
    | fin =>
      refine dss_ifF (N1 := fun ρ1 H1 => Sx H' H1 ∧ ρ1 = [some (.ref y), some (.ref sg), some (.ref q), some (iD i), some (opD .fin)]) (DT.is (dt_eqS (x := "end") (de_ixT (t := 0) (ds := [.str "end"]) (de_var 4 rfl) de_int rfl rfl) de_str) (by decide +kernel)) (dss_skip (DT.is (dt_eqS (x := "end") (de_ixT (t := 0) (ds := [.str "end"]) (de_var 4 rfl) de_int rfl rfl) de_str) (by decide +kernel)) (dss_nil fun H4 s4 => ⟨s4, rfl⟩)) ?_
      rintro ρ1 H1 ⟨s4, rfl⟩
      exact dss_nil fun H5 s5 => ⟨_, .same (.same (.same (.drop (.drop .nil)))), z1.sx (s4.trans s5), z2.trans (s4.trans s5).tt, z3.sx (s4.trans s5), z4.mono (s4.trans s5), z5.mono (s4.trans s5), z6.mono (s4.trans s5), rfl⟩
    | inc c f =>
      refine dss_ifT (N1 := fun ρ1 H1 => (But [y, q] H0 H1 ∧ SameT H0 H1 ∧ But [y, q] H H1 ∧ C2S K H1 y sg (st.2 + 2) ∧ RegAt K H1 sg 2 prog ∧ LstAt H1 q (rlDs (st.1 ++ growR i c f st.2))) ∧ ρ1 = [some (.ref y), some (.ref sg), some (.ref q), some (iD i), some (opD (.inc c f))]) (DT.is (dt_eqS (x := "inc") (de_ixT (t := 0) (ds := [.str "inc", iD c, iD f]) (de_var 4 rfl) de_int rfl rfl) de_str) (decide_eq_true rfl)) ?_ ?_
      · refine dss_extX (p := q) (de_var 2 rfl) (dx_meth mgr hr (by decide) (de_var 0 rfl) z4 rfl (da_cons (de_var 3 rfl) (da_cons (de_var 4 rfl) da_nil)) (P := fun d H1 => d = .lst (rlDs (growR i c f st.2)) ∧ AftC K H' H1 y sg (st.2 + 2)) pn fun H4 s4 => ⟨y, sg, st.2, i, c, f, z4.mono s4, by omega, rfl, fun H5 a5 => ⟨rfl, a5.pre s4⟩⟩) z6 pn ?_
        rintro d H4 ⟨rfl, a4⟩
        refine ⟨rlDs st.1, rlDs (growR i c f st.2), rfl, z6.but a4.b (by simpa using qy) (noL_rlDs _) a4.t, by unfold rlDs; simp [growR]; omega, noL_rlDs _, noL_rlDs _, fun H5 b5 t5 l5 => dss_nil fun H6 s6 => ⟨?_, rfl⟩⟩
        refine fin a4 (b5.sx s6) (t5.trans s6.tt) ?_
        unfold rlDs at l5 ⊢
        rw [List.map_append]
        exact l5.mono s6
      · rintro ρ1 H1 ⟨⟨w1, w2, w3, w4, w5, w6⟩, rfl⟩
        exact dss_nil fun H5 s5 => ⟨_, .same (.same (.same (.drop (.drop .nil)))), w1.sx s5, w2.trans s5.tt, w3.sx s5, w4.mono s5, w5.mono s5, w6.mono s5, rfl⟩
    | dec c f o =>
      refine dss_ifF (N1 := fun ρ1 H1 => (But [y, q] H0 H1 ∧ SameT H0 H1 ∧ But [y, q] H H1 ∧ C2S K H1 y sg (st.2 + 4) ∧ RegAt K H1 sg 2 prog ∧ LstAt H1 q (rlDs (st.1 ++ shrR i c f o st.2))) ∧ ρ1 = [some (.ref y), some (.ref sg), some (.ref q), some (iD i), some (opD (.dec c f o))]) (DT.is (dt_eqS (x := "dec") (de_ixT (t := 0) (ds := [.str "dec", iD c, iD f, iD o]) (de_var 4 rfl) de_int rfl rfl) de_str) (by decide +kernel)) (dss_ifT (N1 := fun ρ1 H1 => (But [y, q] H0 H1 ∧ SameT H0 H1 ∧ But [y, q] H H1 ∧ C2S K H1 y sg (st.2 + 4) ∧ RegAt K H1 sg 2 prog ∧ LstAt H1 q (rlDs (st.1 ++ shrR i c f o st.2))) ∧ ρ1 = [some (.ref y), some (.ref sg), some (.ref q), some (iD i), some (opD (.dec c f o))]) (DT.is (dt_eqS (x := "dec") (de_ixT (t := 0) (ds := [.str "dec", iD c, iD f, iD o]) (de_var 4 rfl) de_int rfl rfl) de_str) (decide_eq_true rfl)) ?_ ?_) ?_
      · refine dss_extX (p := q) (de_var 2 rfl) (dx_meth msh hr (by decide) (de_var 0 rfl) z4 rfl (da_cons (de_var 3 rfl) (da_cons (de_var 4 rfl) da_nil)) (P := fun d H1 => d = .lst (rlDs (shrR i c f o st.2)) ∧ AftC K H' H1 y sg (st.2 + 4)) pn fun H4 s4 => ⟨y, sg, st.2, i, c, f, o, z4.mono s4, by omega, rfl, fun H5 a5 => ⟨rfl, a5.pre s4⟩⟩) z6 pn ?_
        rintro d H4 ⟨rfl, a4⟩
        refine ⟨rlDs st.1, rlDs (shrR i c f o st.2), rfl, z6.but a4.b (by simpa using qy) (noL_rlDs _) a4.t, by unfold rlDs; simp [shrR]; omega, noL_rlDs _, noL_rlDs _, fun H5 b5 t5 l5 => dss_nil fun H6 s6 => ⟨?_, rfl⟩⟩
        refine fin a4 (b5.sx s6) (t5.trans s6.tt) ?_
        unfold rlDs at l5 ⊢
        rw [List.map_append]
        exact l5.mono s6
      · rintro ρ1 H1 ⟨⟨w1, w2, w3, w4, w5, w6⟩, rfl⟩
        exact dss_nil fun H5 s5 => ⟨⟨w1.sx s5, w2.trans s5.tt, w3.sx s5, w4.mono s5, w5.mono s5, w6.mono s5⟩, rfl⟩
      · rintro ρ1 H1 ⟨⟨w1, w2, w3, w4, w5, w6⟩, rfl⟩
        exact dss_nil fun H5 s5 => ⟨_, .same (.same (.same (.drop (.drop .nil)))), w1.sx s5, w2.trans s5.tt, w3.sx s5, w4.mono s5, w5.mono s5, w6.mono s5, rfl⟩
  · rintro H0 s0 ρ' H4 ⟨z1, z2, z3, z4, z5, z6, rfl⟩
    rw [ol] at z4 z6
    refine dss_fldX y (dn_make mtu hr (by decide) (da_cons (d := iD (ctR prog prog.length).2) (de_fld (de_var 0 rfl) z4 T.c_CountersToTuring T.n_CountersToTuring_states rfl) (da_cons (d := iD 3) de_int (da_cons (d := .lst (rlDs (ctR prog prog.length).1)) (de_frz (de_var 2 rfl) z6) da_nil))) (fun H => DatL.nil) (Pm := fun g H' => TurAt K H' g (ctR prog prog.length).2 3 (ctR prog prog.length).1) fun H5 g s5 hg i5 => ⟨(ctR prog prog.length).2, 3, (ctR prog prog.length).1, ok.s1, ok.s2, by omega, by omega, ok.ok, ok.un, ok.ln, rfl, fun H6 h6 => h6⟩).dx T.c_CountersToTuring T.n_CountersToTuring_target ?_
    rintro d H5 ⟨⟨g, rfl, hg, ⟨ta, rs', tI, tD, tP⟩⟩, s5⟩
    refine ⟨de_var 0 rfl, _, z4.mono s5, by show 2 < 1000; omega, fun H6 b6 l6 i6 => ?_⟩
    have gy : g ≠ y := by rintro rfl; exact z4.ne hg
    have tay := ins_ne_dic (z4.mono s5) tD
    refine dss_nil fun H7 s7 => ⟨hΨ H7 g (C2At.mono ⟨i6, Ins.butL (z5.mono s5) b6 (by simpa using sy) l6, ta, rs', tI.butL b6 (by simpa using gy) l6, tD.butN b6 (by simpa using tay.symm) l6, tP⟩ s7), ?_⟩
    refine (z3.cut ?_).trans ((s5.thenBut b6).sx s7)
    intro a ha hay
    rcases List.mem_cons.mp ha with h | h
    · exact absurd h hay
    · rw [show a = q by simpa using h]; exact hq0
end
end K5
namespace K5
open PySem PySem.Spec PyProof.Rows L2
def cost3 (o : Op) (vs : List Nat) : Nat := match o with
  | .fin => 0
  | .inc c _ => 2 * vs.getD c 0 + 3
  | .dec c _ _ => if vs.getD c 0 = 0 then 2 else 2 * vs.getD c 0 + 3
theorem iDs_rep (n k : Nat) : List.replicate n (iD k) = iDs (List.replicate n k) := (List.map_replicate).symm
section
variable {P : Program} {w : World} {K : PySem.W.Frag} {mg : Str → Option Value} {base : Heap} (T : Tx K mg)
include T
def S_C2_pic : Hp → List D → D → Prop := fun H ds d => ∃ (y pc a b : Nat), a + b ≤ 100000 ∧ ds = [.ref y, vcD (pc, [a, b])] ∧ d = cfD ⟨pc, List.replicate a 1, 2, List.replicate b 1⟩
theorem mt_C2_pic : Met P w K mg base 2 (He.ga K "CountersToTuring") "picture" (spF S_C2_pic) := by
  have mc := ok_check_picture (P := P) (w := w) (base := base) T
  refine metF T.c_CountersToTuring T.m_CountersToTuring_picture (fn_CountersToTuring_picture T) sc_CountersToTuring_picture (by decide) (fun H ds d h => by obtain ⟨y, pc, a, b, _, rfl, _⟩ := h; rfl) fun cdv A outer s H E hr ds d hS => ?_
  obtain ⟨y, pc, a, b, hz, rfl, rfl⟩ := hS
  have nd := sc_CountersToTuring_picture.nd
  refine dss_unp (de_var 1 rfl) (dg_tup (dgs_cons (dg_name 2 nd) (dgs_cons (dg_name 3 nd) dgs_nil))) ?_
  refine dss_expr (d := .non) (de_call mc hr (by decide) (da_cons (d := iD (a + b)) (DE.is (de_sumT (ns := [(a : Int), (b : Int)]) T.f_sum (de_var 3 rfl)) (by show D.int _ = D.int _; congr 1; try simp)) da_nil) fun H2 s2 => ⟨a + b, hz, rfl, rfl⟩) ?_
  refine dss_ret (d := cfD ⟨pc, List.replicate a 1, 2, List.replicate b 1⟩) (de_tp (da_cons (de_var 2 rfl) (da_cons (DE.is (de_rep1 (d := iD 1) (n := a) (de_tp (da_cons (de_gint T.i_MARK) da_nil)) (de_ixT (t := 0) (d := iD a) (de_var 3 rfl) de_int rfl rfl) (by omega)) (congrArg D.tup (iDs_rep a 1))) (da_cons (de_gint T.i_MIDDLE) (da_cons (DE.is (de_rep1 (d := iD 1) (n := b) (de_tp (da_cons (de_gint T.i_MARK) da_nil)) (de_ixT (t := 1) (d := iD b) (de_var 3 rfl) de_int rfl rfl) (by omega)) (congrArg D.tup (iDs_rep b 1))) da_nil))))) fun H2 s2 => ⟨rfl, s2⟩
def S_C2_back : Hp → List D → D → Prop := fun H ds d => ∃ (y : Nat) (c : Cf), ds = [.ref y, cfD c] ∧ d = vcD (c.s, [c.l.length, c.r.length])
theorem mt_C2_back : Met P w K mg base 1 (He.ga K "CountersToTuring") "read_back" (spF S_C2_back) := by
  refine metF T.c_CountersToTuring T.m_CountersToTuring_read_back (fn_CountersToTuring_read_back T) sc_CountersToTuring_read_back (by decide) (fun H ds d h => by obtain ⟨y, c, rfl, _⟩ := h; rfl) fun cdv A outer s H E hr ds d hS => ?_
  obtain ⟨y, c, rfl, rfl⟩ := hS
  have nd := sc_CountersToTuring_read_back.nd
  refine dss_unp (de_var 1 rfl) (dg_tup (dgs_cons (dg_name 2 nd) (dgs_cons (dg_name 3 nd) (dgs_cons (dg_name 4 nd) (dgs_cons (dg_name 5 nd) dgs_nil))))) ?_
  exact dss_ret (d := vcD (c.s, [c.l.length, c.r.length])) (de_tp (da_cons (de_var 2 rfl) (da_cons (de_tp (da_cons (d := iD c.l.length) (DE.is (de_lenT T.f_len (de_var 3 rfl)) (by rw [List.length_map])) (da_cons (d := iD c.r.length) (DE.is (de_lenT T.f_len (de_var 5 rfl)) (by rw [List.length_map])) da_nil))) da_nil))) fun H2 s2 => ⟨rfl, s2⟩
def S_C2_cost (K : PySem.W.Frag) : Hp → List D → D → Prop := fun H ds d => ∃ (I : C2I) (pc a b len : Nat) (o : Op), C2At K H I ∧ I.prog[pc]? = some o ∧ o ≠ .fin ∧ OpOk 2 len o ∧ ds = [.ref I.y, vcD (pc, [a, b])] ∧ d = iD (cost3 o [a, b])
theorem mt_C2_cost : Met P w K mg base 1 (He.ga K "CountersToTuring") "cost" (spF (S_C2_cost K)) := by
  refine metF T.c_CountersToTuring T.m_CountersToTuring_cost (fn_CountersToTuring_cost T) sc_CountersToTuring_cost (by decide) (fun H ds d h => by obtain ⟨I, pc, a, b, len, o, _, _, _, _, rfl, _⟩ := h; rfl) fun cdv A outer s H E hr ds d hS => ?_
  obtain ⟨I, pc, a, b, len, o, h, ho, hof, ok, rfl, rfl⟩ := hS
  have nd := sc_CountersToTuring_cost.nd
  have hpl : pc < I.prog.length := (List.getElem?_eq_some_iff.mp ho).1
  have ix : ∀ c, c < 2 → (iDs [a, b])[c]? = some (iD ([a, b].getD c 0)) := fun c hc => by
    match c, hc with
    | 0, _ => rfl
    | 1, _ => rfl
  refine dss_unp (de_var 1 rfl) (dg_tup (dgs_cons (dg_name 2 nd) (dgs_cons (dg_name 3 nd) dgs_nil))) ?_
  refine dss_asg 4 nd (d := opD o) (de_ixT (t := pc) (de_fld (de_fld (de_var 0 rfl) h.y T.c_CountersToTuring T.n_CountersToTuring_source rfl) h.sg T.c_Registers T.n_Registers_instructions rfl) (de_var 2 rfl) (by unfold opDs; rw [List.length_map]; exact ixN_nat hpl) (by unfold opDs; rw [List.getElem?_map, ho]; rfl)) ?_
  unfold cost3
  cases o with
  | fin => exact absurd rfl hof
  | inc c f =>
    refine dss_asg 5 nd (d := iD ([a, b].getD c 0)) (de_ixT (t := c) (de_var 3 rfl) (de_ixT (t := 1) (ds := [.str "inc", iD c, iD f]) (d := iD c) (de_var 4 rfl) de_int rfl rfl) (by exact ixN_nat ok.1) (ix c ok.1)) ?_
    simp only
    generalize [a, b].getD c 0 = v
    refine dss_skip (DW.t (dw_and (k1 := false) (k2 := false) (DT.is (dt_eqS (x := "inc") (de_ixT (t := 0) (ds := [.str "inc", iD c, iD f]) (de_var 4 rfl) de_int rfl rfl) de_str) (by decide +kernel)) fun z => by cases z)) ?_
    exact dss_ret (DE.is (d' := iD (2 * v + 3)) (de_add (de_mul de_int (de_var 5 rfl) (.inl ⟨by omega, by omega⟩)) de_int) rfl) fun H2 s2 => ⟨rfl, s2⟩
  | dec c f o =>
    refine dss_asg 5 nd (d := iD ([a, b].getD c 0)) (de_ixT (t := c) (de_var 3 rfl) (de_ixT (t := 1) (ds := [.str "dec", iD c, iD f, iD o]) (d := iD c) (de_var 4 rfl) de_int rfl rfl) (by exact ixN_nat ok.1) (ix c ok.1)) ?_
    simp only
    generalize [a, b].getD c 0 = v
    refine dss_guard (kb := decide (v = 0)) (DW.t (dw_and (k1 := true) (k2 := decide (v = 0)) (DT.is (dt_eqS (x := "dec") (de_ixT (t := 0) (ds := [.str "dec", iD c, iD f, iD o]) (de_var 4 rfl) de_int rfl rfl) de_str) (decide_eq_true rfl)) fun _ => dw_and1 (DT.is (dt_eq (de_var 5 rfl) de_int) (decide_eq_decide.mpr (by omega))))) (fun hk => ?_) (fun hk => ?_)
    · exact dss_ret (d := iD 2) de_int fun H2 s2 => ⟨by rw [if_pos (of_decide_eq_true hk)], s2⟩
    · exact dss_ret (DE.is (d' := iD (2 * v + 3)) (de_add (de_mul de_int (de_var 5 rfl) (.inl ⟨by omega, by omega⟩)) de_int) rfl) fun H2 s2 => ⟨by rw [if_neg (of_decide_eq_false hk)], s2⟩
theorem mt_C2_last : Met P w K mg base 1 (He.ga K "CountersToTuring") "last_steps" (spF S_zero) := by
  refine metF T.c_CountersToTuring T.m_CountersToTuring_last_steps (fn_CountersToTuring_last_steps T) sc_CountersToTuring_last_steps (by decide) (fun H ds d h => by obtain ⟨a, c, rfl, _⟩ := h; rfl) fun cdv A outer s H E hr ds d hS => ?_
  obtain ⟨a, c, rfl, rfl⟩ := hS
  exact dss_ret de_int fun H2 s2 => ⟨rfl, s2⟩
end
end K5
namespace K5
open PySem PySem.Spec PyProof.Rows L2
section
variable {X : Cx} {a b : Expr} {ρ : Rho} {B : Hp} {pos : Pos} {k : Nat} {f C p : Addr} {fd : FuncData} {ps : List Str} {S : Hp → List D → D → Prop} {gs : List (Str × D)}
theorem dt_neOwn (F : FnOk X.prog X.w X.K X.mg X.base CX0 k f fd ps (spF S)) (O : OwnNe X.K C f) (hb : Binds X.K fd ps []) (hr : Room (k + 1) X.A) (ha : DE X a ρ B (.ref p)) (hb2 : DE X b ρ B (.ref p)) (hi : Ins B p C gs) (hS : ∀ H, Sx B H → S H [.ref p, .ref p] (.bl true)) :
    DT X (.Compare a [.NotEq] [b] pos) ρ B false := dt_cmp (op_neOwn F O hb hr) (nomark _) ha hb2 fun H x y s e1 e2 Q q => by
  obtain ⟨dx, fs, e, _⟩ := hi.mono s
  exact ⟨p, dx, fs, e1, e2, e, hS H s, q⟩
end
/-- the three translations, joined -/
structure ChI where
  y : Nat
  tl : Nat
  a : T2I
  b : R2I
  c : C2I
structure ChAt (K : PySem.W.Frag) (H : Hp) (I : ChI) : Prop where
  y : Ins H I.y (He.ga K "Chain") [("translations", .ref I.tl), ("limit", iD 100000), ("source", .ref I.a.t), ("target", .ref I.c.g)]
  tl : LstAt H I.tl [.ref I.a.y, .ref I.b.y, .ref I.c.y]
  a : T2H K H I.a
  b : R2At K H I.b
  c : C2At K H I.c
  l1 : I.b.sg = I.a.g
  l2 : I.c.sg = I.b.g
  p1 : I.b.prog = I.a.prog
  p2 : I.c.prog = I.b.prog2
theorem ChAt.mono {K : PySem.W.Frag} {H H' : Hp} {I : ChI} (h : ChAt K H I) (s : Sx H H') : ChAt K H' I := ⟨h.y.mono s, h.tl.mono s, h.a.mono s, h.b.mono s, h.c.mono s, h.l1, h.l2, h.p1, h.p2⟩
section
variable {P : Program} {w : World} {K : PySem.W.Frag} {mg : Str → Option Value} {base : Heap} (T : Tx K mg)
include T
def S_Ch_init (K : PySem.W.Frag) : Hp → Addr → List D → (Hp → Prop) → Prop := fun H y ds Ψ => ∃ (a : T2I) (b : R2I) (c : C2I), T2H K H a ∧ R2At K H b ∧ C2At K H c ∧ b.sg = a.g ∧ c.sg = b.g ∧ GxR.TabG H (He.cT K qCh).2 ∧ ds = [.lst [.ref a.y, .ref b.y, .ref c.y], iD 100000] ∧
  ∀ H' tl, Ins H' y (He.ga K "Chain") [("translations", .ref tl), ("limit", iD 100000), ("source", .ref a.t), ("target", .ref c.g)] → LstAt H' tl [.ref a.y, .ref b.y, .ref c.y] → Ψ H'
theorem mk_Chain (TB : GxR.TabB base mg (He.codeOf K qCh) (He.cT K qCh).2) : Mak P w K mg base 3 "Chain" (He.ga K "Chain") (spI (He.ga K "Chain") (S_Ch_init K)) [V.int 100000] := by
  obtain ⟨fe, Fe, Be⟩ := fn_Registers_eq T
  have oe := ok_Reg_eq (P := P) (w := w) (base := base) T Fe
  refine makGd T.k_Chain T.g_Chain (fn_Chain_init T) (q := qCh) rfl sc_Chain_init (by decide) (fun H y ds Ψ h => by obtain ⟨a, b, c, _, _, _, _, _, _, rfl, _⟩ := h; rfl) fun A outer s H E hr y ds Ψ hy hS => ?_
  obtain ⟨a, b, c, ha, hb, hc, l1, l2, tg, rfl, hΨ⟩ := hS
  have nd := sc_Chain_init.nd
  have ay : a.y ≠ y := by intro e; have := ins_len hy (e ▸ ha.y); simp at this
  have cy : c.y ≠ y := by intro e; have := ins_len hy (e ▸ hc.y); simp at this
  refine dss_skip (DT.is (dt_eq (de_lenL T.f_len (de_var 1 rfl)) de_int) (by simp)) ?_
  refine dss_forR2 (fun H0 i ρ' H' => Sx H H' ∧ ρ' = [some (.ref y), some (.lst [.ref a.y, .ref b.y, .ref c.y]), some (iD 100000), none]) de_int (de_lenL T.f_len (de_var 1 rfl)) (by simp) ?_ ?_ ?_ T.f_range
  · exact fun H2 s2 => ⟨_, Wk.refl _, s2, rfl⟩
  · rintro H0 s0 i ρ' H' hi ⟨s2, rfl⟩
    have hi2 : i < 2 := by simp at hi; omega
    refine ⟨_, dg_name 3 nd, ?_⟩
    match i, hi2 with
    | 0, _ =>
      refine dss_skip (dt_neOwn (p := a.g) oe T.ne_Registers Be hr (de_fld (de_ixL (n := 0) (t := 0) (d := .ref a.y) (de_var 1 rfl) (DE.is (de_sub (de_var 3 rfl) de_int) rfl) rfl rfl) (ha.y.mono s2) T.c_TuringToRegisters T.n_TuringToRegisters_target rfl) (DE.is (de_fld (de_ixL (n := 1) (t := 1) (d := .ref b.y) (de_var 1 rfl) (de_var 3 rfl) rfl rfl) (hb.y.mono s2) T.c_RegistersToCounters T.n_RegistersToCounters_source rfl) (by rw [l1])) (ha.g.mono s2) fun H3 s3 => ⟨a.g, 3, a.prog, ha.g.mono (s2.trans s3), rfl, rfl⟩) (dss_nil fun H4 s4 => ⟨_, .same (.same (.same (.drop .nil))), s2.trans s4, rfl⟩)
    | 1, _ =>
      refine dss_skip (dt_neOwn (p := b.g) oe T.ne_Registers Be hr (de_fld (de_ixL (n := 1) (t := 1) (d := .ref b.y) (de_var 1 rfl) (DE.is (de_sub (de_var 3 rfl) de_int) rfl) rfl rfl) (hb.y.mono s2) T.c_RegistersToCounters T.n_RegistersToCounters_target rfl) (DE.is (de_fld (de_ixL (n := 2) (t := 2) (d := .ref c.y) (de_var 1 rfl) (de_var 3 rfl) rfl rfl) (hc.y.mono s2) T.c_CountersToTuring T.n_CountersToTuring_source rfl) (by rw [l2])) (hb.g.mono s2) fun H3 s3 => ⟨b.g, 2, b.prog2, hb.g.mono (s2.trans s3), rfl, rfl⟩) (dss_nil fun H4 s4 => ⟨_, .same (.same (.same (.drop .nil))), s2.trans s4, rfl⟩)
  · rintro H0 s0 ρ' H' ⟨s2, rfl⟩
    refine dss_skip (dt_val (de_anyI (ds := [.ref a.y, .ref b.y]) (Ct := He.ga K "Strings") hr T.f_any TB rfl ⟨rfl, rfl, by decide +kernel, rfl, rfl, ?_⟩ (DE.is (de_sliceL (de_var 1 rfl) do_no (do_so (de_neg de_int))) (congrArg D.lst (cut_m1 _))) (s2.t _ tg) ?_ T.f_isinstance T.g_Strings)) ?_
    · intro z hz e
      exact cell_has (by
        revert z
        decide +kernel)
    · intro d hd
      simp only [List.mem_cons, List.not_mem_nil, or_false] at hd
      rcases hd with rfl | rfl
      · exact ⟨a.y, a.g, _, _, _, _, rfl, ha.y.mono s2, T.c_TuringToRegisters, T.n_TuringToRegisters_target, rfl, ha.g.mono s2, T.is_Registers, T.ko_RS⟩
      · exact ⟨b.y, b.g, _, _, _, _, rfl, hb.y.mono s2, T.c_RegistersToCounters, T.n_RegistersToCounters_target, rfl, hb.g.mono s2, T.is_Registers, T.ko_RS⟩
    · refine dss_fld (d := .lst [.ref a.y, .ref b.y, .ref c.y]) (de_var 0 rfl) (de_listL T.f_list (de_var 1 rfl)) (hy.mono s2) T.c_Chain T.n_Chain_translations (by decide) fun H1 b1 l1' i1 => ?_
      obtain ⟨tl, i1', htl⟩ := Ins.thaw (g1 := []) (g2 := []) i1
      refine dss_fld (d := iD 100000) (de_var 0 rfl) (de_var 2 rfl) i1' T.c_Chain T.n_Chain_limit (by show 1 < 1000; omega) fun H2 b2 l2' i2 => ?_
      have ia2 := ((ha.y.mono s2).butL b1 (by simpa using ay) l1').butL b2 (by simpa using ay) l2'
      have ic2 := ((hc.y.mono s2).butL b1 (by simpa using cy) l1').butL b2 (by simpa using cy) l2'
      refine dss_fld (d := .ref a.t) (de_var 0 rfl) (de_fld (de_ixL (t := 0) (d := .ref a.y) (de_var 1 rfl) de_int rfl rfl) ia2 T.c_TuringToRegisters T.n_TuringToRegisters_source rfl) i2 T.c_Chain T.n_Chain_source (by show 2 < 1000; omega) fun H3 b3 l3' i3 => ?_
      have ic3 := ic2.butL b3 (by simpa using cy) l3'
      refine dss_fld (d := .ref c.g) (de_var 0 rfl) (de_fld (de_ixL (t := 2) (d := .ref c.y) (de_var 1 rfl) (de_neg de_int) rfl rfl) ic3 T.c_CountersToTuring T.n_CountersToTuring_target rfl) i3 T.c_Chain T.n_Chain_target (by show 3 < 1000; omega) fun H4 b4 l4' i4 => ?_
      exact dss_nil fun H5 s5 => ⟨hΨ H5 tl (i4.mono s5) ((((htl.butL l2').butL l3').butL l4').mono s5), (s2.thenBut (((b1.trans b2).trans b3).trans b4)).sx s5⟩
end
end K5
namespace K5
open PySem PySem.Spec PyProof.Rows L2
abbrev Rc := Nat × List Nat
def iterR (p : List Op) : Nat → Rc → Rc
  | 0, c => c
  | k + 1, c => (stepR p (iterR p k c)).getD (0, [])
def sumR (p : List Op) (f : Rc → Nat) : Nat → Rc → Nat
  | 0, _ => 0
  | k + 1, c => sumR p f k c + f (iterR p k c)
def RunOk (p : List Op) (w n : Nat) (c : Rc) : Prop := ∀ k, k < n → ∃ pc vs o, iterR p k c = (pc, vs) ∧ vs.length = w ∧ p[pc]? = some o ∧ o ≠ .fin
theorem stepR_some {p : List Op} {pc : Nat} {vs : List Nat} {o : Op} (h : p[pc]? = some o) (hf : o ≠ .fin) : ∃ c', stepR p (pc, vs) = some c' := by
  unfold stepR
  simp only [h]
  cases o with
  | fin => exact absurd rfl hf
  | inc k f => exact ⟨_, rfl⟩
  | dec k f o =>
    simp only
    split
    · exact ⟨_, rfl⟩
    · exact ⟨_, rfl⟩
def Pic1 (I : ChI) (c : Cf) (x1 : Nat) : Prop := I.a.m = 2 ∧ valD (mksE I.a.ms) (lbK (.two c.s c.a)) = some (iD x1) ∧ numOf 2 c.l ≤ 12 ∧ numOf 2 c.r ≤ 12
def f3 (I : ChI) (c : Rc) : Nat := cost3 (I.b.prog2.getD c.1 .fin) c.2
section
variable {P : Program} {w : World} {K : PySem.W.Frag} {mg : Str → Option Value} {base : Heap} (T : Tx K mg)
include T
def S_Ch_pic (K : PySem.W.Frag) : Hp → List D → D → Prop := fun H ds d => ∃ (I : ChI) (c : Cf) (x1 x2 : Nat), ChAt K H I ∧ Pic1 I c x1 ∧ I.b.xs[x1]? = some x2 ∧ gN (numOf 2 c.l) (numOf 2 c.r) 0 ≤ 100000 ∧ ds = [.ref I.y, cfD c] ∧ d = cfD ⟨x2, List.replicate (gN (numOf 2 c.l) (numOf 2 c.r) 0) 1, 2, []⟩
theorem mt_Ch_pic : Met P w K mg base 4 (He.ga K "Chain") "picture" (spF (S_Ch_pic K)) := by
  have m1 := mt_T2_pic (P := P) (w := w) (base := base) T
  have m2 := mt_R2_pic (P := P) (w := w) (base := base) T
  have m3 := mt_C2_pic (P := P) (w := w) (base := base) T
  refine metF T.c_Chain T.m_Chain_picture (fn_Chain_picture T) sc_Chain_picture (by decide) (fun H ds d h => by obtain ⟨I, c, x1, x2, _, _, _, _, rfl, _⟩ := h; rfl) fun cdv A outer s H E hr ds d hS => ?_
  obtain ⟨I, c, x1, x2, h, ⟨hm, hv, hl, hrr⟩, hx, hN, rfl, rfl⟩ := hS
  have nd := sc_Chain_picture.nd
  refine dss_forA (p := I.tl) (ds := [.ref I.a.y, .ref I.b.y, .ref I.c.y]) (fun H0 i ρ' H' => Sx H0 H' ∧ Sx H H' ∧ ρ' = [some (.ref I.y), some ([cfD c, vcD (x1, [numOf 2 c.l, numOf 2 c.r, 0]), vcD (x2, [gN (numOf 2 c.l) (numOf 2 c.r) 0, 0]), cfD ⟨x2, List.replicate (gN (numOf 2 c.l) (numOf 2 c.r) 0) 1, 2, []⟩].getD i .non), none]) (de_fld (de_var 0 rfl) h.y T.c_Chain T.n_Chain_translations rfl) h.tl rfl ?_ ?_ ?_ ?_
  · exact fun H2 s2 => ⟨_, Wk.refl _, Sx.refl _, s2, rfl⟩
  · exact fun H0 i ρ' H' z => ⟨z.1.tt, fun xs e => z.1.k _ _ rfl e⟩
  · rintro H0 s0 i d ρ' H' hd ⟨t1, s2, rfl⟩
    refine ⟨_, dg_name 2 nd, ?_⟩
    match i, hd with
    | 0, hd =>
      cases (Option.some.inj hd)
      refine dss_asg 1 nd (d := vcD (x1, [numOf 2 c.l, numOf 2 c.r, 0])) (de_meth m1 hr (by decide) (de_var 2 rfl) (h.a.y.mono s2) rfl (da_cons (d := cfD c) (de_var 1 rfl) da_nil) fun H3 s3 => ⟨I.a, c, x1, h.a.mono (s2.trans s3), by rw [hm]; decide, hv, rfl, by rw [hm]⟩) (dss_nil fun H4 s4 => ⟨_, .same (.same (.drop .nil)), t1.trans s4, s2.trans s4, rfl⟩)
    | 1, hd =>
      cases (Option.some.inj hd)
      refine dss_asg 1 nd (d := vcD (x2, [gN (numOf 2 c.l) (numOf 2 c.r) 0, 0])) (de_meth m2 hr (by decide) (de_var 2 rfl) (h.b.y.mono s2) rfl (da_cons (d := vcD (x1, [numOf 2 c.l, numOf 2 c.r, 0])) (de_var 1 rfl) da_nil) fun H3 s3 => ⟨I.b, x1, x2, numOf 2 c.l, numOf 2 c.r, 0, h.b.mono (s2.trans s3), hx, hl, hrr, by omega, rfl, rfl⟩) (dss_nil fun H4 s4 => ⟨_, .same (.same (.drop .nil)), t1.trans s4, s2.trans s4, rfl⟩)
    | 2, hd =>
      cases (Option.some.inj hd)
      refine dss_asg 1 nd (d := cfD ⟨x2, List.replicate (gN (numOf 2 c.l) (numOf 2 c.r) 0) 1, 2, []⟩) (de_meth m3 hr (by decide) (de_var 2 rfl) (h.c.y.mono s2) rfl (da_cons (d := vcD (x2, [gN (numOf 2 c.l) (numOf 2 c.r) 0, 0])) (de_var 1 rfl) da_nil) fun H3 s3 => ⟨I.c.y, x2, gN (numOf 2 c.l) (numOf 2 c.r) 0, 0, by omega, rfl, rfl⟩) (dss_nil fun H4 s4 => ⟨_, .same (.same (.drop .nil)), t1.trans s4, s2.trans s4, rfl⟩)
    | i + 3, hd => simp at hd
  · rintro H0 s0 ρ' H' ⟨t1, s2, rfl⟩
    exact dss_ret (de_var 1 rfl) fun H3 s3 => ⟨rfl, s2.trans s3⟩
def S_Ch_back (K : PySem.W.Frag) : Hp → List D → D → Prop := fun H ds d => ∃ (I : ChI) (s a l r x1 x2 m2 m3 m5 : Nat), ChAt K H I ∧ I.a.m = 2 ∧ valD (prsE I.a.ms) (Sum.inl (x1 : Int)) = some (.tup [iD s, iD a]) ∧ l ≤ 12 ∧ r ≤ 12 ∧ I.b.xs[x1]? = some x2 ∧ (∀ (i z : Nat), i < x1 → I.b.xs[i]? = some z → z ≠ x2) ∧
  (gN l r 0 = 2 ^ l * m2 ∧ m2 % 2 ≠ 0) ∧ (gN l r 0 = 3 ^ r * m3 ∧ m3 % 3 ≠ 0) ∧ (gN l r 0 = 5 ^ 0 * m5 ∧ m5 % 5 ≠ 0) ∧ ds = [.ref I.y, cfD ⟨x2, List.replicate (gN l r 0) 1, 2, []⟩] ∧ d = cfD ⟨s, digs 2 l, a, digs 2 r⟩
theorem mt_Ch_back : Met P w K mg base 3 (He.ga K "Chain") "read_back" (spF (S_Ch_back K)) := by
  have m1 := mt_T2_back (P := P) (w := w) (base := base) T
  have m2 := mt_R2_back (P := P) (w := w) (base := base) T
  have m3 := mt_C2_back (P := P) (w := w) (base := base) T
  refine metF T.c_Chain T.m_Chain_read_back (fn_Chain_read_back T) sc_Chain_read_back (by decide) (fun H ds d h => by obtain ⟨I, s, a, l, r, x1, x2, _, _, _, _, _, _, _, _, _, _, _, _, _, rfl, _⟩ := h; rfl) fun cdv A outer s H E hr ds d hS => ?_
  obtain ⟨I, st, a, l, r, x1, x2, q2, q3, q5, h, hm, hv, hl, hrr, hx, hno, e2, e3, e5, rfl, rfl⟩ := hS
  have nd := sc_Chain_read_back.nd
  refine dss_forL (ds := [.ref I.c.y, .ref I.b.y, .ref I.a.y]) (fun H0 i ρ' H' => Sx H0 H' ∧ Sx H H' ∧ ρ' = [some (.ref I.y), some ([cfD ⟨x2, List.replicate (gN l r 0) 1, 2, []⟩, vcD (x2, [gN l r 0, 0]), vcD (x1, [l, r, 0]), cfD ⟨st, digs 2 l, a, digs 2 r⟩].getD i .non), none]) (de_revL (de_frz (de_fld (de_var 0 rfl) h.y T.c_Chain T.n_Chain_translations rfl) h.tl)) ?_ ?_ ?_ ?_
  · exact fun H2 s2 => ⟨_, Wk.refl _, Sx.refl _, s2, rfl⟩
  · exact fun H0 i ρ' H' z => z.1.l
  · rintro H0 s0 i d ρ' H' hd ⟨t1, s2, rfl⟩
    refine ⟨_, dg_name 2 nd, ?_⟩
    match i, hd with
    | 0, hd =>
      cases (Option.some.inj hd)
      refine dss_asg 1 nd (d := vcD (x2, [gN l r 0, 0])) (de_meth m3 hr (by decide) (de_var 2 rfl) (h.c.y.mono s2) rfl (da_cons (d := cfD ⟨x2, List.replicate (gN l r 0) 1, 2, []⟩) (de_var 1 rfl) da_nil) fun H3 s3 => ⟨I.c.y, ⟨x2, List.replicate (gN l r 0) 1, 2, []⟩, rfl, by rw [List.length_replicate]; rfl⟩) (dss_nil fun H4 s4 => ⟨_, .same (.same (.drop .nil)), t1.trans s4, s2.trans s4, rfl⟩)
    | 1, hd =>
      cases (Option.some.inj hd)
      refine dss_asg 1 nd (d := vcD (x1, [l, r, 0])) (de_meth m2 hr (by decide) (de_var 2 rfl) (h.b.y.mono s2) rfl (da_cons (d := vcD (x2, [gN l r 0, 0])) (de_var 1 rfl) da_nil) fun H3 s3 => ⟨I.b, x1, x2, l, r, 0, q2, q3, q5, 0, h.b.mono (s2.trans s3), hx, hno, hl, hrr, by omega, e2, e3, e5, rfl, rfl⟩) (dss_nil fun H4 s4 => ⟨_, .same (.same (.drop .nil)), t1.trans s4, s2.trans s4, rfl⟩)
    | 2, hd =>
      cases (Option.some.inj hd)
      refine dss_asg 1 nd (d := cfD ⟨st, digs 2 l, a, digs 2 r⟩) (de_meth m1 hr (by decide) (de_var 2 rfl) (h.a.y.mono s2) rfl (da_cons (d := vcD (x1, [l, r, 0])) (de_var 1 rfl) da_nil) fun H3 s3 => ⟨I.a, st, a, x1, l, r, 0, h.a.mono (s2.trans s3), by omega, by omega, by omega, by omega, hv, rfl, by rw [hm]⟩) (dss_nil fun H4 s4 => ⟨_, .same (.same (.drop .nil)), t1.trans s4, s2.trans s4, rfl⟩)
    | i + 3, hd => simp at hd
  · rintro H0 s0 ρ' H' ⟨t1, s2, rfl⟩
    exact dss_ret (de_var 1 rfl) fun H3 s3 => ⟨rfl, s2.trans s3⟩
def S_sf2 (K : PySem.W.Frag) : Hp → List D → D → Prop := fun H ds d => ∃ (I : ChI) (n : Nat) (c : D), ChAt K H I ∧ ds = [.ref I.y, iD 2, c, iD n] ∧ d = iD n
theorem mt_sf2 : Met P w K mg base 1 (He.ga K "Chain") "steps_from" (spF (S_sf2 K)) := by
  refine metF T.c_Chain T.m_Chain_steps_from (fn_Chain_steps_from T) sc_Chain_steps_from (by decide) (fun H ds d h => by obtain ⟨I, n, c, _, rfl, _⟩ := h; rfl) fun cdv A outer s H E hr ds d hS => ?_
  obtain ⟨I, n, c, h, rfl, rfl⟩ := hS
  exact dss_leave (DT.is (dt_eq (de_add (de_var 1 rfl) de_int) (de_lenA T.f_len (de_fld (de_var 0 rfl) h.y T.c_Chain T.n_Chain_translations rfl) h.tl)) (decide_eq_true rfl)) (dss_ret (de_var 3 rfl) fun H2 s2 => ⟨rfl, s2⟩)
def S_sf1 (K : PySem.W.Frag) : Hp → List D → D → Prop := fun H ds d => ∃ (I : ChI) (x1 x2 a b c n : Nat), ChAt K H I ∧ I.b.xs[x1]? = some x2 ∧ a ≤ 12 ∧ b ≤ 12 ∧ c ≤ 12 ∧ n ≤ 100000 ∧ (∀ o ∈ I.b.prog2, OpOk 2 I.b.prog2.length o) ∧ RunOk I.b.prog2 2 n (x2, [gN a b c, 0]) ∧ ds = [.ref I.y, iD 1, vcD (x1, [a, b, c]), iD n] ∧ d = iD (sumR I.b.prog2 (f3 I) n (x2, [gN a b c, 0]))
theorem mt_sf1 : Met P w K mg base 4 (He.ga K "Chain") "steps_from" (spF (S_sf1 K)) := by
  have m0 := mt_sf2 (P := P) (w := w) (base := base) T
  have m1 := mt_R2_pic (P := P) (w := w) (base := base) T
  have m2 := mt_C2_cost (P := P) (w := w) (base := base) T
  have m3 := mt_Reg_step (P := P) (w := w) (base := base) T
  refine metF T.c_Chain T.m_Chain_steps_from (fn_Chain_steps_from T) sc_Chain_steps_from (by decide) (fun H ds d h => by obtain ⟨I, x1, x2, a, b, c, n, _, _, _, _, _, _, _, _, rfl, _⟩ := h; rfl) fun cdv A outer s H E hr ds d hS => ?_
  obtain ⟨I, x1, x2, a, b, c, n, h, hx, ha, hb, hc, hn, hop, hrun, rfl, rfl⟩ := hS
  have nd := sc_Chain_steps_from.nd
  refine dss_skip (DT.is (dt_eq (de_add (de_var 1 rfl) de_int) (de_lenA T.f_len (de_fld (de_var 0 rfl) h.y T.c_Chain T.n_Chain_translations rfl) h.tl)) rfl) ?_
  refine dss_skip (DT.is (dt_gt (de_var 3 rfl) (de_fld (de_var 0 rfl) h.y T.c_Chain T.n_Chain_limit rfl)) (decide_eq_false (by omega))) ?_
  refine dss_asg 4 nd (d := iD 0) de_int ?_
  refine dss_asg 5 nd (d := vcD (x2, [gN a b c, 0])) (de_meth m1 hr (by decide) (de_ixA (t := 1) (d := .ref I.b.y) (de_fld (de_var 0 rfl) h.y T.c_Chain T.n_Chain_translations rfl) (de_var 1 rfl) h.tl rfl rfl) h.b.y rfl (da_cons (de_var 2 rfl) da_nil) fun H3 s3 => ⟨I.b, x1, x2, a, b, c, h.b.mono s3, hx, ha, hb, hc, rfl, rfl⟩) ?_
  refine dss_asg 6 nd (d := .ref I.c.y) (de_ixA (t := 2) (de_fld (de_var 0 rfl) h.y T.c_Chain T.n_Chain_translations rfl) (de_add (de_var 1 rfl) de_int) h.tl rfl rfl) ?_
  generalize hc0 : ((x2, [gN a b c, 0]) : Rc) = c0 at hrun
  refine dss_forR (fun H0 i ρ' H' => Sx H H' ∧ ρ' = [some (.ref I.y), some (iD 1), some (vcD (x1, [a, b, c])), some (iD n), some (iD (sumR I.b.prog2 (f3 I) i c0)), some (vcD (iterR I.b.prog2 i c0)), some (.ref I.c.y), none]) (de_var 3 rfl) (by omega) ?_ ?_ ?_ T.f_range
  · exact fun H2 s2 => ⟨_, Wk.refl _, s2, by rw [← hc0]; rfl⟩
  · rintro H0 s0 i ρ' H' hi ⟨s2, rfl⟩
    obtain ⟨pc, vs, o, ei, hvl, ho, hof⟩ := hrun i (by omega)
    obtain ⟨c', hst⟩ := stepR_some (vs := vs) ho hof
    have e1 : iterR I.b.prog2 (i + 1) c0 = c' := by
      show (stepR _ (iterR I.b.prog2 i c0)).getD _ = _
      rw [ei, hst]
      rfl
    have e2 : sumR I.b.prog2 (f3 I) (i + 1) c0 = sumR I.b.prog2 (f3 I) i c0 + cost3 o vs := by
      show _ + f3 I (iterR I.b.prog2 i c0) = _
      rw [ei]
      unfold f3
      rw [List.getD_eq_getElem?_getD, ho]
      rfl
    rw [e1, e2, ei]
    generalize sumR I.b.prog2 (f3 I) i c0 = tot
    obtain ⟨u, v, rfl⟩ : ∃ u v, vs = [u, v] := by
      match vs, hvl with
      | [u, v], _ => exact ⟨u, v, rfl⟩
    have ok := hop o (List.mem_of_getElem? ho)
    refine ⟨_, dg_name 7 nd, ?_⟩
    have h2 := h.mono s2
    refine dss_aug 4 nd (n1 := (tot : Int)) (n2 := (cost3 o [u, v] : Nat)) rfl (de_meth m0 hr (by decide) (de_var 0 rfl) h2.y rfl (da_cons (DE.is (d' := iD 2) (de_add (de_var 1 rfl) de_int) rfl) (da_cons (d := vcD (pc, [u, v])) (de_var 5 rfl) (da_cons (d := iD (cost3 o [u, v])) (de_meth m2 hr (by decide) (de_var 6 rfl) h2.c.y rfl (da_cons (d := vcD (pc, [u, v])) (de_var 5 rfl) da_nil) fun H3 s3 => ⟨I.c, pc, u, v, _, o, h2.c.mono s3, by rw [h.p2]; exact ho, hof, ok, rfl, rfl⟩) da_nil))) fun H3 s3 => ⟨I, cost3 o [u, v], _, h2.mono s3, rfl, rfl⟩) ?_
    refine dss_asg 5 nd (d := vcD c') (de_meth m3 hr (by decide) (de_fld (de_ixA (t := 1) (d := .ref I.b.y) (de_fld (de_var 0 rfl) h2.y T.c_Chain T.n_Chain_translations rfl) (de_var 1 rfl) h2.tl rfl rfl) h2.b.y T.c_RegistersToCounters T.n_RegistersToCounters_target rfl) h2.b.g rfl (da_cons (d := vcD (pc, [u, v])) (de_var 5 rfl) da_nil) fun H3 s3 => ⟨I.b.g, 2, I.b.prog2, (pc, [u, v]), h2.b.g.mono s3, (List.getElem?_eq_some_iff.mp ho).1, rfl, by omega, hop, rfl, by rw [hst]; rfl⟩) (dss_nil fun H4 s4 => ⟨_, .same (.same (.same (.same (.same (.same (.same (.drop .nil))))))), s2.trans s4, rfl⟩)
  · rintro H0 s0 ρ' H' ⟨s2, rfl⟩
    rw [show ((n : Int)).toNat = n from Int.toNat_natCast n]
    exact dss_ret (de_var 4 rfl) fun H3 s3 => ⟨rfl, s2.trans s3⟩
end
end K5
namespace K5
open PySem PySem.Spec PyProof.Rows L2
def f2 (I : ChI) (c : Rc) : Nat := sumR I.b.prog2 (f3 I) (cost2 (I.b.prog.getD c.1 .fin) (gN (c.2.getD 0 0) (c.2.getD 1 0) (c.2.getD 2 0))) (I.b.xs.getD c.1 0, [gN (c.2.getD 0 0) (c.2.getD 1 0) (c.2.getD 2 0), 0])
def Step1Ok (I : ChI) (q : Rc) : Prop := ∃ pc a b d x2 o, q = (pc, [a, b, d]) ∧ a ≤ 12 ∧ b ≤ 12 ∧ d ≤ 12 ∧ I.b.xs[pc]? = some x2 ∧ I.b.prog[pc]? = some o ∧ o ≠ .fin ∧ OpOk 3 I.b.prog.length o ∧ cost2 o (gN a b d) ≤ 100000 ∧ RunOk I.b.prog2 2 (cost2 o (gN a b d)) (x2, [gN a b d, 0])
section
variable {P : Program} {w : World} {K : PySem.W.Frag} {mg : Str → Option Value} {base : Heap} (T : Tx K mg)
include T
def S_sf0 (K : PySem.W.Frag) : Hp → List D → D → Prop := fun H ds d => ∃ (I : ChI) (c : Cf) (x1 n : Nat), ChAt K H I ∧ Pic1 I c x1 ∧ n ≤ 100000 ∧ (∀ o ∈ I.b.prog2, OpOk 2 I.b.prog2.length o) ∧ (∀ o ∈ I.b.prog, OpOk 3 I.b.prog.length o) ∧ (∀ k, k < n → Step1Ok I (iterR I.b.prog k (x1, [numOf 2 c.l, numOf 2 c.r, 0]))) ∧
  ds = [.ref I.y, iD 0, cfD c, iD n] ∧ d = iD (sumR I.b.prog (f2 I) n (x1, [numOf 2 c.l, numOf 2 c.r, 0]))
theorem mt_sf0 : Met P w K mg base 5 (He.ga K "Chain") "steps_from" (spF (S_sf0 K)) := by
  have m0 := mt_sf1 (P := P) (w := w) (base := base) T
  have m1 := mt_T2_pic (P := P) (w := w) (base := base) T
  have m2 := mt_R2_cost (P := P) (w := w) (base := base) T
  have m3 := mt_Reg_step (P := P) (w := w) (base := base) T
  refine metF T.c_Chain T.m_Chain_steps_from (fn_Chain_steps_from T) sc_Chain_steps_from (by decide) (fun H ds d h => by obtain ⟨I, c, x1, n, _, _, _, _, _, _, rfl, _⟩ := h; rfl) fun cdv A outer s H E hr ds d hS => ?_
  obtain ⟨I, c, x1, n, h, ⟨hm, hv, hl, hrr⟩, hn, hop2, hop, hrun, rfl, rfl⟩ := hS
  have nd := sc_Chain_steps_from.nd
  refine dss_skip (DT.is (dt_eq (de_add (de_var 1 rfl) de_int) (de_lenA T.f_len (de_fld (de_var 0 rfl) h.y T.c_Chain T.n_Chain_translations rfl) h.tl)) rfl) ?_
  refine dss_skip (DT.is (dt_gt (de_var 3 rfl) (de_fld (de_var 0 rfl) h.y T.c_Chain T.n_Chain_limit rfl)) (decide_eq_false (by omega))) ?_
  refine dss_asg 4 nd (d := iD 0) de_int ?_
  refine dss_asg 5 nd (d := vcD (x1, [numOf 2 c.l, numOf 2 c.r, 0])) (de_meth m1 hr (by decide) (de_ixA (t := 0) (d := .ref I.a.y) (de_fld (de_var 0 rfl) h.y T.c_Chain T.n_Chain_translations rfl) (de_var 1 rfl) h.tl rfl rfl) h.a.y rfl (da_cons (de_var 2 rfl) da_nil) fun H3 s3 => ⟨I.a, c, x1, h.a.mono s3, by rw [hm]; decide, hv, rfl, by rw [hm]⟩) ?_
  refine dss_asg 6 nd (d := .ref I.b.y) (de_ixA (t := 1) (de_fld (de_var 0 rfl) h.y T.c_Chain T.n_Chain_translations rfl) (de_add (de_var 1 rfl) de_int) h.tl rfl rfl) ?_
  generalize hc0 : ((x1, [numOf 2 c.l, numOf 2 c.r, 0]) : Rc) = c0 at hrun
  refine dss_forR (fun H0 i ρ' H' => Sx H H' ∧ ρ' = [some (.ref I.y), some (iD 0), some (cfD c), some (iD n), some (iD (sumR I.b.prog (f2 I) i c0)), some (vcD (iterR I.b.prog i c0)), some (.ref I.b.y), none]) (de_var 3 rfl) (by omega) ?_ ?_ ?_ T.f_range
  · exact fun H2 s2 => ⟨_, Wk.refl _, s2, by rw [← hc0]; rfl⟩
  · rintro H0 s0 i ρ' H' hi ⟨s2, rfl⟩
    obtain ⟨pc, u, v, z, x2, o, ei, hu, hv2, hz, hx, ho, hof, ok, hc2, hr2⟩ := hrun i (by omega)
    obtain ⟨c', hst⟩ := stepR_some (vs := [u, v, z]) ho hof
    have e1 : iterR I.b.prog (i + 1) c0 = c' := by
      show (stepR _ (iterR I.b.prog i c0)).getD _ = _
      rw [ei, hst]
      rfl
    have e2 : sumR I.b.prog (f2 I) (i + 1) c0 = sumR I.b.prog (f2 I) i c0 + sumR I.b.prog2 (f3 I) (cost2 o (gN u v z)) (x2, [gN u v z, 0]) := by
      show _ + f2 I (iterR I.b.prog i c0) = _
      rw [ei]
      unfold f2
      rw [List.getD_eq_getElem?_getD (l := I.b.prog), ho, List.getD_eq_getElem?_getD (l := I.b.xs), hx]
      rfl
    rw [e1, e2, ei]
    generalize sumR I.b.prog (f2 I) i c0 = tot
    refine ⟨_, dg_name 7 nd, ?_⟩
    have h2 := h.mono s2
    refine dss_aug 4 nd (n1 := (tot : Int)) (n2 := (sumR I.b.prog2 (f3 I) (cost2 o (gN u v z)) (x2, [gN u v z, 0]) : Nat)) rfl (de_meth m0 hr (by decide) (de_var 0 rfl) h2.y rfl (da_cons (DE.is (d' := iD 1) (de_add (de_var 1 rfl) de_int) rfl) (da_cons (d := vcD (pc, [u, v, z])) (de_var 5 rfl) (da_cons (d := iD (cost2 o (gN u v z))) (de_meth m2 hr (by decide) (de_var 6 rfl) h2.b.y rfl (da_cons (d := vcD (pc, [u, v, z])) (de_var 5 rfl) da_nil) fun H3 s3 => ⟨I.b, pc, x2, u, v, z, _, o, h2.b.mono s3, hx, ho, ok, hof, hu, hv2, hz, rfl, rfl⟩) da_nil))) fun H3 s3 => ⟨I, pc, x2, u, v, z, cost2 o (gN u v z), h2.mono s3, hx, hu, hv2, hz, hc2, hop2, hr2, rfl, rfl⟩) ?_
    refine dss_asg 5 nd (d := vcD c') (de_meth m3 hr (by decide) (de_fld (de_ixA (t := 0) (d := .ref I.a.y) (de_fld (de_var 0 rfl) h2.y T.c_Chain T.n_Chain_translations rfl) (de_var 1 rfl) h2.tl rfl rfl) h2.a.y T.c_TuringToRegisters T.n_TuringToRegisters_target rfl) h2.a.g rfl (da_cons (d := vcD (pc, [u, v, z])) (de_var 5 rfl) da_nil) fun H3 s3 => ⟨I.a.g, 3, I.a.prog, (pc, [u, v, z]), h2.a.g.mono s3, by rw [← h.p1]; exact (List.getElem?_eq_some_iff.mp ho).1, rfl, by omega, by rw [← h.p1]; exact hop, rfl, by rw [← h.p1, hst]; rfl⟩) (dss_nil fun H4 s4 => ⟨_, .same (.same (.same (.same (.same (.same (.same (.drop .nil))))))), s2.trans s4, rfl⟩)
  · rintro H0 s0 ρ' H' ⟨s2, rfl⟩
    rw [show ((n : Int)).toNat = n from Int.toNat_natCast n]
    exact dss_ret (de_var 4 rfl) fun H3 s3 => ⟨rfl, s2.trans s3⟩
def S_Ch_cost (K : PySem.W.Frag) : Hp → List D → D → Prop := fun H ds d => ∃ (I : ChI) (c : Cf) (x1 : Nat) (r : Rl), ChAt K H I ∧ Pic1 I c x1 ∧ look I.a.rs c.s c.a = some r ∧ r.w ≤ 10 ∧ cost1 2 r (numOf 2 c.l) (numOf 2 c.r) ≤ 100000 ∧ (∀ o ∈ I.b.prog2, OpOk 2 I.b.prog2.length o) ∧ (∀ o ∈ I.b.prog, OpOk 3 I.b.prog.length o) ∧ (∀ k, k < cost1 2 r (numOf 2 c.l) (numOf 2 c.r) → Step1Ok I (iterR I.b.prog k (x1, [numOf 2 c.l, numOf 2 c.r, 0]))) ∧
  ds = [.ref I.y, cfD c] ∧ d = iD (sumR I.b.prog (f2 I) (cost1 2 r (numOf 2 c.l) (numOf 2 c.r)) (x1, [numOf 2 c.l, numOf 2 c.r, 0]))
theorem mt_Ch_cost : Met P w K mg base 6 (He.ga K "Chain") "cost" (spF (S_Ch_cost K)) := by
  have m0 := mt_sf0 (P := P) (w := w) (base := base) T
  have m1 := mt_T2_cost (P := P) (w := w) (base := base) T
  refine metF T.c_Chain T.m_Chain_cost (fn_Chain_cost T) sc_Chain_cost (by decide) (fun H ds d h => by obtain ⟨I, c, x1, n, _, _, _, _, _, _, _, _, rfl, _⟩ := h; rfl) fun cdv A outer s H E hr ds d hS => ?_
  obtain ⟨I, c, x1, r, h, hp, hlk, hw, hc1, hop2, hop, hrun, rfl, rfl⟩ := hS
  obtain ⟨hm, hv, hl, hrr⟩ := id hp
  have nd := sc_Chain_cost.nd
  refine dss_ret (d := iD (sumR I.b.prog (f2 I) (cost1 2 r (numOf 2 c.l) (numOf 2 c.r)) (x1, [numOf 2 c.l, numOf 2 c.r, 0]))) (de_meth m0 hr (by decide) (de_var 0 rfl) h.y rfl (da_cons (d := iD 0) de_int (da_cons (d := cfD c) (de_var 1 rfl) (da_cons (d := iD (cost1 2 r (numOf 2 c.l) (numOf 2 c.r))) (de_meth m1 hr (by decide) (de_ixA (t := 0) (d := .ref I.a.y) (de_fld (de_var 0 rfl) h.y T.c_Chain T.n_Chain_translations rfl) de_int h.tl rfl rfl) h.a.y rfl (da_cons (d := cfD c) (de_var 1 rfl) da_nil) fun H3 s3 => ⟨I.a, c, r, h.a.mono s3, by omega, by omega, by rw [hm]; omega, by rw [hm]; omega, hlk, by omega, rfl, by rw [hm]⟩) da_nil))) fun H2 s2 => ⟨I, c, x1, _, h.mono s2, hp, hc1, hop2, hop, hrun, rfl, rfl⟩) fun H2 s2 => ⟨rfl, s2⟩
end
end K5
namespace K5
open PySem PySem.Spec PyProof.Rows L2
def cfgs (c : Cf) (x1 x2 : Nat) : Nat → D
  | 0 => cfD c
  | 1 => vcD (x1, [numOf 2 c.l, numOf 2 c.r, 0])
  | 2 => vcD (x2, [gN (numOf 2 c.l) (numOf 2 c.r) 0, 0])
  | _ => cfD ⟨x2, List.replicate (gN (numOf 2 c.l) (numOf 2 c.r) 0) 1, 2, []⟩
section
variable {P : Program} {w : World} {K : PySem.W.Frag} {mg : Str → Option Value} {base : Heap} (T : Tx K mg)
include T
def S_mv (K : PySem.W.Frag) : Hp → List D → D → Prop := fun H ds d => ∃ (I : ChI) (c : Cf) (x1 x2 i : Nat), ChAt K H I ∧ Pic1 I c x1 ∧ I.b.xs[x1]? = some x2 ∧ gN (numOf 2 c.l) (numOf 2 c.r) 0 ≤ 100000 ∧ i < 3 ∧ ds = [.ref I.y, iD i, cfgs c x1 x2 i, iD 0] ∧ d = cfgs c x1 x2 (i + 1)
theorem mt_mv : Met P w K mg base 4 (He.ga K "Chain") "moved_on" (spF (S_mv K)) := by
  have m1 := mt_T2_pic (P := P) (w := w) (base := base) T
  have m2 := mt_R2_pic (P := P) (w := w) (base := base) T
  have m3 := mt_C2_pic (P := P) (w := w) (base := base) T
  refine metF T.c_Chain T.m_Chain_moved_on (fn_Chain_moved_on T) sc_Chain_moved_on (by decide) (fun H ds d h => by obtain ⟨I, c, x1, x2, i, _, _, _, _, _, rfl, _⟩ := h; rfl) fun cdv A outer s H E hr ds d hS => ?_
  obtain ⟨I, c, x1, x2, i, h, ⟨hm, hv, hl, hrr⟩, hx, hN, hi, rfl, rfl⟩ := hS
  have nd := sc_Chain_moved_on.nd
  have tail : ∀ (q : D) (r : Rho), r = [some (.ref I.y), some (iD i), some (cfgs c x1 x2 i), some (iD 0), some q, some (cfgs c x1 x2 (i + 1)), none] → DSs (cxD P w K mg base N_Chain_moved_on "Chain.moved_on" st_Chain_moved_on (He.ma K (He.ga K "Chain") "moved_on") cdv A outer s H E) ((defBody st_Chain_moved_on).drop 2) r H (fun _ H' => cfgs c x1 x2 (i + 1) = .non ∧ Sx H H') (fun d' H' => d' = cfgs c x1 x2 (i + 1) ∧ Sx H H') := fun q r hrq => by
    subst hrq
    refine dss_forR (fun H0 j ρ' H' => j = 0 ∧ Sx H H' ∧ ρ' = [some (.ref I.y), some (iD i), some (cfgs c x1 x2 i), some (iD 0), some q, some (cfgs c x1 x2 (i + 1)), none]) (de_var 3 rfl) (by omega) ?_ ?_ ?_ T.f_range
    · exact fun H2 s2 => ⟨_, Wk.refl _, rfl, s2, rfl⟩
    · rintro H0 s0 j ρ' H' hj ⟨rfl, _⟩
      omega
    · rintro H0 s0 ρ' H' ⟨_, s2, rfl⟩
      exact dss_ret (de_var 5 rfl) fun H3 s3 => ⟨rfl, s2.trans s3⟩
  match i, hi, tail with
  | 0, _, tail =>
    refine dss_asg 4 nd (d := .ref I.a.y) (de_ixA (t := 0) (de_fld (de_var 0 rfl) h.y T.c_Chain T.n_Chain_translations rfl) (de_var 1 rfl) h.tl rfl rfl) ?_
    exact dss_asg 5 nd (d := cfgs c x1 x2 1) (de_meth m1 hr (by decide) (de_var 4 rfl) h.a.y rfl (da_cons (d := cfD c) (de_var 2 rfl) da_nil) fun H3 s3 => ⟨I.a, c, x1, h.a.mono s3, by rw [hm]; decide, hv, rfl, by rw [hm]; rfl⟩) (tail _ _ rfl)
  | 1, _, tail =>
    refine dss_asg 4 nd (d := .ref I.b.y) (de_ixA (t := 1) (de_fld (de_var 0 rfl) h.y T.c_Chain T.n_Chain_translations rfl) (de_var 1 rfl) h.tl rfl rfl) ?_
    exact dss_asg 5 nd (d := cfgs c x1 x2 2) (de_meth m2 hr (by decide) (de_var 4 rfl) h.b.y rfl (da_cons (d := cfgs c x1 x2 1) (de_var 2 rfl) da_nil) fun H3 s3 => ⟨I.b, x1, x2, numOf 2 c.l, numOf 2 c.r, 0, h.b.mono s3, hx, hl, hrr, by omega, rfl, rfl⟩) (tail _ _ rfl)
  | 2, _, tail =>
    refine dss_asg 4 nd (d := .ref I.c.y) (de_ixA (t := 2) (de_fld (de_var 0 rfl) h.y T.c_Chain T.n_Chain_translations rfl) (de_var 1 rfl) h.tl rfl rfl) ?_
    exact dss_asg 5 nd (d := cfgs c x1 x2 3) (de_meth m3 hr (by decide) (de_var 4 rfl) h.c.y rfl (da_cons (d := cfgs c x1 x2 2) (de_var 2 rfl) da_nil) fun H3 s3 => ⟨I.c.y, x2, gN (numOf 2 c.l) (numOf 2 c.r) 0, 0, by omega, rfl, rfl⟩) (tail _ _ rfl)
def S_Ch_last (K : PySem.W.Frag) : Hp → List D → D → Prop := fun H ds d => ∃ (I : ChI) (c : Cf) (x1 x2 : Nat), ChAt K H I ∧ Pic1 I c x1 ∧ I.b.xs[x1]? = some x2 ∧ gN (numOf 2 c.l) (numOf 2 c.r) 0 ≤ 100000 ∧ (∀ o ∈ I.b.prog2, OpOk 2 I.b.prog2.length o) ∧ (∀ o ∈ I.b.prog, OpOk 3 I.b.prog.length o) ∧ ds = [.ref I.y, cfD c] ∧ d = iD 0
theorem mt_Ch_last : Met P w K mg base 6 (He.ga K "Chain") "last_steps" (spF (S_Ch_last K)) := by
  have l1 := mt_T2_last (P := P) (w := w) (base := base) T
  have l2 := mt_R2_last (P := P) (w := w) (base := base) T
  have l3 := mt_C2_last (P := P) (w := w) (base := base) T
  have f0 := mt_sf0 (P := P) (w := w) (base := base) T
  have f1 := mt_sf1 (P := P) (w := w) (base := base) T
  have f2 := mt_sf2 (P := P) (w := w) (base := base) T
  have mv := mt_mv (P := P) (w := w) (base := base) T
  refine metF T.c_Chain T.m_Chain_last_steps (fn_Chain_last_steps T) sc_Chain_last_steps (by decide) (fun H ds d h => by obtain ⟨I, c, x1, x2, _, _, _, _, _, _, rfl, _⟩ := h; rfl) fun cdv A outer s H E hr ds d hS => ?_
  obtain ⟨I, c, x1, x2, h, hp, hx, hN, hop2, hop, rfl, rfl⟩ := hS
  obtain ⟨hm, hv, hl, hrr⟩ := id hp
  have nd := sc_Chain_last_steps.nd
  refine dss_asg 2 nd (d := iD 0) de_int ?_
  refine dss_forR (fun H0 i ρ' H' => Sx H H' ∧ ρ' = [some (.ref I.y), some (cfgs c x1 x2 i), some (iD 0), none, none]) (de_lenA T.f_len (de_fld (de_var 0 rfl) h.y T.c_Chain T.n_Chain_translations rfl) h.tl) (by simp) ?_ ?_ ?_ T.f_range
  · exact fun H2 s2 => ⟨_, Wk.refl _, s2, rfl⟩
  · rintro H0 s0 i ρ' H' hi ⟨s2, rfl⟩
    have hi3 : i < 3 := by simp at hi; omega
    have h2 := h.mono s2
    refine ⟨_, dg_name 3 nd, ?_⟩
    have tail : DSs (cxD P w K mg base N_Chain_last_steps "Chain.last_steps" st_Chain_last_steps (He.ma K (He.ga K "Chain") "last_steps") cdv A outer s H E) ((su1 (stN (defBody st_Chain_last_steps) 1)).drop 2) [some (.ref I.y), some (cfgs c x1 x2 i), some (iD 0), some (iD i), some (iD 0)] H' (fun ρ2 H2 => ∃ ρ3, Wk ρ2 ρ3 ∧ Sx H H2 ∧ ρ3 = [some (.ref I.y), some (cfgs c x1 x2 (i + 1)), some (iD 0), none, none]) (fun d' H' => d' = iD 0 ∧ Sx H H') :=
      dss_asg 1 nd (d := cfgs c x1 x2 (i + 1)) (de_meth mv hr (by decide) (de_var 0 rfl) h2.y rfl (da_cons (de_var 3 rfl) (da_cons (de_var 1 rfl) (da_cons (de_var 4 rfl) da_nil))) fun H3 s3 => ⟨I, c, x1, x2, i, h2.mono s3, hp, hx, hN, hi3, rfl, rfl⟩) (dss_nil fun H4 s4 => ⟨_, .same (.same (.same (.drop (.drop .nil)))), s2.trans s4, rfl⟩)
    match i, hi3, tail with
    | 0, _, tail =>
      refine dss_asg 4 nd (d := iD 0) (de_meth l1 hr (by decide) (de_ixA (t := 0) (d := .ref I.a.y) (de_fld (de_var 0 rfl) h2.y T.c_Chain T.n_Chain_translations rfl) (de_var 3 rfl) h2.tl rfl rfl) h2.a.y rfl (da_cons (de_var 1 rfl) da_nil) fun H3 s3 => ⟨_, _, rfl, rfl⟩) ?_
      exact dss_aug 2 nd (n1 := 0) (n2 := 0) rfl (de_meth f0 hr (by decide) (de_var 0 rfl) h2.y rfl (da_cons (de_var 3 rfl) (da_cons (de_var 1 rfl) (da_cons (de_var 4 rfl) da_nil))) fun H3 s3 => ⟨I, c, x1, 0, h2.mono s3, hp, by omega, hop2, hop, fun k hk => by omega, rfl, rfl⟩) tail
    | 1, _, tail =>
      refine dss_asg 4 nd (d := iD 0) (de_meth l2 hr (by decide) (de_ixA (t := 1) (d := .ref I.b.y) (de_fld (de_var 0 rfl) h2.y T.c_Chain T.n_Chain_translations rfl) (de_var 3 rfl) h2.tl rfl rfl) h2.b.y rfl (da_cons (de_var 1 rfl) da_nil) fun H3 s3 => ⟨_, _, rfl, rfl⟩) ?_
      exact dss_aug 2 nd (n1 := 0) (n2 := 0) rfl (de_meth f1 hr (by decide) (de_var 0 rfl) h2.y rfl (da_cons (de_var 3 rfl) (da_cons (de_var 1 rfl) (da_cons (de_var 4 rfl) da_nil))) fun H3 s3 => ⟨I, x1, x2, numOf 2 c.l, numOf 2 c.r, 0, 0, h2.mono s3, hx, hl, hrr, by omega, by omega, hop2, fun k hk => by omega, rfl, rfl⟩) tail
    | 2, _, tail =>
      refine dss_asg 4 nd (d := iD 0) (de_meth l3 hr (by decide) (de_ixA (t := 2) (d := .ref I.c.y) (de_fld (de_var 0 rfl) h2.y T.c_Chain T.n_Chain_translations rfl) (de_var 3 rfl) h2.tl rfl rfl) h2.c.y rfl (da_cons (de_var 1 rfl) da_nil) fun H3 s3 => ⟨_, _, rfl, rfl⟩) ?_
      exact dss_aug 2 nd (n1 := 0) (n2 := 0) rfl (de_meth f2 hr (by decide) (de_var 0 rfl) h2.y rfl (da_cons (de_var 3 rfl) (da_cons (de_var 1 rfl) (da_cons (de_var 4 rfl) da_nil))) fun H3 s3 => ⟨I, 0, _, h2.mono s3, rfl, rfl⟩) tail
  · rintro H0 s0 ρ' H' ⟨s2, rfl⟩
    exact dss_ret (de_var 2 rfl) fun H3 s3 => ⟨rfl, s2.trans s3⟩
end
end K5
namespace K5
open PySem PySem.Spec PyProof.Rows L2
theorem Uniq.perm {rs rs' : List Rl} (u : Uniq rs) (p : rs'.Perm rs) : Uniq rs' := (List.Perm.pairwise_iff (fun {a b} h z => h ⟨z.1.symm, z.2.symm⟩) p).mpr u
theorem look_perm {rs rs' : List Rl} (u : Uniq rs) (p : rs'.Perm rs) (s a : Nat) : look rs' s a = look rs s a := by
  cases q : look rs s a with
  | some r =>
    have h1 := List.mem_of_find?_eq_some q
    have h2 := List.find?_some q
    obtain ⟨h3, h4⟩ := of_decide_eq_true h2
    have := look_mem (u.perm p) (p.mem_iff.mpr h1)
    rw [h3, h4] at this
    exact this
  | none =>
    cases q' : look rs' s a with
    | none => rfl
    | some r =>
      have h1 := List.mem_of_find?_eq_some q'
      have h2 := List.find?_some q'
      obtain ⟨h3, h4⟩ := of_decide_eq_true h2
      have := look_mem u (p.mem_iff.mp h1)
      rw [h3, h4, q] at this
      cases this
section
variable {P : Program} {w : World} {K : PySem.W.Frag} {mg : Str → Option Value} {base : Heap} (T : Tx K mg)
include T
def S_runner (K : PySem.W.Frag) : Hp → List D → (D → Hp → Prop) → Prop := fun H ds Ψ => ∃ t n m rs, TurAt K H t n m rs ∧ Uniq rs ∧ rs.length < 90000 ∧ ds = [.ref t] ∧ ∀ p rs' H', rs'.Perm rs → Sx H H' → DicW H' p (tabE rs') → Ψ (runD p) H'
theorem ok_law_runner : Cal P w K mg base 2 "_law_runner" (spN (S_runner K)) := by
  have mt := ok_law_tableT (P := P) (w := w) (base := base) T
  refine calN T.g__law_runner (fn__law_runner T) sc__law_runner (by decide) (fun H ds d h => by obtain ⟨t, n, m, rs, _, _, _, rfl, _⟩ := h; rfl) fun cdv A outer s H E hr ds Ψ hS => ?_
  obtain ⟨t, n, m, rs, ⟨ta, rs', hi, hd, hp⟩, hu, hz, rfl, hΨ⟩ := hS
  refine dss_leave (dt_val (de_isiO (de_var 0 rfl) hi T.is_Turing T.g_Turing T.is_Turing.me T.f_isinstance)) ?_
  refine dss_retN' (dn_lst (dan_cons (P1 := fun d H' => d = .str "turing") (P2 := fun _ r H' => ∃ p, r = [.ref p] ∧ DicW H' p (tabE rs')) ((DE.n de_str).imp fun d H' s q => q.1) fun d1 H1 s1 q1 => ?_) ?_) ?_
  · refine (dan_cons (P1 := fun d H' => ∃ p, d = .ref p ∧ DicW H' p (tabE rs')) (P2 := fun _ r _ => r = []) (dnc mt hr (by decide) (da_cons (d := .tup (rlDs rs')) (de_fld (de_var 0 rfl) (hi.mono s1) T.c_Turing T.n_Turing_rules rfl) da_nil) fun H2 s2 => ⟨rs', hu.perm hp, by rw [hp.length_eq]; exact hz, rfl, fun p H3 hp3 s3 d3 => ⟨p, rfl, d3⟩⟩) fun d2 H2 s2 q2 => dan_nil).imp ?_
    rintro ds H' s' ⟨d, r, H2, rfl, ⟨p, rfl, dp⟩, _, sd, rfl⟩
    exact ⟨p, rfl, dp.mono sd⟩
  · rintro ds H' ⟨d, r, H1, rfl, _, _, _, p, rfl, _⟩
    show 2 ≤ 100000
    omega
  · rintro d H' s' ⟨ds, H1, rfl, ⟨d, r, H2, rfl, rfl, sa, sb, p, rfl, dp⟩, se, sf⟩
    exact ⟨hΨ p rs' H' hp s' (dp.mono sf), s'⟩
def S_drawn (K : PySem.W.Frag) : Hp → List D → (D → Hp → Prop) → Prop := fun H ds Ψ => ∃ c n rs, 1 ≤ n ∧ n ≤ 2 ∧ 0 < ((drawF c 30).drop 14).length ∧ rs = allRules ((drawF c 30).drop 14) n 2 n ∧ (∀ r ∈ rs, RlOk n 2 r) ∧ Uniq rs ∧ rs.length < 90000 ∧ ds = [iD c, iD n, iD 2] ∧
  ∀ t p H', Sx H H' → TurAt K H' t n 2 rs → DicW H' p (tabE rs) → Ψ (.lst [.ref t, runD p, .lst (rlDs rs)]) H'
theorem ok_law_drawn : Cal P w K mg base 3 "_law_drawn_turing" (spN (S_drawn K)) := by
  have md := ok_law_draws (P := P) (w := w) (base := base) T
  have mr := ok_law_rules (P := P) (w := w) (base := base) T
  have mt := ok_law_tableL (P := P) (w := w) (base := base) T
  have mm := mk_Turing (P := P) (w := w) (base := base) T
  refine calN T.g__law_drawn_turing (fn__law_drawn_turing T) sc__law_drawn_turing (by decide) (fun H ds d h => by obtain ⟨c, n, rs, _, _, _, _, _, _, _, rfl, _⟩ := h; rfl) fun cdv A outer s H E hr ds Ψ hS => ?_
  obtain ⟨c, n, rs, hn1, hn2, hl, hrs, hok, hu, hz, rfl, hΨ⟩ := hS
  have nd := sc__law_drawn_turing.nd
  refine dss_asg 3 nd (d := .lst (iDs (drawF c 30))) (de_call md hr (by decide) (da_cons (de_var 0 rfl) (da_cons (d := iD 30) de_int da_nil)) fun H2 s2 => ⟨c, 30, by omega, rfl, rfl⟩) ?_
  refine dss_asg 4 nd (d := .lst (rlDs rs)) (de_call mr hr (by decide) (da_cons (DE.is (d' := .lst (iDs ((drawF c 30).drop 14))) (de_sliceL (de_var 3 rfl) (do_so de_int) do_no) (congrArg D.lst ((cut_from _ 14).trans List.map_drop.symm))) (da_cons (de_var 1 rfl) (da_cons (de_var 2 rfl) da_nil))) fun H2 s2 => ⟨(drawF c 30).drop 14, n, 2, hl, hn1, hn2, by omega, by omega, rfl, by rw [hrs]⟩) ?_
  refine dss_retN' (dn_lst (dan_cons (P1 := fun d H' => ∃ t, d = .ref t ∧ TurAt K H' t n 2 rs) (P2 := fun _ r H' => ∃ p, r = [runD p, .lst (rlDs rs)] ∧ DicW H' p (tabE rs)) ?_ fun d1 H1 s1 q1 => ?_) ?_) ?_
  · refine (dn_make mm hr (by decide) (da_cons (de_var 1 rfl) (da_cons (de_var 2 rfl) (da_cons (d := .lst (rlDs rs)) (de_listL T.f_list (de_var 4 rfl)) da_nil))) (fun H => DatL.nil) (Pm := fun t H' => TurAt K H' t n 2 rs) fun H5 g s5 hg i5 => ⟨n, 2, rs, hn1, by omega, by omega, by omega, hok, hu, hz, rfl, fun H6 h6 => h6⟩).imp ?_
    rintro d H' s' ⟨t, rfl, _, q⟩
    exact ⟨t, rfl, q⟩
  · refine (dan_cons (P1 := fun d H' => ∃ p, d = runD p ∧ DicW H' p (tabE rs)) (P2 := fun _ r H' => r = [.lst (rlDs rs)]) ?_ fun d2 H2 s2 q2 => ?_).imp ?_
    · refine (dn_lst (dan_cons (P1 := fun d H' => d = .str "turing") (P2 := fun _ r H' => ∃ p, r = [.ref p] ∧ DicW H' p (tabE rs)) ((DE.n de_str).imp fun d H' s q => q.1) fun d1 H1 s1 q1 => ?_) ?_).imp ?_
      · refine (dan_cons (P1 := fun d H' => ∃ p, d = .ref p ∧ DicW H' p (tabE rs)) (P2 := fun _ r _ => r = []) (dnc mt hr (by decide) (da_cons (d := .lst (rlDs rs)) (de_var 4 rfl) da_nil) fun H2 s2 => ⟨rs, hu, hz, rfl, fun p H3 hp3 s3 d3 => ⟨p, rfl, d3⟩⟩) fun d2 H2 s2 q2 => dan_nil).imp ?_
        rintro ds H' s' ⟨d, r, H2, rfl, ⟨p, rfl, dp⟩, _, sd, rfl⟩
        exact ⟨p, rfl, dp.mono sd⟩
      · rintro ds H' ⟨d, r, H1, rfl, _, _, _, p, rfl, _⟩
        show 2 ≤ 100000
        omega
      · rintro d H' s' ⟨ds, H1, rfl, ⟨d, r, H2, rfl, rfl, sa, sb, p, rfl, dp⟩, se, sf⟩
        exact ⟨p, rfl, dp.mono sf⟩
    · refine (dan_cons (P1 := fun d H' => d = .lst (rlDs rs)) (P2 := fun _ r _ => r = []) ((DE.n (de_var 4 rfl)).imp fun d H' s q => q.1) fun d3 H3 s3 q3 => dan_nil).imp ?_
      rintro ds H' s' ⟨d, r, H2, rfl, rfl, _, sd, rfl⟩
      rfl
    · rintro ds H' s' ⟨d, r, H2, rfl, ⟨p, rfl, dp⟩, _, sd, rfl⟩
      exact ⟨p, rfl, dp.mono sd⟩
  · rintro ds H' ⟨d, r, H1, rfl, _, _, _, p, rfl, _⟩
    show 3 ≤ 100000
    omega
  · rintro d H' s' ⟨ds, H1, rfl, ⟨d, r, H2, rfl, ⟨t, rfl, tt⟩, sa, sb, p, rfl, dp⟩, se, sf⟩
    exact ⟨hΨ t p H' s' (tt.mono (sb.trans sf)) (dp.mono sf), s'⟩
end
end K5
namespace K5
open PySem PySem.Spec PyProof.Rows L2
section
variable {X : Cx} {x : Str} {c : Value} {body suite rest : List Stmt} {b₀ : Stmt} {np pos pos' : Pos} {ρ : Rho} {B : Hp} {N N1 : Rho → Hp → Prop} {R : D → Hp → Prop}
theorem dss_tryB (hb : ∀ pn xe, DSs (X.tr pn xe) body ρ B N1 R) (hc : Names X x c) (h : ∀ ρ1 H1, N1 ρ1 H1 → DSs X rest ρ1 H1 N R) (hs : X.stack = X.env :: X.outer := by rfl) (hf : X.env.frame = some X.env.locals := by rfl) :
    DSs X (.Try body [.ExceptHandler (some (.Name x np)) none (b₀ :: suite) pos'] [] [] pos :: rest) ρ B N R :=
  dss_of (ps_try_only (Wout := fun _ _ _ _ => False) (tb := fun _ D σ H => ∀ pn xe, wSs (X.tr pn xe) body D σ H) (ts := fun a cls d D σ H => ∀ oe pn, wSs (X.suite a ((a, oe) :: pn)) (b₀ :: suite) D σ H) hs hf hc
    (fun u s' z => by
      obtain ⟨_, _, _, _, _, _, _, _, _, _, _, _, _, _, _, _, w⟩ := z
      exact w.elim)
    (fun W pn xe _ _ => ⟨fun pins s σ H D I z => pss_w.run pins s σ H D I (z pn xe)⟩)
    (fun a oe cls d pn _ _ => ⟨fun pins s σ H D I z => pss_w.run pins s σ H D I (z oe pn)⟩)) fun σ H s r Dn k1 k2 pn xe =>
      hb pn xe σ H s r _ (fun ρ' σ' H' n r' => h ρ' H' n σ' H' (Sx.refl H') r' Dn k1 k2) k2
end
section
variable {P : Program} {w : World} {K : PySem.W.Frag} {mg : Str → Option Value} {base : Heap} (T : Tx K mg)
include T
def S_fits (K : PySem.W.Frag) : Hp → List D → D → Prop := fun H ds d => d = .bl true ∧ ((∃ sg prog xs r, RegAt K H sg 3 prog ∧ R2Ok prog xs r ∧ GxR.TabG H (He.cT K qReg).2 ∧ ds = [iD 1, .ref sg]) ∨ ∃ sg prog, RegAt K H sg 2 prog ∧ C2Ok prog ∧ ds = [iD 2, .ref sg])
theorem ok_law_fits (TB : GxR.TabB base mg (He.codeOf K qReg) (He.cT K qReg).2) : Cal P w K mg base 7 "_law_fits" (spF (S_fits K)) := by
  have m2 := mk_R2C (P := P) (w := w) (base := base) T TB
  have m3 := mk_C2T (P := P) (w := w) (base := base) T
  refine calF T.g__law_fits (fn__law_fits T) sc__law_fits (by decide) (fun H ds d h => by rcases h with ⟨_, ⟨_, _, _, _, _, _, _, rfl⟩ | ⟨_, _, _, _, rfl⟩⟩ <;> rfl) fun cdv A outer s H E hr ds d hS => ?_
  have nm : Names (cxD P w K mg base N__law_fits "_law_fits" st__law_fits (He.ga K "_law_fits") cdv A outer s H E) "NotFitting" (.ref (He.ga K "NotFitting")) := ⟨rfl, by decide, .inl T.g_NotFitting⟩
  rcases hS with ⟨rfl, ⟨sg, prog, xs, r, hsg, ok, tg, rfl⟩ | ⟨sg, prog, hsg, ok, rfl⟩⟩
  · refine dss_tryB (N1 := fun ρ1 H1 => Sx H H1 ∧ ρ1 = [some (iD 1), some (.ref sg)]) (fun pn xe => ?_) nm ?_
    · refine dss_ifF (N1 := fun ρ1 H1 => Sx H H1 ∧ ρ1 = [some (iD 1), some (.ref sg)]) (DT.is (dt_eq (de_var 0 rfl) de_int) (by decide)) ?_ ?_
      · refine dss_ifT (N1 := fun ρ1 H1 => Sx H H1 ∧ ρ1 = [some (iD 1), some (.ref sg)]) (DT.is (dt_eq (de_var 0 rfl) de_int) (by decide)) ?_ ?_
        · refine dss_exprN (dn_make m2 (show Room 6 _ from hr) (by decide) (da_cons (de_var 1 rfl) da_nil) (fun H => DatL.nil) (Pm := fun _ _ => True) fun H1 y s1 hy i1 => ⟨sg, prog, xs, r, hsg.mono s1, ok, s1.t _ tg, rfl, fun _ _ _ _ _ => trivial⟩) fun d H1 s1 _ => dss_nil fun H2 s2 => ⟨s1.trans s2, rfl⟩
        · rintro ρ1 H1 ⟨s1, rfl⟩
          exact dss_nil fun H2 s2 => ⟨s1.trans s2, rfl⟩
      · rintro ρ1 H1 ⟨s1, rfl⟩
        exact dss_nil fun H2 s2 => ⟨s1.trans s2, rfl⟩
    · rintro ρ1 H1 ⟨s1, rfl⟩
      exact dss_ret de_bl fun H2 s2 => ⟨rfl, s1.trans s2⟩
  · refine dss_tryB (N1 := fun ρ1 H1 => Sx H H1 ∧ ρ1 = [some (iD 2), some (.ref sg)]) (fun pn xe => ?_) nm ?_
    · refine dss_ifF (N1 := fun ρ1 H1 => Sx H H1 ∧ ρ1 = [some (iD 2), some (.ref sg)]) (DT.is (dt_eq (de_var 0 rfl) de_int) (by decide)) ?_ ?_
      · refine dss_ifF (N1 := fun ρ1 H1 => Sx H H1 ∧ ρ1 = [some (iD 2), some (.ref sg)]) (DT.is (dt_eq (de_var 0 rfl) de_int) (by decide)) ?_ ?_
        · refine dss_ifT (N1 := fun ρ1 H1 => Sx H H1 ∧ ρ1 = [some (iD 2), some (.ref sg)]) (DT.is (dt_eq (de_var 0 rfl) de_int) (by decide)) ?_ ?_
          · refine dss_exprN (dn_make m3 (show Room 6 _ from hr) (by decide) (da_cons (de_var 1 rfl) da_nil) (fun H => DatL.nil) (Pm := fun _ _ => True) fun H1 y s1 hy i1 => ⟨sg, prog, hsg.mono s1, ok, rfl, fun _ _ _ => trivial⟩) fun d H1 s1 _ => dss_nil fun H2 s2 => ⟨s1.trans s2, rfl⟩
          · rintro ρ1 H1 ⟨s1, rfl⟩
            exact dss_nil fun H2 s2 => ⟨s1.trans s2, rfl⟩
        · rintro ρ1 H1 ⟨s1, rfl⟩
          exact dss_nil fun H2 s2 => ⟨s1.trans s2, rfl⟩
      · rintro ρ1 H1 ⟨s1, rfl⟩
        exact dss_nil fun H2 s2 => ⟨s1.trans s2, rfl⟩
    · rintro ρ1 H1 ⟨s1, rfl⟩
      exact dss_ret de_bl fun H2 s2 => ⟨rfl, s1.trans s2⟩
end
end K5
namespace K5
open PySem PySem.Spec PyProof.Rows L2
def pos1 (I : ChI) (s a : Nat) : Nat := match valD (mksE I.a.ms) (lbK (.two s a)) with
  | some (.int z) => z.toNat
  | _ => 0
def nOf (c : Cf) : Nat := gN (numOf 2 c.l) (numOf 2 c.r) 0
def picF (I : ChI) (c : Cf) : Cf := ⟨I.b.xs.getD (pos1 I c.s c.a) 0, List.replicate (nOf c) 1, 2, []⟩
/-- a configuration that its picture gives back -/
structure GoodC (I : ChI) (c : Cf) : Prop where
  p : Pic1 I c (pos1 I c.s c.a)
  x : I.b.xs[pos1 I c.s c.a]? = some (I.b.xs.getD (pos1 I c.s c.a) 0)
  n : nOf c ≤ 80000
  b : valD (prsE I.a.ms) (Sum.inl (pos1 I c.s c.a : Int)) = some (.tup [iD c.s, iD c.a])
  u : ∀ (i z : Nat), i < pos1 I c.s c.a → I.b.xs[i]? = some z → z ≠ I.b.xs.getD (pos1 I c.s c.a) 0
  m2 : ∃ m, nOf c = 2 ^ numOf 2 c.l * m ∧ m % 2 ≠ 0
  m3 : ∃ m, nOf c = 3 ^ numOf 2 c.r * m ∧ m % 3 ≠ 0
  m5 : ∃ m, nOf c = 5 ^ 0 * m ∧ m % 5 ≠ 0
  dl : digs 2 (numOf 2 c.l) = c.l
  dr : digs 2 (numOf 2 c.r) = c.r
  ll : c.l.length ≤ 1000
  lr : c.r.length ≤ 1000
def costC (I : ChI) (c : Cf) (r : Rl) : Nat := sumR I.b.prog (f2 I) (cost1 2 r (numOf 2 c.l) (numOf 2 c.r)) (pos1 I c.s c.a, [numOf 2 c.l, numOf 2 c.r, 0])
structure CostOk (I : ChI) (c : Cf) (r : Rl) : Prop where
  w : r.w ≤ 10
  l : cost1 2 r (numOf 2 c.l) (numOf 2 c.r) ≤ 100000
  s : ∀ k, k < cost1 2 r (numOf 2 c.l) (numOf 2 c.r) → Step1Ok I (iterR I.b.prog k (pos1 I c.s c.a, [numOf 2 c.l, numOf 2 c.r, 0]))
/-- the law goes on n turns from c, with the budget b, and says True -/
def Fol (I : ChI) (rs rsT : List Rl) : Nat → Cf → Int → Prop
  | 0, _, _ => True
  | n + 1, c, b => GoodC I c ∧ match look rs c.s c.a with
    | none => stepT rsT (picF I c) = none
    | some r => CostOk I c r ∧ 1 ≤ costC I c r ∧ (b - (costC I c r : Int) < 0 ∨ (0 ≤ b - (costC I c r : Int) ∧ ∃ c', stepT rs c = some c' ∧ manyT rsT (costC I c r) (some (picF I c)) = some (picF I c') ∧ c'.l.length ≤ 1000 ∧ c'.r.length ≤ 1000 ∧ nOf c' ≤ 80000 ∧ Fol I rs rsT n c' (b - (costC I c r : Int))))
theorem okL_cf {c : Cf} (h1 : c.l.length ≤ 90000) (h2 : c.r.length ≤ 90000) : okL 2 (cfD c) = true := by
  have e : ∀ l : List Nat, l.length ≤ 90000 → okL 1 (.tup (iDs l)) = true := fun l hl => by
    show (decide ((iDs l).length ≤ 90000) && (iDs l).all (okL 0)) = true
    rw [List.length_map, decide_eq_true hl, Bool.true_and, List.all_map, List.all_eq_true]
    intro x _
    rfl
  show (decide (4 ≤ 90000) && ([iD c.s, .tup (iDs c.l), iD c.a, .tup (iDs c.r)].all (okL 1))) = true
  have f : ∀ n : Nat, okL 1 (iD n) = true := fun n => rfl
  simp only [List.all_cons, List.all_nil, e _ h1, e _ h2, f]
  rfl
theorem stepT_perm {rs rs' : List Rl} (u : Uniq rs) (p : rs'.Perm rs) (c : Cf) : stepT rs' c = stepT rs c := by
  unfold stepT
  rw [look_perm u p]
theorem manyT_perm {rs rs' : List Rl} (u : Uniq rs) (p : rs'.Perm rs) : ∀ (n : Nat) (o : Option Cf), manyT rs' n o = manyT rs n o
  | 0, o => rfl
  | n + 1, o => by
    rw [manyT_succ, manyT_succ, manyT_perm u p n o]
    cases manyT rs n o with
    | none => rfl
    | some c => exact stepT_perm u p c
theorem stepT_none {rs : List Rl} {c : Cf} (h : look rs c.s c.a = none) : stepT rs c = none := by
  unfold stepT
  rw [h]
theorem stepT_some {rs : List Rl} {c : Cf} {r : Rl} (h : look rs c.s c.a = some r) : ∃ c', stepT rs c = some c' := by
  unfold stepT
  rw [h]
  simp only
  split
  · exact ⟨_, rfl⟩
  · split
    · exact ⟨_, rfl⟩
    · exact ⟨_, rfl⟩
section
variable {P : Program} {w : World} {K : PySem.W.Frag} {mg : Str → Option Value} {base : Heap} (T : Tx K mg)
include T
def S_follows (K : PySem.W.Frag) : Hp → List D → D → Prop := fun H ds d => ∃ (I : ChI) (rs : List Rl) (p n b : Nat) (c : Cf), ChAt K H I ∧ C2Ok I.c.prog ∧ DicW H p (tabE rs) ∧ I.a.rs = rs ∧ GoodC I c ∧ n ≤ 100 ∧ b ≤ 100000 ∧ (∀ o ∈ I.b.prog2, OpOk 2 I.b.prog2.length o) ∧ (∀ o ∈ I.b.prog, OpOk 3 I.b.prog.length o) ∧
  Fol I rs (ctR I.c.prog I.c.prog.length).1 n c b ∧ ds = [.ref I.y, runD p, cfD c, iD n, iD b, .bl true] ∧ d = .bl true
theorem ok_law_follows : Cal P w K mg base 7 "_law_follows" (spF (S_follows K)) := by
  have mrn := ok_law_runner (P := P) (w := w) (base := base) T
  have mpc := mt_Ch_pic (P := P) (w := w) (base := base) T
  have mbk := mt_Ch_back (P := P) (w := w) (base := base) T
  have mco := mt_Ch_cost (P := P) (w := w) (base := base) T
  have mls := mt_Ch_last (P := P) (w := w) (base := base) T
  have mlk := ok_like (P := P) (w := w) (base := base) T 2
  have mgo := ok_law_go (P := P) (w := w) (base := base) T
  have mmy := ok_law_many (P := P) (w := w) (base := base) T
  have mic := ok_is_count (P := P) (w := w) (base := base) T
  refine calF T.g__law_follows (fn__law_follows T) sc__law_follows (by decide) (fun H ds d h => by obtain ⟨I, rs, p, n, b, c, _, _, _, _, _, _, _, _, _, _, rfl, _⟩ := h; rfl) fun cdv A outer s H E hr ds d hS => ?_
  obtain ⟨I, rs, p, n, b0, c0, h, hC, hp, hrs, hg0, hn, hb0, hop2, hop, hF, rfl, rfl⟩ := hS
  have nd := sc__law_follows.nd
  generalize hT : (ctR I.c.prog I.c.prog.length).1 = rsT at hF
  have hu : Uniq rsT := by rw [← hT]; exact hC.un
  have pcD : ∀ {c : Cf}, GoodC I c → ∀ {H' : Hp}, Sx H H' → S_Ch_pic K H' [.ref I.y, cfD c] (cfD (picF I c)) := fun {c} g {H'} s' => ⟨I, c, _, _, h.mono s', g.p, g.x, by have := g.n; unfold nOf at this; omega, rfl, rfl⟩
  have bkD : ∀ {c : Cf}, GoodC I c → ∀ {H' : Hp}, Sx H H' → S_Ch_back K H' [.ref I.y, cfD (picF I c)] (cfD c) := fun {c} g {H'} s' => by
    obtain ⟨m2, e2⟩ := g.m2
    obtain ⟨m3, e3⟩ := g.m3
    obtain ⟨m5, e5⟩ := g.m5
    obtain ⟨q1, q2, q3, q4⟩ := g.p
    exact ⟨I, c.s, c.a, numOf 2 c.l, numOf 2 c.r, _, _, m2, m3, m5, h.mono s', q1, g.b, q3, q4, g.x, g.u, e2, e3, e5, rfl, by rw [g.dl, g.dr]⟩
  refine dss_asgN 6 nd (dnc mrn hr (by decide) (da_cons (d := .ref I.c.g) (de_fld (de_var 0 rfl) h.y T.c_Chain T.n_Chain_target rfl) da_nil) (P := fun d H' => ∃ p' rs', d = runD p' ∧ rs'.Perm rsT ∧ DicW H' p' (tabE rs')) fun H2 s2 => ⟨I.c.g, _, 3, rsT, by rw [← hT]; exact h.c.g.mono s2, hu, by rw [← hT]; exact hC.ln, rfl, fun p' rs' H' a1 a2 a3 => ⟨p', rs', rfl, a1, a3⟩⟩) ?_
  rintro d H1 s1 ⟨p', rs', rfl, hperm, dT⟩
  refine dss_asg 7 nd (de_var 2 rfl) ?_
  refine dss_asg 8 nd (d := cfD (picF I c0)) (de_meth mpc hr (by decide) (de_var 0 rfl) (h.y.mono s1) rfl (da_cons (d := cfD c0) (de_var 2 rfl) da_nil) fun H3 s3 => pcD hg0 (s1.trans s3)) ?_
  refine dss_forR (fun H0 i ρ' H' => Sx H1 H' ∧ ∃ (c : Cf) (b : Int) (m : Nat), Fol I rs rsT m c b ∧ m + i = n ∧ b ≤ 100000 ∧ ρ' = [some (.ref I.y), some (runD p), some (cfD c0), some (iD n), some (.int b), some (.bl true), some (runD p'), some (cfD c), some (cfD (picF I c)), none, none, none, none]) (de_var 3 rfl) (by omega) ?_ ?_ ?_ T.f_range
  · exact fun H2 s2 => ⟨_, Wk.refl _, s2, c0, b0, n, hF, rfl, by omega, rfl⟩
  · rintro H0 s0 i ρ' H' hi ⟨s2, c, b, m, hF2, hmi, hb, rfl⟩
    obtain ⟨m, rfl⟩ : ∃ m', m = m' + 1 := ⟨m - 1, by omega⟩
    obtain ⟨g, hF3⟩ := hF2
    have sH := s1.trans s2
    have h2 := h.mono sH
    have gl := g.ll
    have gr := g.lr
    have gn := g.n
    have pl : (picF I c).l.length = nOf c := List.length_replicate
    have pr : (picF I c).r.length = 0 := rfl
    have okc : okL 2 (cfD c) = true := okL_cf (by omega) (by omega)
    have okp : okL 2 (cfD (picF I c)) = true := okL_cf (by omega) (by omega)
    refine ⟨_, dg_name 9 nd, ?_⟩
    refine dss_skip (DT.is (dt_not (k := true) (dt_val (de_call mlk hr (by decide) (da_cons (d := cfD c) (de_meth mbk hr (by decide) (de_var 0 rfl) h2.y rfl (da_cons (d := cfD (picF I c)) (de_var 8 rfl) da_nil) fun H3 s3 => bkD g (sH.trans s3)) (da_cons (d := cfD c) (de_var 7 rfl) da_nil)) fun H3 s3 => ⟨cfD c, okc, rfl, rfl⟩))) rfl) ?_
    refine dss_skip (DW.t (dw_and (k1 := true) (k2 := false) (dt_val (de_var 5 rfl)) fun _ => dw_and1 (DT.is (dt_not (k := true) (dt_val (de_call mlk hr (by decide) (da_cons (d := cfD (picF I c)) (de_var 8 rfl) (da_cons (d := cfD (picF I c)) (de_meth mpc hr (by decide) (de_var 0 rfl) h2.y rfl (da_cons (d := cfD c) (de_var 7 rfl) da_nil) fun H3 s3 => pcD g (sH.trans s3)) da_nil)) fun H3 s3 => ⟨cfD (picF I c), okp, rfl, rfl⟩))) rfl))) ?_
    refine dss_asg 10 nd (d := optD (stepT rs c)) (de_call mgo hr (by decide) (da_cons (de_var 1 rfl) (da_cons (de_var 7 rfl) da_nil)) fun H3 s3 => ⟨p, rs, c, (hp.mono (sH.trans s3)).r, by omega, by omega, rfl, rfl⟩) ?_
    cases hl : look rs c.s c.a with
    | none =>
      rw [hl] at hF3
      have hst : stepT rsT (picF I c) = none := hF3
      rw [stepT_none hl]
      refine dss_leave (DT.is (dt_isN (de_var 10 rfl)) rfl) ?_
      refine dss_asg 11 nd (d := iD 0) (de_meth mls hr (by decide) (de_var 0 rfl) h2.y rfl (da_cons (d := cfD c) (de_var 7 rfl) da_nil) fun H3 s3 => ⟨I, c, _, _, h2.mono s3, g.p, g.x, by unfold nOf at gn; omega, hop2, hop, rfl, rfl⟩) ?_
      refine dss_skip (DT.is (dt_not (k := true) (dt_val (de_call mic hr (by decide) (da_cons (de_var 11 rfl) (da_cons (d := iD 0) de_int da_nil)) fun H3 s3 => ⟨0, 0, by omega, rfl, rfl⟩))) rfl) ?_
      refine dss_asg 8 nd (d := cfD (picF I c)) (de_call mmy hr (by decide) (da_cons (de_var 6 rfl) (da_cons (d := cfD (picF I c)) (de_var 8 rfl) (da_cons (de_var 11 rfl) da_nil))) fun H3 s3 => ⟨p', rs', picF I c, 0, (dT.mono (s2.trans s3)).r, by omega, by omega, rfl, rfl⟩) ?_
      refine dss_skip (DW.t (dw_or (k1 := false) (k2 := false) (DT.is (dt_isN (d := cfD (picF I c)) (de_var 8 rfl)) rfl) fun _ => dw_or1 (DT.is (dt_notN (d := optD (stepT rs' (picF I c))) (de_call mgo hr (by decide) (da_cons (de_var 6 rfl) (da_cons (d := cfD (picF I c)) (de_var 8 rfl) da_nil)) fun H3 s3 => ⟨p', rs', picF I c, (dT.mono (s2.trans s3)).r, by omega, by omega, rfl, rfl⟩)) (by rw [stepT_perm hu hperm, hst]; rfl)))) ?_
      exact dss_ret (d := .bl true) (de_call mlk hr (by decide) (da_cons (d := cfD c) (de_meth mbk hr (by decide) (de_var 0 rfl) h2.y rfl (da_cons (d := cfD (picF I c)) (de_var 8 rfl) da_nil) fun H3 s3 => bkD g (sH.trans s3)) (da_cons (d := cfD c) (de_var 7 rfl) da_nil)) fun H3 s3 => ⟨cfD c, okc, rfl, rfl⟩) fun H3 s3 => ⟨rfl, sH.trans s3⟩
    | some r =>
      rw [hl] at hF3
      obtain ⟨co, c1, hF4⟩ := hF3
      obtain ⟨c', hst⟩ := stepT_some hl
      rw [hst]
      refine dss_skip (DT.is (dt_isN (d := cfD c') (de_var 10 rfl)) rfl) ?_
      refine dss_asg 12 nd (d := iD (costC I c r)) (de_meth mco hr (by decide) (de_var 0 rfl) h2.y rfl (da_cons (d := cfD c) (de_var 7 rfl) da_nil) fun H3 s3 => ⟨I, c, _, r, h2.mono s3, g.p, by rw [hrs]; exact hl, co.w, co.l, hop2, hop, co.s, rfl, rfl⟩) ?_
      generalize costC I c r = k at c1 hF4
      refine dss_skip (DT.is (dt_not (k := true) (dt_val (de_call mic hr (by decide) (da_cons (d := iD k) (de_var 12 rfl) (da_cons (d := iD 1) de_int da_nil)) fun H3 s3 => ⟨k, 1, c1, rfl, rfl⟩))) rfl) ?_
      refine dss_asg 4 nd (d := .int (b - (k : Int))) (de_sub (de_var 4 rfl) (de_var 12 rfl)) ?_
      refine dss_guard (kb := decide (b - (k : Int) < 0)) (dt_lt (de_var 4 rfl) de_int) (fun hk => dss_ret de_bl fun H3 s3 => ⟨rfl, sH.trans s3⟩) (fun hk => ?_)
      have hk2 := of_decide_eq_false hk
      rcases hF4 with hF4 | ⟨hk3, c'', hst2, hmy, q1, q2, q3, hF5⟩
      · exact absurd hF4 hk2
      · rw [hst] at hst2
        cases hst2
        refine dss_asg 8 nd (d := cfD (picF I c')) (de_call mmy hr (by decide) (da_cons (de_var 6 rfl) (da_cons (d := cfD (picF I c)) (de_var 8 rfl) (da_cons (d := iD k) (de_var 12 rfl) da_nil))) fun H3 s3 => ⟨p', rs', picF I c, k, (dT.mono (s2.trans s3)).r, by omega, by omega, rfl, by rw [manyT_perm hu hperm, hmy]; rfl⟩) ?_
        refine dss_skip (DT.is (dt_isN (d := cfD (picF I c')) (de_var 8 rfl)) rfl) ?_
        refine dss_asg 7 nd (d := cfD c') (de_var 10 rfl) (dss_nil fun H4 s4 => ⟨_, .same (.same (.same (.same (.same (.same (.same (.same (.same (.drop (.drop (.drop (.drop .nil)))))))))))), s2.trans s4, c', b - (k : Int), m, hF5, by omega, by omega, rfl⟩)
  · rintro H0 s0 ρ' H' ⟨s2, c, b, m, hF2, hmi, hb, rfl⟩
    exact dss_ret de_bl fun H3 s3 => ⟨rfl, (s1.trans s2).trans s3⟩
end
end K5
namespace K5
open PySem PySem.Spec PyProof.Rows L2
section
variable {X : Cx} {e : Expr} {es : List Expr} {ρ : Rho} {B : Hp} {ds : List D} {pos px : Pos} {k j : Nat} {C : Addr} {x : Str}
theorem dn_makeN {S : Hp → Addr → List D → (Hp → Prop) → Prop} {dvs : List V} {des : List D} {Pm : Addr → List D → Hp → Hp → Prop} {PA : List D → Hp → Prop} (mk : Mak X.prog X.w X.K X.mg X.base k x C (spI C S) dvs) (hr : Room j X.A) (hk : k + 1 ≤ j) (ha : DAN X (e :: es) ρ B PA) (hdv : ∀ H, DatL H des dvs)
    (hS : ∀ ds H1 H y, PA ds H1 → Sx B H1 → Sx H1 H → H1 y = none → Ins H y C [] → S H y (ds ++ des) (Pm y ds H1)) (hg : Gl X x := by rfl) (hdb : (x == ("__debug__" : Str)) = false := by decide)
    (he : starEach (e :: es) X.env = (false, eval e X.env) :: starEach es X.env := by rfl) (hpl : (backTo pos (starEach es X.env)).any (·.1) = false := by rfl) : DN X (.Call (.Name x px) (e :: es) [] pos) ρ B (fun d H => ∃ y ds H1, d = .ref y ∧ PA ds H1 ∧ Sx B H1 ∧ Sx H1 H ∧ Pm y ds H1 H) := by
  obtain ⟨f, fd, ps, dsv, M, F, hm, b, dv⟩ := mk.ex
  exact fun σ H s r Q q => wE_of (pe_make M F (hr.mono hk) hg hm b dv pass0 pa_w hdb he hpl) (ha σ H s r _ fun ds vs H1 p1 s1 e1 y dy ny nd nex => by
    have s2 := made_sx (C := C) ny nd nex
    refine ⟨y, ds ++ des, vs ++ dvs, Pm y ds H1, rfl, (DatL.mono s2 _ _ e1).append (hdv _), made_ins, hS ds H1 _ y p1 (s.trans s1) s2 ny made_ins, fun H3 p3 b3 => ⟨rfl, ?_⟩⟩
    have s13 : Sx H1 H3 := b3.same s2 (fun a ha => by rw [show a = y by simpa using ha]; exact ny)
    exact q (.ref y) _ H3 ⟨y, ds, H1, rfl, p1, s.trans s1, s13, p3⟩ (s1.trans s13) rfl)
end
def drL (ns : List Int) : List Nat := drawF (cellF ns 0) 4
def nL (ns : List Int) : Nat := 1 + (drL ns).getD 0 0 % 2
def rsL (ns : List Int) : List Rl := allRules ((drawF (cellF ns 1) 30).drop 14) (nL ns) 2 (nL ns)
def sideL (ns : List Int) : List Nat := ([[], [1], []] : List (List Nat)).getD ((drL ns).getD 1 0 % 3) []
def rightL (ns : List Int) : List Nat := if sideL ns = [] ∧ (drL ns).getD 1 0 % 5 = 0 then [1] else []
def beginL (ns : List Int) : Cf := ⟨(drL ns).getD 2 0 % nL ns, sideL ns, (drL ns).getD 2 0 / 4 % 2, rightL ns⟩
def cntS (rs : List Rl) (q : Option Cf × Nat) : Option Cf × Nat := match q.1 with
  | none => q
  | some c => if c.l.sum < 2 ∧ c.r.sum < 2 then (stepT rs c, q.2 + 1) else q
def cntL (rs : List Rl) (c : Cf) : Nat → Option Cf × Nat
  | 0 => (some c, 0)
  | k + 1 => cntS rs (cntL rs c k)
theorem cntL_le (rs : List Rl) (c : Cf) : ∀ k, (cntL rs c k).2 ≤ k
  | 0 => Nat.le_refl 0
  | k + 1 => by
    have h := cntL_le rs c k
    show (cntS rs (cntL rs c k)).2 ≤ k + 1
    generalize cntL rs c k = q at h
    obtain ⟨o, j⟩ := q
    have h : j ≤ k := h
    unfold cntS
    cases o with
    | none =>
      show j ≤ k + 1
      omega
    | some d =>
      simp only
      split
      · show j + 1 ≤ k + 1
        omega
      · show j ≤ k + 1
        omega
/-- what the mathematics must tell -/
structure LawOk (ns : List Int) (ms : List (Nat × Nat × Nat)) (r1 : Lb → Nat) (xs : List Nat) (r2 : Lb → Nat) (prog1 prog2 : List Op) : Prop where
  dl : (drL ns).length = 4
  dd : 0 < ((drawF (cellF ns 1) 30).drop 14).length
  un : Uniq (rsL ns)
  t2 : T2Ok (nL ns) 2 (rsL ns) ms r1
  p1 : prog1 = (allW (rsL ns) 2 (nL ns)).1.map (rop r1)
  r2k : R2Ok prog1 xs r2
  p2 : prog2 = (instsW prog1 prog1.length).1.map (rop r2)
  c2 : C2Ok prog2
  o1 : ∀ o ∈ prog1, OpOk 3 prog1.length o
  o2 : ∀ o ∈ prog2, OpOk 2 prog2.length o
  gd : ∀ I : ChI, I.a.m = 2 → I.a.ms = ms → I.a.rs = rsL ns → I.b.xs = xs → I.b.prog = prog1 → I.b.prog2 = prog2 → I.c.prog = prog2 → GoodC I (beginL ns) ∧ Fol I (rsL ns) (ctR prog2 prog2.length).1 (cntL (rsL ns) (beginL ns) 3).2 (beginL ns) 6000
section
variable {P : Program} {w : World} {K : PySem.W.Frag} {mg : Str → Option Value} {base : Heap} (T : Tx K mg)
include T
def S_law (K : PySem.W.Frag) : Hp → List D → D → Prop := fun H ds d => ∃ p ns ms r1 xs r2 prog1 prog2, SqL K H p (ns.map V.int) ∧ LawOk ns ms r1 xs r2 prog1 prog2 ∧ GxR.TabG H (He.cT K qReg).2 ∧ GxR.TabG H (He.cT K qCh).2 ∧ ds = [.ref p] ∧ d = .bl true
omit T in
theorem isN_optD (o : Option Cf) : isN (optD o) = o.isNone := by cases o <;> rfl
theorem ok_law (TB : GxR.TabB base mg (He.codeOf K qReg) (He.cT K qReg).2) (TB2 : GxR.TabB base mg (He.codeOf K qCh) (He.cT K qCh).2) {fd : FuncData} (F : Fun K "law" "law" st_law (He.ga K "law") fd) : FnOk P w K mg base CX0 8 (He.ga K "law") fd P_law (spF (S_law K)) := by
  have mce := ok_law_cell (P := P) (w := w) (base := base) T
  have mdr := ok_law_draws (P := P) (w := w) (base := base) T
  have mdt := ok_law_drawn (P := P) (w := w) (base := base) T
  have m1 := mk_T2R (P := P) (w := w) (base := base) T TB
  have m2 := mk_R2C (P := P) (w := w) (base := base) T TB
  have m3 := mk_C2T (P := P) (w := w) (base := base) T
  have mch := mk_Chain (P := P) (w := w) (base := base) T TB2
  have mft := ok_law_fits (P := P) (w := w) (base := base) T TB
  have mgo := ok_law_go (P := P) (w := w) (base := base) T
  have mfo := ok_law_follows (P := P) (w := w) (base := base) T
  refine okF F sc_law (by decide) (fun H ds d h => by obtain ⟨p, ns, ms, r1, xs, r2, prog1, prog2, _, _, _, _, rfl, _⟩ := h; rfl) fun cdv A outer s H E hr ds d hS => ?_
  obtain ⟨p, ns, ms, r1, xs, r2, prog1, prog2, hp, L, tg1, tg2, rfl, rfl⟩ := hS
  have nd := sc_law.nd
  have dl := L.dl
  have ix : ∀ k, k < 4 → (iDs (drL ns))[k]? = some (iD ((drL ns).getD k 0)) := fun k hk => by
    rw [List.getElem?_map, List.getD_eq_getElem?_getD, List.getElem?_eq_getElem (by omega)]
    rfl
  have ixn : ∀ k : Nat, k < 4 → ixN (iDs (drL ns)).length (k : Int) = some k := fun k hk => ixN_nat (by rw [List.length_map]; omega)
  have hn1 : 1 ≤ nL ns := by unfold nL; omega
  have hn2 : nL ns ≤ 2 := by unfold nL; omega
  have hrz : (rsL ns).length < 90000 := by
    have := allRules_length ((drawF (cellF ns 1) 30).drop 14) (nL ns) 2 (nL ns)
    show (allRules ((drawF (cellF ns 1) 30).drop 14) (nL ns) 2 (nL ns)).length < 90000
    omega
  refine dss_asg 1 nd (d := .lst (iDs (drL ns))) (de_call mdr hr (by decide) (da_cons (d := iD (cellF ns 0)) (de_call mce hr (by decide) (da_cons (de_var 0 rfl) (da_cons (d := iD 0) de_int da_nil)) fun H2 s2 => ⟨p, ns, 0, sqL_sx hp s2, rfl, rfl⟩) (da_cons (d := iD 4) de_int da_nil)) fun H2 s2 => ⟨cellF ns 0, 4, by omega, rfl, rfl⟩) ?_
  refine dss_asg 2 nd (DE.is (d' := iD (nL ns)) (de_add de_int (de_mod (de_ixL (t := 0) (de_var 1 rfl) de_int (ixn 0 (by omega)) (ix 0 (by omega))) de_int (by omega))) rfl) ?_
  refine dss_unpN (dnc mdt hr (by decide) (da_cons (d := iD (cellF ns 1)) (de_call mce hr (by decide) (da_cons (de_var 0 rfl) (da_cons (d := iD 1) de_int da_nil)) fun H2 s2 => ⟨p, ns, 1, sqL_sx hp s2, rfl, rfl⟩) (da_cons (de_var 2 rfl) (da_cons (d := iD 2) de_int da_nil))) (P := fun d H' => ∃ t q, d = .lst [.ref t, runD q, .lst (rlDs (rsL ns))] ∧ TurAt K H' t (nL ns) 2 (rsL ns) ∧ DicW H' q (tabE (rsL ns))) fun H2 s2 => ⟨cellF ns 1, nL ns, rsL ns, hn1, hn2, L.dd, rfl, L.t2.ok, L.un, hrz, rfl, fun t q H' s' a b => ⟨t, q, rfl, a, b⟩⟩) ?_
  rintro d H1 s1 ⟨t, q, rfl, ⟨ta, rs', tI, tD, tP⟩, dq⟩
  have tX : TurX K H1 t ta (nL ns) 2 (rsL ns) rs' := ⟨tI, tD, tP⟩
  refine ⟨_, dg_lst (dgs_cons (dg_name 3 nd) (dgs_cons (dg_name 4 nd) (dgs_cons (dg_name 5 nd) dgs_nil))), ?_⟩
  refine dss_asgN 6 nd (dn_make m1 hr (by decide) (da_cons (de_var 3 rfl) da_nil) (fun H => DatL.nil) (Pm := fun y H' => ∃ pl pr g, T2At K H' y t ta pl pr g (nL ns) 2 (rsL ns) rs' ms prog1) fun H2 y s2 hy i2 => ⟨t, ta, nL ns, 2, rsL ns, rs', ms, r1, tX.mono s2, L.t2, (s1.trans s2).t _ tg1, rfl, fun H' pl pr g h => ⟨pl, pr, g, by rw [L.p1]; exact h⟩⟩) ?_
  rintro d H2 s2 ⟨y1, rfl, _, pl, pr, g1, h1⟩
  have s02 := s1.trans s2
  refine dss_skip (DT.is (dt_not (k := true) (dt_val (de_call mft hr (by decide) (da_cons (d := iD 1) de_int (da_cons (d := .ref g1) (de_fld (de_var 6 rfl) h1.y T.c_TuringToRegisters T.n_TuringToRegisters_target rfl) da_nil)) fun H3 s3 => ⟨rfl, .inl ⟨g1, prog1, xs, r2, h1.g.mono s3, L.r2k, (s02.trans s3).t _ tg1, rfl⟩⟩))) rfl) ?_
  refine dss_asgN 7 nd (dn_make m2 hr (by decide) (da_cons (d := .ref g1) (de_fld (de_var 6 rfl) h1.y T.c_TuringToRegisters T.n_TuringToRegisters_target rfl) da_nil) (fun H => DatL.nil) (Pm := fun y H' => ∃ pm pp g, R2At K H' ⟨y, g1, pm, pp, g, prog1, xs, prog2⟩) fun H3 y s3 hy i3 => ⟨g1, prog1, xs, r2, h1.g.mono s3, L.r2k, (s02.trans s3).t _ tg1, rfl, fun H' pm pp g h => ⟨pm, pp, g, by rw [L.p2]; exact h⟩⟩) ?_
  rintro d H3 s3 ⟨y2, rfl, _, pm, pp, g2, h2⟩
  have s03 := s02.trans s3
  refine dss_skip (DT.is (dt_not (k := true) (dt_val (de_call mft hr (by decide) (da_cons (d := iD 2) de_int (da_cons (d := .ref g2) (de_fld (de_var 7 rfl) h2.y T.c_RegistersToCounters T.n_RegistersToCounters_target rfl) da_nil)) fun H4 s4 => ⟨rfl, .inr ⟨g2, prog2, h2.g.mono s4, L.c2, rfl⟩⟩))) rfl) ?_
  refine dss_asgN 8 nd (dn_makeN mch hr (by decide) (PA := fun ds H' => ∃ y3 g3, ds = [.lst [.ref y1, .ref y2, .ref y3]] ∧ C2At K H' ⟨y3, g2, g3, prog2⟩) ?_ (des := [iD 100000]) (fun H => ⟨_, _, rfl, rfl, rfl⟩) (Pm := fun y ds H1 H' => ∃ y3 g3 tl, Ins H' y (He.ga K "Chain") [("translations", .ref tl), ("limit", iD 100000), ("source", .ref t), ("target", .ref g3)] ∧ LstAt H' tl [.ref y1, .ref y2, .ref y3] ∧ C2At K H1 ⟨y3, g2, g3, prog2⟩) ?_) ?_
  · refine (dan_cons (P1 := fun d H' => ∃ y3 g3, d = .lst [.ref y1, .ref y2, .ref y3] ∧ C2At K H' ⟨y3, g2, g3, prog2⟩) (P2 := fun _ r _ => r = []) ?_ fun _ _ _ _ => dan_nil).imp ?_
    · refine (dn_lst (dan_cons (P1 := fun d _ => d = .ref y1) (P2 := fun _ r H' => ∃ y3 g3, r = [.ref y2, .ref y3] ∧ C2At K H' ⟨y3, g2, g3, prog2⟩) ((DE.n (de_var 6 rfl)).imp fun d H' _ q => q.1) fun d1 H5 s5 q1 => ?_) ?_).imp ?_
      · refine (dan_cons (P1 := fun d _ => d = .ref y2) (P2 := fun _ r H' => ∃ y3 g3, r = [.ref y3] ∧ C2At K H' ⟨y3, g2, g3, prog2⟩) ((DE.n (de_var 7 rfl)).imp fun d H' _ q => q.1) fun d2 H6 s6 q2 => ?_).imp ?_
        · refine (dan_cons (P1 := fun d H' => ∃ y3 g3, d = .ref y3 ∧ C2At K H' ⟨y3, g2, g3, prog2⟩) (P2 := fun _ r _ => r = []) ?_ fun _ _ _ _ => dan_nil).imp ?_
          · refine (dn_make m3 hr (by decide) (da_cons (d := .ref g2) (de_fld (de_var 7 rfl) (h2.y.mono (s5.trans s6)) T.c_RegistersToCounters T.n_RegistersToCounters_target rfl) da_nil) (fun H => DatL.nil) (Pm := fun y H' => ∃ g, C2At K H' ⟨y, g2, g, prog2⟩) fun H7 y s7 hy i7 => ⟨g2, prog2, h2.g.mono ((s5.trans s6).trans s7), L.c2, rfl, fun H' g h => ⟨g, h⟩⟩).imp ?_
            rintro d H' _ ⟨y3, rfl, _, g3, h3⟩
            exact ⟨y3, g3, rfl, h3⟩
          · rintro ds H' _ ⟨d, r, H7, rfl, ⟨y3, g3, rfl, h3⟩, _, sd, rfl⟩
            exact ⟨y3, g3, rfl, h3.mono sd⟩
        · rintro ds H' _ ⟨d, r, H7, rfl, rfl, _, _, y3, g3, rfl, h3⟩
          exact ⟨y3, g3, rfl, h3⟩
      · rintro ds H' ⟨d, r, H7, rfl, _, _, _, y3, g3, rfl, _⟩
        show 3 ≤ 100000
        omega
      · rintro d H' _ ⟨ds, H6, rfl, ⟨d, r, H7, rfl, rfl, _, _, y3, g3, rfl, h3⟩, _, sf⟩
        exact ⟨y3, g3, rfl, h3.mono sf⟩
    · rintro ds H' _ ⟨d, r, H7, rfl, ⟨y3, g3, rfl, h3⟩, _, sd, rfl⟩
      exact ⟨y3, g3, rfl, h3.mono sd⟩
  · rintro ds H5 H6 y ⟨y3, g3, rfl, h3⟩ s5 s6 hy i6
    have s35 := s3.trans s5
    exact ⟨⟨y1, t, ta, pl, pr, g1, nL ns, 2, rsL ns, rs', ms, prog1⟩, ⟨y2, g1, pm, pp, g2, prog1, xs, prog2⟩, ⟨y3, g2, g3, prog2⟩, h1.mono ((s3.trans s5).trans s6), h2.mono (s5.trans s6), h3.mono s6, rfl, rfl, ((s03.trans s5).trans s6).t _ tg2, rfl, fun H' tl a b => ⟨y3, g3, tl, a, b, h3⟩⟩
  · rintro d H4 s4 ⟨y, ds, H5, rfl, _, s5, s6, y3, g3, tl, iy, il, h3⟩
    have hI : ChAt K H4 ⟨y, tl, ⟨y1, t, ta, pl, pr, g1, nL ns, 2, rsL ns, rs', ms, prog1⟩, ⟨y2, g1, pm, pp, g2, prog1, xs, prog2⟩, ⟨y3, g2, g3, prog2⟩⟩ := ⟨iy, il, h1.mono (s3.trans s4), h2.mono s4, h3.mono s6, rfl, rfl, rfl, rfl⟩
    obtain ⟨hg, hF⟩ := L.gd ⟨y, tl, ⟨y1, t, ta, pl, pr, g1, nL ns, 2, rsL ns, rs', ms, prog1⟩, ⟨y2, g1, pm, pp, g2, prog1, xs, prog2⟩, ⟨y3, g2, g3, prog2⟩⟩ rfl rfl rfl rfl rfl rfl rfl
    have s04 := s03.trans s4
    refine dss_asg 9 nd (d := .tup (iDs (sideL ns))) (de_ixL (t := (drL ns).getD 1 0 % 3) (ds := [.tup [], .tup [iD 1], .tup []]) (de_ls (da_cons (de_tp da_nil) (da_cons (de_tp (da_cons de_int da_nil)) (da_cons (de_tp da_nil) da_nil))) (by show 3 ≤ 100000; omega)) (DE.is (d' := iD ((drL ns).getD 1 0 % 3)) (de_mod (de_ixL (t := 1) (de_var 1 rfl) de_int (ixn 1 (by omega)) (ix 1 (by omega))) de_int (by omega)) rfl) (ixN_nat (by show _ < 3; omega)) ?_) ?_
    · unfold sideL
      have h3 : (drL ns).getD 1 0 % 3 < 3 := by omega
      generalize (drL ns).getD 1 0 % 3 = i at h3
      match i, h3 with
      | 0, _ => rfl
      | 1, _ => rfl
      | 2, _ => rfl
    · refine dss_asg 10 nd (d := cfD (beginL ns)) (de_tp (da_cons (DE.is (d' := iD ((drL ns).getD 2 0 % nL ns)) (de_mod (de_ixL (t := 2) (de_var 1 rfl) de_int (ixn 2 (by omega)) (ix 2 (by omega))) (de_var 2 rfl) (by omega)) rfl) (da_cons (d := .tup (iDs (sideL ns))) (de_var 9 rfl) (da_cons (DE.is (d' := iD ((drL ns).getD 2 0 / 4 % 2)) (de_mod (de_fdiv (de_ixL (t := 2) (de_var 1 rfl) de_int (ixn 2 (by omega)) (ix 2 (by omega))) de_int ⟨by omega, by omega⟩) de_int (by omega)) rfl) (da_cons (d := .tup (iDs (rightL ns))) (de_ixL (t := if sideL ns = [] ∧ (drL ns).getD 1 0 % 5 = 0 then 1 else 0) (ds := [.tup [], .tup [iD 1]]) (de_ls (da_cons (de_tp da_nil) (da_cons (de_tp (da_cons de_int da_nil)) da_nil)) (by show 2 ≤ 100000; omega)) (de_intB (kb := decide (sideL ns = []) && decide ((drL ns).getD 1 0 % 5 = 0)) T.f_int (de_and (DE.is (d' := .bl (decide (sideL ns = []))) (de_eqI (ns := (sideL ns).map fun (n : Nat) => (n : Int)) (ms := []) hr (DE.is (d' := .tup (((sideL ns).map fun (n : Nat) => (n : Int)).map D.int)) (de_var 9 rfl) (by rw [List.map_map]; rfl)) (de_tp da_nil)) ?_) fun _ => de_one (DE.is (d' := .bl (decide ((drL ns).getD 1 0 % 5 = 0))) (de_eq (de_mod (de_ixL (t := 1) (de_var 1 rfl) de_int (ixn 1 (by omega)) (ix 1 (by omega))) de_int (by omega)) de_int) (congrArg D.bl (decide_eq_decide.mpr (by omega)))))) ?_ ?_) da_nil))))) ?_
      · congr 1
        exact decide_eq_decide.mpr ⟨fun z => List.map_eq_nil_iff.mp z, fun z => by rw [z]; rfl⟩
      · by_cases z : sideL ns = [] ∧ (drL ns).getD 1 0 % 5 = 0
        · rw [if_pos z, decide_eq_true z.1, decide_eq_true z.2]
          rfl
        · rw [if_neg z, show (decide (sideL ns = []) && decide ((drL ns).getD 1 0 % 5 = 0)) = false by
            rw [Bool.eq_false_iff]
            intro q
            obtain ⟨q1, q2⟩ := (Bool.and_eq_true_iff.mp q)
            exact z ⟨of_decide_eq_true q1, of_decide_eq_true q2⟩]
          rfl
      · unfold rightL
        by_cases z : sideL ns = [] ∧ (drL ns).getD 1 0 % 5 = 0
        · rw [if_pos z, if_pos z]
          rfl
        · rw [if_neg z, if_neg z]
          rfl
      · obtain ⟨tb3, rs3, t3I, t3D, t3P⟩ := h3.g
        refine dss_skip (DT.is (dt_ne (de_fld (de_fld (de_var 8 rfl) hI.y T.c_Chain T.n_Chain_target rfl) (t3I.mono s6) T.c_Turing T.n_Turing_symbols rfl) de_int) rfl) ?_
        refine dss_asg 11 nd (d := cfD (beginL ns)) (de_var 10 rfl) ?_
        refine dss_asg 12 nd (d := iD 0) de_int ?_
        have dq4 := dq.mono ((s2.trans s3).trans s4)
        have lenB : (beginL ns).l.length ≤ 1 ∧ (beginL ns).r.length ≤ 1 := by
          refine ⟨?_, ?_⟩
          · show (([[], [1], []] : List (List Nat)).getD ((drL ns).getD 1 0 % 3) []).length ≤ 1
            have h3 : (drL ns).getD 1 0 % 3 < 3 := by omega
            generalize (drL ns).getD 1 0 % 3 = i at h3
            match i, h3 with
            | 0, _ => decide
            | 1, _ => decide
            | 2, _ => decide
          · show (rightL ns).length ≤ 1
            unfold rightL
            split
            · exact Nat.le_refl 1
            · exact Nat.zero_le 1
        have cnt3 : (cntL (rsL ns) (beginL ns) 3).2 ≤ 3 := cntL_le _ _ 3
        generalize beginL ns = c0 at hg hF lenB cnt3
        refine dss_forR (fun H0 i ρ' H' => Sx H4 H' ∧ (∀ c, (cntL (rsL ns) c0 i).1 = some c → c.l.length ≤ 1 + i ∧ c.r.length ≤ 1 + i) ∧ (cntL (rsL ns) c0 i).2 ≤ i ∧ ρ' = [some (.ref p), some (.lst (iDs (drL ns))), some (iD (nL ns)), some (.ref t), some (runD q), some (.lst (rlDs (rsL ns))), some (.ref y1), some (.ref y2), some (.ref y), some (.tup (iDs (sideL ns))), some (cfD c0), some (optD (cntL (rsL ns) c0 i).1), some (iD (cntL (rsL ns) c0 i).2), none]) (n := 3) de_int (by omega) ?_ ?_ ?_ T.f_range
        · exact fun H7 s7 => ⟨_, Wk.refl _, s7, fun c e => by cases e; exact lenB, Nat.le_refl 0, rfl⟩
        · rintro H0 s0 i ρ' H' hi ⟨s7, hlen, hk, rfl⟩
          have dq7 := dq4.mono s7
          refine ⟨_, dg_name 13 nd, ?_⟩
          have estep : cntL (rsL ns) c0 (i + 1) = cntS (rsL ns) (cntL (rsL ns) c0 i) := rfl
          rw [estep]
          generalize cntL (rsL ns) c0 i = qq at hlen hk
          obtain ⟨oc, kk⟩ := qq
          cases oc with
          | none =>
            refine dss_skip (DW.t (dw_and (k1 := false) (k2 := true) (DT.is (dt_notN (d := .non) (de_var 11 rfl)) rfl) fun z => by cases z)) ?_
            exact dss_nil fun H8 s8 => ⟨_, .same (.same (.same (.same (.same (.same (.same (.same (.same (.same (.same (.same (.same (.drop .nil))))))))))))), s7.trans s8, fun c e => (by cases e), Nat.le_succ_of_le hk, rfl⟩
          | some c =>
            obtain ⟨ll, lr⟩ := hlen c rfl
            have sm : ∀ l : List Nat, ((l.map fun (n : Nat) => (n : Int)).sum : Int) = (l.sum : Nat) := fun l => by
              induction l with
              | nil => rfl
              | cons x l ih => rw [List.map_cons, List.sum_cons, List.sum_cons, ih]; omega
            have tp : ∀ l : List Nat, D.tup (iDs l) = .tup ((l.map fun (n : Nat) => (n : Int)).map D.int) := fun l => by rw [List.map_map]; rfl
            refine dss_if (fun ρ2 H2 => ∃ ρ3, Wk ρ2 ρ3 ∧ Sx H4 H2 ∧ (∀ c', (cntS (rsL ns) (some c, kk)).1 = some c' → c'.l.length ≤ 1 + (i + 1) ∧ c'.r.length ≤ 1 + (i + 1)) ∧ (cntS (rsL ns) (some c, kk)).2 ≤ i + 1 ∧ ρ3 = [some (.ref p), some (.lst (iDs (drL ns))), some (iD (nL ns)), some (.ref t), some (runD q), some (.lst (rlDs (rsL ns))), some (.ref y1), some (.ref y2), some (.ref y), some (.tup (iDs (sideL ns))), some (cfD c0), some (optD (cntS (rsL ns) (some c, kk)).1), some (iD (cntS (rsL ns) (some c, kk)).2), none])
              (kb := true && (decide (c.l.sum < 2) && decide (c.r.sum < 2))) (DW.t (dw_and (k1 := true) (DT.is (dt_notN (d := cfD c) (de_var 11 rfl)) rfl) fun _ => dw_and
                (DT.is (dt_lt (de_sumT (ns := c.l.map fun (n : Nat) => (n : Int)) T.f_sum (DE.is (d' := .tup ((c.l.map fun (n : Nat) => (n : Int)).map D.int)) (de_ixT (t := 1) (ds := [iD c.s, .tup (iDs c.l), iD c.a, .tup (iDs c.r)]) (de_var 11 rfl) de_int rfl rfl) (tp c.l))) de_int) (by rw [sm]; exact decide_eq_decide.mpr (by omega)))
                fun _ => dw_and1 (DT.is (dt_lt (de_sumT (ns := c.r.map fun (n : Nat) => (n : Int)) T.f_sum (DE.is (d' := .tup ((c.r.map fun (n : Nat) => (n : Int)).map D.int)) (de_ixT (t := 3) (ds := [iD c.s, .tup (iDs c.l), iD c.a, .tup (iDs c.r)]) (de_var 11 rfl) de_int rfl rfl) (tp c.r))) de_int) (by rw [sm]; exact decide_eq_decide.mpr (by omega))))) (fun hkb => ?_) (fun hkb => ?_) ?_
            · have z : c.l.sum < 2 ∧ c.r.sum < 2 := by simpa using hkb
              have eS : cntS (rsL ns) (some c, kk) = (stepT (rsL ns) c, kk + 1) := by
                unfold cntS
                simp only
                rw [if_pos z]
              rw [eS]
              refine dss_asg 12 nd (d := iD (kk + 1)) (DE.is (de_add (de_var 12 rfl) de_int) rfl) ?_
              refine dss_asg 11 nd (d := optD (stepT (rsL ns) c)) (de_call mgo hr (by decide) (da_cons (d := runD q) (de_var 4 rfl) (da_cons (d := cfD c) (de_var 11 rfl) da_nil)) fun H8 s8 => ⟨q, rsL ns, c, (dq7.mono s8).r, by omega, by omega, rfl, rfl⟩) ?_
              refine dss_nil fun H8 s8 => ⟨_, .same (.same (.same (.same (.same (.same (.same (.same (.same (.same (.same (.same (.same (.drop .nil))))))))))))), s7.trans s8, fun c' e => ?_, ?_, rfl⟩
              · have := stepT_len (show stepT (rsL ns) c = some c' from e)
                omega
              · show kk + 1 ≤ i + 1
                have : kk ≤ i := hk
                omega
            · have z : ¬(c.l.sum < 2 ∧ c.r.sum < 2) := by simpa using hkb
              have eS : cntS (rsL ns) (some c, kk) = (some c, kk) := by
                unfold cntS
                simp only
                rw [if_neg z]
              rw [eS]
              exact dss_nil fun H8 s8 => ⟨_, .same (.same (.same (.same (.same (.same (.same (.same (.same (.same (.same (.same (.same (.drop .nil))))))))))))), s7.trans s8, fun c' e => by cases e; exact ⟨by omega, by omega⟩, Nat.le_succ_of_le hk, rfl⟩
            · rintro ρ2 H2 hh
              exact dss_nil fun H8 s8 => by
                obtain ⟨ρ3, w3, s3, a, b, e⟩ := hh
                exact ⟨ρ3, w3, s3.trans s8, a, b, e⟩
        · rintro H0 s0 ρ' H' ⟨s7, _, hk, rfl⟩
          change DSs _ _ [some (.ref p), some (.lst (iDs (drL ns))), some (iD (nL ns)), some (.ref t), some (runD q), some (.lst (rlDs (rsL ns))), some (.ref y1), some (.ref y2), some (.ref y), some (.tup (iDs (sideL ns))), some (cfD c0), some (optD (cntL (rsL ns) c0 3).1), some (iD (cntL (rsL ns) c0 3).2), none] _ _ _
          refine dss_ret (d := .bl true) (de_call mfo hr (by decide) (da_cons (d := .ref y) (de_var 8 rfl) (da_cons (d := runD q) (de_var 4 rfl) (da_cons (d := cfD c0) (de_var 10 rfl) (da_cons (d := iD (cntL (rsL ns) c0 3).2) (de_var 12 rfl) (da_cons (d := iD 6000) de_int (da_cons (d := .bl true) de_bl da_nil)))))) fun H8 s8 => ⟨_, rsL ns, q, (cntL (rsL ns) c0 3).2, 6000, c0, hI.mono (s7.trans s8), L.c2, dq4.mono (s7.trans s8), rfl, hg, by omega, by omega, L.o2, L.o1, hF, rfl, rfl⟩) fun H8 s8 => ⟨rfl, (s04.trans s7).trans s8⟩
end
end K5
namespace K5
theorem iterR_add (p : List Op) (n : Nat) : ∀ (m : Nat) (c : Rc), iterR p (n + m) c = iterR p m (iterR p n c)
  | 0, c => rfl
  | m + 1, c => by
    show (stepR p (iterR p (n + m) c)).getD (0, []) = (stepR p (iterR p m (iterR p n c))).getD (0, [])
    rw [iterR_add p n m c]
/-- n turns from c to d, each of them with Q -/
structure Seg (p : List Op) (Q : Rc → Prop) (n : Nat) (c d : Rc) : Prop where
  e : iterR p n c = d
  q : ∀ k, k < n → Q (iterR p k c)
section
variable {p : List Op} {Q : Rc → Prop}
theorem Seg.nil (c : Rc) : Seg p Q 0 c c := ⟨rfl, fun k h => absurd h (by omega)⟩
theorem Seg.trans {n m : Nat} {c d f : Rc} (a : Seg p Q n c d) (b : Seg p Q m d f) : Seg p Q (n + m) c f := by
  refine ⟨by rw [iterR_add, a.e, b.e], fun k hk => ?_⟩
  by_cases h : k < n
  · exact a.q k h
  · have e : k = n + (k - n) := by omega
    rw [e, iterR_add, a.e]
    exact b.q _ (by omega)
theorem Seg.one {c d : Rc} (h : stepR p c = some d) (q : Q c) : Seg p Q 1 c d := by
  refine ⟨?_, fun k hk => ?_⟩
  · show (stepR p c).getD (0, []) = d
    rw [h]
    rfl
  · obtain rfl : k = 0 := by omega
    exact q
theorem Seg.cast {n m : Nat} {c d : Rc} (a : Seg p Q n c d) (h : n = m) : Seg p Q m c d := h ▸ a
theorem Seg.mono {R : Rc → Prop} {n : Nat} {c d : Rc} (a : Seg p Q n c d) (h : ∀ x, Q x → R x) : Seg p R n c d := ⟨a.e, fun k hk => h _ (a.q k hk)⟩
end
/-- a turn of two counters can be made -/
def Q2 (p : List Op) (q : Rc) : Prop := ∃ pc vs o, q = (pc, vs) ∧ vs.length = 2 ∧ p[pc]? = some o ∧ o ≠ .fin
section
variable {p : List Op} {x f o a b : Nat}
theorem q2 {op : Op} (h : p[x]? = some op) (hf : op ≠ .fin) : Q2 p (x, [a, b]) := ⟨x, [a, b], op, rfl, rfl, h, hf⟩
theorem sg_inc0 (h : p[x]? = some (.inc 0 f)) : Seg p (Q2 p) 1 (x, [a, b]) (f, [a + 1, b]) := .one (by unfold stepR; rw [h]; rfl) (q2 h (by simp))
theorem sg_inc1 (h : p[x]? = some (.inc 1 f)) : Seg p (Q2 p) 1 (x, [a, b]) (f, [a, b + 1]) := .one (by unfold stepR; rw [h]; rfl) (q2 h (by simp))
theorem sg_dec0 (h : p[x]? = some (.dec 0 f o)) : Seg p (Q2 p) 1 (x, [a + 1, b]) (f, [a, b]) := .one (by unfold stepR; rw [h]; rfl) (q2 h (by simp))
theorem sg_dec1 (h : p[x]? = some (.dec 1 f o)) : Seg p (Q2 p) 1 (x, [a, b + 1]) (f, [a, b]) := .one (by unfold stepR; rw [h]; rfl) (q2 h (by simp))
theorem sg_z0 (h : p[x]? = some (.dec 0 f o)) : Seg p (Q2 p) 1 (x, [0, b]) (o, [0, b]) := .one (by unfold stepR; rw [h]; rfl) (q2 h (by simp))
theorem sg_z1 (h : p[x]? = some (.dec 1 f o)) : Seg p (Q2 p) 1 (x, [a, 0]) (o, [a, 0]) := .one (by unfold stepR; rw [h]; rfl) (q2 h (by simp))
/-- a row of incs of the counter c, from x on, the last goes to f -/
def Incs (p : List Op) (c x k f : Nat) : Prop := ∀ i, i < k → p[x + i]? = some (.inc c (if i + 1 = k then f else x + i + 1))
theorem Incs.tail {c x k f : Nat} (h : Incs p c x (k + 1) f) : Incs p c (x + 1) k f := fun i hi => by
  have e := h (i + 1) (by omega)
  rw [show x + 1 + i = x + (i + 1) by omega, e]
  by_cases z : i + 1 = k
  · rw [if_pos z, if_pos (by omega)]
  · rw [if_neg z, if_neg (by omega)]
theorem sg_incs0 {f : Nat} : ∀ {k x a : Nat}, Incs p 0 x (k + 1) f → Seg p (Q2 p) (k + 1) (x, [a, b]) (f, [a + (k + 1), b])
  | 0, x, a, h => sg_inc0 (by simpa using h 0 (by omega))
  | k + 1, x, a, h => by
    have e := h 0 (by omega)
    rw [if_neg (by omega), Nat.add_zero] at e
    have s := (sg_inc0 (a := a) (b := b) e).trans (sg_incs0 (a := a + 1) h.tail)
    rw [show a + 1 + (k + 1) = a + (k + 1 + 1) by omega] at s
    exact s.cast (by omega)
theorem sg_incs1 {f : Nat} : ∀ {k x b : Nat}, Incs p 1 x (k + 1) f → Seg p (Q2 p) (k + 1) (x, [a, b]) (f, [a, b + (k + 1)])
  | 0, x, b, h => sg_inc1 (by simpa using h 0 (by omega))
  | k + 1, x, b, h => by
    have e := h 0 (by omega)
    rw [if_neg (by omega), Nat.add_zero] at e
    have s := (sg_inc1 (a := a) (b := b) e).trans (sg_incs1 (b := b + 1) h.tail)
    rw [show b + 1 + (k + 1) = b + (k + 1 + 1) by omega] at s
    exact s.cast (by omega)
/-- dec 0, then k incs of the other counter, again and again -/
theorem sg_move0 {k : Nat} (hd : p[x]? = some (.dec 0 (x + 1) o)) (hi : Incs p 1 (x + 1) (k + 1) x) : ∀ {a b : Nat}, Seg p (Q2 p) (a * (k + 2) + 1) (x, [a, b]) (o, [0, b + a * (k + 1)])
  | 0, b => by simpa using sg_z0 hd
  | a + 1, b => by
    have s := ((sg_dec0 (a := a) (b := b) hd).trans (sg_incs1 hi)).trans (sg_move0 hd hi (a := a) (b := b + (k + 1)))
    rw [show b + (k + 1) + a * (k + 1) = b + (a + 1) * (k + 1) by rw [Nat.succ_mul]; omega] at s
    exact s.cast (by rw [Nat.succ_mul]; omega)
theorem sg_move1 {k : Nat} (hd : p[x]? = some (.dec 1 (x + 1) o)) (hi : Incs p 0 (x + 1) (k + 1) x) : ∀ {b a : Nat}, Seg p (Q2 p) (b * (k + 2) + 1) (x, [a, b]) (o, [a + b * (k + 1), 0])
  | 0, a => by simpa using sg_z1 hd
  | b + 1, a => by
    have s := ((sg_dec1 (a := a) (b := b) hd).trans (sg_incs0 hi)).trans (sg_move1 hd hi (b := b) (a := a + (k + 1)))
    rw [show a + (k + 1) + b * (k + 1) = a + (b + 1) * (k + 1) by rw [Nat.succ_mul]; omega] at s
    exact s.cast (by rw [Nat.succ_mul]; omega)
/-- the decs of a division: j of them from the i-th -/
theorem sg_decs {q : Nat} (z : Nat → Nat) (hd : ∀ r, r < q → p[x + r]? = some (.dec 0 (x + r + 1) (z r))) : ∀ {j i a : Nat}, i + j ≤ q → Seg p (Q2 p) j (x + i, [a + j, b]) (x + (i + j), [a, b])
  | 0, i, a, h => .nil _
  | j + 1, i, a, h => by
    have s := (sg_dec0 (a := a + j) (b := b) (hd i (by omega))).trans (sg_decs z hd (j := j) (i := i + 1) (a := a) (by omega))
    rw [show i + 1 + j = i + (j + 1) by omega] at s
    exact s.cast (by omega)
/-- a division by q = j + 2 without its rest -/
theorem sg_div {q : Nat} (z : Nat → Nat) (hd : ∀ r, r < q → p[x + r]? = some (.dec 0 (x + r + 1) (z r))) (hi : p[x + q]? = some (.inc 1 x)) : ∀ {k r b : Nat}, Seg p (Q2 p) (k * (q + 1)) (x, [k * q + r, b]) (x, [r, b + k])
  | 0, r, b => by
    rw [Nat.zero_mul, Nat.zero_mul, Nat.zero_add]
    exact .nil _
  | k + 1, r, b => by
    have s1 := sg_decs (b := b) z hd (j := q) (i := 0) (a := k * q + r) (by omega)
    rw [Nat.zero_add] at s1
    have s := (s1.trans (sg_inc1 (a := k * q + r) (b := b) hi)).trans (sg_div z hd hi (k := k) (r := r) (b := b + 1))
    rw [show b + 1 + k = b + (k + 1) by omega, show k * q + r + q = (k + 1) * q + r by rw [Nat.succ_mul]; omega] at s
    exact s.cast (by rw [Nat.succ_mul]; omega)
end
end K5
namespace K5
def shL (x : Nat) : Lb → Lb
  | .n k => .n (x + k)
  | l => l
def shO (x : Nat) : WOp → WOp
  | .fin => .fin
  | .inc c f => .inc c (shL x f)
  | .dec c f o => .dec c (shL x f) (shL x o)
def rsl (e : Lb → Nat) : Lb → Nat
  | .n k => k
  | l => e l
theorem addW_sh (x n c a : Nat) (f : Lb) : addW (x + n) c a (shL x f) = (addW n c a f).map (shO x) := by
  unfold addW
  rw [List.map_append, List.map_map]
  congr 1
  refine (List.map_congr_left fun i _ => ?_)
  exact congrArg (fun z => WOp.inc c (.n z)) (by omega)
theorem moveW_sh (x n s m t : Nat) (f : Lb) : moveW (x + n) s m t (shL x f) = (moveW n s m t f).map (shO x) := by
  unfold moveW
  rw [List.map_cons, List.map_append, List.map_map]
  refine congr (congrArg List.cons ?_) (congr (congrArg HAppend.hAppend (List.map_congr_left fun i _ => ?_)) rfl)
  · exact congrArg (fun z => WOp.dec s (.n z) (shL x f)) (by omega)
  · exact congrArg (fun z => WOp.inc t (.n z)) (by omega)
theorem divA_sh (x n p k : Nat) : divA (x + n) p k = (divA n p k).map (shO x) := by
  unfold divA
  rw [List.map_map]
  refine List.map_congr_left fun r _ => ?_
  show WOp.dec 0 _ _ = WOp.dec 0 _ (shL x (.n _))
  by_cases h : r = 0
  · rw [if_pos h, if_pos h]
    show WOp.dec 0 _ _ = WOp.dec 0 (.n (x + (n + r + 1))) (.n (x + (n + p + 1)))
    congr 2 <;> omega
  · rw [if_neg h, if_neg h]
    show WOp.dec 0 _ _ = WOp.dec 0 (.n (x + (n + r + 1))) (.n (x + (n + 2 * p + 4 + triN r)))
    congr 2 <;> omega
theorem divC_sh (x n p : Nat) : ∀ k, divC (x + n) p k = (divC n p k).map (shO x)
  | 0 => rfl
  | k + 1 => by
    show divC (x + n) p k ++ addW (x + n + 2 * p + 4 + triN (k + 1)) 0 (k + 1) (.n (x + n + p + 3)) = _
    have e := addW_sh x (n + 2 * p + 4 + triN (k + 1)) 0 (k + 1) (.n (n + p + 3))
    rw [divC_sh x n p k, divC, List.map_append, ← e, show x + n + 2 * p + 4 + triN (k + 1) = x + (n + 2 * p + 4 + triN (k + 1)) by omega, show shL x (.n (n + p + 3)) = .n (x + n + p + 3) from congrArg Lb.n (by omega)]
theorem instW_sh (x : Nat) (o : Op) : instW x o = (instW 0 o).map (shO x) := by
  have e : ∀ f, shL x (.one f) = .one f := fun _ => rfl
  cases o with
  | fin => rfl
  | inc c f =>
    show moveW x 0 (pOf c) 1 (.n (x + 1 + pOf c)) ++ moveW (x + pOf c + 1) 1 1 0 (.one f) = (moveW 0 0 (pOf c) 1 (.n (0 + 1 + pOf c)) ++ moveW (0 + pOf c + 1) 1 1 0 (.one f)).map (shO x)
    rw [List.map_append, ← moveW_sh, ← moveW_sh, e, show shL x (.n (0 + 1 + pOf c)) = .n (x + 1 + pOf c) from congrArg Lb.n (by omega), show x + (0 + pOf c + 1) = x + pOf c + 1 by omega]
    rfl
  | dec c f o =>
    show divA x (pOf c) (pOf c) ++ (.inc 1 (.n x) :: (moveW (x + pOf c + 1) 1 1 0 (.one f) ++ (moveW (x + pOf c + 3) 1 (pOf c) 0 (.one o) ++ divC x (pOf c) (pOf c - 1)))) = (divA 0 (pOf c) (pOf c) ++ (.inc 1 (.n 0) :: (moveW (0 + pOf c + 1) 1 1 0 (.one f) ++ (moveW (0 + pOf c + 3) 1 (pOf c) 0 (.one o) ++ divC 0 (pOf c) (pOf c - 1))))).map (shO x)
    rw [List.map_append, List.map_cons, List.map_append, List.map_append, ← moveW_sh, ← moveW_sh, ← divA_sh, ← divC_sh, e, e, show x + (0 + pOf c + 1) = x + pOf c + 1 by omega, show x + (0 + pOf c + 3) = x + pOf c + 3 by omega]
    rfl
/-- the block B stands at x -/
def BAt (p : List Op) (e : Lb → Nat) (x : Nat) (B : List WOp) : Prop := ∀ k o, B[k]? = some o → p[x + k]? = some (rop (rsl e) (shO x o))
section
variable {p : List Op} {e : Lb → Nat} {x c f o N : Nat}
theorem run_inc (h : BAt p e x (instW 0 (.inc c f))) (hc : c < 3) : Seg p (Q2 p) (cost2 (.inc c f) N) (x, [N, 0]) (e (.one f), [N * pOf c, 0]) := by
  have main : ∀ q j : Nat, q = j + 1 → p[x]? = some (.dec 0 (x + 1) (x + (q + 1))) → Incs p 1 (x + 1) q x → p[x + (q + 1)]? = some (.dec 1 (x + (q + 1) + 1) (e (.one f))) → Incs p 0 (x + (q + 1) + 1) 1 (x + (q + 1)) → Seg p (Q2 p) (N * (q + 1) + 1 + 2 * N * q + 1) (x, [N, 0]) (e (.one f), [N * q, 0]) := by
    rintro q j rfl h1 h2 h3 h4
    have s := (sg_move0 h1 h2 (a := N) (b := 0)).trans (sg_move1 h3 h4 (b := 0 + N * (j + 1)) (a := 0))
    rw [show 0 + (0 + N * (j + 1)) * (0 + 1) = N * (j + 1) by omega] at s
    exact s.cast (by
      rw [Nat.mul_assoc 2 N (j + 1), show N * (j + 1 + 1) = N * (j + 2) from rfl]
      omega)
  match c, hc with
  | 0, _ => exact main 2 1 rfl (h 0 _ rfl) (fun i hi => by
      match i, hi with
      | 0, _ => exact h 1 _ rfl
      | 1, _ => exact h 2 _ rfl) (h 3 _ rfl) (fun i hi => by
      match i, hi with
      | 0, _ => exact h 4 _ rfl)
  | 1, _ => exact main 3 2 rfl (h 0 _ rfl) (fun i hi => by
      match i, hi with
      | 0, _ => exact h 1 _ rfl
      | 1, _ => exact h 2 _ rfl
      | 2, _ => exact h 3 _ rfl) (h 4 _ rfl) (fun i hi => by
      match i, hi with
      | 0, _ => exact h 5 _ rfl)
  | 2, _ => exact main 5 4 rfl (h 0 _ rfl) (fun i hi => by
      match i, hi with
      | 0, _ => exact h 1 _ rfl
      | 1, _ => exact h 2 _ rfl
      | 2, _ => exact h 3 _ rfl
      | 3, _ => exact h 4 _ rfl
      | 4, _ => exact h 5 _ rfl) (h 6 _ rfl) (fun i hi => by
      match i, hi with
      | 0, _ => exact h 7 _ rfl)
theorem run_dec (h : BAt p e x (instW 0 (.dec c f o))) (hc : c < 3) : Seg p (Q2 p) (cost2 (.dec c f o) N) (x, [N, 0]) (if N % pOf c = 0 then (e (.one f), [N / pOf c, 0]) else (e (.one o), [N, 0])) := by
  have main : ∀ (q j : Nat) (z : Nat → Nat), q = j + 1 → z 0 = x + (q + 1) → (∀ r, r < q → p[x + r]? = some (.dec 0 (x + r + 1) (z r))) → p[x + q]? = some (.inc 1 x) →
      p[x + (q + 1)]? = some (.dec 1 (x + (q + 1) + 1) (e (.one f))) → Incs p 0 (x + (q + 1) + 1) 1 (x + (q + 1)) → p[x + (q + 3)]? = some (.dec 1 (x + (q + 3) + 1) (e (.one o))) → Incs p 0 (x + (q + 3) + 1) q (x + (q + 3)) → (∀ r, 0 < r → r < q → Incs p 0 (z r) r (x + (q + 3))) →
      Seg p (Q2 p) (if N % q = 0 then N / q * (q + 1) + 1 + 2 * (N / q) + 1 else 2 * (N / q * (q + 1) + N % q + 1)) (x, [N, 0]) (if N % q = 0 then (e (.one f), [N / q, 0]) else (e (.one o), [N, 0])) := by
    rintro q j z rfl h0 h1 h2 h3 h4 h5 h6 h7
    have hN : N = N / (j + 1) * (j + 1) + N % (j + 1) := by
      have := Nat.div_add_mod N (j + 1)
      rw [Nat.mul_comm] at this
      exact this.symm
    have hr : N % (j + 1) < j + 1 := Nat.mod_lt _ (by omega)
    generalize N / (j + 1) = k at hN
    generalize N % (j + 1) = r at hN hr
    subst hN
    have s1 := sg_div (b := 0) z h1 h2 (k := k) (r := r)
    by_cases hr0 : r = 0
    · rw [if_pos hr0, if_pos hr0]
      subst hr0
      have s := (s1.trans (sg_z0 (h1 0 (by omega)))).trans (h0 ▸ sg_move1 h3 h4 (b := 0 + k) (a := 0))
      rw [show 0 + (0 + k) * (0 + 1) = k by omega] at s
      exact s.cast (by omega)
    · rw [if_neg hr0, if_neg hr0]
      obtain ⟨i, rfl⟩ : ∃ i, r = i + 1 := ⟨r - 1, by omega⟩
      have s2 := sg_decs (b := 0 + k) z h1 (j := i + 1) (i := 0) (a := 0) (by omega)
      have s3 := s2.trans (sg_z0 (b := 0 + k) (h1 (0 + (i + 1)) (by omega)))
      have s4 := s3.trans (sg_incs0 (a := 0) (b := 0 + k) (show Incs p 0 (z (0 + (i + 1))) (i + 1) (x + (j + 1 + 3)) by rw [Nat.zero_add]; exact h7 _ (by omega) (by omega)))
      have s5 := s4.trans (sg_move1 h5 h6 (b := 0 + k) (a := 0 + (i + 1)))
      rw [show 0 + (i + 1) + (0 + k) * (j + 1) = k * (j + 1) + (i + 1) by rw [Nat.zero_add, Nat.zero_add]; omega, show (0 : Nat) + (i + 1) = i + 1 by omega] at s5
      exact (s1.trans s5).cast (by
        rw [show (0 + k) * (j + 2) = k * (j + 1 + 1) by rw [Nat.zero_add]]
        omega)
  match c, hc with
  | 0, _ => exact main 2 1 (fun r => if r = 0 then x + 3 else x + (8 + triN r)) rfl rfl (fun r hr => by
      match r, hr with
      | 0, _ => exact h 0 _ rfl
      | 1, _ => exact h 1 _ rfl) (h 2 _ rfl) (h 3 _ rfl) (fun i hi => by
      match i, hi with
      | 0, _ => exact h 4 _ rfl) (h 5 _ rfl) (fun i hi => by
      match i, hi with
      | 0, _ => exact h 6 _ rfl
      | 1, _ => exact h 7 _ rfl) (fun r h0 hr => by
      match r, h0, hr with
      | 1, _, _ =>
        intro i hi
        match i, hi with
        | 0, _ => exact h 8 _ rfl)
  | 1, _ => exact main 3 2 (fun r => if r = 0 then x + 4 else x + (10 + triN r)) rfl rfl (fun r hr => by
      match r, hr with
      | 0, _ => exact h 0 _ rfl
      | 1, _ => exact h 1 _ rfl
      | 2, _ => exact h 2 _ rfl) (h 3 _ rfl) (h 4 _ rfl) (fun i hi => by
      match i, hi with
      | 0, _ => exact h 5 _ rfl) (h 6 _ rfl) (fun i hi => by
      match i, hi with
      | 0, _ => exact h 7 _ rfl
      | 1, _ => exact h 8 _ rfl
      | 2, _ => exact h 9 _ rfl) (fun r h0 hr => by
      match r, h0, hr with
      | 1, _, _ =>
        intro i hi
        match i, hi with
        | 0, _ => exact h 10 _ rfl
      | 2, _, _ =>
        intro i hi
        match i, hi with
        | 0, _ => exact h 11 _ rfl
        | 1, _ => exact h 12 _ rfl)
  | 2, _ => exact main 5 4 (fun r => if r = 0 then x + 6 else x + (14 + triN r)) rfl rfl (fun r hr => by
      match r, hr with
      | 0, _ => exact h 0 _ rfl
      | 1, _ => exact h 1 _ rfl
      | 2, _ => exact h 2 _ rfl
      | 3, _ => exact h 3 _ rfl
      | 4, _ => exact h 4 _ rfl) (h 5 _ rfl) (h 6 _ rfl) (fun i hi => by
      match i, hi with
      | 0, _ => exact h 7 _ rfl) (h 8 _ rfl) (fun i hi => by
      match i, hi with
      | 0, _ => exact h 9 _ rfl
      | 1, _ => exact h 10 _ rfl
      | 2, _ => exact h 11 _ rfl
      | 3, _ => exact h 12 _ rfl
      | 4, _ => exact h 13 _ rfl) (fun r h0 hr => by
      match r, h0, hr with
      | 1, _, _ =>
        intro i hi
        match i, hi with
        | 0, _ => exact h 14 _ rfl
      | 2, _, _ =>
        intro i hi
        match i, hi with
        | 0, _ => exact h 15 _ rfl
        | 1, _ => exact h 16 _ rfl
      | 3, _, _ =>
        intro i hi
        match i, hi with
        | 0, _ => exact h 17 _ rfl
        | 1, _ => exact h 18 _ rfl
        | 2, _ => exact h 19 _ rfl
      | 4, _, _ =>
        intro i hi
        match i, hi with
        | 0, _ => exact h 20 _ rfl
        | 1, _ => exact h 21 _ rfl
        | 2, _ => exact h 22 _ rfl
        | 3, _ => exact h 23 _ rfl)
end
end K5
namespace K5
theorem not_dvd {p m : Nat} (hp : 1 < p) (h : Nat.Coprime m p) : m % p ≠ 0 := fun z => by
  have d : p ∣ m := Nat.dvd_of_mod_eq_zero z
  have g : Nat.gcd m p = 1 := h
  rw [Nat.gcd_eq_right d] at g
  omega
theorem gN_2 (b d : Nat) : gN 0 b d % 2 ≠ 0 := by
  unfold gN
  refine not_dvd (by omega) ?_
  exact Nat.Coprime.mul_left (Nat.Coprime.mul_left (by decide) (Nat.Coprime.pow_left _ (by decide))) (Nat.Coprime.pow_left _ (by decide))
theorem gN_3 (a d : Nat) : gN a 0 d % 3 ≠ 0 := by
  unfold gN
  refine not_dvd (by omega) ?_
  exact Nat.Coprime.mul_left (Nat.Coprime.mul_left (Nat.Coprime.pow_left _ (by decide)) (by decide)) (Nat.Coprime.pow_left _ (by decide))
theorem gN_5 (a b : Nat) : gN a b 0 % 5 ≠ 0 := by
  unfold gN
  refine not_dvd (by omega) ?_
  exact Nat.Coprime.mul_left (Nat.Coprime.mul_left (Nat.Coprime.pow_left _ (by decide)) (Nat.Coprime.pow_left _ (by decide))) (by decide)
theorem gN_s2 (a b d : Nat) : gN (a + 1) b d = gN a b d * 2 := by
  unfold gN
  rw [Nat.pow_succ, Nat.mul_right_comm (2 ^ a), Nat.mul_right_comm (2 ^ a * 3 ^ b)]
theorem gN_s3 (a b d : Nat) : gN a (b + 1) d = gN a b d * 3 := by
  unfold gN
  rw [Nat.pow_succ, ← Nat.mul_assoc (2 ^ a), Nat.mul_right_comm (2 ^ a * 3 ^ b)]
theorem gN_s5 (a b d : Nat) : gN a b (d + 1) = gN a b d * 5 := by
  unfold gN
  rw [Nat.pow_succ, ← Nat.mul_assoc]
def e2 (xs : List Nat) : Lb → Nat
  | .one f => xs.getD f 0
  | _ => 0
/-- the blocks of the second level stand where they should -/
def Lv2 (p1 p2 : List Op) (xs : List Nat) : Prop := ∀ pc o, p1[pc]? = some o → BAt p2 (e2 xs) (xs.getD pc 0) (instW 0 o)
def gR (q : Rc) : Nat := gN (q.2.getD 0 0) (q.2.getD 1 0) (q.2.getD 2 0)
section
variable {p1 p2 : List Op} {xs : List Nat}
theorem lv2_step (L : Lv2 p1 p2 xs) {pc a b d : Nat} {o : Op} (h : p1[pc]? = some o) (hf : o ≠ .fin) (ok : OpOk 3 p1.length o) :
    ∃ pc' a' b' d', stepR p1 (pc, [a, b, d]) = some (pc', [a', b', d']) ∧ Seg p2 (Q2 p2) (cost2 o (gN a b d)) (xs.getD pc 0, [gN a b d, 0]) (xs.getD pc' 0, [gN a' b' d', 0]) := by
  have B := L pc o h
  cases o with
  | fin => exact absurd rfl hf
  | inc c f =>
    have s := run_inc (N := gN a b d) B ok.1
    match c, ok.1 with
    | 0, _ => exact ⟨f, a + 1, b, d, by unfold stepR; rw [h]; rfl, by rw [gN_s2]; exact s⟩
    | 1, _ => exact ⟨f, a, b + 1, d, by unfold stepR; rw [h]; rfl, by rw [gN_s3]; exact s⟩
    | 2, _ => exact ⟨f, a, b, d + 1, by unfold stepR; rw [h]; rfl, by rw [gN_s5]; exact s⟩
  | dec c f o =>
    have s := run_dec (N := gN a b d) B ok.1
    match c, ok.1 with
    | 0, _ =>
      cases a with
      | zero =>
        rw [if_neg (show ¬ gN 0 b d % pOf 0 = 0 from gN_2 b d)] at s
        exact ⟨o, 0, b, d, by unfold stepR; rw [h]; rfl, s⟩
      | succ a =>
        rw [if_pos (show gN (a + 1) b d % pOf 0 = 0 by rw [gN_s2]; exact Nat.mul_mod_left _ 2), show gN (a + 1) b d / pOf 0 = gN a b d by rw [gN_s2]; exact Nat.mul_div_cancel _ (by decide)] at s
        exact ⟨f, a, b, d, by unfold stepR; rw [h]; rfl, s⟩
    | 1, _ =>
      cases b with
      | zero =>
        rw [if_neg (show ¬ gN a 0 d % pOf 1 = 0 from gN_3 a d)] at s
        exact ⟨o, a, 0, d, by unfold stepR; rw [h]; rfl, s⟩
      | succ b =>
        rw [if_pos (show gN a (b + 1) d % pOf 1 = 0 by rw [gN_s3]; exact Nat.mul_mod_left _ 3), show gN a (b + 1) d / pOf 1 = gN a b d by rw [gN_s3]; exact Nat.mul_div_cancel _ (by decide)] at s
        exact ⟨f, a, b, d, by unfold stepR; rw [h]; rfl, s⟩
    | 2, _ =>
      cases d with
      | zero =>
        rw [if_neg (show ¬ gN a b 0 % pOf 2 = 0 from gN_5 a b)] at s
        exact ⟨o, a, b, 0, by unfold stepR; rw [h]; rfl, s⟩
      | succ d =>
        rw [if_pos (show gN a b (d + 1) % pOf 2 = 0 by rw [gN_s5]; exact Nat.mul_mod_left _ 5), show gN a b (d + 1) / pOf 2 = gN a b d by rw [gN_s5]; exact Nat.mul_div_cancel _ (by decide)] at s
        exact ⟨f, a, b, d, by unfold stepR; rw [h]; rfl, s⟩
end
end K5
namespace K5
theorem stripF_nz {l : List Nat} {x : Nat} (h : l.getLast? = some x) (hx : x ≠ 0) : stripF l = l := by
  obtain ⟨ys, rfl⟩ := List.getLast?_eq_some_iff.mp h
  unfold stripF
  rw [List.reverse_append]
  show (List.dropWhile (· == 0) (x :: ys.reverse)).reverse = _
  rw [List.dropWhile_cons, if_neg (by simpa using hx)]
  simp
theorem stripF_rep {x : Nat} (hx : x ≠ 0) : ∀ (k : Nat) {l : List Nat}, stripF (List.replicate k 1 ++ x :: l) = List.replicate k 1 ++ stripF (x :: l)
  | k, l => by
    unfold stripF
    rw [List.reverse_append, List.reverse_cons]
    have : ∀ (u v : List Nat) (y : Nat), y ≠ 0 → List.dropWhile (· == 0) (u ++ y :: v) = List.dropWhile (· == 0) (u ++ [y]) ++ v := by
      intro u v y hy
      induction u with
      | nil =>
        show List.dropWhile (· == 0) (y :: v) = List.dropWhile (· == 0) [y] ++ v
        rw [List.dropWhile_cons, List.dropWhile_cons, if_neg (by simpa using hy), if_neg (by simpa using hy)]
        rfl
      | cons z u ih =>
        show List.dropWhile (· == 0) (z :: (u ++ y :: v)) = List.dropWhile (· == 0) (z :: (u ++ [y])) ++ v
        rw [List.dropWhile_cons, List.dropWhile_cons]
        split
        · exact ih
        · simp
    rw [List.append_assoc]
    show (List.dropWhile (· == 0) (l.reverse ++ x :: (List.replicate k 1).reverse)).reverse = _
    rw [this _ _ _ hx, List.reverse_append, List.reverse_reverse]
def R1 (k : Nat) : List Nat := List.replicate k 1
theorem strip_ones (k : Nat) : stripF (R1 k) = R1 k := by
  cases k with
  | zero => rfl
  | succ k => exact stripF_nz (x := 1) (by unfold R1; rw [List.replicate_succ', List.getLast?_concat]) (by omega)
theorem strip_far (k : Nat) {F : List Nat} (h : stripF (2 :: F) = 2 :: F) : stripF (R1 k ++ 2 :: F) = R1 k ++ 2 :: F := by
  unfold R1
  rw [stripF_rep (by omega), h]
theorem strip_2 (k : Nat) : stripF (2 :: R1 k) = 2 :: R1 k := by
  cases k with
  | zero => rfl
  | succ k => exact stripF_nz (x := 1) (by unfold R1; rw [List.replicate_succ', ← List.cons_append, List.getLast?_concat]) (by omega)
/-- a configuration, seen from the side of the counter c -/
def sd (c s : Nat) (near : List Nat) (a : Nat) (far : List Nat) : Cf := if c = 0 then ⟨s, near, a, far⟩ else ⟨s, far, a, near⟩
section
variable {rs : List Rl} {c s f w a : Nat} {near far : List Nat}
theorem st_away (h : look rs s a = some ⟨s, a, w, awy c, f⟩) : stepT rs (sd c s near a far) = some (sd c f (near.drop 1) ((near ++ [0]).headD 0) (stripF (w :: far))) := by
  unfold sd awy at *
  by_cases z : c = 0
  · rw [if_pos z] at h
    rw [if_pos z, if_pos z]
    unfold stepT
    simp only [h]
    rfl
  · rw [if_neg z] at h
    rw [if_neg z, if_neg z]
    unfold stepT
    simp only [h]
    rfl
theorem st_back (h : look rs s a = some ⟨s, a, w, -awy c, f⟩) : stepT rs (sd c s near a far) = some (sd c f (stripF (w :: near)) ((far ++ [0]).headD 0) (far.drop 1)) := by
  unfold sd awy at *
  by_cases z : c = 0
  · rw [if_pos z] at h
    rw [if_pos z, if_pos z]
    unfold stepT
    simp only [h]
    rfl
  · rw [if_neg z] at h
    rw [if_neg z, if_neg z]
    unfold stepT
    simp only [h]
    rfl
theorem st_stay (h : look rs s a = some ⟨s, a, w, 0, f⟩) : stepT rs (sd c s near a far) = some (sd c f near w far) := by
  unfold sd
  by_cases z : c = 0
  · rw [if_pos z, if_pos z]
    unfold stepT
    simp only [h]
    rfl
  · rw [if_neg z, if_neg z]
    unfold stepT
    simp only [h]
    rfl
end
/-- n turns of a machine -/
def TSeg (rs : List Rl) (n : Nat) (c d : Cf) : Prop := manyT rs n (some c) = some d
section
variable {rs : List Rl}
theorem manyT_add (n : Nat) : ∀ (m : Nat) (o : Option Cf), manyT rs (n + m) o = manyT rs m (manyT rs n o) := by
  induction n with
  | zero => intro m o; rw [Nat.zero_add]; rfl
  | succ n ih =>
    intro m o
    rw [show n + 1 + m = (n + m) + 1 by omega]
    show manyT rs (n + m) (o.bind (stepT rs)) = manyT rs m (manyT rs n (o.bind (stepT rs)))
    rw [ih]
theorem TSeg.nil (c : Cf) : TSeg rs 0 c c := rfl
theorem TSeg.one {c d : Cf} (h : stepT rs c = some d) : TSeg rs 1 c d := by
  show (some c).bind (stepT rs) = some d
  exact h
theorem TSeg.trans {n m : Nat} {c d f : Cf} (a : TSeg rs n c d) (b : TSeg rs m d f) : TSeg rs (n + m) c f := by
  unfold TSeg
  rw [manyT_add, show manyT rs n (some c) = some d from a]
  exact b
theorem TSeg.cast {n m : Nat} {c d : Cf} (a : TSeg rs n c d) (h : n = m) : TSeg rs m c d := h ▸ a
theorem R1_succ (k : Nat) : R1 (k + 1) = 1 :: R1 k := rfl
theorem R1_snoc (k : Nat) (F : List Nat) : R1 k ++ 1 :: F = R1 (k + 1) ++ F := by
  unfold R1
  rw [List.replicate_succ', List.append_assoc]
  rfl
variable {c s : Nat} {F : List Nat}
/-- away over ones, to the end of them -/
theorem go_away (h : look rs s 1 = some ⟨s, 1, 1, awy c, s⟩) (hF : stripF (2 :: F) = 2 :: F) : ∀ {k j : Nat}, TSeg rs (k + 1) (sd c s (R1 k) 1 (R1 j ++ 2 :: F)) (sd c s [] 0 (R1 (j + k + 1) ++ 2 :: F))
  | 0, j => by
    refine TSeg.one ?_
    rw [st_away h]
    show some (sd c s [] 0 (stripF (R1 (j + 1) ++ 2 :: F))) = _
    rw [strip_far _ hF]
  | k + 1, j => by
    have e := st_away (near := R1 (k + 1)) (far := R1 j ++ 2 :: F) h
    have e2 : stripF (1 :: (R1 j ++ 2 :: F)) = R1 (j + 1) ++ 2 :: F := strip_far (j + 1) hF
    rw [e2] at e
    have t := (TSeg.one e).trans (go_away h hF (k := k) (j := j + 1))
    rw [show j + 1 + k + 1 = j + (k + 1) + 1 by omega] at t
    exact t.cast (by omega)
/-- back over ones, to the 2 -/
theorem go_back (h : look rs s 1 = some ⟨s, 1, 1, -awy c, s⟩) : ∀ {k j : Nat}, TSeg rs (k + 1) (sd c s (R1 j) 1 (R1 k ++ 2 :: F)) (sd c s (R1 (j + k + 1)) 2 F)
  | 0, j => by
    refine TSeg.one ?_
    rw [st_back h]
    show some (sd c s (stripF (R1 (j + 1))) 2 F) = _
    rw [strip_ones]
  | k + 1, j => by
    have e := st_back (near := R1 j) (far := R1 (k + 1) ++ 2 :: F) h
    have e2 : stripF (1 :: R1 j) = R1 (j + 1) := strip_ones (j + 1)
    rw [e2] at e
    have t := (TSeg.one e).trans (go_back h (k := k) (j := j + 1))
    rw [show j + 1 + k + 1 = j + (k + 1) + 1 by omega] at t
    exact t.cast (by omega)
end
/-- the rules are there -/
def Has (rs : List Rl) (l : List Rl) : Prop := ∀ r ∈ l, look rs r.s r.a = some r
section
variable {rs : List Rl} {pl c f o st x : Nat} {F : List Nat}
theorem run_grow (h : Has rs (growR pl c f st)) (hF : stripF (2 :: F) = 2 :: F) : TSeg rs (2 * x + 3) (sd c pl (R1 x) 2 F) (sd c f (R1 (x + 1)) 2 F) := by
  have h1 : look rs pl 2 = some ⟨pl, 2, 2, awy c, st⟩ := h ⟨pl, 2, 2, awy c, st⟩ (by simp [growR])
  have h2 : look rs st 1 = some ⟨st, 1, 1, awy c, st⟩ := h ⟨st, 1, 1, awy c, st⟩ (by simp [growR])
  have h3 : look rs st 0 = some ⟨st, 0, 1, -awy c, st + 1⟩ := h ⟨st, 0, 1, -awy c, st + 1⟩ (by simp [growR])
  have h4 : look rs (st + 1) 1 = some ⟨st + 1, 1, 1, -awy c, st + 1⟩ := h ⟨st + 1, 1, 1, -awy c, st + 1⟩ (by simp [growR])
  have h5 : look rs (st + 1) 2 = some ⟨st + 1, 2, 2, 0, f⟩ := h ⟨st + 1, 2, 2, 0, f⟩ (by simp [growR])
  cases x with
  | zero =>
    have t1 : TSeg rs 1 (sd c pl (R1 0) 2 F) (sd c st [] 0 (2 :: F)) := TSeg.one (by rw [st_away h1, hF]; rfl)
    have t2 : TSeg rs 1 (sd c st [] 0 (2 :: F)) (sd c (st + 1) (R1 1) 2 F) := TSeg.one (by rw [st_back h3]; rfl)
    exact (t1.trans t2).trans (TSeg.one (st_stay h5))
  | succ x =>
    have t1 : TSeg rs 1 (sd c pl (R1 (x + 1)) 2 F) (sd c st (R1 x) 1 (R1 0 ++ 2 :: F)) := TSeg.one (by rw [st_away h1, hF]; rfl)
    have t2 := go_away h2 hF (k := x) (j := 0)
    have t3 : TSeg rs 1 (sd c st [] 0 (R1 (0 + x + 1) ++ 2 :: F)) (sd c (st + 1) (R1 1) 1 (R1 x ++ 2 :: F)) := TSeg.one (by rw [st_back h3, Nat.zero_add]; rfl)
    have t4 := go_back h4 (F := F) (k := x) (j := 1)
    rw [show 1 + x + 1 = x + 1 + 1 by omega] at t4
    exact ((((t1.trans t2).trans t3).trans t4).trans (TSeg.one (st_stay h5))).cast (by omega)
theorem run_shr0 (h : Has rs (shrR pl c f o st)) (hF : stripF (2 :: F) = 2 :: F) : TSeg rs 2 (sd c pl (R1 0) 2 F) (sd c o (R1 0) 2 F) := by
  have h1 : look rs pl 2 = some ⟨pl, 2, 2, awy c, st⟩ := h ⟨pl, 2, 2, awy c, st⟩ (by simp [shrR])
  have h2 : look rs st 0 = some ⟨st, 0, 0, -awy c, o⟩ := h ⟨st, 0, 0, -awy c, o⟩ (by simp [shrR])
  have t1 : TSeg rs 1 (sd c pl (R1 0) 2 F) (sd c st [] 0 (2 :: F)) := TSeg.one (by rw [st_away h1, hF]; rfl)
  have t2 : TSeg rs 1 (sd c st [] 0 (2 :: F)) (sd c o (R1 0) 2 F) := TSeg.one (by rw [st_back h2]; rfl)
  exact t1.trans t2
theorem run_shr (h : Has rs (shrR pl c f o st)) (hF : stripF (2 :: F) = 2 :: F) : TSeg rs (2 * (x + 1) + 3) (sd c pl (R1 (x + 1)) 2 F) (sd c f (R1 x) 2 F) := by
  have h1 : look rs pl 2 = some ⟨pl, 2, 2, awy c, st⟩ := h ⟨pl, 2, 2, awy c, st⟩ (by simp [shrR])
  have h2 : look rs st 1 = some ⟨st, 1, 1, awy c, st + 1⟩ := h ⟨st, 1, 1, awy c, st + 1⟩ (by simp [shrR])
  have h3 : look rs (st + 1) 1 = some ⟨st + 1, 1, 1, awy c, st + 1⟩ := h ⟨st + 1, 1, 1, awy c, st + 1⟩ (by simp [shrR])
  have h4 : look rs (st + 1) 0 = some ⟨st + 1, 0, 0, -awy c, st + 2⟩ := h ⟨st + 1, 0, 0, -awy c, st + 2⟩ (by simp [shrR])
  have h5 : look rs (st + 2) 1 = some ⟨st + 2, 1, 0, -awy c, st + 3⟩ := h ⟨st + 2, 1, 0, -awy c, st + 3⟩ (by simp [shrR])
  have h6 : look rs (st + 3) 1 = some ⟨st + 3, 1, 1, -awy c, st + 3⟩ := h ⟨st + 3, 1, 1, -awy c, st + 3⟩ (by simp [shrR])
  have h7 : look rs (st + 3) 2 = some ⟨st + 3, 2, 2, 0, f⟩ := h ⟨st + 3, 2, 2, 0, f⟩ (by simp [shrR])
  have t1 : TSeg rs 1 (sd c pl (R1 (x + 1)) 2 F) (sd c st (R1 x) 1 (R1 0 ++ 2 :: F)) := TSeg.one (by rw [st_away h1, hF]; rfl)
  have up : TSeg rs (x + 1) (sd c st (R1 x) 1 (R1 0 ++ 2 :: F)) (sd c (st + 1) [] 0 (R1 (x + 1) ++ 2 :: F)) := by
    have e2 : stripF (1 :: (R1 0 ++ 2 :: F)) = R1 1 ++ 2 :: F := strip_far 1 hF
    cases x with
    | zero => exact TSeg.one (by rw [st_away h2, e2]; rfl)
    | succ x =>
      have t2 : TSeg rs 1 (sd c st (R1 (x + 1)) 1 (R1 0 ++ 2 :: F)) (sd c (st + 1) (R1 x) 1 (R1 1 ++ 2 :: F)) := TSeg.one (by rw [st_away h2, e2]; rfl)
      have t3 := go_away h3 hF (k := x) (j := 1)
      rw [show 1 + x + 1 = x + 1 + 1 by omega] at t3
      exact (t2.trans t3).cast (by omega)
  have t4 : TSeg rs 1 (sd c (st + 1) [] 0 (R1 (x + 1) ++ 2 :: F)) (sd c (st + 2) [] 1 (R1 x ++ 2 :: F)) := TSeg.one (by rw [st_back h4]; rfl)
  have dn : TSeg rs (x + 1) (sd c (st + 2) [] 1 (R1 x ++ 2 :: F)) (sd c (st + 3) (R1 x) 2 F) := by
    cases x with
    | zero => exact TSeg.one (by rw [st_back h5]; rfl)
    | succ x =>
      have t5 : TSeg rs 1 (sd c (st + 2) [] 1 (R1 (x + 1) ++ 2 :: F)) (sd c (st + 3) (R1 0) 1 (R1 x ++ 2 :: F)) := TSeg.one (by rw [st_back h5]; rfl)
      have t6 := go_back h6 (F := F) (k := x) (j := 0)
      rw [show 0 + x + 1 = x + 1 by omega] at t6
      exact (t5.trans t6).cast (by omega)
  exact ((((t1.trans up).trans t4).trans dn).trans (TSeg.one (st_stay h7))).cast (by omega)
/-- where the last machine stands for two counters -/
def C3 (pc a b : Nat) : Cf := ⟨pc, R1 a, 2, R1 b⟩
/-- the rules of every place are there -/
def Lv3 (p2 : List Op) (rs : List Rl) : Prop := ∀ (pc : Nat) (o : Op), p2[pc]? = some o → ∃ st, match o with
  | .fin => look rs pc 2 = none
  | .inc c f => Has rs (growR pc c f st)
  | .dec c f o => Has rs (shrR pc c f o st)
theorem lv3_step {p2 : List Op} (L : Lv3 p2 rs) {pc a b : Nat} {o : Op} (h : p2[pc]? = some o) (hf : o ≠ .fin) (ok : OpOk 2 p2.length o) :
    ∃ pc' a' b', stepR p2 (pc, [a, b]) = some (pc', [a', b']) ∧ TSeg rs (cost3 o [a, b]) (C3 pc a b) (C3 pc' a' b') := by
  obtain ⟨st, q⟩ := L pc o h
  cases o with
  | fin => exact absurd rfl hf
  | inc c f =>
    match c, ok.1 with
    | 0, _ => exact ⟨f, a + 1, b, by unfold stepR; rw [h]; rfl, run_grow (x := a) q (strip_2 b)⟩
    | 1, _ => exact ⟨f, a, b + 1, by unfold stepR; rw [h]; rfl, run_grow (x := b) q (strip_2 a)⟩
  | dec c f o =>
    match c, ok.1 with
    | 0, _ =>
      cases a with
      | zero => exact ⟨o, 0, b, by unfold stepR; rw [h]; rfl, run_shr0 q (strip_2 b)⟩
      | succ a => exact ⟨f, a, b, by unfold stepR; rw [h]; rfl, run_shr (x := a) q (strip_2 b)⟩
    | 1, _ =>
      cases b with
      | zero => exact ⟨o, a, 0, by unfold stepR; rw [h]; rfl, run_shr0 q (strip_2 a)⟩
      | succ b => exact ⟨f, a, b, by unfold stepR; rw [h]; rfl, run_shr (x := b) q (strip_2 a)⟩
end
end K5
namespace K5
theorem iterR_front (p : List Op) (c : Rc) : ∀ n, iterR p (n + 1) c = iterR p n (iterR p 1 c) := fun n => by rw [Nat.add_comm, iterR_add]
theorem sumR_front (p : List Op) (f : Rc → Nat) (c : Rc) : ∀ n, sumR p f (n + 1) c = f c + sumR p f n (iterR p 1 c)
  | 0 => by
    show 0 + f c = f c + 0
    omega
  | n + 1 => by
    show sumR p f (n + 1) c + f (iterR p (n + 1) c) = f c + (sumR p f n (iterR p 1 c) + f (iterR p n (iterR p 1 c)))
    rw [sumR_front p f c n, iterR_front p c n, Nat.add_assoc]
theorem sumR_le {p : List Op} {f g : Rc → Nat} {c : Rc} : ∀ {n : Nat}, (∀ k, k < n → f (iterR p k c) ≤ g (iterR p k c)) → sumR p f n c ≤ sumR p g n c
  | 0, _ => Nat.le_refl _
  | n + 1, h => Nat.add_le_add (sumR_le fun k hk => h k (by omega)) (h n (by omega))
theorem sumR_one {p : List Op} {c : Rc} : ∀ {n : Nat}, sumR p (fun _ => 1) n c = n
  | 0 => rfl
  | n + 1 => congrArg (· + 1) sumR_one
def f3p (p2 : List Op) (c : Rc) : Nat := cost3 (p2.getD c.1 .fin) c.2
def f2p (p1 p2 : List Op) (xs : List Nat) (c : Rc) : Nat := sumR p2 (f3p p2) (cost2 (p1.getD c.1 .fin) (gR c)) (xs.getD c.1 0, [gR c, 0])
def g1p (p1 : List Op) (c : Rc) : Nat := cost2 (p1.getD c.1 .fin) (gR c)
def Q1 (p : List Op) (q : Rc) : Prop := ∃ pc a b d o, q = (pc, [a, b, d]) ∧ a ≤ 12 ∧ b ≤ 12 ∧ d ≤ 12 ∧ p[pc]? = some o ∧ o ≠ .fin ∧ cost2 o (gN a b d) ≤ 100000
def P3 (xs : List Nat) (q : Rc) : Cf := C3 (xs.getD q.1 0) (gR q) 0
theorem getD_some {l : List Op} {i : Nat} {o : Op} (h : l[i]? = some o) : l.getD i .fin = o := by rw [List.getD_eq_getElem?_getD, h]; rfl
section
variable {p1 p2 : List Op} {xs : List Nat} {rs : List Rl}
theorem f3_pos {c : Rc} (h : Q2 p2 c) : 1 ≤ f3p p2 c := by
  obtain ⟨pc, vs, o, rfl, _, e, hf⟩ := h
  unfold f3p
  rw [show p2.getD (pc, vs).1 .fin = o from getD_some e]
  cases o with
  | fin => exact absurd rfl hf
  | inc c f => show 1 ≤ 2 * _ + 3; omega
  | dec c f o =>
    show 1 ≤ (if vs.getD c 0 = 0 then 2 else 2 * vs.getD c 0 + 3)
    split <;> omega
theorem many3 (L : Lv3 p2 rs) (ok : ∀ o ∈ p2, OpOk 2 p2.length o) : ∀ {n pc a b : Nat} {pc' a' b' : Nat}, Seg p2 (Q2 p2) n (pc, [a, b]) (pc', [a', b']) → TSeg rs (sumR p2 (f3p p2) n (pc, [a, b])) (C3 pc a b) (C3 pc' a' b')
  | 0, pc, a, b, pc', a', b', s => by
    have e : (pc, [a, b]) = (pc', [a', b']) := s.e
    cases e
    exact .nil _
  | n + 1, pc, a, b, pc', a', b', s => by
    obtain ⟨x, vs, o, e, _, h, hf⟩ := s.q 0 (by omega)
    cases e
    obtain ⟨pc1, a1, b1, e1, t1⟩ := lv3_step L (a := a) (b := b) h hf (ok o (List.mem_of_getElem? h))
    have i1 : iterR p2 1 (pc, [a, b]) = (pc1, [a1, b1]) := by
      show (stepR p2 (pc, [a, b])).getD (0, []) = _
      rw [e1]
      rfl
    rw [sumR_front, i1]
    refine TSeg.trans (d := C3 pc1 a1 b1) ?_ (many3 L ok (n := n) ⟨?_, fun k hk => ?_⟩)
    · unfold f3p
      rw [show p2.getD (pc, [a, b]).1 .fin = o from getD_some h]
      exact t1
    · rw [← i1, ← iterR_front]
      exact s.e
    · rw [← i1, ← iterR_front]
      exact s.q _ (by omega)
theorem many2 (L2 : Lv2 p1 p2 xs) (ok1 : ∀ o ∈ p1, OpOk 3 p1.length o) (L : Lv3 p2 rs) (ok : ∀ o ∈ p2, OpOk 2 p2.length o) : ∀ {n : Nat} {q q' : Rc}, Seg p1 (Q1 p1) n q q' → TSeg rs (sumR p1 (f2p p1 p2 xs) n q) (P3 xs q) (P3 xs q')
  | 0, q, q', s => by
    cases (show q = q' from s.e)
    exact .nil _
  | n + 1, q, q', s => by
    obtain ⟨pc, a, b, d, o, e, _, _, _, h, hf, _⟩ := s.q 0 (by omega)
    cases (show q = _ from e)
    obtain ⟨pc1, a1, b1, d1, e1, t1⟩ := lv2_step L2 (a := a) (b := b) (d := d) h hf (ok1 o (List.mem_of_getElem? h))
    have i1 : iterR p1 1 (pc, [a, b, d]) = (pc1, [a1, b1, d1]) := by
      show (stepR p1 (pc, [a, b, d])).getD (0, []) = _
      rw [e1]
      rfl
    rw [sumR_front, i1]
    refine TSeg.trans (d := P3 xs (pc1, [a1, b1, d1])) ?_ (many2 L2 ok1 L ok (n := n) ⟨?_, fun k hk => ?_⟩)
    · unfold f2p
      rw [show p1.getD (pc, [a, b, d]).1 .fin = o from getD_some h]
      exact many3 L ok t1
    · rw [← i1, ← iterR_front]
      exact s.e
    · rw [← i1, ← iterR_front]
      exact s.q _ (by omega)
/-- the runs of the second level behind a turn of the first -/
theorem lv2_run (L2 : Lv2 p1 p2 xs) {pc a b d : Nat} {o : Op} (h : p1[pc]? = some o) (hf : o ≠ .fin) (ok : OpOk 3 p1.length o) : RunOk p2 2 (cost2 o (gN a b d)) (xs.getD pc 0, [gN a b d, 0]) := by
  obtain ⟨_, _, _, _, _, t⟩ := lv2_step L2 (a := a) (b := b) (d := d) h hf ok
  exact t.q
theorem g1_le (L2 : Lv2 p1 p2 xs) (ok1 : ∀ o ∈ p1, OpOk 3 p1.length o) {q : Rc} (h : Q1 p1 q) : g1p p1 q ≤ f2p p1 p2 xs q := by
  obtain ⟨pc, a, b, d, o, rfl, _, _, _, e, hf, _⟩ := h
  have t := lv2_run L2 (a := a) (b := b) (d := d) e hf (ok1 o (List.mem_of_getElem? e))
  unfold g1p f2p
  rw [show p1.getD (pc, [a, b, d]).1 .fin = o from getD_some e]
  show cost2 o (gN a b d) ≤ _
  refine Nat.le_trans (Nat.le_of_eq (sumR_one (p := p2) (c := (xs.getD pc 0, [gN a b d, 0]))).symm) (sumR_le fun k hk => f3_pos ?_)
  exact t k hk
end
/-- a turn within a block -/
def relS (B : List WOp) (q : Lb × List Nat) : Lb × List Nat := match q.1 with
  | .n k => match B[k]? with
    | some (.inc c f) => (f, setv q.2 c (q.2.getD c 0 + 1))
    | some (.dec c f o) => if q.2.getD c 0 = 0 then (o, q.2) else (f, setv q.2 c (q.2.getD c 0 - 1))
    | _ => q
  | _ => q
def goodR (B : List WOp) (q : Lb × List Nat) : Bool := match q.1 with
  | .n k => match B[k]?, q.2 with
    | some .fin, _ => false
    | some o, [a, b, d] => decide (a ≤ 12) && decide (b ≤ 12) && decide (d ≤ 12) && decide (cost2 (rop (fun _ => 0) o) (gN a b d) ≤ 100000)
    | _, _ => false
  | _ => false
def costW (B : List WOp) (q : Lb × List Nat) : Nat := match q.1 with
  | .n k => match B[k]?, q.2 with
    | some o, [a, b, d] => cost2 (rop (fun _ => 0) o) (gN a b d)
    | _, _ => 0
  | _ => 0
def okR (B : List WOp) : Nat → Lb × List Nat → Bool
  | 0, _ => true
  | n + 1, q => goodR B q && okR B n (relS B q)
def endR (B : List WOp) : Nat → Lb × List Nat → Lb × List Nat
  | 0, q => q
  | n + 1, q => endR B n (relS B q)
def sumW (B : List WOp) : Nat → Lb × List Nat → Nat
  | 0, _ => 0
  | n + 1, q => costW B q + sumW B n (relS B q)
theorem cost2_rop (r r' : Lb → Nat) (o : WOp) (N : Nat) : cost2 (rop r o) N = cost2 (rop r' o) N := by cases o <;> rfl
section
variable {p : List Op} {e : Lb → Nat} {x : Nat} {B : List WOp}
def phi (e : Lb → Nat) (x : Nat) (q : Lb × List Nat) : Rc := (rsl e (shL x q.1), q.2)
theorem rel_step (h : BAt p e x B) {q : Lb × List Nat} (g : goodR B q = true) : stepR p (phi e x q) = some (phi e x (relS B q)) ∧ Q1 p (phi e x q) ∧ g1p p (phi e x q) = costW B q := by
  obtain ⟨l, vs⟩ := q
  cases l with
  | two s a => cases g
  | one f => cases g
  | n k =>
    unfold goodR at g
    cases hk : B[k]? with
    | none =>
      simp only [hk] at g
      cases g
    | some o =>
      have hp := h k o hk
      simp only [hk] at g
      cases o with
      | fin => cases g
      | inc c f =>
        match vs, g with
        | [a, b, d], g =>
          simp only [Bool.and_eq_true, decide_eq_true_eq] at g
          obtain ⟨⟨⟨g1, g2⟩, g3⟩, g4⟩ := g
          refine ⟨?_, ⟨x + k, a, b, d, _, rfl, g1, g2, g3, hp, (fun z => by cases z), ?_⟩, ?_⟩
          · unfold stepR relS phi
            simp only [hk]
            show (match p[x + k]? with | none => none | some .fin => none | some (.inc k f) => _ | some (.dec k f o) => _) = _
            rw [hp]
            rfl
          · exact g4
          · unfold g1p costW
            rw [show p.getD (phi e x (Lb.n k, [a, b, d])).1 .fin = _ from getD_some hp]
            simp only [hk]
            rfl
      | dec c f o =>
        match vs, g with
        | [a, b, d], g =>
          simp only [Bool.and_eq_true, decide_eq_true_eq] at g
          obtain ⟨⟨⟨g1, g2⟩, g3⟩, g4⟩ := g
          refine ⟨?_, ⟨x + k, a, b, d, _, rfl, g1, g2, g3, hp, (fun z => by cases z), ?_⟩, ?_⟩
          · unfold stepR relS phi
            simp only [hk]
            show (match p[x + k]? with | none => none | some .fin => none | some (.inc k f) => _ | some (.dec k f o) => _) = _
            rw [hp]
            show (if [a, b, d].getD c 0 = 0 then _ else _) = _
            by_cases z : [a, b, d].getD c 0 = 0
            · rw [if_pos z, if_pos z]
            · rw [if_neg z, if_neg z]
          · exact g4
          · unfold g1p costW
            rw [show p.getD (phi e x (Lb.n k, [a, b, d])).1 .fin = _ from getD_some hp]
            simp only [hk]
            rfl
theorem rel_run (h : BAt p e x B) : ∀ {n : Nat} {q : Lb × List Nat}, okR B n q = true → Seg p (Q1 p) n (phi e x q) (phi e x (endR B n q)) ∧ sumR p (g1p p) n (phi e x q) = sumW B n q
  | 0, q, _ => ⟨.nil _, rfl⟩
  | n + 1, q, g => by
    obtain ⟨g1, g2⟩ := Bool.and_eq_true_iff.mp (show (goodR B q && okR B n (relS B q)) = true from g)
    obtain ⟨s1, s2, s3⟩ := rel_step h g1
    obtain ⟨t1, t2⟩ := rel_run h g2
    refine ⟨((Seg.one s1 s2).trans t1).cast (by omega), ?_⟩
    rw [sumR_front, s3, (Seg.one s1 s2).e, t2]
    rfl
end
def pairB (n m : Nat) (r : Rl) : List WOp := if r.m = 0 then addW n 2 1 (.n (n + 1)) ++ [.dec 2 (.two r.f r.w) (.two r.f r.w)] else
    pushW n m (if r.m = 1 then 0 else 1) r.w ++ popW (n + (m + 1 + r.w + 2)) m (1 - (if r.m = 1 then 0 else 1)) r.f
theorem pairW_some {rs : List Rl} {n m s a : Nat} {r : Rl} (h : look rs s a = some r) : pairW rs n m s a = pairB n m r := by
  unfold pairW
  rw [h]
  rfl
theorem pairW_none {rs : List Rl} {n m s a : Nat} (h : look rs s a = none) : pairW rs n m s a = [.fin] := by
  unfold pairW
  rw [h]
/-- where a rule leads: the symbol, the sides -/
def nxt (w : Nat) (m : Int) (l r : Nat) : Nat × Nat × Nat := if m = 0 then (w, l, r) else if m = 1 then (r % 2, 2 * l + w, r / 2) else (l % 2, l / 2, 2 * r + w)
def chk1 (f w : Nat) (m : Int) (l r : Nat) : Bool :=
  let B := pairB 0 2 ⟨0, 0, w, m, f⟩
  let n := cost1 2 ⟨0, 0, w, m, f⟩ l r
  let q := (Lb.n 0, [l, r, 0])
  decide (n ≤ 1000) && okR B n q && (match endR B n q with
    | (.two g a, [x, y, 0]) => decide (g = f ∧ (a, x, y) = nxt w m l r)
    | _ => false) && decide (1 ≤ sumW B n q) && (if m = 1 ∧ l = 2 ∨ m = -1 ∧ r = 2 then decide (6001 ≤ sumW B n q) else true)
theorem chk_all : ∀ f, f < 2 → ∀ w, w < 2 → ∀ m ∈ [(-1 : Int), 0, 1], ∀ l, l < 3 → ∀ r, r < 3 → chk1 f w m l r = true := by decide +kernel
end K5
namespace K5
def lay (B : Nat → Nat → List WOp) : Nat → List WOp
  | 0 => []
  | k + 1 => lay B k ++ B k (lay B k).length
def isEx : Lb → Bool
  | .n _ => false
  | _ => true
def exB (B : List WOp) : List Lb := B.flatMap fun o => (lbs o).filter isEx
def regW (R : Nat) : WOp → Bool
  | .fin => true
  | .inc c _ => decide (c < R)
  | .dec c _ _ => decide (c < R)
def inB (len : Nat) : Lb → Bool
  | .n k => decide (k < len)
  | _ => true
/-- the block's own labels and registers are right -/
def okB (R : Nat) (B : List WOp) : Bool := B.all fun o => regW R o && (lbs o).all (inB B.length)
/-- a row of blocks: each is moved by its place, is there, and is right -/
structure LayOk (R : Nat) (B : Nat → Nat → List WOp) (K : Nat) (e : Lb → Nat) : Prop where
  sh : ∀ i x, B i x = (B i 0).map (shO x)
  ok : ∀ i, i < K → okB R (B i 0) = true
  ex : ∀ i, i < K → ∀ l ∈ exB (B i 0), e l < (lay B K).length
section
variable {B : Nat → Nat → List WOp}
abbrev pos (B : Nat → Nat → List WOp) (k : Nat) : Nat := (lay B k).length
theorem pos_succ (k : Nat) : pos B (k + 1) = pos B k + (B k (pos B k)).length := List.length_append
theorem pos_mono : ∀ {j i : Nat}, i ≤ j → pos B i ≤ pos B j
  | 0, i, h => by
    obtain rfl : i = 0 := by omega
    exact Nat.le_refl _
  | j + 1, i, h => by
    by_cases z : i = j + 1
    · rw [z]
      exact Nat.le_refl _
    · have := pos_mono (j := j) (i := i) (by omega)
      rw [pos_succ]
      omega
theorem lay_at {i j : Nat} {o : WOp} (h : (B i (pos B i))[j]? = some o) : ∀ {K : Nat}, i < K → (lay B K)[pos B i + j]? = some o
  | K + 1, hi => by
    show (lay B K ++ B K (lay B K).length)[pos B i + j]? = some o
    by_cases z : i = K
    · subst z
      rw [List.getElem?_append_right (Nat.le_add_right _ _), show pos B i + j - (lay B i).length = j from Nat.add_sub_cancel_left ..]
      exact h
    · have e := lay_at h (K := K) (by omega)
      obtain ⟨hl, _⟩ := List.getElem?_eq_some_iff.mp e
      rw [List.getElem?_append_left hl]
      exact e
theorem lay_mem {o : WOp} : ∀ {K : Nat}, o ∈ lay B K → ∃ i, i < K ∧ o ∈ B i (pos B i)
  | K + 1, h => by
    (rcases List.mem_append.mp h with h | h)
    · obtain ⟨i, hi, m⟩ := lay_mem h
      exact ⟨i, by omega, m⟩
    · exact ⟨K, by omega, h⟩
variable {R K : Nat} {e : Lb → Nat}
theorem LayOk.len (L : LayOk R B K e) {i : Nat} (hi : i < K) (x : Nat) : (B i x).length = (B i 0).length := by rw [L.sh i x, List.length_map]
theorem LayOk.bat (L : LayOk R B K e) {i : Nat} (hi : i < K) : BAt ((lay B K).map (rop (rsl e))) e (pos B i) (B i 0) := fun k o h => by
  rw [List.getElem?_map, lay_at (o := shO (pos B i) o) (by rw [L.sh i _, List.getElem?_map, h]; rfl) hi]
  rfl
theorem pos_lt (sh : ∀ i x, B i x = (B i 0).map (shO x)) (ne : ∀ i, B i 0 ≠ []) {i j : Nat} (hj : i < j) : pos B i < pos B j := by
  have := pos_mono (B := B) (j := j) (i := i + 1) (by omega)
  have h := pos_succ (B := B) i
  rw [sh i _, List.length_map] at h
  have := List.length_pos_iff.mpr (ne i)
  omega
theorem LayOk.op (L : LayOk R B K e) {o : WOp} (h : o ∈ lay B K) : OpOk R (lay B K).length (rop (rsl e) o) := by
  obtain ⟨i, hi, m⟩ := lay_mem h
  rw [L.sh i _] at m
  obtain ⟨o0, m0, rfl⟩ := List.mem_map.mp m
  have ok := L.ok i hi
  have ex := L.ex i hi
  unfold okB at ok
  rw [List.all_eq_true] at ok
  have ok1 := ok o0 m0
  have p1 := pos_succ (B := B) i
  rw [L.len hi] at p1
  have p2 := pos_mono (B := B) (j := K) (i := i + 1) (by omega)
  have lb : ∀ l ∈ lbs o0, rsl e (shL (pos B i) l) < (lay B K).length := fun l hl => by
    obtain ⟨_, o2⟩ := Bool.and_eq_true_iff.mp ok1
    have o3 := List.all_eq_true.mp o2 l hl
    have e1 : isEx l = true → e l < (lay B K).length := fun z => ex l (List.mem_flatMap.mpr ⟨o0, m0, List.mem_filter.mpr ⟨hl, z⟩⟩)
    cases l with
    | n k =>
      have hk := of_decide_eq_true o3
      show pos B i + k < pos B K
      omega
    | two s a => exact e1 rfl
    | one f => exact e1 rfl
  obtain ⟨o1, _⟩ := Bool.and_eq_true_iff.mp ok1
  cases o0 with
  | fin => exact trivial
  | inc c f => exact ⟨of_decide_eq_true o1, lb f (by simp [lbs])⟩
  | dec c f o => exact ⟨of_decide_eq_true o1, lb f (by simp [lbs]), lb o (by simp [lbs])⟩
/-- a label of the row: a place, or an exit of a block -/
theorem LayOk.lab (L : LayOk R B K e) {o : WOp} (h : o ∈ lay B K) {l : Lb} (hl : l ∈ lbs o) : (∃ k, l = .n k) ∨ ∃ i, i < K ∧ l ∈ exB (B i 0) := by
  obtain ⟨i, hi, m⟩ := lay_mem h
  rw [L.sh i _] at m
  obtain ⟨o0, m0, rfl⟩ := List.mem_map.mp m
  have key : ∀ l0, l0 ∈ lbs o0 → l = shL (pos B i) l0 → (∃ k, l = .n k) ∨ ∃ i, i < K ∧ l ∈ exB (B i 0) := fun l0 h0 e0 => by
    have e1 : isEx l0 = true → shL (pos B i) l0 = l0 → ∃ i, i < K ∧ l ∈ exB (B i 0) := fun z q => ⟨i, hi, List.mem_flatMap.mpr ⟨o0, m0, by rw [e0, q]; exact List.mem_filter.mpr ⟨h0, z⟩⟩⟩
    cases l0 with
    | n k => exact .inl ⟨_, e0⟩
    | two s a => exact .inr (e1 rfl rfl)
    | one f => exact .inr (e1 rfl rfl)
  cases o0 with
  | fin => cases hl
  | inc c f => exact key f (by simp [lbs]) (by simpa [shO, lbs] using hl)
  | dec c f o =>
    have : l = shL (pos B i) f ∨ l = shL (pos B i) o := by simpa [shO, lbs] using hl
    rcases this with z | z
    · exact key f (by simp [lbs]) z
    · exact key o (by simp [lbs]) z
theorem pos_le {M : Nat} (h : ∀ i x, (B i x).length ≤ M) : ∀ k, pos B k ≤ k * M
  | 0 => Nat.zero_le _
  | k + 1 => by
    have := pos_le h k
    have := h k (pos B k)
    rw [pos_succ, Nat.succ_mul]
    omega
end
/-- the blocks of the second level -/
def B2 (p : List Op) (i x : Nat) : List WOp := instW x (p.getD i .fin)
theorem instW_ne (x : Nat) (o : Op) : instW x o ≠ [] := by
  cases o with
  | fin => exact List.cons_ne_nil _ _
  | inc c f => unfold instW moveW; exact List.cons_ne_nil _ _
  | dec c f o =>
    unfold instW divW
    intro z
    have := (List.append_eq_nil_iff.mp z).2
    cases this
theorem instW_ok {n : Nat} {o : Op} (h : OpOk 3 n o) : okB 2 (instW 0 o) = true ∧ ∀ l ∈ exB (instW 0 o), ∃ f, l = .one f ∧ f < n := by
  have two : ∀ {f o : Nat}, f < n → o < n → ∀ l ∈ [Lb.one f, Lb.one o], ∃ f, l = .one f ∧ f < n := fun {f o} hf ho l hl => by
    rcases List.mem_cons.mp hl with z | z
    · exact ⟨f, z, hf⟩
    · exact ⟨o, by simpa using z, ho⟩
  cases o with
  | fin => exact ⟨rfl, fun l hl => by cases hl⟩
  | inc c f =>
    have one : ∀ l ∈ [Lb.one f], ∃ f, l = .one f ∧ f < n := fun l hl => ⟨f, by simpa using hl, h.2⟩
    match c, h.1 with
    | 0, _ => exact ⟨rfl, one⟩
    | 1, _ => exact ⟨rfl, one⟩
    | 2, _ => exact ⟨rfl, one⟩
  | dec c f o =>
    match c, h.1 with
    | 0, _ => exact ⟨rfl, two h.2.1 h.2.2⟩
    | 1, _ => exact ⟨rfl, two h.2.1 h.2.2⟩
    | 2, _ => exact ⟨rfl, two h.2.1 h.2.2⟩
theorem instW_le (x : Nat) (o : Op) (h : OpOk 3 n o) : (instW x o).length ≤ 24 := by
  cases o with
  | fin => exact Nat.le_of_ble_eq_true rfl
  | inc c f =>
    rw [instW_sh, List.length_map]
    match c, h.1 with
    | 0, _ => exact Nat.le_of_ble_eq_true rfl
    | 1, _ => exact Nat.le_of_ble_eq_true rfl
    | 2, _ => exact Nat.le_of_ble_eq_true rfl
  | dec c f o =>
    rw [instW_sh, List.length_map]
    match c, h.1 with
    | 0, _ => exact Nat.le_of_ble_eq_true rfl
    | 1, _ => exact Nat.le_of_ble_eq_true rfl
    | 2, _ => exact Nat.le_of_ble_eq_true rfl
/-- the blocks of the first level -/
def B1 (rs : List Rl) (i x : Nat) : List WOp := pairW rs x 2 (i / 2) (i % 2)
theorem pushW_sh (x n m s w : Nat) : pushW (x + n) m s w = (pushW n m s w).map (shO x) := by
  unfold pushW
  rw [List.map_append, List.map_append, ← moveW_sh, ← moveW_sh, show shL x (.n (n + 1 + m)) = .n (x + n + 1 + m) from congrArg Lb.n (by omega), show shL x (.n (n + (m + 1) + w + 2)) = .n (x + n + (m + 1) + w + 2) from congrArg Lb.n (by omega), show x + (n + (m + 1) + w) = x + n + (m + 1) + w by omega]
  by_cases h : w > 0
  · rw [if_pos h, if_pos h, ← addW_sh, show shL x (.n (n + (m + 1) + w)) = .n (x + n + (m + 1) + w) from congrArg Lb.n (by omega), show x + (n + (m + 1)) = x + n + (m + 1) by omega]
  · rw [if_neg h, if_neg h]
    rfl
theorem popB_sh (x n s f : Nat) : ∀ k, popB (x + n) s f k = (popB n s f k).map (shO x)
  | 0 => rfl
  | k + 1 => by
    show popB (x + n) s f k ++ moveW (x + n + 2 * k) 2 1 s (.two f k) = _
    rw [popB_sh x n s f k, popB, List.map_append, ← moveW_sh, show x + (n + 2 * k) = x + n + 2 * k by omega]
    rfl
theorem popW_sh (x n m s f : Nat) : popW (x + n) m s f = (popW n m s f).map (shO x) := by
  unfold popW
  rw [List.map_append, List.map_cons, ← popB_sh, show x + (n + m + 1) = x + n + m + 1 by omega]
  congr 1
  unfold popA
  rw [List.map_map]
  refine List.map_congr_left fun r _ => ?_
  show WOp.dec s (.n (x + n + r + 1)) (.n (x + n + m + 1 + 2 * r)) = WOp.dec s (.n (x + (n + r + 1))) (.n (x + (n + m + 1 + 2 * r)))
  congr 2 <;> omega
theorem pairB_sh (x m : Nat) (r : Rl) : pairB x m r = (pairB 0 m r).map (shO x) := by
  unfold pairB
  by_cases h : r.m = 0
  · rw [if_pos h, if_pos h]
    rfl
  · rw [if_neg h, if_neg h, List.map_append, ← popW_sh, show x + (0 + (m + 1 + r.w + 2)) = x + (m + 1 + r.w + 2) by omega]
    congr 1
    exact pushW_sh x 0 m _ r.w
theorem pairW_sh (rs : List Rl) (x m s a : Nat) : pairW rs x m s a = (pairW rs 0 m s a).map (shO x) := by
  cases h : look rs s a with
  | none => rw [pairW_none h, pairW_none h]; rfl
  | some r => rw [pairW_some h, pairW_some h, pairB_sh]
theorem pairB_ok {n : Nat} {r : Rl} (h : RlOk n 2 r) : okB 3 (pairB 0 2 r) = true ∧ (∀ l ∈ exB (pairB 0 2 r), ∃ a, l = .two r.f a ∧ a < 2) ∧ pairB 0 2 r ≠ [] ∧ (pairB 0 2 r).length ≤ 13 := by
  obtain ⟨s, a, w, m, f⟩ := r
  have two : ∀ l ∈ [Lb.two f 0, Lb.two f 1], ∃ a, l = .two f a ∧ a < 2 := fun l hl => by
    rcases List.mem_cons.mp hl with z | z
    · exact ⟨0, z, by omega⟩
    · exact ⟨1, by simpa using z, by omega⟩
  have one : ∀ v, v < 2 → ∀ l ∈ [Lb.two f v, Lb.two f v], ∃ a, l = .two f a ∧ a < 2 := fun v hv l hl => ⟨v, by
    rcases List.mem_cons.mp hl with z | z
    · exact z
    · simpa using z, hv⟩
  have hw := h.w
  have hm := h.m
  rcases (show w = 0 ∨ w = 1 by simp only at hw; omega) with rfl | rfl <;> rcases (show m = -1 ∨ m = 0 ∨ m = 1 from hm) with rfl | rfl | rfl
  · exact ⟨rfl, two, List.cons_ne_nil _ _, Nat.le_of_ble_eq_true rfl⟩
  · exact ⟨rfl, one 0 (by omega), List.cons_ne_nil _ _, Nat.le_of_ble_eq_true rfl⟩
  · exact ⟨rfl, two, List.cons_ne_nil _ _, Nat.le_of_ble_eq_true rfl⟩
  · exact ⟨rfl, two, List.cons_ne_nil _ _, Nat.le_of_ble_eq_true rfl⟩
  · exact ⟨rfl, one 1 (by omega), List.cons_ne_nil _ _, Nat.le_of_ble_eq_true rfl⟩
  · exact ⟨rfl, two, List.cons_ne_nil _ _, Nat.le_of_ble_eq_true rfl⟩
end K5
namespace K5
structure CtInv (prog : List Op) (k : Nat) : Prop where
  b : prog.length ≤ (ctR prog k).2
  b2 : (ctR prog k).2 ≤ prog.length + 4 * k
  l : (ctR prog k).1.length ≤ 8 * k
  s : ∀ r ∈ (ctR prog k).1, (r.s < k ∧ prog.getD r.s .fin ≠ .fin) ∨ (prog.length ≤ r.s ∧ r.s < (ctR prog k).2)
  o : ∀ r ∈ (ctR prog k).1, r.f < (ctR prog k).2 ∧ r.a < 3 ∧ r.w < 3 ∧ (r.m = -1 ∨ r.m = 0 ∨ r.m = 1)
  u : Uniq (ctR prog k).1
theorem awy_ok (c : Nat) : (awy c = -1 ∨ awy c = 0 ∨ awy c = 1) ∧ (-awy c = -1 ∨ -awy c = 0 ∨ -awy c = 1) := by
  unfold awy
  split
  · exact ⟨.inl rfl, .inr (.inr rfl)⟩
  · exact ⟨.inr (.inr rfl), .inl rfl⟩
/-- a new block of rules, with the states from st to st2 -/
structure NewR (pl len st st2 : Nat) (l : List Rl) : Prop where
  s : ∀ r ∈ l, r.s = pl ∨ (st ≤ r.s ∧ r.s < st2)
  o : ∀ r ∈ l, r.f < st2 ∧ r.a < 3 ∧ r.w < 3 ∧ (r.m = -1 ∨ r.m = 0 ∨ r.m = 1)
  u : Uniq l
theorem growR_new {pl c f st len : Nat} (h : pl < len) (hf : f < len) (hs : len ≤ st) : NewR pl len st (st + 2) (growR pl c f st) := by
  obtain ⟨a1, a2⟩ := awy_ok c
  refine ⟨fun r hr => ?_, fun r hr => ?_, ?_⟩
  · simp only [growR, List.mem_cons, List.not_mem_nil, or_false] at hr
    rcases hr with rfl | rfl | rfl | rfl | rfl <;> (dsimp only; omega)
  · simp only [growR, List.mem_cons, List.not_mem_nil, or_false] at hr
    rcases hr with rfl | rfl | rfl | rfl | rfl <;> refine ⟨by dsimp only; omega, Nat.le_of_ble_eq_true rfl, Nat.le_of_ble_eq_true rfl, ?_⟩
    · exact a1
    · exact a1
    · exact a2
    · exact a2
    · exact .inr (.inl rfl)
  · unfold Uniq growR
    simp only [List.pairwise_cons, List.mem_cons, List.not_mem_nil, or_false, List.Pairwise.nil, and_true, forall_eq_or_imp, forall_eq, false_implies, implies_true]
    omega
theorem shrR_new {pl c f o st len : Nat} (h : pl < len) (hf : f < len) (ho : o < len) (hs : len ≤ st) : NewR pl len st (st + 4) (shrR pl c f o st) := by
  obtain ⟨a1, a2⟩ := awy_ok c
  refine ⟨fun r hr => ?_, fun r hr => ?_, ?_⟩
  · simp only [shrR, List.mem_cons, List.not_mem_nil, or_false] at hr
    rcases hr with rfl | rfl | rfl | rfl | rfl | rfl | rfl | rfl <;> (dsimp only; omega)
  · simp only [shrR, List.mem_cons, List.not_mem_nil, or_false] at hr
    rcases hr with rfl | rfl | rfl | rfl | rfl | rfl | rfl | rfl <;> refine ⟨by dsimp only; omega, Nat.le_of_ble_eq_true rfl, Nat.le_of_ble_eq_true rfl, ?_⟩
    · exact a1
    · exact a2
    · exact a1
    · exact a1
    · exact a2
    · exact a2
    · exact a2
    · exact .inr (.inl rfl)
  · unfold Uniq shrR
    simp only [List.pairwise_cons, List.mem_cons, List.not_mem_nil, or_false, List.Pairwise.nil, and_true, forall_eq_or_imp, forall_eq, false_implies, implies_true]
    omega
theorem CtInv.add {prog : List Op} {k n2 : Nat} {l : List Rl} (h : CtInv prog k) (hk : k < prog.length) (hne : prog.getD k .fin ≠ .fin) (N : NewR k prog.length (ctR prog k).2 n2 l) (h1 : (ctR prog k).2 ≤ n2) (h2 : n2 ≤ (ctR prog k).2 + 4) (h3 : l.length ≤ 8) (e : ctR prog (k + 1) = ((ctR prog k).1 ++ l, n2)) : CtInv prog (k + 1) := by
  obtain ⟨b, b2, hl, s, o, u⟩ := h
  obtain ⟨ns, no, nu⟩ := N
  refine ⟨?_, ?_, ?_, ?_, ?_, ?_⟩ <;> rw [e] <;> simp only
  · omega
  · omega
  · rw [List.length_append]
    omega
  · intro r hr
    (rcases List.mem_append.mp hr with hr | hr)
    · rcases s r hr with z | z
      · exact .inl ⟨by omega, z.2⟩
      · exact .inr ⟨z.1, by omega⟩
    · rcases ns r hr with z | z
      · exact .inl ⟨by omega, by rw [z]; exact hne⟩
      · exact .inr ⟨by omega, z.2⟩
  · intro r hr
    (rcases List.mem_append.mp hr with hr | hr)
    · have := o r hr
      exact ⟨by omega, this.2⟩
    · exact no r hr
  · refine List.pairwise_append.mpr ⟨u, nu, fun a ha b' hb' z => ?_⟩
    rcases s a ha with q | q <;> rcases ns b' hb' with q2 | q2 <;> omega
theorem ctInv {prog : List Op} (ok : ∀ o ∈ prog, OpOk 2 prog.length o) : ∀ {k : Nat}, k ≤ prog.length → CtInv prog k
  | 0, _ => ⟨Nat.le_refl _, by show prog.length ≤ _; omega, Nat.le_refl _, fun r h => (by cases h), fun r h => (by cases h), .nil⟩
  | k + 1, h => by
    have I := ctInv ok (k := k) (by omega)
    have hk : prog[k]? = some (prog.getD k .fin) := by
      rw [List.getD_eq_getElem?_getD, List.getElem?_eq_getElem (by omega)]
      rfl
    have ho := ok _ (List.mem_of_getElem? hk)
    have b := I.b
    cases q : prog.getD k .fin with
    | fin =>
      have e : ctR prog (k + 1) = ctR prog k := by
        show ctOp (prog.getD k .fin) k (ctR prog k) = _
        rw [q]
        rfl
      obtain ⟨b, b2, hl, s, o, u⟩ := I
      refine ⟨?_, ?_, ?_, ?_, ?_, ?_⟩ <;> rw [e]
      · exact b
      · omega
      · omega
      · intro r hr
        rcases s r hr with z | z
        · exact .inl ⟨by omega, z.2⟩
        · exact .inr z
      · exact o
      · exact u
    | inc c f =>
      rw [q] at ho
      exact I.add (by omega) (by rw [q]; intro z; cases z) (growR_new (c := c) (by omega) ho.2 b) (by omega) (by omega) (by simp [growR]) (by
        show ctOp (prog.getD k .fin) k (ctR prog k) = _
        rw [q]
        rfl)
    | dec c f o =>
      rw [q] at ho
      exact I.add (by omega) (by rw [q]; intro z; cases z) (shrR_new (c := c) (by omega) ho.2.1 ho.2.2 b) (by omega) (by omega) (by simp [shrR]) (by
        show ctOp (prog.getD k .fin) k (ctR prog k) = _
        rw [q]
        rfl)
theorem ctR_sub (prog : List Op) {r : Rl} : ∀ {j k : Nat}, k ≤ j → r ∈ (ctR prog k).1 → r ∈ (ctR prog j).1
  | 0, k, h, m => by
    obtain rfl : k = 0 := by omega
    exact m
  | j + 1, k, h, m => by
    by_cases z : k = j + 1
    · rw [← z]
      exact m
    · have m2 := ctR_sub prog (j := j) (k := k) (by omega) m
      show r ∈ (ctOp (prog.getD j .fin) j (ctR prog j)).1
      cases prog.getD j .fin with
      | fin => exact m2
      | inc c f => exact List.mem_append_left _ m2
      | dec c f o => exact List.mem_append_left _ m2
theorem ct_lv3 {prog : List Op} (ok : ∀ o ∈ prog, OpOk 2 prog.length o) : Lv3 prog (ctR prog prog.length).1 := by
  have I := ctInv ok (Nat.le_refl prog.length)
  intro pc o h
  obtain ⟨hl, _⟩ := List.getElem?_eq_some_iff.mp h
  have hd : prog.getD pc .fin = o := getD_some h
  have new : ∀ r ∈ (ctR prog (pc + 1)).1, look (ctR prog prog.length).1 r.s r.a = some r := fun r hr => look_mem I.u (ctR_sub prog (by omega) hr)
  refine ⟨(ctR prog pc).2, ?_⟩
  have e : ctR prog (pc + 1) = ctOp o pc (ctR prog pc) := by rw [← hd]; rfl
  rw [e] at new
  cases o with
  | fin =>
    show look _ pc 2 = none
    unfold look
    rw [List.find?_eq_none]
    intro r hr z
    have z := of_decide_eq_true z
    rcases I.s r hr with q | q
    · exact q.2 (by rw [z.1]; exact hd)
    · omega
  | inc c f => exact fun r hr => new r (List.mem_append_right _ hr)
  | dec c f o => exact fun r hr => new r (List.mem_append_right _ hr)
end K5
namespace K5
open PySem PySem.Spec PyProof.Rows L2
section
variable {ky : Type} [DecidableEq ky]
theorem rng_put (key : Nat → ky) (val : Nat → D) (inj : ∀ i j, key i = key j → i = j) (K : Nat) : putE ((List.range K).map fun i => (key i, val i)) (key K) (val K) = (List.range (K + 1)).map fun i => (key i, val i) := by
  unfold putE
  rw [if_neg]
  · rw [List.range_succ, List.map_append]
    rfl
  · intro z
    rw [List.any_eq_true] at z
    obtain ⟨q, hq, e⟩ := z
    obtain ⟨i, hi, rfl⟩ := List.mem_map.mp hq
    have h1 := List.mem_range.mp hi
    have h2 := inj _ _ (of_decide_eq_true e)
    omega
theorem rng_val (key : Nat → ky) (val : Nat → D) (inj : ∀ i j, key i = key j → i = j) {j : Nat} : ∀ {K : Nat}, j < K → valD ((List.range K).map fun i => (key i, val i)) (key j) = some (val j)
  | K + 1, h => by
    unfold valD
    rw [List.range_succ, List.map_append, List.find?_append]
    by_cases z : j < K
    · have ih := rng_val key val inj z
      unfold valD at ih
      cases q : ((List.range K).map fun i => (key i, val i)).find? fun kv => decide (kv.1 = key j) with
      | none =>
        rw [q] at ih
        cases ih
      | some y =>
        rw [q] at ih
        exact ih
    · obtain rfl : j = K := by omega
      have : ((List.range j).map fun i => (key i, val i)).find? (fun kv => decide (kv.1 = key j)) = none := by
        rw [List.find?_eq_none]
        intro y hy e
        obtain ⟨i, hi, rfl⟩ := List.mem_map.mp hy
        have h1 := List.mem_range.mp hi
        have h2 := inj _ _ (of_decide_eq_true e)
        omega
      rw [this, Option.none_or, List.map_singleton, List.find?_cons_of_pos (by simp)]
      rfl
end
theorem pos_inj {B : Nat → Nat → List WOp} (sh : ∀ i x, B i x = (B i 0).map (shO x)) (ne : ∀ i, B i 0 ≠ []) (i j : Nat) (h : pos B i = pos B j) : i = j := by
  rcases Nat.lt_trichotomy i j with z | z | z
  · have := pos_lt sh ne z
    omega
  · exact z
  · have := pos_lt sh ne z
    omega
section
variable {rs : List Rl} {n : Nat}
theorem B1_sh (rs : List Rl) (i x : Nat) : B1 rs i x = (B1 rs i 0).map (shO x) := pairW_sh rs x 2 _ _
theorem B1_ne (ok : ∀ r ∈ rs, RlOk n 2 r) (i : Nat) : B1 rs i 0 ≠ [] := by
  unfold B1
  cases h : look rs (i / 2) (i % 2) with
  | none =>
    rw [pairW_none h]
    exact List.cons_ne_nil _ _
  | some r =>
    rw [pairW_some h]
    exact (pairB_ok (ok r (List.mem_of_find?_eq_some h))).2.2.1
theorem B1_le (ok : ∀ r ∈ rs, RlOk n 2 r) (i x : Nat) : (B1 rs i x).length ≤ 13 := by
  rw [B1_sh, List.length_map]
  unfold B1
  cases h : look rs (i / 2) (i % 2) with
  | none =>
    rw [pairW_none h]
    exact Nat.le_of_ble_eq_true rfl
  | some r =>
    rw [pairW_some h]
    exact (pairB_ok (ok r (List.mem_of_find?_eq_some h))).2.2.2
def e1 (rs : List Rl) : Lb → Nat
  | .two s a => pos (B1 rs) (2 * s + a)
  | _ => 0
theorem B1_ex (ok : ∀ r ∈ rs, RlOk n 2 r) (i : Nat) {l : Lb} (h : l ∈ exB (B1 rs i 0)) : ∃ f a, l = .two f a ∧ f < n ∧ a < 2 := by
  unfold B1 at h
  cases q : look rs (i / 2) (i % 2) with
  | none =>
    rw [pairW_none q] at h
    cases h
  | some r =>
    rw [pairW_some q] at h
    have hr := ok r (List.mem_of_find?_eq_some q)
    obtain ⟨a, e, ha⟩ := (pairB_ok hr).2.1 l h
    exact ⟨r.f, a, e, hr.f, ha⟩
theorem B1_lay (ok : ∀ r ∈ rs, RlOk n 2 r) : LayOk 3 (B1 rs) (2 * n) (e1 rs) := by
  refine ⟨B1_sh rs, fun i hi => ?_, fun i hi l hl => ?_⟩
  · unfold B1
    cases q : look rs (i / 2) (i % 2) with
    | none =>
      rw [pairW_none q]
      rfl
    | some r =>
      rw [pairW_some q]
      exact (pairB_ok (ok r (List.mem_of_find?_eq_some q))).1
  · obtain ⟨f, a, rfl, hf, ha⟩ := B1_ex ok i hl
    exact pos_lt (B1_sh rs) (B1_ne ok) (show 2 * f + a < 2 * n by omega)
def key1 (i : Nat) : List L2.Key := lbK (.two (i / 2) (i % 2))
theorem key1_inj (i j : Nat) (h : key1 i = key1 j) : i = j := by
  unfold key1 lbK at h
  injection h with _ h
  injection h with h1 h
  injection h with h2 _
  injection h1 with h1
  injection h2 with h2
  omega
def st1 (rs : List Rl) (k : Nat) : List WOp × Mks := (lay (B1 rs) k, (List.range k).map fun i => (key1 i, iD (pos (B1 rs) i)))
theorem pairStep_st1 {s a : Nat} (ha : a < 2) : pairStep rs 2 s a (st1 rs (2 * s + a)) = st1 rs (2 * s + a + 1) := by
  have h1 : (2 * s + a) / 2 = s := by omega
  have h2 : (2 * s + a) % 2 = a := by omega
  unfold pairStep st1
  refine Prod.ext ?_ ?_
  · show lay (B1 rs) (2 * s + a) ++ pairW rs _ 2 s a = lay (B1 rs) (2 * s + a) ++ B1 rs (2 * s + a) _
    unfold B1
    rw [h1, h2]
  · have e := rng_put key1 (fun i => iD (pos (B1 rs) i)) key1_inj (2 * s + a)
    rw [show key1 (2 * s + a) = lbK (.two s a) by unfold key1; rw [h1, h2]] at e
    exact e
theorem rowW_st1 {s : Nat} : ∀ {a : Nat}, a ≤ 2 → rowW rs 2 s a (st1 rs (2 * s)) = st1 rs (2 * s + a)
  | 0, _ => rfl
  | a + 1, h => by
    show pairStep rs 2 s a (rowW rs 2 s a (st1 rs (2 * s))) = _
    rw [rowW_st1 (by omega), pairStep_st1 (by omega)]
    rfl
theorem allW_st1 : ∀ s, allW rs 2 s = st1 rs (2 * s)
  | 0 => rfl
  | s + 1 => by
    show rowW rs 2 s 2 (allW rs 2 s) = _
    rw [allW_st1 s, rowW_st1 (by omega)]
    rfl
def ms1 (rs : List Rl) (k : Nat) : List (Nat × Nat × Nat) := (List.range k).map fun i => (i / 2, i % 2, pos (B1 rs) i)
theorem mksE_ms1 (k : Nat) : mksE (ms1 rs k) = (List.range k).map fun i => (key1 i, iD (pos (B1 rs) i)) := by
  unfold mksE ms1
  rw [List.map_map]
  rfl
theorem prsE_ms1 (k : Nat) : prsE (ms1 rs k) = (List.range k).map fun i => ((Sum.inl (pos (B1 rs) i : Int) : L2.Key), .tup [iD (i / 2), iD (i % 2)]) := by
  unfold prsE ms1
  rw [List.map_map]
  rfl
theorem ms1_val {k s a : Nat} (ha : a < 2) (h : 2 * s + a < k) : valD (mksE (ms1 rs k)) (lbK (.two s a)) = some (iD (pos (B1 rs) (2 * s + a))) := by
  have e := rng_val key1 (fun i => iD (pos (B1 rs) i)) key1_inj h
  rw [mksE_ms1, ← e]
  unfold key1
  rw [show (2 * s + a) / 2 = s by omega, show (2 * s + a) % 2 = a by omega]
def key2 (rs : List Rl) (i : Nat) : L2.Key := Sum.inl (pos (B1 rs) i : Int)
theorem key2_inj (ok : ∀ r ∈ rs, RlOk n 2 r) (i j : Nat) (h : key2 rs i = key2 rs j) : i = j := by
  unfold key2 at h
  injection h with h
  exact pos_inj (B1_sh rs) (B1_ne ok) i j (by omega)
theorem prs_val (ok : ∀ r ∈ rs, RlOk n 2 r) {k s a : Nat} (ha : a < 2) (h : 2 * s + a < k) : valD (prsE (ms1 rs k)) (Sum.inl (pos (B1 rs) (2 * s + a) : Int)) = some (.tup [iD s, iD a]) := by
  have e := rng_val (key2 rs) (fun i => D.tup [iD (i / 2), iD (i % 2)]) (key2_inj ok) h
  rw [prsE_ms1]
  refine e.trans ?_
  rw [show (2 * s + a) / 2 = s by omega, show (2 * s + a) % 2 = a by omega]
theorem ms1_get {k i : Nat} {q : Nat × Nat × Nat} (h : (ms1 rs k)[i]? = some q) : i < k ∧ q = (i / 2, i % 2, pos (B1 rs) i) := by
  obtain ⟨hl, e⟩ := (List.getElem?_eq_some_iff.mp h)
  have hk : i < k := by simpa [ms1] using hl
  refine ⟨hk, ?_⟩
  rw [← e]
  simp [ms1]
theorem ms1_take {k i : Nat} (h : i ≤ k) : (ms1 rs k).take i = ms1 rs i := by
  unfold ms1
  rw [← List.map_take, List.take_range, Nat.min_eq_left h]
theorem t2_ok (ok : ∀ r ∈ rs, RlOk n 2 r) (h1 : 1 ≤ n) (h2 : n ≤ 2) : T2Ok n 2 rs (ms1 rs (2 * n)) (rsl (e1 rs)) := by
  have L := B1_lay ok
  have le : ∀ k, pos (B1 rs) k ≤ k * 13 := pos_le (B1_le ok)
  have ea := allW_st1 (rs := rs) n
  have el : (allW rs 2 n).1 = lay (B1 rs) (2 * n) := by rw [ea]; rfl
  have e2 : (allW rs 2 n).2 = mksE (ms1 rs (2 * n)) := by rw [ea, mksE_ms1]; rfl
  refine ⟨ok, by omega, by omega, by omega, fun s hs a ha => ?_, e2, fun q hq => ?_, fun i q hq => ?_, ?_, fun o ho l hl => ?_, fun o ho => ?_, ?_, ?_⟩
  · rw [allW_st1 s, rowW_st1 (by omega)]
    have := le (2 * s + a)
    refine ⟨?_, ?_⟩
    · show pos (B1 rs) (2 * s + a) < 70000
      omega
    · show ((List.range (2 * s + a)).map _).length < 80000
      (rw [List.length_map, List.length_range])
      omega
  · obtain ⟨i, hi, e⟩ := List.getElem_of_mem hq
    obtain ⟨hk, rfl⟩ := ms1_get (List.getElem?_eq_some_iff.mpr ⟨hi, e⟩)
    have v := ms1_val (rs := rs) (k := 2 * n) (s := i / 2) (a := i % 2) (by omega) (by omega)
    rw [show 2 * (i / 2) + i % 2 = i by omega] at v
    exact v
  · obtain ⟨hk, rfl⟩ := ms1_get hq
    rw [ms1_take (by omega), ms1_take (by omega), prsE_ms1, prsE_ms1]
    exact rng_put (key2 rs) (fun i => D.tup [iD (i / 2), iD (i % 2)]) (key2_inj ok) i
  · unfold ms1
    (rw [List.length_map, List.length_range])
    omega
  · rw [el] at ho
    rcases L.lab ho hl with ⟨k, rfl⟩ | ⟨i, hi, hx⟩
    · rfl
    · obtain ⟨f, a, rfl, hf, ha⟩ := B1_ex ok i hx
      show (valD (mksE (ms1 rs (2 * n))) (lbK (.two f a))).getD _ = _
      rw [ms1_val ha (by omega)]
      rfl
  · rw [el] at ho ⊢
    exact L.op ho
  · rw [el]
    exact pos_lt (i := 0) (j := 2 * n) (B1_sh rs) (B1_ne ok) (by omega)
  · rw [el]
    have := le (2 * n)
    show pos (B1 rs) (2 * n) < 90000
    omega
def prog1 (rs : List Rl) (n : Nat) : List Op := (lay (B1 rs) (2 * n)).map (rop (rsl (e1 rs)))
theorem prog1_len : (prog1 rs n).length = pos (B1 rs) (2 * n) := List.length_map ..
theorem prog1_op (ok : ∀ r ∈ rs, RlOk n 2 r) {o : Op} (h : o ∈ prog1 rs n) : OpOk 3 (prog1 rs n).length o := by
  obtain ⟨w, hw, rfl⟩ := List.mem_map.mp h
  rw [prog1_len]
  exact (B1_lay ok).op hw
end
section
variable {p : List Op}
theorem B2_sh (p : List Op) (i x : Nat) : B2 p i x = (B2 p i 0).map (shO x) := instW_sh x _
theorem B2_ne (p : List Op) (i : Nat) : B2 p i 0 ≠ [] := instW_ne 0 _
def xs2 (p : List Op) : List Nat := (List.range p.length).map (pos (B2 p))
theorem xs2_get {k : Nat} (h : k < p.length) : (xs2 p)[k]? = some (pos (B2 p) k) := by
  unfold xs2
  rw [List.getElem?_map, List.getElem?_range h]
  rfl
theorem xs2_getD {k : Nat} (h : k < p.length) : (xs2 p).getD k 0 = pos (B2 p) k := by
  rw [List.getD_eq_getElem?_getD, xs2_get h]
  rfl
theorem getD_ok (ok : ∀ o ∈ p, OpOk 3 p.length o) (i : Nat) : OpOk 3 p.length (p.getD i .fin) := by
  (rw [List.getD_eq_getElem?_getD])
  cases h : p[i]? with
  | none => exact trivial
  | some o => exact ok o (List.mem_of_getElem? h)
theorem B2_lay (ok : ∀ o ∈ p, OpOk 3 p.length o) : LayOk 2 (B2 p) p.length (e2 (xs2 p)) := by
  refine ⟨B2_sh p, fun i hi => (instW_ok (getD_ok ok i)).1, fun i hi l hl => ?_⟩
  obtain ⟨f, rfl, hf⟩ := (instW_ok (getD_ok ok i)).2 l hl
  show (xs2 p).getD f 0 < _
  rw [xs2_getD hf]
  exact pos_lt (B2_sh p) (B2_ne p) hf
def key3 (i : Nat) : List L2.Key := lbK (.one i)
theorem key3_inj (i j : Nat) (h : key3 i = key3 j) : i = j := by
  unfold key3 lbK at h
  injection h with _ h
  injection h with h1 h
  injection h1 with h1
  omega
theorem instsW_eq (p : List Op) : ∀ k, instsW p k = (lay (B2 p) k, (List.range k).map fun i => (key3 i, iD (pos (B2 p) i)))
  | 0 => rfl
  | k + 1 => by
    show instStep (p.getD k .fin) k (instsW p k) = _
    rw [instsW_eq p k]
    unfold instStep
    refine Prod.ext rfl ?_
    exact rng_put key3 (fun i => iD (pos (B2 p) i)) key3_inj k
theorem r2_ok (ok : ∀ o ∈ p, OpOk 3 p.length o) (h1 : 1 ≤ p.length) (h2 : p.length ≤ 52) : R2Ok p (xs2 p) (rsl (e2 (xs2 p))) := by
  have L := B2_lay ok
  have le : ∀ k, pos (B2 p) k ≤ k * 24 := pos_le (fun i x => instW_le x _ (getD_ok ok i))
  have el : (instsW p p.length).1 = lay (B2 p) p.length := by rw [instsW_eq]
  have e2 : (instsW p p.length).2 = (List.range p.length).map fun i => (key3 i, iD (pos (B2 p) i)) := by rw [instsW_eq]
  refine ⟨ok, by omega, fun k hk => ?_, ?_, fun k x hx => ?_, fun o ho l hl => ?_, fun o ho => ?_, ?_, ?_⟩
  · rw [instsW_eq]
    have := le k
    refine ⟨?_, ?_⟩
    · show pos (B2 p) k < 60000
      omega
    · show ((List.range k).map _).length < 80000
      (rw [List.length_map, List.length_range])
      omega
  · unfold xs2
    (rw [List.length_map, List.length_range])
  · obtain ⟨hl, _⟩ := List.getElem?_eq_some_iff.mp hx
    have hk : k < p.length := by simpa [xs2] using hl
    rw [xs2_get hk] at hx
    cases hx
    rw [e2]
    exact rng_val key3 (fun i => iD (pos (B2 p) i)) key3_inj hk
  · rw [el] at ho
    rcases L.lab ho hl with ⟨k, rfl⟩ | ⟨i, hi, hx⟩
    · rfl
    · obtain ⟨f, rfl, hf⟩ := (instW_ok (getD_ok ok i)).2 l hx
      show (valD (instsW p p.length).2 (key3 f)).getD _ = iD ((xs2 p).getD f 0)
      rw [e2, rng_val key3 (fun i => iD (pos (B2 p) i)) key3_inj hf, xs2_getD hf]
      rfl
  · rw [el] at ho ⊢
    exact L.op ho
  · rw [el]
    exact pos_lt (i := 0) (B2_sh p) (B2_ne p) (by omega)
  · rw [el]
    have := le p.length
    show pos (B2 p) p.length < 90000
    omega
def prog2 (p : List Op) : List Op := (lay (B2 p) p.length).map (rop (rsl (e2 (xs2 p))))
theorem prog2_len : (prog2 p).length = pos (B2 p) p.length := List.length_map ..
theorem prog2_op (ok : ∀ o ∈ p, OpOk 3 p.length o) {o : Op} (h : o ∈ prog2 p) : OpOk 2 (prog2 p).length o := by
  obtain ⟨w, hw, rfl⟩ := List.mem_map.mp h
  rw [prog2_len]
  exact (B2_lay ok).op hw
theorem p2_lv2 (ok : ∀ o ∈ p, OpOk 3 p.length o) : Lv2 p (prog2 p) (xs2 p) := by
  intro pc o h
  obtain ⟨hl, _⟩ := List.getElem?_eq_some_iff.mp h
  have b := (B2_lay ok).bat hl
  rw [show B2 p pc 0 = instW 0 o by unfold B2; rw [getD_some h]] at b
  rw [xs2_getD hl]
  exact b
theorem c2_ok (ok : ∀ o ∈ p, OpOk 3 p.length o) (h1 : 1 ≤ p.length) (h2 : p.length ≤ 52) : C2Ok (prog2 p) := by
  have le : ∀ k, pos (B2 p) k ≤ k * 24 := pos_le (fun i x => instW_le x _ (getD_ok ok i))
  have e := prog2_len (p := p)
  have l1 := le p.length
  have l2 : pos (B2 p) 0 < pos (B2 p) p.length := pos_lt (B2_sh p) (B2_ne p) (by omega)
  have I : ∀ k, k ≤ (prog2 p).length → CtInv (prog2 p) k := fun k hk => ctInv (fun o h => prog2_op ok h) hk
  have F := I _ (Nat.le_refl _)
  have b := F.b
  have b2 := F.b2
  have l := F.l
  refine ⟨by omega, by omega, by omega, fun k hk => ?_, fun r hr => ?_, F.u, by omega⟩
  · have J := I k (by omega)
    have := J.b2
    have := J.l
    exact ⟨by omega, by omega⟩
  · obtain ⟨q1, q2, q3, q4⟩ := F.o r hr
    refine ⟨?_, q1, q2, q3, q4⟩
    rcases F.s r hr with z | z
    · omega
    · exact z.2
end
end K5
namespace K5
open PySem PySem.Spec PyProof.Rows L2
theorem rowRules_ok {dr : List Nat} {n m s : Nat} (hn : 1 ≤ n) (hm : 1 ≤ m) : ∀ {a : Nat}, ∀ r ∈ rowRules dr n m s a, r.s = s ∧ r.a < a ∧ r.w < m ∧ r.f < n ∧ (r.m = -1 ∨ r.m = 0 ∨ r.m = 1)
  | a + 1, r, h => by
    (rcases List.mem_append.mp h with h | h)
    · have := rowRules_ok hn hm r h
      exact ⟨this.1, by omega, this.2.2⟩
    · unfold ruleOf at h
      split at h
      · obtain rfl : r = _ := by simpa using h
        refine ⟨rfl, by show a < a + 1; omega, Nat.mod_lt _ (by omega), Nat.mod_lt _ (by omega), ?_⟩
        dsimp only
        omega
      · cases h
theorem rowRules_uniq {dr : List Nat} {n m s : Nat} (hn : 1 ≤ n) (hm : 1 ≤ m) : ∀ a, Uniq (rowRules dr n m s a)
  | 0 => .nil
  | a + 1 => by
    refine List.pairwise_append.mpr ⟨rowRules_uniq hn hm a, ?_, fun x hx y hy z => ?_⟩
    · cases ruleOf n m s a (dr.getD ((s * m + a) % dr.length) 0) with
      | none => exact .nil
      | some r => exact List.pairwise_singleton _ _
    · have h1 := rowRules_ok hn hm x hx
      unfold ruleOf at hy
      split at hy
      · obtain rfl : y = _ := by simpa using hy
        have : x.a = a := z.2
        omega
      · cases hy
theorem allRules_ok {dr : List Nat} {n m : Nat} (hn : 1 ≤ n) (hm : 1 ≤ m) : ∀ {S : Nat}, ∀ r ∈ allRules dr n m S, r.s < S ∧ r.a < m ∧ r.w < m ∧ r.f < n ∧ (r.m = -1 ∨ r.m = 0 ∨ r.m = 1)
  | S + 1, r, h => by
    (rcases List.mem_append.mp h with h | h)
    · have := allRules_ok hn hm r h
      exact ⟨by omega, this.2⟩
    · have := rowRules_ok hn hm r h
      exact ⟨by omega, this.2⟩
theorem allRules_uniq {dr : List Nat} {n m : Nat} (hn : 1 ≤ n) (hm : 1 ≤ m) : ∀ S, Uniq (allRules dr n m S)
  | 0 => .nil
  | S + 1 => by
    refine List.pairwise_append.mpr ⟨allRules_uniq hn hm S, rowRules_uniq hn hm m, fun x hx y hy z => ?_⟩
    have h1 := allRules_ok hn hm x hx
    have h2 := rowRules_ok hn hm y hy
    omega
def Sml (l : List Nat) : Prop := l ∈ [[], [1], [0, 1]]
def nextC (f w : Nat) (m : Int) (l r : List Nat) : Cf := if m = 0 then ⟨f, l, w, r⟩ else if m = 1 then ⟨f, stripF (w :: l), (r ++ [0]).headD 0, r.drop 1⟩ else ⟨f, l.drop 1, (l ++ [0]).headD 0, stripF (w :: r)⟩
theorem stepT_next {rs : List Rl} {c : Cf} {r : Rl} (h : look rs c.s c.a = some r) : stepT rs c = some (nextC r.f r.w r.m c.l c.r) := by
  unfold stepT nextC
  rw [h]
  simp only
  split
  · rfl
  · split <;> rfl
def chk2 (f w : Nat) (m : Int) (l r : List Nat) : Bool :=
  let c := nextC f w m l r
  let q := nxt w m (numOf 2 l) (numOf 2 r)
  decide (c.s = f) && decide (c.a < 2) && decide ((c.a, numOf 2 c.l, numOf 2 c.r) = q) && decide (c.l.length ≤ 3) && decide (c.r.length ≤ 3) && decide (gN (numOf 2 c.l) (numOf 2 c.r) 0 ≤ 80000) &&
    (decide (m = 1 ∧ numOf 2 l = 2 ∨ m = -1 ∧ numOf 2 r = 2) || !(decide (c.l.sum < 2) && decide (c.r.sum < 2)) || (decide (c.l ∈ [[], [1], [0, 1]]) && decide (c.r ∈ [[], [1], [0, 1]])))
theorem chk2_all : ∀ f, f < 2 → ∀ w, w < 2 → ∀ m ∈ [(-1 : Int), 0, 1], ∀ l ∈ [[], [1], [0, 1]], ∀ r ∈ [[], [1], [0, 1]], chk2 f w m l r = true := by decide +kernel
theorem sml_num {l : List Nat} (h : Sml l) : numOf 2 l < 3 ∧ l.length ≤ 2 := by
  have : ∀ l ∈ [[], [1], [0, 1]], numOf 2 l < 3 ∧ l.length ≤ 2 := by decide +kernel
  exact this l h
theorem sml_digs {l : List Nat} (h : Sml l) : digs 2 (numOf 2 l) = l := by
  have d0 : digs 2 0 = [] := by rw [digs, dif_pos (by decide)]
  have d1 : digs 2 1 = [1] := by rw [digs, dif_neg (by decide), show 1 / 2 = 0 from rfl, d0]
  have d2 : digs 2 2 = [0, 1] := by rw [digs, dif_neg (by decide), show 2 / 2 = 1 from rfl, d1]
  unfold Sml at h
  simp only [List.mem_cons, List.not_mem_nil, or_false] at h
  rcases h with rfl | rfl | rfl
  · exact d0
  · exact d1
  · exact d2
theorem mem_m {m : Int} (h : m = -1 ∨ m = 0 ∨ m = 1) : m ∈ [(-1 : Int), 0, 1] := by simpa using h
/-- a turn of the first level -/
theorem turn1 {p : List Op} {e : Lb → Nat} {x n : Nat} {r : Rl} (h : BAt p e x (pairB 0 2 r)) (ok : RlOk n 2 r) (hn : n ≤ 2) {l rr : Nat} (hl : l < 3) (hr : rr < 3) :
    cost1 2 r l rr ≤ 1000 ∧ Seg p (Q1 p) (cost1 2 r l rr) (x, [l, rr, 0]) (e (.two r.f (nxt r.w r.m l rr).1), [(nxt r.w r.m l rr).2.1, (nxt r.w r.m l rr).2.2, 0]) ∧ 1 ≤ sumR p (g1p p) (cost1 2 r l rr) (x, [l, rr, 0]) ∧
      (r.m = 1 ∧ l = 2 ∨ r.m = -1 ∧ rr = 2 → 6001 ≤ sumR p (g1p p) (cost1 2 r l rr) (x, [l, rr, 0])) := by
  obtain ⟨s, a, w, m, f⟩ := r
  have c := chk_all f (by have := ok.f; dsimp only at this; omega) w ok.w m (mem_m ok.m) l hl rr hr
  unfold chk1 at c
  simp only [Bool.and_eq_true] at c
  obtain ⟨⟨⟨⟨c1, c2⟩, c3⟩, c4⟩, c5⟩ := c
  obtain ⟨s1, s2⟩ := rel_run (q := (Lb.n 0, [l, rr, 0])) h c2
  have e0 : phi e x (Lb.n 0, [l, rr, 0]) = (x, [l, rr, 0]) := rfl
  rw [e0] at s1 s2
  refine ⟨of_decide_eq_true c1, ?_, ?_, fun z => ?_⟩
  · change (match endR (pairB 0 2 ⟨0, 0, w, m, f⟩) (cost1 2 ⟨0, 0, w, m, f⟩ l rr) (Lb.n 0, [l, rr, 0]) with | (.two g a, [x, y, 0]) => decide (g = f ∧ (a, x, y) = nxt w m l rr) | _ => false) = true at c3
    change Seg p (Q1 p) (cost1 2 ⟨0, 0, w, m, f⟩ l rr) _ (phi e x (endR (pairB 0 2 ⟨0, 0, w, m, f⟩) (cost1 2 ⟨0, 0, w, m, f⟩ l rr) (Lb.n 0, [l, rr, 0]))) at s1
    generalize endR (pairB 0 2 ⟨0, 0, w, m, f⟩) (cost1 2 ⟨0, 0, w, m, f⟩ l rr) (Lb.n 0, [l, rr, 0]) = q at c3 s1
    split at c3
    · obtain ⟨rfl, c6⟩ := of_decide_eq_true c3
      show Seg p (Q1 p) _ _ (e (.two _ (nxt w m l rr).1), [(nxt w m l rr).2.1, (nxt w m l rr).2.2, 0])
      rw [← c6]
      exact s1
    · cases c3
  · exact Nat.le_trans (of_decide_eq_true c4) (Nat.le_of_eq s2.symm)
  · rw [if_pos z] at c5
    exact Nat.le_trans (of_decide_eq_true c5) (Nat.le_of_eq s2.symm)
/-- as far as no side has two marks -/
def Ch (rs : List Rl) : Nat → Cf → Prop
  | 0, _ => True
  | n + 1, c => (c.l.sum < 2 ∧ c.r.sum < 2) ∧ ∀ c', stepT rs c = some c' → Ch rs n c'
theorem cnt_inv (rs : List Rl) (c : Cf) : ∀ k, (cntL rs c k).1 = manyT rs (cntL rs c k).2 (some c) ∧ ∀ i, i < (cntL rs c k).2 → ∃ d, manyT rs i (some c) = some d ∧ d.l.sum < 2 ∧ d.r.sum < 2
  | 0 => ⟨rfl, fun i h => absurd h (Nat.not_lt_zero i)⟩
  | k + 1 => by
    obtain ⟨h1, h2⟩ := cnt_inv rs c k
    show (cntS rs (cntL rs c k)).1 = _ ∧ ∀ i, i < (cntS rs (cntL rs c k)).2 → _
    rw [show cntL rs c (k + 1) = cntS rs (cntL rs c k) from rfl]
    generalize cntL rs c k = q at h1 h2
    obtain ⟨o, j⟩ := q
    cases o with
    | none => exact ⟨h1, h2⟩
    | some d =>
      unfold cntS
      simp only
      by_cases z : d.l.sum < 2 ∧ d.r.sum < 2
      · rw [if_pos z]
        refine ⟨?_, fun i hi => ?_⟩
        · show stepT rs d = manyT rs (j + 1) (some c)
          rw [manyT_succ, ← h1]
          rfl
        · by_cases y : i < j
          · exact h2 i y
          · obtain rfl : i = j := by
              have : i < j + 1 := hi
              omega
            exact ⟨d, h1.symm, z⟩
      · rw [if_neg z]
        exact ⟨h1, h2⟩
theorem ch_of {rs : List Rl} : ∀ {n : Nat} {c : Cf}, (∀ i, i < n → ∃ d, manyT rs i (some c) = some d ∧ d.l.sum < 2 ∧ d.r.sum < 2) → Ch rs n c
  | 0, c, _ => trivial
  | n + 1, c, h => by
    obtain ⟨d, e, s⟩ := h 0 (by omega)
    cases (show c = d from by injection e)
    refine ⟨s, fun c' hc => ch_of fun i hi => ?_⟩
    obtain ⟨d, e, s⟩ := h (i + 1) (by omega)
    refine ⟨d, ?_, s⟩
    rw [← e, ← hc]
    rfl
section
variable {I : ChI} {rs : List Rl} {n : Nat}
/-- the joined translations are those of rs -/
structure IOk (I : ChI) (rs : List Rl) (n : Nat) : Prop where
  n1 : 1 ≤ n
  n2 : n ≤ 2
  ok : ∀ r ∈ rs, RlOk n 2 r
  m : I.a.m = 2
  ms : I.a.ms = ms1 rs (2 * n)
  xs : I.b.xs = xs2 (prog1 rs n)
  p : I.b.prog = prog1 rs n
  p2 : I.b.prog2 = prog2 (prog1 rs n)
theorem IOk.ok1 (h : IOk I rs n) : ∀ o ∈ prog1 rs n, OpOk 3 (prog1 rs n).length o := fun o m => prog1_op h.ok m
theorem IOk.lv2 (h : IOk I rs n) : Lv2 I.b.prog I.b.prog2 I.b.xs := by
  rw [h.p, h.p2, h.xs]
  exact p2_lv2 h.ok1
theorem IOk.val (h : IOk I rs n) {s a : Nat} (hs : s < n) (ha : a < 2) : valD (mksE I.a.ms) (lbK (.two s a)) = some (iD (pos (B1 rs) (2 * s + a))) := by
  rw [h.ms]
  exact ms1_val ha (by omega)
theorem IOk.pos1 (h : IOk I rs n) {s a : Nat} (hs : s < n) (ha : a < 2) : pos1 I s a = pos (B1 rs) (2 * s + a) := by
  unfold K5.pos1
  rw [h.val hs ha]
  rfl
theorem IOk.lt (h : IOk I rs n) {s a : Nat} (hs : s < n) (ha : a < 2) : pos (B1 rs) (2 * s + a) < (prog1 rs n).length := by
  rw [prog1_len]
  exact pos_lt (B1_sh rs) (B1_ne h.ok) (by omega)
theorem goodC (h : IOk I rs n) {c : Cf} (hs : c.s < n) (ha : c.a < 2) (hl : Sml c.l) (hr : Sml c.r) : GoodC I c := by
  have e := h.pos1 hs ha
  have hlt := h.lt hs ha
  obtain ⟨l1, l2⟩ := sml_num hl
  obtain ⟨r1, r2⟩ := sml_num hr
  have gx : ∀ k, k < (prog1 rs n).length → I.b.xs[k]? = some (pos (B2 (prog1 rs n)) k) := fun k hk => by rw [h.xs]; exact xs2_get hk
  have gd : I.b.xs.getD (pos1 I c.s c.a) 0 = pos (B2 (prog1 rs n)) (pos (B1 rs) (2 * c.s + c.a)) := by
    rw [e, List.getD_eq_getElem?_getD, gx _ hlt]
    rfl
  refine ⟨⟨h.m, ?_, by omega, by omega⟩, ?_, ?_, ?_, ?_, ?_, ?_, ?_, sml_digs hl, sml_digs hr, by omega, by omega⟩
  · rw [e]
    exact h.val hs ha
  · rw [gd, e]
    exact gx _ hlt
  · unfold nOf
    have : ∀ a, a < 3 → ∀ b, b < 3 → gN a b 0 ≤ 80000 := by decide +kernel
    exact this _ l1 _ r1
  · rw [e, h.ms]
    exact prs_val h.ok ha (by omega)
  · intro i z hi hz
    rw [e] at hi
    rw [gx i (by omega)] at hz
    cases hz
    rw [gd]
    have := pos_lt (B2_sh (prog1 rs n)) (B2_ne (prog1 rs n)) hi
    omega
  · refine ⟨3 ^ numOf 2 c.r * 5 ^ 0, ?_, ?_⟩
    · unfold nOf gN
      rw [Nat.mul_assoc]
    · have := gN_2 (numOf 2 c.r) 0
      unfold gN at this
      rw [Nat.pow_zero, Nat.one_mul] at this
      exact this
  · refine ⟨2 ^ numOf 2 c.l * 5 ^ 0, ?_, ?_⟩
    · unfold nOf gN
      rw [Nat.mul_comm (2 ^ _), Nat.mul_assoc]
    · have := gN_3 (numOf 2 c.l) 0
      unfold gN at this
      rw [Nat.pow_zero, Nat.mul_one] at this
      exact this
  · exact ⟨nOf c, by rw [Nat.pow_zero, Nat.one_mul], gN_5 _ _⟩
theorem fol_main (h : IOk I rs n) : ∀ (k : Nat) (c : Cf) (b : Int), b ≤ 6000 → c.s < n → c.a < 2 → (1 ≤ k → Sml c.l ∧ Sml c.r) → Ch rs k c → Fol I rs (ctR I.b.prog2 I.b.prog2.length).1 k c b
  | 0, _, _, _, _, _, _, _ => trivial
  | k + 1, c, b, hb, hs, ha, hsm, hc => by
    obtain ⟨hl, hr⟩ := hsm (by omega)
    have lv2 := h.lv2
    have ok1 : ∀ o ∈ I.b.prog, OpOk 3 I.b.prog.length o := by rw [h.p]; exact h.ok1
    have ok2 : ∀ o ∈ I.b.prog2, OpOk 2 I.b.prog2.length o := by rw [h.p2]; exact fun o m => prog2_op h.ok1 m
    have lv3 := ct_lv3 ok2
    have e := h.pos1 hs ha
    have hlt := h.lt hs ha
    have bt : BAt I.b.prog (e1 rs) (pos (B1 rs) (2 * c.s + c.a)) (B1 rs (2 * c.s + c.a) 0) := by
      rw [h.p]
      exact (B1_lay h.ok).bat (by omega)
    have eb : B1 rs (2 * c.s + c.a) 0 = pairW rs 0 2 c.s c.a := by
      unfold B1
      rw [show (2 * c.s + c.a) / 2 = c.s by omega, show (2 * c.s + c.a) % 2 = c.a by omega]
    rw [eb] at bt
    refine ⟨goodC h hs ha hl hr, ?_⟩
    cases q : look rs c.s c.a with
    | none =>
      rw [pairW_none q] at bt
      have f1 : I.b.prog[pos (B1 rs) (2 * c.s + c.a)]? = some .fin := bt 0 _ rfl
      have f2 : I.b.prog2[I.b.xs.getD (pos (B1 rs) (2 * c.s + c.a)) 0]? = some .fin := lv2 _ _ f1 0 _ rfl
      obtain ⟨_, f3⟩ := lv3 _ _ f2
      refine stepT_none ?_
      show look _ (I.b.xs.getD (K5.pos1 I c.s c.a) 0) 2 = none
      rw [e]
      exact f3
    | some r =>
      rw [pairW_some q] at bt
      have hrl := h.ok r (List.mem_of_find?_eq_some q)
      obtain ⟨l1, l2⟩ := sml_num hl
      obtain ⟨r1, r2⟩ := sml_num hr
      obtain ⟨t1, t2, t3, t4⟩ := turn1 bt hrl h.n2 l1 r1
      rw [← e] at t2 t3 t4
      have ec : costC I c r = sumR I.b.prog (f2p I.b.prog I.b.prog2 I.b.xs) (cost1 2 r (numOf 2 c.l) (numOf 2 c.r)) (K5.pos1 I c.s c.a, [numOf 2 c.l, numOf 2 c.r, 0]) := rfl
      have le : sumR I.b.prog (g1p I.b.prog) (cost1 2 r (numOf 2 c.l) (numOf 2 c.r)) (K5.pos1 I c.s c.a, [numOf 2 c.l, numOf 2 c.r, 0]) ≤ costC I c r := sumR_le fun i hi => g1_le lv2 ok1 (t2.q i hi)
      have hnx := stepT_next q
      have ck := chk2_all r.f (by have := hrl.f; have := h.n2; omega) r.w hrl.w r.m (mem_m hrl.m) c.l hl c.r hr
      unfold chk2 at ck
      simp only [Bool.and_eq_true, decide_eq_true_eq] at ck
      obtain ⟨⟨⟨⟨⟨⟨k1, k2⟩, k3⟩, k4⟩, k5⟩, k6⟩, k7⟩ := ck
      show CostOk I c r ∧ 1 ≤ costC I c r ∧ _
      refine ⟨⟨by have := hrl.w; omega, by omega, fun i hi => ?_⟩, by omega, ?_⟩
      · obtain ⟨pc, a, b', d, o, eq, q1, q2, q3, q4, q5, q6⟩ := t2.q i hi
        have hl4 : pc < (prog1 rs n).length := by
          obtain ⟨hl4, _⟩ := List.getElem?_eq_some_iff.mp q4
          rw [h.p] at hl4
          exact hl4
        refine ⟨pc, a, b', d, I.b.xs.getD pc 0, o, eq, q1, q2, q3, ?_, q4, q5, ok1 o (List.mem_of_getElem? q4), q6, lv2_run lv2 q4 q5 (ok1 o (List.mem_of_getElem? q4))⟩
        rw [h.xs, xs2_getD hl4]
        exact xs2_get hl4
      · by_cases z : b - (costC I c r : Int) < 0
        · exact .inl z
        · refine .inr ⟨by omega, nextC r.f r.w r.m c.l c.r, hnx, ?_, by omega, by omega, k6, ?_⟩
          · have T := many2 (rs := (ctR I.b.prog2 I.b.prog2.length).1) lv2 ok1 lv3 ok2 t2
            rw [← ec] at T
            have e3 : e1 rs (.two r.f (nxt r.w r.m (numOf 2 c.l) (numOf 2 c.r)).1) = K5.pos1 I (nextC r.f r.w r.m c.l c.r).s (nextC r.f r.w r.m c.l c.r).a := by
              rw [h.pos1 (by rw [k1]; exact hrl.f) k2, k1, ← k3]
              rfl
            rw [e3, ← k3] at T
            exact T
          · refine fol_main h k _ _ (by omega) (by rw [k1]; exact hrl.f) k2 (fun hk => ?_) (hc.2 _ hnx)
            obtain ⟨j, rfl⟩ : ∃ j, k = j + 1 := ⟨k - 1, by omega⟩
            obtain ⟨s2, _⟩ := hc.2 _ hnx
            rw [Bool.or_eq_true, Bool.or_eq_true] at k7
            rcases k7 with (k7 | k7) | k7
            · have := t4 (of_decide_eq_true k7)
              omega
            · rw [decide_eq_true s2.1, decide_eq_true s2.2] at k7
              cases k7
            · obtain ⟨k8, k9⟩ := Bool.and_eq_true_iff.mp k7
              exact ⟨of_decide_eq_true (p := (nextC r.f r.w r.m c.l c.r).l ∈ [[], [1], [0, 1]]) k8, of_decide_eq_true (p := (nextC r.f r.w r.m c.l c.r).r ∈ [[], [1], [0, 1]]) k9⟩
end
theorem lawOk (ns : List Int) : LawOk ns (ms1 (rsL ns) (2 * nL ns)) (rsl (e1 (rsL ns))) (xs2 (prog1 (rsL ns) (nL ns))) (rsl (e2 (xs2 (prog1 (rsL ns) (nL ns))))) (prog1 (rsL ns) (nL ns)) (prog2 (prog1 (rsL ns) (nL ns))) := by
  have n1 : 1 ≤ nL ns := by unfold nL; omega
  have n2 : nL ns ≤ 2 := by unfold nL; omega
  have ok : ∀ r ∈ rsL ns, RlOk (nL ns) 2 r := fun r hr => by
    obtain ⟨h1, h2, h3, h4, h5⟩ := allRules_ok n1 (by omega) r hr
    exact ⟨h1, h4, h2, h3, h5⟩
  have l1 : 1 ≤ (prog1 (rsL ns) (nL ns)).length := by
    rw [prog1_len]
    exact pos_lt (i := 0) (B1_sh _) (B1_ne ok) (by omega)
  have l2 : (prog1 (rsL ns) (nL ns)).length ≤ 52 := by
    rw [prog1_len]
    have := pos_le (B1_le ok) (2 * nL ns)
    show pos (B1 (rsL ns)) (2 * nL ns) ≤ 52
    omega
  have ok1 : ∀ o ∈ prog1 (rsL ns) (nL ns), OpOk 3 (prog1 (rsL ns) (nL ns)).length o := fun o h => prog1_op ok h
  refine ⟨drawF_length _ _, ?_, allRules_uniq n1 (by omega) _, t2_ok ok n1 n2, ?_, r2_ok ok1 l1 l2, ?_, c2_ok ok1 l1 l2, ok1, fun o h => prog2_op ok1 h, fun I h1 h2 h3 h4 h5 h6 h7 => ?_⟩
  · rw [List.length_drop, drawF_length]
    omega
  · rw [allW_st1]
    rfl
  · rw [instsW_eq]
    rfl
  · have iok : IOk I (rsL ns) (nL ns) := ⟨n1, n2, ok, h1, h2, h4, h5, h6⟩
    have bs : (beginL ns).s < nL ns := Nat.mod_lt _ (by omega)
    have ba : (beginL ns).a < 2 := Nat.mod_lt _ (by omega)
    have bl : Sml (beginL ns).l := by
      show Sml (([[], [1], []] : List (List Nat)).getD ((drL ns).getD 1 0 % 3) [])
      have h3 : (drL ns).getD 1 0 % 3 < 3 := by omega
      generalize (drL ns).getD 1 0 % 3 = i at h3
      match i, h3 with
      | 0, _ => exact .head _
      | 1, _ => exact .tail _ (.head _)
      | 2, _ => exact .head _
    have br : Sml (beginL ns).r := by
      show Sml (rightL ns)
      unfold rightL
      split
      · exact .tail _ (.head _)
      · exact .head _
    refine ⟨goodC iok bs ba bl br, ?_⟩
    rw [← h6]
    exact fol_main iok _ _ _ (by omega) bs ba (fun _ => ⟨bl, br⟩) (ch_of (cnt_inv _ _ 3).2)
end K5
namespace K5
open PySem PySem.Spec PyProof.Rows L2
theorem lawAt {l : PySem.W.OpenLaw} {w : World} {K : PySem.W.Frag} {mg : Str → Option Value} {g : Addr} {h : Heap} (hK : K.In h) (G : h.Ns mainGlobals mg) (hg : mg ("law" : Str) = some (.ref g)) (c : He.SaysX fa fn [] tf more w h K) : LamX.LawAtS l w K CX0 8 63 "_law_script" mg g h := by
  have T : Tx K mg := ⟨He.SaysT.d c.t, c.more, h, hK, G⟩
  obtain ⟨fd, F0⟩ := T.s.def_ 67 (d := ⟨("law", none), "law", "law", defArgs st_law, defBody st_law, defScope st_law, [], []⟩)
  have F : Fun K "law" "law" st_law (He.ga K "law") fd := fun_of (st := st_law) (kws := []) F0
  have eg : g = He.ga K "law" := by
    have z := hg.symm.trans T.g_law
    cases z
    rfl
  subst eg
  have b := FunD.bindsA (ps := ["_law_script"]) F0 fun _ _ _ _ _ _ us hl => match us, hl with | [_], _ => rfl
  have m1 : qReg ∈ tf := .head _
  have m2 : qCh ∈ tf := .tail _ (.head _)
  refine ⟨fd, tf.map (He.cT K), spF (S_law K), fun q hq => ?_, fun q hq => ?_, fun q hq => ?_, fun s u => b s [u] rfl, fun H a ns hl hb ht hS => ?_, fun base hB hN hT => ?_⟩
  · obtain ⟨d, hd, rfl⟩ := List.mem_map.mp hq
    exact c.empty d hd
  · obtain ⟨d, hd, rfl⟩ := List.mem_map.mp hq
    exact c.out d hd
  · obtain ⟨d, hd, rfl⟩ := List.mem_map.mp hq
    exact PySem.W.codeHd_of_K hK (c.hd d hd)
  · have tg : ∀ d ∈ tf, GxR.TabG H (He.cT K d).2 := fun d hd => ⟨#[], ht _ (List.mem_map.mpr ⟨d, hd, rfl⟩), trivial⟩
    exact ⟨[.ref a], .bl true, ⟨_, _, rfl, rfl, rfl⟩, ⟨a, ns, _, _, _, _, _, _, hS, lawOk ns, tg _ m1, tg _ m2, rfl, rfl⟩, fun v H' _ dv => dv⟩
  · have tb : ∀ d ∈ tf, GxR.TabB base mg (He.codeOf K d) (He.cT K d).2 := fun d hd => by
      obtain ⟨t1, t2, t3⟩ := hT _ (List.mem_map.mpr ⟨d, hd, rfl⟩)
      exact ⟨t1, t2, t3⟩
    exact ok_law T (tb _ m1) (tb _ m2) F
end K5
open PySem PySem.W PySem.Calls PyProof.Rows
theorem PySem.Challenge.cw_translatory_k50_whole_through_counters_b_holds : PySem.Challenge.rw_translatory_k50_whole_through_counters_b.Holds := by
  refine K5.holdsW fun said => ?_
  refine HandSHeadRun.head_any (r := K5.RW) (q := K5.qvW) (H := K5.hookW) (ob := K5.obW) (M := 30000) (loose := K5.names) (d := HandSHeadRun.topDef K5.RW.prog 147) (kwd := []) K5.obW_eq
    (by kernel_rfl) (fun s => by kernel_rfl) K5.runW (by kernel_rfl) (by kernel_rfl) (by kernel_rfl) (by rfl) said K5.okW K5.bareW K5.promW ?hc
  case hc =>
    refine LamX.walk_ofTsE (l := PySem.Challenge.rw_translatory_k50_whole_through_counters_b) (n := 63) (k := 8) (x := "_law_script") (CX := fun _ => L2.CX0) rfl (by decide) (by kernel_rfl) ⟨rfl, by decide, by decide⟩ ?F (fun _ _ _ _ _ z => z)
    intro w mg fa h Y G hmg0
    obtain ⟨K, KX, c⟩ := Y
    have hlaw : mg ("law" : PySem.Str) = some (.ref fa) := by
      have e : (HandSHeadRun.topDef K5.RW.prog 147).name = ("law" : PySem.Str) := by kernel_rfl
      rw [← e]
      exact hmg0
    exact ⟨K, KX, K5.lawAt KX G hlaw c⟩
