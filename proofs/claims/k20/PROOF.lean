import PyProof.Rows.All
import Wide.All
import OpenK.AllK
import Wide.FinOn
import KE.KStateDown
import HandS.ForMost
import HandS.ForExc
import HandS.Deep
import HandS.IsInst
import HandS.TupAny
import HandS.TupMul
import HandS.TupLe
import HandS.SortInts
import HandS.Style
import HandS.Flow
import HandS.Zip
import HandS.Conv
import HandS.More
import HandS.Defaults
import KE.KDictKeyed
import KE.KDictWalk
import HandS.HeadHook1
import HandS.HeadHook2
import HandS.HeadEnd
import HandS.Head0
import HandS.Head1
import HandS.Head2
import KE.GoesMore
import KE.SortData
import KE.DataMinMax
import KE.KDictZip
import HandS.DictTup
import HandS.Strs
import HandS.SetFor
import HandS.TupSets
import HandS.ExcIs
import HandS.HotCalls
import OpenK.KOps
import HandS.Codes
import HandS.SlotsOwn
import PyProof.InstNe
import HandS.Text
import HandS.RaiseMore
import KE.KCallOwn
import HandS.ReplaceLit
import PySem.Challenge.RW_permsplits_k20_invalid_matrices
set_option Elab.async false
set_option linter.all false
set_option maxRecDepth 100000
namespace Pm
open PySem
open PySem.Spec
open PyProof.Rows
open L2
def EXN : List Str := ["InvalidMatrix", "InvalidPermutation", "InvalidRooms", "InvalidSize", "InvalidRectangle", "InvalidPhase", "NotEven", "NoPermutation", "HasPermutation", "NotExtendable", "TooLarge", "Finished", "NothingToUndo", "ParseError"]
def excCB (K : PySem.W.Frag) (E : Addr) : Bool :=
  He.eqO (PySem.W.findIn K (.ref E) "__getattribute__") (some (some (.builtin "BaseException.__getattribute__"))) && (He.eqO (PySem.W.findIn K (.ref E) "__getattr__") (some none) && (decide (PySem.W.subIn K (.ref E) (.type "BaseException") = some true) && (PySem.W.hasDictIn K E &&
  (He.eqO (PySem.W.findIn K (.ref E) "__class__") (some (some (.builtin "object.__class__"))) && (He.eqO (PySem.W.specialIn K (.builtin "object.__class__") "__get__") (some (some (.builtin "getset_descriptor.__get__"))) &&
  (decide (PySem.W.takesIn K (.builtin "object.__class__") = some true) && decide (PySem.W.mroIn K E (.type "object") = some true)))))))
def exB (K : PySem.W.Frag) : Bool := EXN.all fun c => excCB K (He.ga K c) && (EXN.all (fun d => decide (PySem.W.kitOne K (.ref (He.ga K c)) (.ref (He.ga K d)) = some (c == d))) && (decide (PySem.W.kitOne K (.ref (He.ga K c)) (.type "ValueError") = some true) && decide (PySem.W.exmOne K (.ref (He.ga K c)) (.ref (He.ga K "SplitError")) = some true)))
def obsE (n : Nat) (fa : List He.Fa) (fn : List He.DefD) (ex : PySem.W.Frag → Bool) (g : Addr → Option Obj) : He.AlD × Bool := (He.obsDG n fa fn g, ex (He.frG g (He.asD g n)))
def hookE (n : Nat) (fa : List He.Fa) (fn : List He.DefD) (ex : PySem.W.Frag → Bool) : PySem.W.Hook where
  α := He.AlD × Bool
  obs := fun s => obsE n fa fn ex s.heap.get?
  val := fun _ => (He.valD fn, true)
  says := fun _ h => ∃ K : PySem.W.Frag, K.In h ∧ He.SaysD fa fn K ∧ ex K = true
  of := fun _ _ e => ⟨_, He.frG_in, congrArg Prod.fst e, congrArg Prod.snd e⟩
  keeps := fun _ _ _ ⟨K, hK, c⟩ k => ⟨K, PySem.W.Frag.In.keeps hK k, c⟩
theorem obsE_eq {n : Nat} {fa : List He.Fa} {fn : List He.DefD} {ex : PySem.W.Frag → Bool} {g : Addr → Option Obj} {s : Shared} (h : ∀ a, g a = s.heap.get? a) : obsE n fa fn ex g = (hookE n fa fn ex).obs s := by
  have e : g = s.heap.get? := funext h
  rw [e]
  rfl
set_option maxHeartbeats 0
def top (i : Nat) : Stmt := PySem.Challenge.pw_permsplits_k20_invalid_matrices.main.body.getD i (.Pass ⟨0, 0, 0, 0⟩)
def clsBody : Stmt → List Stmt
  | .ClassDef _ _ _ b _ _ _ _ _ _ _ => b
  | _ => []
def mtd (j : Nat) : Stmt := (clsBody (top 70)).getD j (.Pass ⟨0, 0, 0, 0⟩)

def dd_is_integer : He.DefD := ⟨("is_integer", none), "is_integer", "is_integer", defArgs (top 19), defBody (top 19), defScope (top 19), [], []⟩
def dd_is_square_of : He.DefD := ⟨("is_square_of", none), "is_square_of", "is_square_of", defArgs (top 20), defBody (top 20), defScope (top 20), [], []⟩
def dd_is_matrix : He.DefD := ⟨("is_matrix", none), "is_matrix", "is_matrix", defArgs (top 21), defBody (top 21), defScope (top 21), [], []⟩
def dd_check_matrix : He.DefD := ⟨("check_matrix", none), "check_matrix", "check_matrix", defArgs (top 22), defBody (top 22), defScope (top 22), [], []⟩
def dd_line_sums : He.DefD := ⟨("line_sums", none), "line_sums", "line_sums", defArgs (top 23), defBody (top 23), defScope (top 23), [], []⟩
def dd_degree_of : He.DefD := ⟨("degree_of", none), "degree_of", "degree_of", defArgs (top 24), defBody (top 24), defScope (top 24), [], []⟩
def dd_degree : He.DefD := ⟨("degree", none), "degree", "degree", defArgs (top 25), defBody (top 25), defScope (top 25), [], []⟩
def dd_even : He.DefD := ⟨("even", none), "even", "even", defArgs (top 26), defBody (top 26), defScope (top 26), [], []⟩
def dd_is_even : He.DefD := ⟨("is_even", none), "is_even", "is_even", defArgs (top 27), defBody (top 27), defScope (top 27), [], []⟩
def dd_orders : He.DefD := ⟨("orders", none), "orders", "orders", defArgs (top 28), defBody (top 28), defScope (top 28), [], []⟩
def dd_worth_of : He.DefD := ⟨("worth_of", none), "worth_of", "worth_of", defArgs (top 29), defBody (top 29), defScope (top 29), [], []⟩
def dd_minus : He.DefD := ⟨("minus", none), "minus", "minus", defArgs (top 30), defBody (top 30), defScope (top 30), [], []⟩
def dd_permutations : He.DefD := ⟨("permutations", none), "permutations", "permutations", defArgs (top 32), defBody (top 32), defScope (top 32), [], []⟩
def dd_count_permutations : He.DefD := ⟨("count_permutations", none), "count_permutations", "count_permutations", defArgs (top 33), defBody (top 33), defScope (top 33), [], []⟩
def dd_text_of : He.DefD := ⟨("text_of", none), "text_of", "text_of", defArgs (top 35), defBody (top 35), defScope (top 35), [], []⟩
def dd_format_matrix : He.DefD := ⟨("format_matrix", none), "format_matrix", "format_matrix", defArgs (top 36), defBody (top 36), defScope (top 36), [], []⟩
def dd_first_permutation : He.DefD := ⟨("first_permutation", none), "first_permutation", "first_permutation", defArgs (top 38), defBody (top 38), defScope (top 38), [], []⟩
def dd_improved : He.DefD := ⟨("improved", none), "improved", "improved", defArgs (top 39), defBody (top 39), defScope (top 39), [], []⟩
def dd_owners : He.DefD := ⟨("owners", none), "owners", "owners", defArgs (top 40), defBody (top 40), defScope (top 40), [], []⟩
def dd_above : He.DefD := ⟨("above", none), "above", "above", defArgs (top 41), defBody (top 41), defScope (top 41), [], []⟩
def dd_free_lines : He.DefD := ⟨("free_lines", none), "free_lines", "free_lines", defArgs (top 42), defBody (top 42), defScope (top 42), [], []⟩
def dd_block : He.DefD := ⟨("block", none), "block", "block", defArgs (top 43), defBody (top 43), defScope (top 43), [], []⟩
def dd_are_lines : He.DefD := ⟨("are_lines", none), "are_lines", "are_lines", defArgs (top 44), defBody (top 44), defScope (top 44), [], []⟩
def dd_at_most : He.DefD := ⟨("at_most", none), "at_most", "at_most", defArgs (top 45), defBody (top 45), defScope (top 45), [], []⟩
def dd_is_block : He.DefD := ⟨("is_block", none), "is_block", "is_block", defArgs (top 46), defBody (top 46), defScope (top 46), [], []⟩
def dd_placement : He.DefD := ⟨("placement", none), "placement", "placement", defArgs (top 47), defBody (top 47), defScope (top 47), [], []⟩
def dd_cover : He.DefD := ⟨("cover", none), "cover", "cover", defArgs (top 48), defBody (top 48), defScope (top 48), [], []⟩
def dd_are_positions : He.DefD := ⟨("are_positions", none), "are_positions", "are_positions", defArgs (top 49), defBody (top 49), defScope (top 49), [], []⟩
def dd_is_placement : He.DefD := ⟨("is_placement", none), "is_placement", "is_placement", defArgs (top 50), defBody (top 50), defScope (top 50), [], []⟩
def dd_is_cover : He.DefD := ⟨("is_cover", none), "is_cover", "is_cover", defArgs (top 51), defBody (top 51), defScope (top 51), [], []⟩
def dd_lifted : He.DefD := ⟨("lifted", none), "lifted", "lifted", defArgs (top 53), defBody (top 53), defScope (top 53), [], []⟩
def dd_raised : He.DefD := ⟨("raised", none), "raised", "raised", defArgs (top 54), defBody (top 54), defScope (top 54), [], []⟩
def dd_is_raised : He.DefD := ⟨("is_raised", none), "is_raised", "is_raised", defArgs (top 55), defBody (top 55), defScope (top 55), [], []⟩
def dd_check_even : He.DefD := ⟨("check_even", none), "check_even", "check_even", defArgs (top 57), defBody (top 57), defScope (top 57), [], []⟩
def dd_parts_of : He.DefD := ⟨("parts_of", none), "parts_of", "parts_of", defArgs (top 58), defBody (top 58), defScope (top 58), [], []⟩
def dd_split : He.DefD := ⟨("split", none), "split", "split", defArgs (top 59), defBody (top 59), defScope (top 59), [], []⟩
def dd_is_part : He.DefD := ⟨("is_part", none), "is_part", "is_part", defArgs (top 60), defBody (top 60), defScope (top 60), [], []⟩
def dd_is_split : He.DefD := ⟨("is_split", none), "is_split", "is_split", defArgs (top 61), defBody (top 61), defScope (top 61), [], []⟩
def dd_most_entries : He.DefD := ⟨("most_entries", none), "most_entries", "most_entries", defArgs (top 62), defBody (top 62), defScope (top 62), [], []⟩
def dd_is_enough : He.DefD := ⟨("is_enough", none), "is_enough", "is_enough", defArgs (top 63), defBody (top 63), defScope (top 63), [], []⟩
def dd_fewest_parts : He.DefD := ⟨("fewest_parts", none), "fewest_parts", "fewest_parts", defArgs (top 64), defBody (top 64), defScope (top 64), [], []⟩
def dd_schedule : He.DefD := ⟨("schedule", none), "schedule", "schedule", defArgs (top 66), defBody (top 66), defScope (top 66), [], []⟩
def dd_is_phase : He.DefD := ⟨("is_phase", none), "is_phase", "is_phase", defArgs (top 67), defBody (top 67), defScope (top 67), [], []⟩
def dd_is_schedule : He.DefD := ⟨("is_schedule", none), "is_schedule", "is_schedule", defArgs (top 68), defBody (top 68), defScope (top 68), [], []⟩
def dd_P___init__ : He.DefD := ⟨("Planner", some "__init__"), "__init__", "Planner.__init__", defArgs (mtd 0), defBody (mtd 0), defScope (mtd 0), [], []⟩
def dd_check_rooms : He.DefD := ⟨("check_rooms", none), "check_rooms", "check_rooms", defArgs (top 72), defBody (top 72), defScope (top 72), [], []⟩
def dd_slots_for : He.DefD := ⟨("slots_for", none), "slots_for", "slots_for", defArgs (top 73), defBody (top 73), defScope (top 73), [], []⟩
def dd_least_slots : He.DefD := ⟨("least_slots", none), "least_slots", "least_slots", defArgs (top 74), defBody (top 74), defScope (top 74), [], []⟩
def dd_exchanged : He.DefD := ⟨("exchanged", none), "exchanged", "exchanged", defArgs (top 75), defBody (top 75), defScope (top 75), [], []⟩
def dd_placed : He.DefD := ⟨("placed", none), "placed", "placed", defArgs (top 76), defBody (top 76), defScope (top 76), [], []⟩
def dd_levelled : He.DefD := ⟨("levelled", none), "levelled", "levelled", defArgs (top 77), defBody (top 77), defScope (top 77), [], []⟩
def dd_timetable : He.DefD := ⟨("timetable", none), "timetable", "timetable", defArgs (top 78), defBody (top 78), defScope (top 78), [], []⟩
def dd_is_timetable : He.DefD := ⟨("is_timetable", none), "is_timetable", "is_timetable", defArgs (top 79), defBody (top 79), defScope (top 79), [], []⟩
def dd_worth : He.DefD := ⟨("worth", none), "worth", "worth", defArgs (top 81), defBody (top 81), defScope (top 81), [], []⟩
def dd_best_worth : He.DefD := ⟨("best_worth", none), "best_worth", "best_worth", defArgs (top 82), defBody (top 82), defScope (top 82), [], []⟩
def dd_best_permutation : He.DefD := ⟨("best_permutation", none), "best_permutation", "best_permutation", defArgs (top 83), defBody (top 83), defScope (top 83), [], []⟩
def dd_worth_block : He.DefD := ⟨("worth_block", none), "worth_block", "worth_block", defArgs (top 84), defBody (top 84), defScope (top 84), [], []⟩
def dd_is_worth_block : He.DefD := ⟨("is_worth_block", none), "is_worth_block", "is_worth_block", defArgs (top 85), defBody (top 85), defScope (top 85), [], []⟩
def dd__law_cell_at : He.DefD := ⟨("_law_cell_at", none), "_law_cell_at", "_law_cell_at", defArgs (top 87), defBody (top 87), defScope (top 87), [], []⟩
def dd__law_mixed : He.DefD := ⟨("_law_mixed", none), "_law_mixed", "_law_mixed", defArgs (top 88), defBody (top 88), defScope (top 88), [], []⟩
def dd__law_draw : He.DefD := ⟨("_law_draw", none), "_law_draw", "_law_draw", defArgs (top 89), defBody (top 89), defScope (top 89), [], []⟩
def dd__law_which : He.DefD := ⟨("_law_which", none), "_law_which", "_law_which", defArgs (top 90), defBody (top 90), defScope (top 90), [], []⟩
def dd__law_one : He.DefD := ⟨("_law_one", none), "_law_one", "_law_one", defArgs (top 91), defBody (top 91), defScope (top 91), [], []⟩
def dd__law_two : He.DefD := ⟨("_law_two", none), "_law_two", "_law_two", defArgs (top 92), defBody (top 92), defScope (top 92), [], []⟩
def dd_law : He.DefD := ⟨("law", none), "law", "law", defArgs (top 93), defBody (top 93), defScope (top 93), [], []⟩
def hfn : List He.DefD := ([dd_is_integer, dd_is_square_of, dd_is_matrix, dd_check_matrix, dd_line_sums, dd_degree_of, dd_degree, dd_even, dd_is_even, dd_orders, dd_worth_of, dd_minus, dd_permutations, dd_count_permutations, dd_text_of] : List He.DefD) ++ ([dd_format_matrix, dd_first_permutation, dd_improved, dd_owners, dd_above, dd_free_lines, dd_block, dd_are_lines, dd_at_most, dd_is_block, dd_placement, dd_cover, dd_are_positions, dd_is_placement, dd_is_cover] : List He.DefD) ++ ([dd_lifted, dd_raised, dd_is_raised, dd_check_even, dd_parts_of, dd_split, dd_is_part, dd_is_split, dd_most_entries, dd_is_enough, dd_fewest_parts, dd_schedule, dd_is_phase, dd_is_schedule, dd_P___init__] : List He.DefD) ++ ([dd_check_rooms, dd_slots_for, dd_least_slots, dd_exchanged, dd_placed, dd_levelled, dd_timetable, dd_is_timetable, dd_worth, dd_best_worth, dd_best_permutation, dd_worth_block, dd_is_worth_block, dd__law_cell_at, dd__law_mixed] : List He.DefD) ++ ([dd__law_draw, dd__law_which, dd__law_one, dd__law_two, dd_law] : List He.DefD)
def hfa : List He.Fa := ([.glo "is_integer", .glo "is_square_of", .glo "is_matrix", .glo "check_matrix", .glo "line_sums", .glo "degree_of", .glo "degree", .glo "even", .glo "is_even", .glo "orders", .glo "worth_of", .glo "minus", .glo "permutations", .glo "count_permutations", .glo "text_of"] : List He.Fa) ++ ([.glo "format_matrix", .glo "first_permutation", .glo "improved", .glo "owners", .glo "above", .glo "free_lines", .glo "block", .glo "are_lines", .glo "at_most", .glo "is_block", .glo "placement", .glo "cover", .glo "are_positions", .glo "is_placement", .glo "is_cover"] : List He.Fa) ++ ([.glo "lifted", .glo "raised", .glo "is_raised", .glo "check_even", .glo "parts_of", .glo "split", .glo "is_part", .glo "is_split", .glo "most_entries", .glo "is_enough", .glo "fewest_parts", .glo "schedule", .glo "is_phase", .glo "is_schedule", .meth "Planner" "__init__"] : List He.Fa) ++ ([.glo "check_rooms", .glo "slots_for", .glo "least_slots", .glo "exchanged", .glo "placed", .glo "levelled", .glo "timetable", .glo "is_timetable", .glo "worth", .glo "best_worth", .glo "best_permutation", .glo "worth_block", .glo "is_worth_block", .glo "_law_cell_at", .glo "_law_mixed"] : List He.Fa) ++ ([.glo "_law_draw", .glo "_law_which", .glo "_law_one", .glo "_law_two", .glo "law", .free "len", .free "min", .free "max", .free "sum", .free "range", .free "zip", .free "enumerate", .free "sorted", .free "set", .free "list"] : List He.Fa) ++ ([.free "tuple", .free "isinstance", .free "all", .free "any", .free "int", .free "bool", .free "str", .free "dict", .glo "InvalidMatrix", .exc "InvalidMatrix", .glo "InvalidPermutation", .exc "InvalidPermutation", .glo "InvalidRooms", .exc "InvalidRooms", .glo "InvalidSize"] : List He.Fa) ++ ([.exc "InvalidSize", .glo "InvalidRectangle", .exc "InvalidRectangle", .glo "InvalidPhase", .exc "InvalidPhase", .glo "NotEven", .exc "NotEven", .glo "NoPermutation", .exc "NoPermutation", .glo "HasPermutation", .exc "HasPermutation", .glo "NotExtendable", .exc "NotExtendable", .glo "TooLarge", .exc "TooLarge"] : List He.Fa) ++ ([.glo "Finished", .exc "Finished", .glo "NothingToUndo", .exc "NothingToUndo", .glo "ParseError", .exc "ParseError", .free "ValueError", .glo "SplitError", .int "LARGEST" 9, .glo "Planner", .cls "Planner", .noat "Planner" "matrix", .noat "Planner" "worked", .noat "Planner" "kept", .mkr "Planner"] : List He.Fa)
def loose : List PySem.Str := (["_wall", "SplitError", "InvalidMatrix", "InvalidPermutation", "InvalidRooms", "InvalidSize", "InvalidRectangle", "InvalidPhase", "NotEven", "NoPermutation", "HasPermutation", "NotExtendable", "TooLarge", "Finished", "NothingToUndo"] : List PySem.Str) ++ (["ParseError", "LARGEST", "is_integer", "is_square_of", "is_matrix", "check_matrix", "line_sums", "degree_of", "degree", "even", "is_even", "orders", "worth_of", "minus", "permutations"] : List PySem.Str) ++ (["count_permutations", "text_of", "format_matrix", "first_permutation", "improved", "owners", "above", "free_lines", "block", "are_lines", "at_most", "is_block", "placement", "cover", "are_positions"] : List PySem.Str) ++ (["is_placement", "is_cover", "lifted", "raised", "is_raised", "check_even", "parts_of", "split", "is_part", "is_split", "most_entries", "is_enough", "fewest_parts", "schedule", "is_phase"] : List PySem.Str) ++ (["is_schedule", "Planner", "check_rooms", "slots_for", "least_slots", "exchanged", "placed", "levelled", "timetable", "is_timetable", "worth", "best_worth", "best_permutation", "worth_block", "is_worth_block"] : List PySem.Str) ++ (["_law_cell_at", "_law_mixed", "_law_draw", "_law_which", "_law_one", "_law_two"] : List PySem.Str)
abbrev RR : PySem.W.OpenRow := PySem.W.OpenLaw.row PySem.Challenge.rw_permsplits_k20_invalid_matrices
def hex1 : PySem.W.Frag → Bool := exB
abbrev hk : PySem.W.Hook := hookE 4 hfa hfn hex1
def hob (s : PySem.W.SharedT) : He.AlD × Bool := obsE 4 hfa hfn hex1 (HandSHeadRun.getT s)
theorem hob_eq (s : PySem.W.SharedT) : hob s = hk.obs s.abs := obsE_eq (HandSHeadRun.getT_eq s)
theorem hrun (w : World) : HandSHeadRun.RunEq RR (PySem.W.view RR.prog [93]) hk hob 20000 loose w := by
  intro os
  kernel_rfl

set_option maxHeartbeats 200000
/-! Pm: a value layer over HandS, by worlds: what an expression is worth as plain data (PyData), what a statement makes of the slots and of the cells. -/

abbrev D := PyData
abbrev En := List (Option D)
/-- what may change and is known by its number: a list, a list of lists, a planner, a dict -/
inductive Cell where
  | lst (ds : List D)
  | rows (dss : List (List D))
  | pln (m : D) (ws : List D) (k : D)
  | dct (kvs : List (D × D))
/-- the state: how many draws, the cells -/
structure Sn where
  t : Nat
  c : List Cell
def Sn.tick (n : Sn) : Sn := ⟨n.t + 1, n.c⟩
def Sn.push (n : Sn) (c : Cell) : Sn := ⟨n.t, n.c ++ [c]⟩
def Sn.put (n : Sn) (k : Nat) (c : Cell) : Sn := ⟨n.t, n.c.set k c⟩
def Sn.cut (n : Sn) (k : Nat) : Sn := ⟨n.t, n.c.take k⟩
/-- a cell as data -/
def cref (k : Nat) : D := .dict [(.int k, .none)]
/-- a planner as data, where nothing changes -/
abbrev recD (m : D) (ws : List D) (k : D) : D := .dict [(.str "matrix", m), (.str "worked", .list ws), (.str "kept", k)]
/-- a planner's attributes -/
structure PlnF (fs : List (Str × V)) (vm : V) (b : Addr) (vk : V) : Prop where
  few : fs.length ≤ 900
  mx : fs.lookup ("matrix" : Str) = some vm
  wk : fs.lookup ("worked" : Str) = some (.ref b)
  kp : fs.lookup ("kept" : Str) = some vk
  no : ∀ f : Str, f ≠ "matrix" → f ≠ "worked" → f ≠ "kept" → fs.lookup f = none
def noTup : HO → Prop
  | .tup _ => False
  | _ => True
/-- the world: where the town stands, the planners' class, the cells' roots, who owns what, all that may change -/
structure Wd where
  town : Option Addr
  C : Addr
  root : List Addr
  ow : Addr → Option Nat
  T : Addr → Prop
  hT1 : ∀ a, town = some a → T a
  hT2 : ∀ a k, ow a = some k → T a
def Wd.has (ω : Wd) (a : Addr) : Prop := ω.town = some a ∨ ∃ k, ω.ow a = some k
theorem Wd.hasT {ω : Wd} {a : Addr} (h : ω.has a) : ω.T a := h.elim (ω.hT1 a) fun ⟨k, z⟩ => ω.hT2 a k z
/-- more that may change -/
def Wd.or (ω : Wd) (S : Addr → Prop) : Wd := { ω with T := fun a => ω.T a ∨ S a, hT1 := fun a h => .inl (ω.hT1 a h), hT2 := fun a k h => .inl (ω.hT2 a k h) }
abbrev Wd.add (ω : Wd) (p : Addr) : Wd := ω.or (fun a => a = p)

/-! ### data in the heap -/
/-- the script: tracked or locked, or a written list -/
def ScrAt (K : PySem.W.Frag) (T : Addr → Prop) (H : Hp) (a : Addr) (ns : List Int) : Prop :=
  (Rd H a (.lst (ns.map V.int)) ∧ ¬ T a) ∨ ∃ (o : Obj) (its : Array Value) (n : Nat), K.lookup a = some o ∧ o.cls = .type "list" ∧ o.dict = none ∧ o.data = .seq its n ∧ its.size ≤ sizeLine ∧ Vals (ns.map V.int) its.toList
theorem ScrAt.sq {K : PySem.W.Frag} {T : Addr → Prop} {H : Hp} {a : Addr} {ns : List Int} (h : ScrAt K T H a ns) : SqL K H a (ns.map V.int) := h.imp (fun z => z.1) (fun z => z)
/-! data that never changes -/
mutual
inductive Rt (H : Hp) : V → D → Prop where
  | non : Rt H .non .none
  | bl (b : Bool) : Rt H (.bl b) (.bool b)
  | int (i : Int) : Rt H (.int i) (.int i)
  | str (x : Str) : x.length ≤ sizeLine → Rt H (.str x) (.str x)
  | tup {a : Addr} {xs : List V} {ds : List D} : H a = some (.tup xs) → ds.length ≤ sizeLine → RtL H xs ds → Rt H (.ref a) (.tuple ds)
inductive RtL (H : Hp) : List V → List D → Prop where
  | nil : RtL H [] []
  | cons {v : V} {vs : List V} {d : D} {ds : List D} : Rt H v d → RtL H vs ds → RtL H (v :: vs) (d :: ds)
end
/-- a dict with tuples of ints as keys, as data -/
abbrev intT (k : List Int) : D := .tuple (k.map .int)
abbrev dctD (b : Bool) (kvs : List (List Int × D)) : D := .dict [(.bool b, .list (kvs.map fun p => .tuple [intT p.1, p.2]))]
/-- locked (walked just now), or not -/
def DctH (H : Hp) (a : Addr) (vs : List (List Key × V)) : Bool → Prop
  | true => ∃ o, H a = some (.frz o (.dT vs))
  | false => H a = some (.dT vs)
inductive DctR (H : Hp) : List (List Key × V) → List (List Int × D) → Prop where
  | nil : DctR H [] []
  | cons {k : List Int} {v : V} {d : D} {vs : List (List Key × V)} {kvs : List (List Int × D)} : Rt H v d → DctR H vs kvs → DctR H ((k.map Sum.inl, v) :: vs) ((k, d) :: kvs)
mutual
inductive Rp (K : PySem.W.Frag) (ω : Wd) (H : Hp) : V → D → Prop where
  | non : Rp K ω H .non .none
  | bl (b : Bool) : Rp K ω H (.bl b) (.bool b)
  | int (i : Int) : Rp K ω H (.int i) (.int i)
  | str (x : Str) : x.length ≤ sizeLine → Rp K ω H (.str x) (.str x)
  | lst {a : Addr} {xs : List V} {ds : List D} : H a = some (.lst xs) → ¬ ω.T a → ds.length ≤ sizeLine → RpL K ω H xs ds → Rp K ω H (.ref a) (.list ds)
  | tup {a : Addr} {xs : List V} {ds : List D} : H a = some (.tup xs) → ds.length ≤ sizeLine → RpL K ω H xs ds → Rp K ω H (.ref a) (.tuple ds)
  | town {a : Addr} : ω.town = some a → Rp K ω H (.ref a) (.dict [])
  | scr {a : Addr} {ns : List Int} : ScrAt K ω.T H a ns → ns.length ≤ 63 → Rp K ω H (.ref a) (.dict [(.none, .list (ns.map .int))])
  | cell {a : Addr} {k : Nat} : ω.root[k]? = some a → Rp K ω H (.ref a) (.dict [(.int k, .none)])
  | pln {a dx b : Addr} {fs : List (Str × V)} {vm vk : V} {xs : List V} {m kp : D} {ws : List D} : H a = some (.ins ω.C dx fs) → ¬ ω.T a → H b = some (.lst xs) → ¬ ω.T b → PlnF fs vm b vk → Rp K ω H vm m → Rp K ω H vk kp → ws.length ≤ sizeLine → RpL K ω H xs ws → Rp K ω H (.ref a) (recD m ws kp)
  | dct {a : Addr} {b : Bool} {vs : List (List Key × V)} {kvs : List (List Int × D)} : DctH H a vs b → ¬ ω.T a → kvs.length ≤ sizeLine → DctR H vs kvs → Rp K ω H (.ref a) (dctD b kvs)
inductive RpL (K : PySem.W.Frag) (ω : Wd) (H : Hp) : List V → List D → Prop where
  | nil : RpL K ω H [] []
  | cons {v : V} {vs : List V} {d : D} {ds : List D} : Rp K ω H v d → RpL K ω H vs ds → RpL K ω H (v :: vs) (d :: ds)
end
mutual
def pf : D → Bool
  | .list _ => false
  | .dict _ => false
  | .tuple ds => pfL ds
  | .none | .bool _ | .int _ | .str _ => true
def pfL : List D → Bool
  | [] => true
  | d :: ds => pf d && pfL ds
end
inductive RowsT (H : Hp) : List Addr → List (List D) → Prop where
  | nil : RowsT H [] []
  | cons {b : Addr} {bs : List Addr} {ds : List D} {dss : List (List D)} (xs : List V) : H b = some (.lst xs) → ds.length ≤ sizeLine → RtL H xs ds → RowsT H bs dss → RowsT H (b :: bs) (ds :: dss)
/-! keys: ints, and tuples of keys -/
mutual
def nk : D → NestedKey
  | .int i => .num i
  | .tuple ds => .tup (nkL ds)
  | _ => .none
def nkL : List D → List NestedKey
  | [] => []
  | d :: ds => nk d :: nkL ds
end
mutual
def isKey : D → Bool
  | .int _ => true
  | .tuple ds => isKeyL ds
  | _ => false
def isKeyL : List D → Bool
  | [] => true
  | d :: ds => isKey d && isKeyL ds
end
def keyOk : D → Bool
  | .tuple ds => isKeyL ds && decide ((nk (.tuple ds)).depth ≤ 8)
  | _ => false
/-- a dict, by its entries -/
def dN (a : Addr) (L : List DictEntry) : HO := .ext fun h => ∃ (o : Obj) (es : Array DictEntry) (ep : Nat), h.get? a = some o ∧ o.ExactDict ∧ o.data = .dict es ep ∧ es.toList = L
inductive EntR (H : Hp) : List DictEntry → List (D × D) → Prop where
  | nil : EntR H [] []
  | cons {hs : Int} {b : Addr} {u : Value} {v : V} {k d : D} {L : List DictEntry} {kvs : List (D × D)} : (∀ w : World, hs = (nk k).hash w) → Rt H (.ref b) k → keyOk k = true → RelV v u → Rt H v d → EntR H L kvs → EntR H (⟨hs, .ref b, u⟩ :: L) ((k, d) :: kvs)
/-- cell k at its root a -/
def CellAt (ω : Wd) (H : Hp) (k : Nat) (a : Addr) : Cell → Prop
  | .lst ds => ω.ow a = some k ∧ ∃ xs, H a = some (.lst xs) ∧ ds.length ≤ sizeLine ∧ RtL H xs ds
  | .rows dss => ω.ow a = some k ∧ ∃ bs, (a :: bs).Nodup ∧ (∀ b ∈ bs, ω.ow b = some k) ∧ H a = some (.lst (bs.map V.ref)) ∧ dss.length ≤ sizeLine ∧ RowsT H bs dss
  | .pln m ws kp => ω.ow a = some k ∧ ∃ (dx b : Addr) (fs : List (Str × V)) (vm vk : V) (xs : List V), ω.ow dx = some k ∧ ω.ow b = some k ∧ H a = some (.ins ω.C dx fs) ∧ H dx = some (.own a) ∧ H b = some (.lst xs) ∧ PlnF fs vm b vk ∧
      Rt H vm m ∧ Rt H vk kp ∧ ws.length ≤ sizeLine ∧ RtL H xs ws
  | .dct kvs => ω.ow a = some k ∧ ∃ L, H a = some (dN a L) ∧ kvs.length ≤ sizeLine ∧ (a == sysModules) = false ∧ EntR H L kvs ∧ (kvs.map fun p => nk p.1).Nodup
/-- all that may change is there, no tuple -/
structure Cok (ω : Wd) (H : Hp) : Prop where
  tin : ∀ a, ω.T a → ∃ x, H a = some x ∧ noTup x
/-- the state is held -/
structure Town (ω : Wd) (n : Sn) (H : Hp) : Prop where
  ok : Cok ω H
  town : ∀ a, ω.town = some a → ω.ow a = none ∧ H a = some (.lst (List.replicate n.t (.int 0)))
  len : n.c.length = ω.root.length
  cell : ∀ (k : Nat) (c : Cell), n.c[k]? = some c → ∃ a, ω.root[k]? = some a ∧ CellAt ω H k a c
  owk : ∀ a k, ω.ow a = some k → k < n.c.length
/-- from one world and heap to a later one -/
structure Ext (ω : Wd) (H : Hp) (ω' : Wd) (H' : Hp) : Prop where
  town : ω'.town = ω.town
  C : ω'.C = ω.C
  root : ∀ (k : Nat) (a : Addr), ω.root[k]? = some a → ω'.root[k]? = some a
  old : ∀ a, H a ≠ none → (ω'.T a ↔ ω.T a)
  ow : ∀ a k, ω'.ow a = some k → ω.ow a = some k ∨ H a = none
  keep : ∀ a x, ¬ ω.has a → H a = some x → H' a = some x
  tup : ∀ a xs, H a = some (.tup xs) → H' a = some (.tup xs)
  al : ∀ a, H a ≠ none → H' a ≠ none

theorem sm_ne {α : Type} {o : Option α} {x : α} (h : o = some x) : o ≠ none := by rw [h]; exact fun z => nomatch z
theorem ne_sm {α : Type} {o : Option α} (h : o ≠ none) : ∃ x, o = some x := by
  cases o with
  | none => exact absurd rfl h
  | some x => exact ⟨x, rfl⟩
theorem Ext.refl {ω : Wd} {H : Hp} : Ext ω H ω H := ⟨rfl, rfl, fun _ _ h => h, fun _ _ => Iff.rfl, fun _ _ h => .inl h, fun _ _ _ h => h, fun _ _ h => h, fun _ h => h⟩
theorem Ext.of_same {ω : Wd} {H H' : Hp} (s : Same H H') : Ext ω H ω H' := ⟨rfl, rfl, fun _ _ h => h, fun _ _ => Iff.rfl, fun _ _ h => .inl h, fun a x _ h => s a x h, fun a xs h => s a _ h, fun a h => by
  obtain ⟨x, hx⟩ := ne_sm h
  exact sm_ne (s a x hx)⟩
theorem Ext.hasB {ω ω' : Wd} {H H' : Hp} (e : Ext ω H ω' H') {a : Addr} {x : HO} (h : H a = some x) (z : ω'.has a) : ω.has a := by
  rcases z with z | ⟨k, z⟩
  · exact .inl (by rw [← e.town]; exact z)
  · rcases e.ow a k z with q | q
    · exact .inr ⟨k, q⟩
    · rw [h] at q; cases q
theorem Ext.noneB {ω ω' : Wd} {H H' : Hp} (e : Ext ω H ω' H') {a : Addr} (h : H' a = none) : H a = none := by
  cases q : H a with
  | none => rfl
  | some x => exact absurd h (e.al a (sm_ne q))
theorem Ext.trans {ω ω1 ω2 : Wd} {H H1 H2 : Hp} (e : Ext ω H ω1 H1) (f : Ext ω1 H1 ω2 H2) : Ext ω H ω2 H2 where
  town := f.town.trans e.town
  C := f.C.trans e.C
  root := fun k a h => f.root k a (e.root k a h)
  old := fun a h => (f.old a (e.al a h)).trans (e.old a h)
  ow := fun a k h => by
    rcases f.ow a k h with z | z
    · exact e.ow a k z
    · exact .inr (e.noneB z)
  keep := fun a x n h => f.keep a x (fun z => n (e.hasB h z)) (e.keep a x n h)
  tup := fun a xs h => f.tup a xs (e.tup a xs h)
  al := fun a h => f.al a (e.al a h)
/-- what moves data along -/
structure Mv (ω : Wd) (H : Hp) (ω' : Wd) (H' : Hp) : Prop where
  town : ω'.town = ω.town
  C : ω'.C = ω.C
  root : ∀ (k : Nat) (a : Addr), ω.root[k]? = some a → ω'.root[k]? = some a
  tup : ∀ a xs, H a = some (.tup xs) → H' a = some (.tup xs)
  mv : ∀ a x, ¬ ω.T a → H a = some x → H' a = some x ∧ ¬ ω'.T a
theorem Ext.mv {ω ω' : Wd} {H H' : Hp} (e : Ext ω H ω' H') : Mv ω H ω' H' := ⟨e.town, e.C, e.root, e.tup, fun a x n h => ⟨e.keep a x (fun z => n (Wd.hasT z)) h, fun z => n ((e.old a (sm_ne h)).mp z)⟩⟩
theorem Mv.trans {ω ω1 ω2 : Wd} {H H1 H2 : Hp} (e : Mv ω H ω1 H1) (f : Mv ω1 H1 ω2 H2) : Mv ω H ω2 H2 := ⟨f.town.trans e.town, f.C.trans e.C, fun k a h => f.root k a (e.root k a h), fun a xs h => f.tup a xs (e.tup a xs h), fun a x n h => f.mv a x (e.mv a x n h).2 (e.mv a x n h).1⟩
/-- fewer that may change -/
theorem Mv.less {ω ω' : Wd} {H : Hp} (h1 : ω'.town = ω.town) (h2 : ω'.root = ω.root) (h : ∀ a, ω'.T a → ω.T a) (h3 : ω'.C = ω.C := by rfl) : Mv ω H ω' H := ⟨h1, h3, fun k a z => by rw [h2]; exact z, fun _ _ h => h, fun a x n e => ⟨e, fun z => n (h a z)⟩⟩
theorem Mv.same {ω : Wd} {H H' : Hp} (s : Same H H') : Mv ω H ω H' := (Ext.of_same s).mv

section
variable {K : PySem.W.Frag} {ω ω' : Wd} {H H' : Hp}
mutual
theorem Rt.mono (m : ∀ a xs, H a = some (.tup xs) → H' a = some (.tup xs)) : ∀ {v : V} {d : D}, Rt H v d → Rt H' v d
  | _, _, .non => .non
  | _, _, .bl b => .bl b
  | _, _, .int i => .int i
  | _, _, .str x h => .str x h
  | _, _, .tup h l r => .tup (m _ _ h) l (RtL.mono m r)
theorem RtL.mono (m : ∀ a xs, H a = some (.tup xs) → H' a = some (.tup xs)) : ∀ {vs : List V} {ds : List D}, RtL H vs ds → RtL H' vs ds
  | _, _, .nil => .nil
  | _, _, .cons h r => .cons (Rt.mono m h) (RtL.mono m r)
end
mutual
theorem Rt.rp : ∀ {v : V} {d : D}, Rt H v d → Rp K ω H v d
  | _, _, .non => .non
  | _, _, .bl b => .bl b
  | _, _, .int i => .int i
  | _, _, .str x h => .str x h
  | _, _, .tup h l r => .tup h l (RtL.rp r)
theorem RtL.rp : ∀ {vs : List V} {ds : List D}, RtL H vs ds → RpL K ω H vs ds
  | _, _, .nil => .nil
  | _, _, .cons h r => .cons (Rt.rp h) (RtL.rp r)
end
mutual
theorem Rp.rt : ∀ {v : V} {d : D}, Rp K ω H v d → pf d = true → Rt H v d
  | _, _, .non, _ => .non
  | _, _, .bl b, _ => .bl b
  | _, _, .int i, _ => .int i
  | _, _, .str x h, _ => .str x h
  | _, _, .lst _ _ _ _, c => by simp [pf] at c
  | _, _, .tup h l r, c => .tup h l (RpL.rt r (by rw [pf] at c; exact c))
  | _, _, .town e, c => by simp [pf] at c
  | _, _, .scr _ _, c => by simp [pf] at c
  | _, _, .cell _, c => by simp [pf] at c
  | _, _, .pln _ _ _ _ _ _ _ _ _, c => by simp [pf] at c
  | _, _, .dct _ _ _ _, c => by simp [pf] at c
theorem RpL.rt : ∀ {vs : List V} {ds : List D}, RpL K ω H vs ds → pfL ds = true → RtL H vs ds
  | _, _, .nil, _ => .nil
  | _, _, .cons h r, c => by
    rw [pfL, Bool.and_eq_true] at c
    exact .cons (Rp.rt h c.1) (RpL.rt r c.2)
end
theorem RtL.length : ∀ {vs : List V} {ds : List D}, RtL H vs ds → vs.length = ds.length
  | _, _, .nil => rfl
  | _, _, .cons _ r => by rw [List.length_cons, List.length_cons, RtL.length r]
theorem RtL.append : ∀ {vs ws : List V} {ds es : List D}, RtL H vs ds → RtL H ws es → RtL H (vs ++ ws) (ds ++ es)
  | _, _, _, _, .nil, s => s
  | _, _, _, _, .cons h r, s => .cons h (RtL.append r s)
theorem RtL.set : ∀ {vs : List V} {ds : List D} (i : Nat) {v : V} {d : D}, RtL H vs ds → Rt H v d → RtL H (vs.set i v) (ds.set i d)
  | _, _, _, _, _, .nil, _ => .nil
  | _, _, 0, _, _, .cons _ r, h => .cons h r
  | _, _, i + 1, _, _, .cons q r, h => .cons q (RtL.set i r h)
theorem RowsT.mono (m : ∀ a xs, H a = some (.tup xs) → H' a = some (.tup xs)) : ∀ {bs : List Addr} {dss : List (List D)}, (∀ b ∈ bs, ∀ x, H b = some x → H' b = some x) → RowsT H bs dss → RowsT H' bs dss
  | _, _, _, .nil => .nil
  | _, _, hb, .cons xs h l r t => .cons xs (hb _ List.mem_cons_self _ h) l (r.mono m) (RowsT.mono m (fun b hm => hb b (List.mem_cons_of_mem _ hm)) t)
theorem DctR.mono (m : ∀ a xs, H a = some (.tup xs) → H' a = some (.tup xs)) : ∀ {vs : List (List Key × V)} {kvs : List (List Int × D)}, DctR H vs kvs → DctR H' vs kvs
  | _, _, .nil => .nil
  | _, _, .cons h r => .cons (h.mono m) (DctR.mono m r)
theorem EntR.mono (m : ∀ a xs, H a = some (.tup xs) → H' a = some (.tup xs)) : ∀ {L : List DictEntry} {kvs : List (D × D)}, EntR H L kvs → EntR H' L kvs
  | _, _, .nil => .nil
  | _, _, .cons a b c d e r => .cons a (b.mono m) c d (e.mono m) (EntR.mono m r)
/-- a cell that is not touched -/
theorem CellAt.mono {k : Nat} {a : Addr} {c : Cell} (hC : ω'.C = ω.C) (ho : ∀ b, ω.ow b = some k → ω'.ow b = some k) (hk : ∀ b x, ω.ow b = some k → H b = some x → H' b = some x) (m : ∀ a xs, H a = some (.tup xs) → H' a = some (.tup xs)) (h : CellAt ω H k a c) : CellAt ω' H' k a c := by
  cases c with
  | lst ds =>
    obtain ⟨h1, xs, h2, l, r⟩ := h
    exact ⟨ho a h1, xs, hk a _ h1 h2, l, r.mono m⟩
  | rows dss =>
    obtain ⟨h1, bs, nd, h2, h3, l, r⟩ := h
    exact ⟨ho a h1, bs, nd, fun b hb => ho b (h2 b hb), hk a _ h1 h3, l, r.mono m fun b hb x e => hk b x (h2 b hb) e⟩
  | pln mm ws kp =>
    obtain ⟨h1, dx, b, fs, vm, vk, xs, h2, h3, h4, h5, h6, h7, h12, h13, h14, h15⟩ := h
    exact ⟨ho a h1, dx, b, fs, vm, vk, xs, ho dx h2, ho b h3, by rw [hC]; exact hk a _ h1 h4, hk dx _ h2 h5, hk b _ h3 h6, h7, h12.mono m, h13.mono m, h14, h15.mono m⟩
  | dct kvs =>
    obtain ⟨h1, L, h2, l, hs, r, nd⟩ := h
    exact ⟨ho a h1, L, hk a _ h1 h2, l, hs, r.mono m, nd⟩
theorem Cok.same (c : Cok ω H) (s : Same H H') : Cok ω H' := ⟨fun a h => let ⟨x, hx, n⟩ := c.tin a h; ⟨x, s a x hx, n⟩⟩
theorem Town.of_same {n : Sn} (s : Same H H') (t : Town ω n H) : Town ω n H' := ⟨t.ok.same s, fun a h => ⟨(t.town a h).1, s a _ (t.town a h).2⟩, t.len, fun k c h => let ⟨a, h1, h2⟩ := t.cell k c h; ⟨a, h1, h2.mono rfl (fun _ z => z) (fun b x _ z => s b x z) fun b xs z => s b _ z⟩, t.owk⟩
/-- a new address is none of those that may change -/
theorem Cok.notIn {p : Addr} (c : Cok ω H) (h : H p = none) : ¬ ω.T p := fun t => by
  obtain ⟨x, hx, _⟩ := c.tin p t
  rw [h] at hx; cases hx
theorem same_upd {H : Hp} {p : Addr} {o : HO} (h : H p = none) : Same H (upd H p o) := fun b x e => by
  rw [upd_ne (ne_of_none e h)]
  exact e
mutual
theorem Rp.mv (m : Mv ω H ω' H') : ∀ {v : V} {d : D}, Rp K ω H v d → Rp K ω' H' v d
  | _, _, .non => .non
  | _, _, .bl b => .bl b
  | _, _, .int i => .int i
  | _, _, .str x h => .str x h
  | _, _, .lst h n l r => .lst (m.mv _ _ n h).1 (m.mv _ _ n h).2 l (RpL.mv m r)
  | _, _, .tup h l r => .tup (m.tup _ _ h) l (RpL.mv m r)
  | _, _, .town e => .town (by rw [m.town]; exact e)
  | _, _, .scr (a := a) (ns := ns) h l => .scr (by
      rcases h with ⟨h | ⟨o, h⟩, n⟩ | h
      · exact .inl ⟨.inl (m.mv _ _ n h).1, (m.mv _ _ n h).2⟩
      · exact .inl ⟨.inr ⟨o, (m.mv _ _ n h).1⟩, (m.mv _ _ n h).2⟩
      · exact .inr h) l
  | _, _, .cell h => .cell (m.root _ _ h)
  | _, _, .pln h1 n1 h2 n2 F r1 r2 l r3 => .pln (by rw [m.C]; exact (m.mv _ _ n1 h1).1) (m.mv _ _ n1 h1).2 (m.mv _ _ n2 h2).1 (m.mv _ _ n2 h2).2 F (Rp.mv m r1) (Rp.mv m r2) l (RpL.mv m r3)
  | _, _, .dct (b := true) h n l r => .dct (b := true) (let ⟨o, z⟩ := h; ⟨o, (m.mv _ _ n z).1⟩) (let ⟨_, z⟩ := h; (m.mv _ _ n z).2) l (r.mono m.tup)
  | _, _, .dct (b := false) h n l r => .dct (b := false) (m.mv _ _ n h).1 (m.mv _ _ n h).2 l (r.mono m.tup)
theorem RpL.mv (m : Mv ω H ω' H') : ∀ {vs : List V} {ds : List D}, RpL K ω H vs ds → RpL K ω' H' vs ds
  | _, _, .nil => .nil
  | _, _, .cons h r => .cons (Rp.mv m h) (RpL.mv m r)
end
theorem Rp.ext (e : Ext ω H ω' H') {v : V} {d : D} (h : Rp K ω H v d) : Rp K ω' H' v d := h.mv e.mv
theorem RpL.ext (e : Ext ω H ω' H') {v : List V} {d : List D} (h : RpL K ω H v d) : RpL K ω' H' v d := h.mv e.mv
theorem Rp.same (s : Same H H') {v : V} {d : D} (h : Rp K ω H v d) : Rp K ω H' v d := h.mv (.same s)
theorem RpL.same (s : Same H H') {v : List V} {d : List D} (h : RpL K ω H v d) : RpL K ω H' v d := h.mv (.same s)
/-- fewer that may change -/
theorem Rp.ors {S : Addr → Prop} {v : V} {d : D} (h : Rp K (ω.or S) H v d) : Rp K ω H v d := h.mv (Mv.less (ω := ω.or S) (ω' := ω) rfl rfl fun a z => Or.inl z)
theorem RpL.ors {S : Addr → Prop} {v : List V} {d : List D} (h : RpL K (ω.or S) H v d) : RpL K ω H v d := h.mv (Mv.less (ω := ω.or S) (ω' := ω) rfl rfl fun a z => Or.inl z)
theorem RpL.length : ∀ {vs : List V} {ds : List D}, RpL K ω H vs ds → vs.length = ds.length
  | _, _, .nil => rfl
  | _, _, .cons _ r => by rw [List.length_cons, List.length_cons, RpL.length r]
theorem RpL.get : ∀ {vs : List V} {ds : List D} {i : Nat} {d : D}, RpL K ω H vs ds → ds[i]? = some d → ∃ v, vs[i]? = some v ∧ Rp K ω H v d
  | _, _, _, _, .nil, e => by simp at e
  | _, _, 0, _, .cons h _, e => by simp at e; subst e; exact ⟨_, rfl, h⟩
  | _, _, i + 1, d, .cons _ r, e => by
    obtain ⟨v, h1, h2⟩ := RpL.get (i := i) (d := d) r (by simpa using e)
    exact ⟨v, by simpa using h1, h2⟩
theorem RpL.get' : ∀ {vs : List V} {ds : List D} {i : Nat} {v : V}, RpL K ω H vs ds → vs[i]? = some v → ∃ d, ds[i]? = some d ∧ Rp K ω H v d
  | _, _, _, _, .nil, e => by simp at e
  | _, _, 0, _, .cons h _, e => by simp at e; subst e; exact ⟨_, rfl, h⟩
  | _, _, i + 1, d, .cons _ r, e => by
    obtain ⟨v, h1, h2⟩ := RpL.get' (i := i) (v := d) r (by simpa using e)
    exact ⟨v, by simpa using h1, h2⟩
theorem RpL.append : ∀ {vs ws : List V} {ds es : List D}, RpL K ω H vs ds → RpL K ω H ws es → RpL K ω H (vs ++ ws) (ds ++ es)
  | _, _, _, _, .nil, s => s
  | _, _, _, _, .cons h r, s => .cons h (RpL.append r s)
theorem RpL.take : ∀ {vs : List V} {ds : List D} (n : Nat), RpL K ω H vs ds → RpL K ω H (vs.take n) (ds.take n)
  | _, _, 0, _ => .nil
  | _, _, _ + 1, .nil => .nil
  | _, _, n + 1, .cons h r => .cons h (RpL.take n r)
theorem RpL.drop : ∀ {vs : List V} {ds : List D} (n : Nat), RpL K ω H vs ds → RpL K ω H (vs.drop n) (ds.drop n)
  | _, _, 0, r => r
  | _, _, _ + 1, .nil => .nil
  | _, _, n + 1, .cons _ r => RpL.drop n r
theorem RpL.reverse {vs : List V} {ds : List D} (h : RpL K ω H vs ds) : RpL K ω H vs.reverse ds.reverse := by
  induction vs generalizing ds with
  | nil => cases h; exact .nil
  | cons v vs ih =>
    cases h with
    | cons h r =>
      rw [List.reverse_cons, List.reverse_cons]
      exact (ih r).append (.cons h .nil)
theorem RpL.rep {vs : List V} {ds : List D} (h : RpL K ω H vs ds) : ∀ k : Nat, RpL K ω H (List.replicate k vs).flatten (List.replicate k ds).flatten
  | 0 => .nil
  | k + 1 => by
    rw [List.replicate_succ, List.replicate_succ, List.flatten_cons, List.flatten_cons]
    exact h.append (RpL.rep h k)
theorem RpL.set : ∀ {vs : List V} {ds : List D} (i : Nat) {v : V} {d : D}, RpL K ω H vs ds → Rp K ω H v d → RpL K ω H (vs.set i v) (ds.set i d)
  | _, _, _, _, _, .nil, _ => .nil
  | _, _, 0, _, _, .cons _ r, h => .cons h r
  | _, _, i + 1, _, _, .cons q r, h => .cons q (RpL.set i r h)
theorem RpL.dropLast {vs : List V} {ds : List D} (h : RpL K ω H vs ds) : RpL K ω H vs.dropLast ds.dropLast := by
  rw [List.dropLast_eq_take, List.dropLast_eq_take, h.length]
  exact h.take _
theorem RpL.ints : ∀ (ns : List Int), RpL K ω H (ns.map V.int) (ns.map PyData.int)
  | [] => .nil
  | n :: r => .cons (.int n) (RpL.ints r)
theorem RpL.inv_ints : ∀ {ns : List Int} {vs : List V}, RpL K ω H vs (ns.map PyData.int) → vs = ns.map V.int
  | [], _, .nil => rfl
  | n :: r, _, .cons (.int _) h => by
    rw [List.map_cons, RpL.inv_ints h]
theorem RpL.inv_bls : ∀ {ns : List Bool} {vs : List V}, RpL K ω H vs (ns.map PyData.bool) → vs = ns.map V.bl
  | [], _, .nil => rfl
  | n :: r, _, .cons (.bl _) h => by
    rw [List.map_cons, RpL.inv_bls h]
theorem RpL.inv_strs : ∀ {ns : List Str} {vs : List V}, RpL K ω H vs (ns.map PyData.str) → vs = ns.map V.str
  | [], _, .nil => rfl
  | n :: r, _, .cons (.str _ _) h => by
    rw [List.map_cons, RpL.inv_strs h]
mutual
theorem Rp.dp : ∀ {d : D} {v : V}, Rp K ω H v d → d.canLay0 = true → Dp K H v d
  | _, _, .non, _ => .non
  | _, _, .bl b, _ => .bl b
  | _, _, .int i, _ => .int i
  | _, _, .str x _, _ => .str x
  | _, _, .lst h n l r, c => .lst (SqL.of h) (RpL.dp r (by rw [PyData.canLay0] at c; exact c))
  | _, _, .tup h l r, c => .tup (SqT.of h) (RpL.dp r (by rw [PyData.canLay0] at c; exact c))
  | _, _, .town e, c => by simp [PyData.canLay0] at c
  | _, _, .scr h l, c => by simp [PyData.canLay0] at c
  | _, _, .cell h, c => by simp [PyData.canLay0] at c
  | _, _, .pln _ _ _ _ _ _ _ _ _, c => by simp [PyData.canLay0] at c
  | _, _, .dct _ _ _ _, c => by simp [PyData.canLay0] at c
theorem RpL.dp : ∀ {ds : List D} {vs : List V}, RpL K ω H vs ds → PyData.canLayAll0 ds = true → DpAll K H vs ds
  | _, _, .nil, _ => .nil
  | _, _, .cons h r, c => by
    rw [PyData.canLayAll0, Bool.and_eq_true] at c
    exact .cons (Rp.dp h c.1) (RpL.dp r c.2)
end
end

/-! ### worlds with more or less that may change -/
/-- one address fewer -/
def Wd.sub (ω : Wd) (p : Addr) (h : ¬ ω.has p) : Wd := { ω with T := fun a => ω.T a ∧ a ≠ p, hT1 := fun a z => ⟨ω.hT1 a z, fun e => h (.inl (by rw [← e]; exact z))⟩, hT2 := fun a k z => ⟨ω.hT2 a k z, fun e => h (.inr ⟨k, by rw [← e]; exact z⟩)⟩ }
section
variable {K : PySem.W.Frag} {ω ω' : Wd} {H H' : Hp} {n : Sn} {p : Addr} {S : Addr → Prop}
theorem CellAt.or {k : Nat} {a : Addr} {c : Cell} (h : CellAt ω H k a c) : CellAt (ω.or S) H k a c := h.mono rfl (fun _ z => z) (fun _ _ _ z => z) fun _ _ z => z
theorem CellAt.unor {k : Nat} {a : Addr} {c : Cell} (h : CellAt (ω.or S) H k a c) : CellAt ω H k a c := CellAt.mono (ω := ω.or S) rfl (fun _ z => z) (fun _ _ _ z => z) (fun _ _ z => z) h
theorem Town.or (t : Town ω n H) (h : ∀ a, S a → ∃ x, H a = some x ∧ noTup x) : Town (ω.or S) n H :=
  ⟨⟨fun a z => z.elim (t.ok.tin a) (h a)⟩, t.town, t.len, fun k c z => let ⟨a, h1, h2⟩ := t.cell k c z; ⟨a, h1, h2.or⟩, t.owk⟩
theorem Town.unor (t : Town (ω.or S) n H) : Town ω n H :=
  ⟨⟨fun a z => t.ok.tin a (.inl z)⟩, t.town, t.len, fun k c z => let ⟨a, h1, h2⟩ := t.cell k c z; ⟨a, h1, h2.unor⟩, t.owk⟩
theorem Town.sub (t : Town ω n H) (h : ¬ ω.has p) : Town (ω.sub p h) n H :=
  ⟨⟨fun a z => t.ok.tin a z.1⟩, t.town, t.len, fun k c z => let ⟨a, h1, h2⟩ := t.cell k c z; ⟨a, h1, h2.mono rfl (fun _ z => z) (fun _ _ _ z => z) fun _ _ z => z⟩, t.owk⟩
/-- a list that is no cell's changes -/
theorem Town.updN {xs ys : List V} (t : Town ω n H) (h : ¬ ω.has p) (hp : H p = some (.lst xs)) : Town ω n (upd H p (.lst ys)) := by
  have up : ∀ a x, a ≠ p → H a = some x → upd H p (.lst ys) a = some x := fun a x na ha => by rw [upd_ne na]; exact ha
  refine ⟨⟨fun a z => ?_⟩, fun a z => ⟨(t.town a z).1, up a _ (fun e => h (.inl (by rw [← e]; exact z))) (t.town a z).2⟩, t.len, fun k c z => ?_, t.owk⟩
  · by_cases e : a = p
    · rw [e]; exact ⟨_, upd_same, trivial⟩
    · obtain ⟨x, hx, nx⟩ := t.ok.tin a z
      exact ⟨x, up a x e hx, nx⟩
  · obtain ⟨a, h1, h2⟩ := t.cell k c z
    refine ⟨a, h1, h2.mono rfl (fun _ z => z) (fun b x hb hx => up b x (fun e => h (.inr ⟨k, by rw [← e]; exact hb⟩)) hx) fun b ys hb => up b _ (fun e => ?_) hb⟩
    rw [e, hp] at hb; cases hb
theorem mv_updN {xs ys : List V} (hT : ω.T p) (hp : H p = some (.lst xs)) : Mv ω H ω (upd H p (.lst ys)) := by
  refine ⟨rfl, rfl, fun _ _ z => z, fun a zs ha => ?_, fun a x na ha => ⟨?_, na⟩⟩
  · rw [upd_ne (fun e => by rw [e, hp] at ha; cases ha)]; exact ha
  · rw [upd_ne (fun e => na (by rw [e]; exact hT))]; exact ha
/-- what is new changes -/
theorem Ext.updNew {o : HO} (e : Ext ω H ω' H') (hp : H p = none) : Ext ω H ω' (upd H' p o) := by
  refine ⟨e.town, e.C, e.root, e.old, e.ow, fun a x na ha => ?_, fun a xs ha => ?_, fun a ha => ?_⟩
  · rw [upd_ne (ne_of_none ha hp)]; exact e.keep a x na ha
  · rw [upd_ne (ne_of_none ha hp)]; exact e.tup a xs ha
  · obtain ⟨x, hx⟩ := ne_sm ha
    rw [upd_ne (ne_of_none hx hp)]; exact e.al a ha
theorem Ext.addNew (e : Ext ω H ω' H') (hp : H p = none) : Ext ω H (ω'.add p) H' := by
  refine ⟨e.town, e.C, e.root, fun a ha => ?_, e.ow, e.keep, e.tup, e.al⟩
  obtain ⟨x, hx⟩ := ne_sm ha
  rw [← e.old a ha]
  exact ⟨fun z => z.elim id fun q => absurd q (ne_of_none hx hp), .inl⟩
theorem Ext.subNew {h : ¬ ω'.has p} (e : Ext ω H ω' H') (hp : H p = none) : Ext ω H (ω'.sub p h) H' := by
  refine ⟨e.town, e.C, e.root, fun a ha => ?_, e.ow, e.keep, e.tup, e.al⟩
  obtain ⟨x, hx⟩ := ne_sm ha
  rw [← e.old a ha]
  exact ⟨fun z => z.1, fun z => ⟨z, ne_of_none hx hp⟩⟩
theorem mv_sub_add {h : ¬ ω.has p} (hT : ω.T p) : Mv ω H ((ω.sub p h).add p) H := Mv.less rfl rfl fun a z => z.elim (fun q => q.1) fun q => by rw [q]; exact hT
/-- what the world knows changes -/
theorem Ext.updHas {x o : HO} (h : ω.has p) (hx : H p = some x) (nx : noTup x) : Ext ω H ω (upd H p o) := by
  refine ⟨rfl, rfl, fun _ _ h => h, fun _ _ => Iff.rfl, fun _ _ h => .inl h, fun a y na ha => ?_, fun a xs ha => ?_, fun a ha => ?_⟩
  · rw [upd_ne (fun e => na (by rw [e]; exact h))]; exact ha
  · rw [upd_ne (fun e => by rw [e, hx] at ha; cases ha; exact nx)]; exact ha
  · by_cases e : a = p
    · rw [e, upd_same]; exact fun z => nomatch z
    · rw [upd_ne e]; exact ha
/-- a new address is none's -/
theorem Cok.nhas (c : Cok ω H) (h : H p = none) : ¬ ω.has p := fun z => c.notIn h (Wd.hasT z)
end
/-! ### judgements -/
/-- the planners' class -/
def clsA (mg : Str → Option Value) : Addr := match mg "Planner" with
  | some (.ref C) => C
  | _ => 0
structure RE (K : PySem.W.Frag) (C : Addr) (ω : Wd) (env : En) (σ : L2.St) (H : Hp) : Prop where
  ok : Cok ω H
  cl : ω.C = C
  len : env.length = σ.length
  get : ∀ (i : Nat) (d : D), env[i]? = some (some d) → ∃ v, σ[i]? = some (some v) ∧ Rp K ω H v d
theorem RE.ext {K : PySem.W.Frag} {C : Addr} {ω ω' : Wd} {env : En} {σ : L2.St} {H H' : Hp} {n : Sn} (r : RE K C ω env σ H) (k : Ext ω H ω' H') (t : Town ω' n H') : RE K C ω' env σ H' :=
  ⟨t.ok, k.C.trans r.cl, r.len, fun i d e => let ⟨v, h1, h2⟩ := r.get i d e; ⟨v, h1, h2.ext k⟩⟩

abbrev Fe (α : Type) := En → Sn → Option (α × Sn)
abbrev FE := Fe D
def tM (K : PySem.W.Frag) (C : Addr) (f : FE) : TE := fun σ H Q => ∃ (ω : Wd) (env : En) (n : Sn) (d : D) (n' : Sn),
  RE K C ω env σ H ∧ Town ω n H ∧ f env n = some (d, n') ∧ ∀ v ω' H', Ext ω H ω' H' → Town ω' n' H' → Rp K ω' H' v d → Q v H'
def tMT (K : PySem.W.Frag) (C : Addr) (f : Fe Bool) : TT := fun σ H Q => ∃ (ω : Wd) (env : En) (n : Sn) (d : Bool) (n' : Sn),
  RE K C ω env σ H ∧ Town ω n H ∧ f env n = some (d, n') ∧ ∀ ω' H', Ext ω H ω' H' → Town ω' n' H' → Q d H'
def tMA (K : PySem.W.Frag) (C : Addr) (f : Fe (List D)) : TA := fun σ H Q => ∃ (ω : Wd) (env : En) (n : Sn) (ds : List D) (n' : Sn),
  RE K C ω env σ H ∧ Town ω n H ∧ f env n = some (ds, n') ∧ ∀ vs ω' H', Ext ω H ω' H' → Town ω' n' H' → RpL K ω' H' vs ds → Q vs H'
def tMO (K : PySem.W.Frag) (C : Addr) (f : Fe (Option Int)) : TO := fun σ H Q => ∃ (ω : Wd) (env : En) (n : Sn) (d : Option Int) (n' : Sn),
  RE K C ω env σ H ∧ Town ω n H ∧ f env n = some (d, n') ∧ ∀ ω' H', Ext ω H ω' H' → Town ω' n' H' → Q d H'
abbrev ME (X : Cx) (e : Expr) (f : FE) : Prop := PE X e (tM X.K (clsA X.mg) f)
abbrev MT (X : Cx) (e : Expr) (f : Fe Bool) : Prop := PT X e (tMT X.K (clsA X.mg) f)
abbrev MW (X : Cx) (e : Expr) (f : Fe Bool) : Prop := PW X e (tMT X.K (clsA X.mg) f)
abbrev MA (X : Cx) (es : List Expr) (f : Fe (List D)) : Prop := PA X es (tMA X.K (clsA X.mg) f)
abbrev MO (X : Cx) (e : Option Expr) (f : Fe (Option Int)) : Prop := PO X e (tMO X.K (clsA X.mg) f)

section
variable {X : Cx} {e a b c : Expr} {es : List Expr} {pos : Pos}
theorem pe_imp {t t' : TE} (h : PE X e t) (i : ∀ σ H Q, t' σ H Q → t σ H Q) : PE X e t' := ⟨fun pins s σ H Q I hw => h.run pins s σ H Q I (i _ _ _ hw)⟩
theorem pt_imp {t t' : TT} (h : PT X e t) (i : ∀ σ H Q, t' σ H Q → t σ H Q) : PT X e t' := ⟨fun pins s σ H Q I hw => h.run pins s σ H Q I (i _ _ _ hw)⟩
theorem pw_imp {t t' : TT} (h : PW X e t) (i : ∀ σ H Q, t' σ H Q → t σ H Q) : PW X e t' := ⟨fun w pins s σ H Q I hw => h.run w pins s σ H Q I (i _ _ _ hw)⟩
theorem pa_imp {t t' : TA} (h : PA X es t) (i : ∀ σ H Q, t' σ H Q → t σ H Q) : PA X es t' := ⟨fun p pins s σ H Q I hw => h.run p pins s σ H Q I (i _ _ _ hw)⟩

/-! ### how a part is run -/
variable {K : PySem.W.Frag} {C : Addr} {ω : Wd} {env : En} {σ : L2.St} {H : Hp} {n n' : Sn}
theorem tM_run {f : FE} {d : D} {Q : VK} (R : RE K C ω env σ H) (t : Town ω n H) (e : f env n = some (d, n'))
    (h : ∀ v ω' H', Ext ω H ω' H' → RE K C ω' env σ H' → Town ω' n' H' → Rp K ω' H' v d → Q v H') : tM K C f σ H Q :=
  ⟨ω, env, n, d, n', R, t, e, fun v ω' H' k t' r => h v ω' H' k (R.ext k t') t' r⟩
theorem tMT_run {f : Fe Bool} {d : Bool} {Q : Bool → Hp → Prop} (R : RE K C ω env σ H) (t : Town ω n H) (e : f env n = some (d, n'))
    (h : ∀ ω' H', Ext ω H ω' H' → RE K C ω' env σ H' → Town ω' n' H' → Q d H') : tMT K C f σ H Q :=
  ⟨ω, env, n, d, n', R, t, e, fun ω' H' k t' => h ω' H' k (R.ext k t') t'⟩
theorem tMA_run {f : Fe (List D)} {d : List D} {Q : List V → Hp → Prop} (R : RE K C ω env σ H) (t : Town ω n H) (e : f env n = some (d, n'))
    (h : ∀ v ω' H', Ext ω H ω' H' → RE K C ω' env σ H' → Town ω' n' H' → RpL K ω' H' v d → Q v H') : tMA K C f σ H Q :=
  ⟨ω, env, n, d, n', R, t, e, fun v ω' H' k t' r => h v ω' H' k (R.ext k t') t' r⟩
theorem tMO_run {f : Fe (Option Int)} {d : Option Int} {Q : Option Int → Hp → Prop} (R : RE K C ω env σ H) (t : Town ω n H) (e : f env n = some (d, n'))
    (h : ∀ ω' H', Ext ω H ω' H' → RE K C ω' env σ H' → Town ω' n' H' → Q d H') : tMO K C f σ H Q :=
  ⟨ω, env, n, d, n', R, t, e, fun ω' H' k t' => h ω' H' k (R.ext k t') t'⟩

/-! ### the mirrors' words -/
def eVar (i : Nat) : FE := fun env n => match env[i]? with
  | some (some d) => some (d, n)
  | _ => none
def eC (d : D) : FE := fun _ n => some (d, n)
def e1 (F : D → Option D) (f : FE) : FE := fun env n => match f env n with
  | some (x, n1) => (F x).map fun d => (d, n1)
  | none => none
def e2 (F : D → D → Option D) (f g : FE) : FE := fun env n => match f env n with
  | some (x, n1) => (match g env n1 with
    | some (y, n2) => (F x y).map fun d => (d, n2)
    | none => none)
  | none => none
def eL (F : List D → Option D) (f : Fe (List D)) : FE := fun env n => match f env n with
  | some (x, n1) => (F x).map fun d => (d, n1)
  | none => none
def aNil : Fe (List D) := fun _ n => some ([], n)
def aCons (f : FE) (g : Fe (List D)) : Fe (List D) := fun env n => match f env n with
  | some (x, n1) => (match g env n1 with
    | some (y, n2) => some (x :: y, n2)
    | none => none)
  | none => none
def isB : D → Option Bool
  | .bool b => some b
  | _ => none
def bV (f : FE) : Fe Bool := fun env n => match f env n with
  | some (.bool b, n1) => some (b, n1)
  | _ => none
def bAnd (f g : Fe Bool) : Fe Bool := fun env n => match f env n with
  | some (true, n1) => g env n1
  | some (false, n1) => some (false, n1)
  | none => none
def bOr (f g : Fe Bool) : Fe Bool := fun env n => match f env n with
  | some (true, n1) => some (true, n1)
  | some (false, n1) => g env n1
  | none => none
def bNot (f : Fe Bool) : Fe Bool := fun env n => match f env n with
  | some (b, n1) => some (!b, n1)
  | none => none
def eAnd (f g : FE) : FE := fun env n => match f env n with
  | some (.bool true, n1) => g env n1
  | some (.bool false, n1) => some (.bool false, n1)
  | _ => none
def eOr (f g : FE) : FE := fun env n => match f env n with
  | some (.bool true, n1) => some (.bool true, n1)
  | some (.bool false, n1) => g env n1
  | _ => none
def eNot (f : FE) : FE := fun env n => match f env n with
  | some (.bool b, n1) => some (.bool (!b), n1)
  | _ => none
def eIf (c : Fe Bool) (f g : FE) : FE := fun env n => match c env n with
  | some (true, n1) => f env n1
  | some (false, n1) => g env n1
  | none => none
def oNone : Fe (Option Int) := fun _ n => some (none, n)
def oSome (f : FE) : Fe (Option Int) := fun env n => match f env n with
  | some (.int i, n1) => some (some i, n1)
  | _ => none
def eSl (F : D → Option Int → Option Int → Option D) (f : FE) (lo hi : Fe (Option Int)) : FE := fun env n => match f env n with
  | some (x, n1) => (match lo env n1 with
    | some (l, n2) => (match hi env n2 with
      | some (h, n3) => (F x l h).map fun d => (d, n3)
      | none => none)
    | none => none)
  | none => none
/-- a < b < c with one and the other test -/
def eChain (F G : D → D → Option D) (f g h : FE) : FE := fun env n => match f env n with
  | some (x, n1) => (match g env n1 with
    | some (y, n2) => (match F x y with
      | some (.bool true) => (match h env n2 with
        | some (z, n3) => (G y z).map fun d => (d, n3)
        | none => none)
      | some (.bool false) => some (.bool false, n2)
      | _ => none)
    | none => none)
  | none => none

/-! ### names, constants -/
theorem me_var (i : Nat) {x : Str} (h : PE X (.Name x pos) (tVar i)) : ME X (.Name x pos) (eVar i) := by
  refine pe_imp h fun σ H Q q => ?_
  obtain ⟨ω, env, n, d, n', R, t, e, k⟩ := q
  unfold eVar at e
  split at e
  · rename_i d' hd
    cases e
    obtain ⟨v, h1, h2⟩ := R.get i d hd
    exact ⟨v, h1, k v ω H Ext.refl t h2⟩
  · cases e
theorem me_c {v : V} {d : D} (h : PE X e (tC v)) (r : ∀ K ω H, Rp K ω H v d) : ME X e (eC d) := by
  refine pe_imp h fun σ H Q q => ?_
  obtain ⟨ω, env, n, d', n', R, t, e, k⟩ := q
  cases e
  exact k v ω H Ext.refl t (r _ _ _)
theorem me_int {i : Int} {j pos} : ME X (.Constant (.int i) j pos) (eC (.int i)) := me_c pe_int fun _ _ _ => .int i
theorem me_bl {b : Bool} {j pos} : ME X (.Constant (.bool b) j pos) (eC (.bool b)) := me_c pe_bl fun _ _ _ => .bl b
theorem me_non {j pos} : ME X (.Constant .none j pos) (eC .none) := me_c pe_non fun _ _ _ => .non
theorem me_str {x : Str} {j pos} (hx : x.length ≤ sizeLine := by decide) : ME X (.Constant (.str x) j pos) (eC (.str x)) := me_c pe_str fun _ _ _ => .str x hx
theorem me_globI {x : Str} {i : Int} {u : Value} (hg : Gl X x) (hm : X.mg x = some u) (hr : RelV (.int i) u) (hd : (x == ("__debug__" : Str)) = false := by decide) : ME X (.Name x pos) (eC (.int i)) := me_c (pe_glob hg hm hr hd) fun _ _ _ => .int i
theorem me_globS {x z : Str} {u : Value} (hg : Gl X x) (hm : X.mg x = some u) (hr : RelV (.str z) u) (hz : z.length ≤ sizeLine := by decide) (hd : (x == ("__debug__" : Str)) = false := by decide) : ME X (.Name x pos) (eC (.str z)) := me_c (pe_glob hg hm hr hd) fun _ _ _ => .str z hz

/-! ### operators by values -/
def Ok1 (K : PySem.W.Frag) (r : V → Hp → VK → Prop) (F : D → Option D) : Prop := ∀ (ω : Wd) (H : Hp) (x : V) (d d' : D) (Q : VK), Cok ω H → Rp K ω H x d → F d = some d' →
  (∀ v H', Same H H' → Rp K ω H' v d' → Q v H') → r x H Q
def Ok2 (K : PySem.W.Frag) (r : R2) (F : D → D → Option D) : Prop := ∀ (ω : Wd) (H : Hp) (x y : V) (d1 d2 d : D) (Q : VK), Cok ω H → Rp K ω H x d1 → Rp K ω H y d2 → F d1 d2 = some d →
  (∀ v H', Same H H' → Rp K ω H' v d → Q v H') → r x y H Q
def OkL (K : PySem.W.Frag) (r : List V → Hp → VK → Prop) (F : List D → Option D) : Prop := ∀ (ω : Wd) (H : Hp) (xs : List V) (ds : List D) (d : D) (Q : VK), Cok ω H → RpL K ω H xs ds → F ds = some d →
  (∀ v H', Same H H' → Rp K ω H' v d → Q v H') → r xs H Q
def OkS (K : PySem.W.Frag) (r : V → Option Int → Option Int → Hp → VK → Prop) (F : D → Option Int → Option Int → Option D) : Prop := ∀ (ω : Wd) (H : Hp) (x : V) (d d' : D) (lo hi : Option Int) (Q : VK), Cok ω H → Rp K ω H x d → F d lo hi = some d' →
  (∀ v H', Same H H' → Rp K ω H' v d' → Q v H') → r x lo hi H Q

theorem e2_inv {F : D → D → Option D} {f g : FE} {env : En} {n n' : Sn} {d : D} (h : e2 F f g env n = some (d, n')) : ∃ x y n1, f env n = some (x, n1) ∧ g env n1 = some (y, n') ∧ F x y = some d := by
  unfold e2 at h
  split at h
  · rename_i x n1 h1
    split at h
    · rename_i y n2 h2
      cases q : F x y with
      | none => rw [q] at h; cases h
      | some z =>
        rw [q] at h
        have h3 : some (z, n2) = some (d, n') := h
        cases h3
        exact ⟨x, y, n1, h1, h2, q⟩
    · cases h
  · cases h
theorem e1_inv {F : D → Option D} {f : FE} {env : En} {n n' : Sn} {d : D} (h : e1 F f env n = some (d, n')) : ∃ x, f env n = some (x, n') ∧ F x = some d := by
  unfold e1 at h
  split at h
  · rename_i x n1 h1
    cases q : F x with
    | none => rw [q] at h; cases h
    | some z =>
      rw [q] at h
      have h3 : some (z, n1) = some (d, n') := h
      cases h3
      exact ⟨x, h1, q⟩
  · cases h
theorem eL_inv {F : List D → Option D} {f : Fe (List D)} {env : En} {n n' : Sn} {d : D} (h : eL F f env n = some (d, n')) : ∃ x, f env n = some (x, n') ∧ F x = some d := by
  unfold eL at h
  split at h
  · rename_i x n1 h1
    cases q : F x with
    | none => rw [q] at h; cases h
    | some z =>
      rw [q] at h
      have h3 : some (z, n1) = some (d, n') := h
      cases h3
      exact ⟨x, h1, q⟩
  · cases h
theorem tOp_of {r : R2} {F : D → D → Option D} {f g : FE} (hF : Ok2 K r F) : ∀ σ H Q, tM K C (e2 F f g) σ H Q → tOp r (tM K C f) (tM K C g) σ H Q := by
  intro σ H Q q
  obtain ⟨ω, env, n, d, n', R, t, e, k⟩ := q
  obtain ⟨x, y, n1, h1, h2, h3⟩ := e2_inv e
  refine tM_run R t h1 fun v ω1 H1 k1 R1 t1 r1 => ?_
  refine tM_run R1 t1 h2 fun u ω2 H2 k2 R2 t2 r2 => ?_
  exact hF ω2 H2 v u x y d Q R2.ok (r1.ext k2) r2 h3 fun v' H' s r3 => k v' ω2 H' ((k1.trans k2).trans (Ext.of_same s)) (t2.of_same s) r3
variable {f g h : FE}
theorem me_op {op : Operator} {r : R2} {F : D → D → Option D} (ho : OpR X (binaryOp op) r) (hF : Ok2 X.K r F) (ha : ME X a f) (hb : ME X b g) : ME X (.BinOp a op b pos) (e2 F f g) :=
  pe_imp (pe_op ho ha hb) (tOp_of hF)
theorem me_cmp {op : CmpOp} {r : R2} {F : D → D → Option D} (ho : OpR X (compareOp op) r) (hF : Ok2 X.K r F) (ha : ME X a f) (hb : ME X b g) (hm : behindInMarks op b = false) : ME X (.Compare a [op] [b] pos) (e2 F f g) :=
  pe_imp (pe_cmpR ho ha hb hm) (tOp_of hF)
theorem me_ix {r : R2} {F : D → D → Option D} (hr : IxR X r) (hF : Ok2 X.K r F) (ha : ME X a f) (hb : ME X b g) (hs : PlainIx b) : ME X (.Subscript a b pos) (e2 F f g) :=
  pe_imp (pe_ix hr ha hb hs) (tOp_of hF)
theorem me_un {op : UnaryOp} {r : V → Hp → VK → Prop} {F : D → Option D} (ho : UnR X (unaryOp op) r) (hF : Ok1 X.K r F) (ha : ME X a f) : ME X (.UnaryOp op a pos) (e1 F f) := by
  refine pe_imp (pe_un ho ha) fun σ H Q q => ?_
  obtain ⟨ω, env, n, d, n', R, t, e, k⟩ := q
  obtain ⟨x, h1, h3⟩ := e1_inv e
  refine tM_run R t h1 fun v ω1 H1 k1 R1 t1 r1 => ?_
  exact hF ω1 H1 v x d Q R1.ok r1 h3 fun v' H' s r3 => k v' ω1 H' (k1.trans (Ext.of_same s)) (t1.of_same s) r3
/-! ### tests -/
theorem mt_val (he : ME X e f) (hp : ∀ whole, isTrue e X.env whole = (do let v ← whole; standAt e.pos; holding [v] (truthy v)) := by intro _; rfl) : MT X e (bV f) := by
  refine pt_imp (pt_val he hp) fun σ H Q q => ?_
  obtain ⟨ω, env, n, d, n', R, t, e, k⟩ := q
  unfold bV at e
  split at e
  · rename_i b n1 h1
    cases e
    refine tM_run R t h1 fun v ω1 H1 k1 R1 t1 r1 => ?_
    cases r1
    exact ⟨_, rfl, k ω1 H1 k1 t1⟩
  · cases e
theorem mt_cmp {op : CmpOp} {r : R2} {F : D → D → Option D} (ho : OpR X (compareOp op) r) (hF : Ok2 X.K r F) (ha : ME X a f) (hb : ME X b g) (hm : behindInMarks op b = false) : MT X (.Compare a [op] [b] pos) (bV (e2 F f g)) := by
  refine pt_imp (pt_cmpR ho ha hb hm) fun σ H Q q => ?_
  obtain ⟨ω, env, n, d, n', R, t, e, k⟩ := q
  unfold bV at e
  split at e
  · rename_i b n1 h1
    cases e
    refine tOp_of hF σ H _ (tM_run R t h1 fun v ω1 H1 k1 R1 t1 r1 => ?_)
    cases r1
    exact ⟨_, rfl, k ω1 H1 k1 t1⟩
  · cases e
theorem mw_and1 {f : Fe Bool} (ha : MT X a f) : MW X (.BoolOp .And [a] pos) f := pw_and1 ha
theorem mw_or1 {f : Fe Bool} (ha : MT X a f) : MW X (.BoolOp .Or [a] pos) f := pw_or1 ha
theorem mw_and {f g : Fe Bool} {rest : List Expr} (ha : MT X a f) (hb : MW X (.BoolOp .And (b :: rest) pos) g) : MW X (.BoolOp .And (a :: b :: rest) pos) (bAnd f g) := by
  refine pw_imp (pw_and ha hb) fun σ H Q q => ?_
  obtain ⟨ω, env, n, d, n', R, t, e, k⟩ := q
  unfold bAnd at e
  split at e
  · rename_i n1 h1
    refine tMT_run R t h1 fun ω1 H1 k1 R1 t1 => ?_
    rw [if_pos rfl]
    exact tMT_run R1 t1 e fun ω2 H2 k2 R2 t2 => k ω2 H2 (k1.trans k2) t2
  · rename_i n1 h1
    cases e
    refine tMT_run R t h1 fun ω1 H1 k1 R1 t1 => ?_
    rw [if_neg Bool.false_ne_true]
    exact k ω1 H1 k1 t1
  · cases e
theorem mw_or {f g : Fe Bool} {rest : List Expr} (ha : MT X a f) (hb : MW X (.BoolOp .Or (b :: rest) pos) g) : MW X (.BoolOp .Or (a :: b :: rest) pos) (bOr f g) := by
  refine pw_imp (pw_or ha hb) fun σ H Q q => ?_
  obtain ⟨ω, env, n, d, n', R, t, e, k⟩ := q
  unfold bOr at e
  split at e
  · rename_i n1 h1
    cases e
    refine tMT_run R t h1 fun ω1 H1 k1 R1 t1 => ?_
    rw [if_pos rfl]
    exact k ω1 H1 k1 t1
  · rename_i n1 h1
    refine tMT_run R t h1 fun ω1 H1 k1 R1 t1 => ?_
    rw [if_neg Bool.false_ne_true]
    exact tMT_run R1 t1 e fun ω2 H2 k2 R2 t2 => k ω2 H2 (k1.trans k2) t2
  · cases e
theorem mt_not {f : Fe Bool} (ha : MT X a f) : MT X (.UnaryOp .Not a pos) (bNot f) := by
  refine pt_imp (pt_not ha) fun σ H Q q => ?_
  obtain ⟨ω, env, n, d, n', R, t, e, k⟩ := q
  unfold bNot at e
  split at e
  · rename_i b n1 h1
    cases e
    exact tMT_run R t h1 fun ω1 H1 k1 R1 t1 => k ω1 H1 k1 t1
  · cases e
/-! ### and, or, not, if as values -/
theorem me_and {rest : List Expr} (ha : ME X a f) (hb : ME X (.BoolOp .And (b :: rest) pos) g) : ME X (.BoolOp .And (a :: b :: rest) pos) (eAnd f g) := by
  refine pe_imp (pe_and ha hb) fun σ H Q q => ?_
  obtain ⟨ω, env, n, d, n', R, t, e, k⟩ := q
  unfold eAnd at e
  split at e
  · rename_i n1 h1
    refine tM_run R t h1 fun v ω1 H1 k1 R1 t1 r1 => ?_
    cases r1
    refine ⟨true, rfl, ?_⟩
    rw [if_pos rfl]
    exact tM_run R1 t1 e fun v ω2 H2 k2 R2 t2 r2 => k v ω2 H2 (k1.trans k2) t2 r2
  · rename_i n1 h1
    cases e
    refine tM_run R t h1 fun v ω1 H1 k1 R1 t1 r1 => ?_
    cases r1
    refine ⟨false, rfl, ?_⟩
    rw [if_neg Bool.false_ne_true]
    exact k _ ω1 H1 k1 t1 (.bl false)
  · cases e
theorem me_or {rest : List Expr} (ha : ME X a f) (hb : ME X (.BoolOp .Or (b :: rest) pos) g) : ME X (.BoolOp .Or (a :: b :: rest) pos) (eOr f g) := by
  refine pe_imp (pe_or ha hb) fun σ H Q q => ?_
  obtain ⟨ω, env, n, d, n', R, t, e, k⟩ := q
  unfold eOr at e
  split at e
  · rename_i n1 h1
    cases e
    refine tM_run R t h1 fun v ω1 H1 k1 R1 t1 r1 => ?_
    cases r1
    refine ⟨true, rfl, ?_⟩
    rw [if_pos rfl]
    exact k _ ω1 H1 k1 t1 (.bl true)
  · rename_i n1 h1
    refine tM_run R t h1 fun v ω1 H1 k1 R1 t1 r1 => ?_
    cases r1
    refine ⟨false, rfl, ?_⟩
    rw [if_neg Bool.false_ne_true]
    exact tM_run R1 t1 e fun v ω2 H2 k2 R2 t2 r2 => k v ω2 H2 (k1.trans k2) t2 r2
  · cases e
theorem me_one {op : BoolOp} (ha : ME X a f) : ME X (.BoolOp op [a] pos) f := pe_one ha
theorem me_not (ha : ME X a f) : ME X (.UnaryOp .Not a pos) (eNot f) := by
  refine pe_imp (pe_not ha) fun σ H Q q => ?_
  obtain ⟨ω, env, n, d, n', R, t, e, k⟩ := q
  unfold eNot at e
  split at e
  · rename_i b n1 h1
    cases e
    refine tM_run R t h1 fun v ω1 H1 k1 R1 t1 r1 => ?_
    cases r1
    exact ⟨_, rfl, k _ ω1 H1 k1 t1 (.bl _)⟩
  · cases e
theorem me_if {fc : Fe Bool} (hc : MT X c fc) (ha : ME X a f) (hb : ME X b g) : ME X (.IfExp c a b pos) (eIf fc f g) := by
  refine pe_imp (pe_ifExp hc ha hb) fun σ H Q q => ?_
  obtain ⟨ω, env, n, d, n', R, t, e, k⟩ := q
  unfold eIf at e
  split at e
  · rename_i n1 h1
    refine tMT_run R t h1 fun ω1 H1 k1 R1 t1 => ?_
    rw [if_pos rfl]
    exact tM_run R1 t1 e fun v ω2 H2 k2 R2 t2 r2 => k v ω2 H2 (k1.trans k2) t2 r2
  · rename_i n1 h1
    refine tMT_run R t h1 fun ω1 H1 k1 R1 t1 => ?_
    rw [if_neg Bool.false_ne_true]
    exact tM_run R1 t1 e fun v ω2 H2 k2 R2 t2 r2 => k v ω2 H2 (k1.trans k2) t2 r2
  · cases e
/-! ### chains -/
theorem tChain_of {r r' : R2} {F G : D → D → Option D} (hF : Ok2 K r F) (hG : Ok2 K r' G) : ∀ σ H Q, tM K C (eChain F G f g h) σ H Q → tChain r r' (tM K C f) (tM K C g) (tM K C h) σ H Q := by
  intro σ H Q q
  obtain ⟨ω, env, n, d, n', R, t, e, k⟩ := q
  unfold eChain at e
  split at e
  · rename_i x n1 h1
    split at e
    · rename_i y n2 h2
      refine tM_run R t h1 fun v ω1 H1 k1 R1 t1 r1 => ?_
      refine tM_run R1 t1 h2 fun u ω2 H2 k2 R2 t2 r2 => ?_
      split at e
      · rename_i hb
        refine hF ω2 H2 v u x y _ _ R2.ok (r1.ext k2) r2 hb fun v' H3 s r3 => ?_
        cases r3
        refine ⟨true, rfl, ?_⟩
        rw [if_pos rfl]
        split at e
        · rename_i z n3 h3
          cases qz : G y z with
          | none => rw [qz] at e; cases e
          | some w =>
            rw [qz] at e
            have e2 : some (w, n3) = some (d, n') := e
            cases e2
            have k3 := (k1.trans k2).trans (Ext.of_same s)
            refine tM_run (R2.ext (Ext.of_same s) (t2.of_same s)) (t2.of_same s) h3 fun w' ω4 H4 k4 R4 t4 r4 => ?_
            exact hG ω4 H4 u w' y z d Q R4.ok ((r2.same s).ext k4) r4 qz fun v5 H5 s5 r5 => k v5 ω4 H5 ((k3.trans k4).trans (Ext.of_same s5)) (t4.of_same s5) r5
        · cases e
      · rename_i hb
        cases e
        refine hF ω2 H2 v u x y _ _ R2.ok (r1.ext k2) r2 hb fun v' H3 s r3 => ?_
        cases r3
        refine ⟨false, rfl, ?_⟩
        rw [if_neg Bool.false_ne_true]
        exact k _ ω2 H3 ((k1.trans k2).trans (Ext.of_same s)) (t2.of_same s) (.bl false)
      · cases e
    · cases e
  · cases e
theorem me_chain {op op' : CmpOp} {r r' : R2} {F G : D → D → Option D} (ho : OpR X (compareOp op) r) (ho' : OpR X (compareOp op') r') (hF : Ok2 X.K r F) (hG : Ok2 X.K r' G) (ha : ME X a f) (hb : ME X b g) (hc : ME X c h)
    (hm : lastMarks [op, op'] [b, c] = false := by with_unfolding_all rfl) : ME X (.Compare a [op, op'] [b, c] pos) (eChain F G f g h) :=
  pe_imp (pe_chain ho ho' ha hb hc hm) (tChain_of hF hG)
theorem mt_chain {op op' : CmpOp} {r r' : R2} {F G : D → D → Option D} (ho : OpR X (compareOp op) r) (ho' : OpR X (compareOp op') r') (hF : Ok2 X.K r F) (hG : Ok2 X.K r' G) (ha : ME X a f) (hb : ME X b g) (hc : ME X c h)
    (hm : lastMarks [op, op'] [b, c] = false := by with_unfolding_all rfl) : MT X (.Compare a [op, op'] [b, c] pos) (bV (eChain F G f g h)) := by
  refine pt_imp (pt_chain ho ho' ha hb hc hm) fun σ H Q q => ?_
  obtain ⟨ω, env, n, d, n', R, t, e, k⟩ := q
  unfold bV at e
  split at e
  · rename_i b n1 h1
    cases e
    refine tChain_of hF hG σ H _ (tM_run R t h1 fun v ω1 H1 k1 R1 t1 r1 => ?_)
    cases r1
    exact ⟨_, rfl, k ω1 H1 k1 t1⟩
  · cases e
/-! ### arguments, displays, built-ins -/
variable {fs : Fe (List D)}
theorem ma_nil : MA X [] aNil := by
  refine pa_imp pa_nil fun σ H Q q => ?_
  obtain ⟨ω, env, n, d, n', R, t, e, k⟩ := q
  cases e
  exact k [] ω H Ext.refl t .nil
theorem ma_cons (ha : ME X e f) (hr : MA X es fs) (hs : starEach (e :: es) X.env = (false, eval e X.env) :: starEach es X.env := by rfl) : MA X (e :: es) (aCons f fs) := by
  refine pa_imp (pa_cons ha hr hs) fun σ H Q q => ?_
  obtain ⟨ω, env, n, d, n', R, t, e, k⟩ := q
  unfold aCons at e
  split at e
  · rename_i x n1 h1
    split at e
    · rename_i y n2 h2
      cases e
      refine tM_run R t h1 fun v ω1 H1 k1 R1 t1 r1 => ?_
      refine tMA_run R1 t1 h2 fun u ω2 H2 k2 R2 t2 r2 => ?_
      exact k _ ω2 H2 (k1.trans k2) t2 (.cons (r1.ext k2) r2)
    · cases e
  · cases e
def lim : Nat := 16777216
theorem lim_eq : lim = sizeLine := by rw [sizeLine_eq]; rfl
def dTup (ds : List D) : Option D := if ds.length ≤ lim then some (.tuple ds) else none
def dLst (ds : List D) : Option D := if ds.length ≤ lim then some (.list ds) else none
theorem me_tup {x1} (h : MA X es fs) : ME X (.Tuple es x1 pos) (eL dTup fs) := by
  refine pe_imp (pe_tup h) fun σ H Q q => ?_
  obtain ⟨ω, env, n, d, n', R, t, e, k⟩ := q
  obtain ⟨ds, h1, h3⟩ := eL_inv e
  refine tMA_run R t h1 fun v ω1 H1 k1 R1 t1 r1 => ?_
  unfold dTup at h3
  split at h3
  · rename_i hl
    cases h3
    rw [lim_eq] at hl
    refine ⟨by rw [r1.length]; exact hl, fun p hp => ?_⟩
    have s : Same H1 (upd H1 p (.tup v)) := same_upd hp
    exact k _ ω1 _ (k1.trans (Ext.of_same s)) (t1.of_same s) (.tup upd_same hl (r1.same s))
  · cases h3
theorem me_lst (h : MA X es fs) : ME X (.List es pos) (eL dLst fs) := by
  refine pe_imp (pe_lst h) fun σ H Q q => ?_
  obtain ⟨ω, env, n, d, n', R, t, e, k⟩ := q
  obtain ⟨ds, h1, h3⟩ := eL_inv e
  refine tMA_run R t h1 fun v ω1 H1 k1 R1 t1 r1 => ?_
  unfold dLst at h3
  split at h3
  · rename_i hl
    cases h3
    rw [lim_eq] at hl
    refine ⟨by rw [r1.length]; exact hl, fun p hp => ?_⟩
    have s : Same H1 (upd H1 p (.lst v)) := same_upd hp
    exact k _ ω1 _ (k1.trans (Ext.of_same s)) (t1.of_same s) (.lst upd_same (R1.ok.notIn hp) hl (r1.same s))
  · cases h3
theorem tCB_of {r : List V → Hp → VK → Prop} {F : List D → Option D} (hF : OkL K r F) : ∀ σ H Q, tM K C (eL F fs) σ H Q → tCB r (tMA K C fs) σ H Q := by
  intro σ H Q q
  obtain ⟨ω, env, n, d, n', R, t, e, k⟩ := q
  obtain ⟨ds, h1, h3⟩ := eL_inv e
  refine tMA_run R t h1 fun v ω1 H1 k1 R1 t1 r1 => ?_
  exact hF ω1 H1 v ds d Q R1.ok r1 h3 fun v' H' s r3 => k v' ω1 H' (k1.trans (Ext.of_same s)) (t1.of_same s) r3
theorem me_callB {id : String} {x : Str} {p : Pos} {r : List V → Hp → VK → Prop} {F : List D → Option D} (hc : CallR X (.builtin id) r) (hF : OkL X.K r F) (hg : Gl X x) (hm : X.mg x = none) (hv : bootBuiltins x = some (.builtin id)) (ha : MA X (e :: es) fs)
    (hn : x ≠ "__name__" := by decide) (hdb : (x == ("__debug__" : Str)) = false := by decide) (he : starEach (e :: es) X.env = (false, eval e X.env) :: starEach es X.env := by rfl) (hpl : (backTo pos (starEach es X.env)).any (·.1) = false := by rfl) :
    ME X (.Call (.Name x p) (e :: es) [] pos) (eL F fs) := pe_imp (pe_callB hc hg hm hv ha hn hdb he hpl) (tCB_of hF)
theorem me_callTy {T : String} {x : Str} {p : Pos} {r : List V → Hp → VK → Prop} {F : List D → Option D} (hc : CallR X (.type T) r) (hF : OkL X.K r F) (hg : Gl X x) (hm : X.mg x = none) (hv : bootBuiltins x = some (.type T)) (ha : MA X (e :: es) fs)
    (hn : x ≠ "__name__" := by decide) (hdb : (x == ("__debug__" : Str)) = false := by decide) (he : starEach (e :: es) X.env = (false, eval e X.env) :: starEach es X.env := by rfl) (hpl : (backTo pos (starEach es X.env)).any (·.1) = false := by rfl) :
    ME X (.Call (.Name x p) (e :: es) [] pos) (eL F fs) := pe_imp (pe_callTy hc hg hm hv ha hn hdb he hpl) (tCB_of hF)
/-! ### slices -/
theorem mo_none : MO X none oNone := by
  refine ⟨fun pins s σ H Q I q => ?_⟩
  obtain ⟨ω, env, n, d, n', R, t, e, k⟩ := q
  cases e
  exact po_none.run pins s σ H Q I (k ω H Ext.refl t)
theorem mo_some (ha : ME X e f) : MO X (some e) (oSome f) := by
  refine ⟨fun pins s σ H Q I q => (po_some ha).run pins s σ H Q I ?_⟩
  obtain ⟨ω, env, n, d, n', R, t, e, k⟩ := q
  unfold oSome at e
  split at e
  · rename_i i n1 h1
    cases e
    refine tM_run R t h1 fun v ω1 H1 k1 R1 t1 r1 => ?_
    cases r1
    exact ⟨_, rfl, k ω1 H1 k1 t1⟩
  · cases e
theorem me_slice {lo hi : Option Expr} {p2 : Pos} {fl fh : Fe (Option Int)} {r : V → Option Int → Option Int → Hp → VK → Prop} {F : D → Option Int → Option Int → Option D} (hr : SlR X r) (hF : OkS X.K r F) (he : ME X e f) (hl : MO X lo fl) (hu : MO X hi fh) :
    ME X (.Subscript e (.Slice lo hi none p2) pos) (eSl F f fl fh) := by
  refine pe_imp (pe_slice hr he hl hu) fun σ H Q q => ?_
  obtain ⟨ω, env, n, d, n', R, t, e, k⟩ := q
  unfold eSl at e
  split at e
  · rename_i x n1 h1
    split at e
    · rename_i l n2 h2
      split at e
      · rename_i u n3 h3
        cases qz : F x l u with
        | none => rw [qz] at e; cases e
        | some w =>
          rw [qz] at e
          have e2 : some (w, n3) = some (d, n') := e
          cases e2
          refine tM_run R t h1 fun v ω1 H1 k1 R1 t1 r1 => ?_
          refine tMO_run R1 t1 h2 fun ω2 H2 k2 R2 t2 => ?_
          refine tMO_run R2 t2 h3 fun ω3 H3 k3 R3 t3 => ?_
          exact hF ω3 H3 v x _ l u Q R3.ok ((r1.ext k2).ext k3) qz fun v' H' s r3 => k v' ω3 H' (((k1.trans k2).trans k3).trans (Ext.of_same s)) (t3.of_same s) r3
      · cases e
    · cases e
  · cases e
end


theorem OpR.or {X : Cx} {f : Value → Value → Sem Value} {r r' : R2} (h : OpR X f r) (h' : OpR X f r') : OpR X f (fun x y H Q => r x y H Q ∨ r' x y H Q) := by
  intro pins s σ H x y v u Q I rx ry q
  rcases q with q | q
  · exact h pins s σ H x y v u Q I rx ry q
  · exact h' pins s σ H x y v u Q I rx ry q

section
variable {K : PySem.W.Frag} {ω : Wd} {H : Hp} {xs : List V} {ds : List D} {Q : VK}
/-- a new list, a new tuple as data -/
theorem new_lst (c : Cok ω H) (r : RpL K ω H xs ds) (l : ds.length ≤ sizeLine) (k : ∀ v H', Same H H' → Rp K ω H' v (.list ds) → Q v H') : ∀ p, H p = none → Q (.ref p) (upd H p (.lst xs)) := fun p hp =>
  k _ _ (same_upd hp) (.lst upd_same (c.notIn hp) l (r.same (same_upd hp)))
theorem new_tup (c : Cok ω H) (r : RpL K ω H xs ds) (l : ds.length ≤ sizeLine) (k : ∀ v H', Same H H' → Rp K ω H' v (.tuple ds) → Q v H') : ∀ p, H p = none → Q (.ref p) (upd H p (.tup xs)) := fun p hp =>
  k _ _ (same_upd hp) (.tup upd_same l (r.same (same_upd hp)))
end

/-! ### + -/
def dAdd : D → D → Option D
  | .int i, .int j => some (.int (i + j))
  | .list xs, .list ys => if xs.length + ys.length ≤ lim then some (.list (xs ++ ys)) else none
  | .tuple xs, .tuple ys => if xs.length + ys.length ≤ lim then some (.tuple (xs ++ ys)) else none
  | .str x, .str y => if x.length + y.length ≤ lim then some (.str (x ++ y)) else none
  | _, _ => none
def rAddA (K : PySem.W.Frag) : R2 := fun x y H Q => rI0 (fun i j => .int (i + j)) x y H Q ∨ rCat x y H Q ∨ rCatA K x y H Q ∨ (∃ i j, x = .str i ∧ y = .str j ∧ i.length + j.length ≤ sizeLine ∧ Q (.str (i ++ j)) H)
theorem op_addA {X : Cx} : OpR X (binaryOp .Add) (rAddA X.K) := op_add.or (op_cat.or (op_catA.or op_add_str))
theorem str_len_app (x y : Str) : (x ++ y).length = x.length + y.length := by
  show (Array.append x.cps y.cps).size = _
  simp [Str.length]
theorem ok_add (K : PySem.W.Frag) : Ok2 K (rAddA K) dAdd := by
  intro ω H x y d1 d2 d Q c r1 r2 e k
  unfold dAdd at e
  split at e
  · cases e; cases r1; cases r2
    exact .inl ⟨_, _, rfl, rfl, k _ _ (Same.refl _) (.int _)⟩
  · split at e
    · rename_i hl
      cases e
      rw [lim_eq] at hl
      cases r1 with
      | lst h1 n1 l1 q1 =>
        cases r2 with
        | lst h2 n2 l2 q2 =>
          refine .inr (.inl ⟨_, _, _, _, rfl, rfl, h1, h2, by rw [q1.length, q2.length]; exact hl, new_lst c (q1.append q2) (by rw [List.length_append]; exact hl) k⟩)
    · cases e
  · split at e
    · rename_i hl
      cases e
      rw [lim_eq] at hl
      cases r1 with
      | tup h1 l1 q1 =>
        cases r2 with
        | tup h2 l2 q2 =>
          refine .inr (.inr (.inl ⟨_, _, _, _, rfl, rfl, SqT.of h1, SqT.of h2, by rw [q1.length, q2.length]; exact hl, fun z => ?_, fun _ z => ?_, fun _ _ => new_tup c (q1.append q2) (by rw [List.length_append]; exact hl) k⟩))
          · subst z
            cases q1
            exact k _ _ (Same.refl _) (.tup h2 l2 q2)
          · subst z
            cases q2
            rw [List.append_nil] at k
            exact k _ _ (Same.refl _) (.tup h1 l1 q1)
    · cases e
  · split at e
    · rename_i hl
      cases e
      rw [lim_eq] at hl
      cases r1; cases r2
      exact .inr (.inr (.inr ⟨_, _, rfl, rfl, hl, k _ _ (Same.refl _) (.str _ (by rw [str_len_app]; exact hl))⟩))
    · cases e
  · cases e
/-! ### ints -/
def dI2 (C : Int → Int → Bool) (g : Int → Int → Int) : D → D → Option D
  | .int i, .int j => if C i j then some (.int (g i j)) else none
  | _, _ => none
theorem ok_i2 (K : PySem.W.Frag) {C : Int → Int → Prop} {C' : Int → Int → Bool} {g : Int → Int → Int} (h : ∀ i j, C' i j = true → C i j) : Ok2 K (rI C fun i j => .int (g i j)) (dI2 C' g) := by
  intro ω H x y d1 d2 d Q c r1 r2 e k
  unfold dI2 at e
  split at e
  · split at e
    · rename_i hc
      cases e; cases r1; cases r2
      exact ⟨_, _, rfl, rfl, h _ _ hc, k _ _ (Same.refl _) (.int _)⟩
    · cases e
  · cases e
def dSub : D → D → Option D
  | .int i, .int j => some (.int (i - j))
  | _, _ => none
theorem ok_sub (K : PySem.W.Frag) : Ok2 K (rI0 fun i j => .int (i - j)) dSub := by
  intro ω H x y d1 d2 d Q c r1 r2 e k
  unfold dSub at e
  split at e
  · cases e; cases r1; cases r2
    exact ⟨_, _, rfl, rfl, k _ _ (Same.refl _) (.int _)⟩
  · cases e
def smallI (i : Int) : Bool := decide (-(2 ^ 64) < i) && decide (i < 2 ^ 64)
theorem smallI_ok {i : Int} (h : smallI i = true) : -(2 ^ 64) < i ∧ i < 2 ^ 64 := by
  unfold smallI at h
  rw [Bool.and_eq_true] at h
  exact ⟨of_decide_eq_true h.1, of_decide_eq_true h.2⟩
def dFdiv : D → D → Option D := dI2 (fun _ j => decide (0 < j) && decide (j < 1073741824)) (fun i j => i / j)
def dMod : D → D → Option D := dI2 (fun _ j => decide (0 < j)) (fun i j => i % j)
def dPow : D → D → Option D := dI2 (fun i j => decide (0 ≤ j) && decide (j ≤ 1000000) && decide (i.natAbs < 2 ^ 64)) (fun i j => i ^ j.toNat)
theorem ok_fdiv (K : PySem.W.Frag) : Ok2 K (rI CDiv fun i j => .int (i / j)) dFdiv := ok_i2 K fun i j h => by
  rw [Bool.and_eq_true] at h
  exact ⟨of_decide_eq_true h.1, of_decide_eq_true h.2⟩
theorem ok_mod (K : PySem.W.Frag) : Ok2 K (rI (fun _ j => 0 < j) fun i j => .int (i % j)) dMod := ok_i2 K fun i j h => of_decide_eq_true h
theorem ok_pow (K : PySem.W.Frag) : Ok2 K (rI CPow fun i j => .int (i ^ j.toNat)) dPow := ok_i2 K fun i j h => by
  rw [Bool.and_eq_true, Bool.and_eq_true] at h
  exact ⟨of_decide_eq_true h.1.1, of_decide_eq_true h.1.2, of_decide_eq_true h.2⟩
def dNeg : D → Option D
  | .int i => some (.int (-i))
  | _ => none
theorem ok_neg (K : PySem.W.Frag) : Ok1 K (rU fun i => .int (-i)) dNeg := by
  intro ω H x d d' Q c r e k
  unfold dNeg at e
  split at e
  · cases e; cases r
    exact ⟨_, rfl, k _ _ (Same.refl _) (.int _)⟩
  · cases e
/-! ### * : ints, list * int, tuple * int -/
def dMul : D → D → Option D
  | .int i, .int j => if smallI i || smallI j then some (.int (i * j)) else none
  | .list xs, .int k => if decide (k < 2 ^ 63) && decide (-(2 ^ 63) ≤ k) && decide (xs.length * k.toNat ≤ lim) then some (.list (List.replicate k.toNat xs).flatten) else none
  | .tuple xs, .int k => if !xs.isEmpty && decide (0 ≤ k) && decide (k ≤ 1000) && decide (xs.length ≤ 1000) then some (.tuple (List.replicate k.toNat xs).flatten) else none
  | _, _ => none
/-- t * 0, t * 1 -/
def rRepT01 (K : PySem.W.Frag) : R2 := fun x y H Q => ∃ l k xs, x = .ref l ∧ y = .int k ∧ SqT K H l xs ∧ xs ≠ [] ∧ ((k = 1 ∧ Q (.ref l) H) ∨ (k = 0 ∧ ∀ p, H p = none → Q (.ref p) (upd H p (.tup []))))

section
variable {X : Cx}
theorem tuple_mul0 (l : Addr) (items : Array Value) (n : Nat) (dd : Option Addr) (sl : Array (Option Value)) (x : Int) (u : Tok) (hx : x = 0) (c1 : (items.isEmpty || x == 1) = false) :
    Meets (Builtin.«tuple.__mul__» ⟨[.ref l, .int x u], []⟩) (fun _ R s => s.heap.get? l = some { cls := .type "tuple", dict := dd, data := .seq items n, slots := sl } ∧
      R (.ok (.ret (Value.ref s.heap.objs.size))) { s with heap := s.heap.push { cls := Value.type "tuple", data := Data.seq #[] }, toks := s.toks }) :=
  .of_wp fun prog w A R s h => by
    obtain ⟨hp, g, d, tk, os⟩ := s
    obtain ⟨hl, h⟩ := h
    have f1 := AutoSeq1.idx_int
    subst hx
    wp_walk using wpAny_loadPart' hl
    repeat (first
      | (refine wpAny_ite_false (decide_eq_false (by rw [c1]; exact Bool.false_ne_true)) ?_; wp_walk using wpAny_loadPart' hl)
      | (refine wpAny_ite_true (decide_eq_true (by simp)) ?_; wp_walk using wpAny_loadPart' hl)
      | (refine wpAny_ite_false (decide_eq_false (by simp)) ?_; wp_walk using wpAny_loadPart' hl))
    exact ⟨_, rfl, h⟩
theorem tuple_mul1 (l : Addr) (items : Array Value) (n : Nat) (dd : Option Addr) (sl : Array (Option Value)) (x : Int) (u : Tok) (hx : x = 1) :
    Meets (Builtin.«tuple.__mul__» ⟨[.ref l, .int x u], []⟩) (fun _ R s => s.heap.get? l = some { cls := .type "tuple", dict := dd, data := .seq items n, slots := sl } ∧
      R (.ok (.ret (Value.ref l))) s) :=
  .of_wp fun prog w A R s h => by
    obtain ⟨hp, g, d, tk, os⟩ := s
    obtain ⟨hl, h⟩ := h
    have f1 := AutoSeq1.idx_int
    subst hx
    wp_walk using wpAny_loadPart' hl
    repeat (first
      | (refine wpAny_ite_true (decide_eq_true (by simp)) ?_; wp_walk using wpAny_loadPart' hl)
      | (refine wpAny_ite_false (decide_eq_false (by simp)) ?_; wp_walk using wpAny_loadPart' hl))
    exact ⟨_, rfl, h⟩
theorem op_repT01 : OpR X (binaryOp .Mult) (rRepT01 X.K) := by
  intro pins s σ H x y v u Q I rx ry h
  obtain ⟨l, k, xs, rfl, rfl, hT, hne, q⟩ := h
  cases rx
  obtain ⟨t, rfl⟩ := ry
  obtain ⟨its, r, ⟨⟨cls, dd, data, sl⟩, ho, hc, n, hd⟩, hs⟩ := I.tuple hT
  simp only at hc hd
  subst hc hd
  have hle : its.length = xs.length := r.length.symm
  have hn : its ≠ [] := fun e => hne (by
    rw [e] at hle
    exact List.eq_nil_of_length_eq_zero hle.symm)
  have hi : its.toArray.isEmpty = false := by
    cases its with
    | nil => exact absurd rfl hn
    | cons a b => rfl
  rcases q with ⟨rfl, q⟩ | ⟨rfl, q⟩
  · refine wpAny_binaryOp_repeat_ref (T := "tuple") (U := "int") (by decide) ⟨_, ho, rfl⟩ (fun s' => typeIs_int s' 1 t) noFill_tuple_mul F.fills_int_mul F.slot_int_rmul repeat_tuple F.slot_int_index.lookup
      (call_meets F.slot_int_rmul (typeIs_int s 1 t) F.entry_int_rmul (F.args_int_rmul_2 _ _) (int_rmul_tuple 1 t l its.toArray n dd sl)
        ⟨ho, rfl, ⟨_, ho, rfl⟩, call_meets F.slot_tuple_mul ⟨_, ho, rfl⟩ F.entry_tuple_mul (F.args_tuple_mul_2 _ _) (tuple_mul1 l its.toArray n dd sl 1 t rfl) ⟨ho, ?_⟩⟩)
    exact ⟨.ref l, H, I, rfl, q⟩
  · refine wpAny_binaryOp_repeat_ref (T := "tuple") (U := "int") (by decide) ⟨_, ho, rfl⟩ (fun s' => typeIs_int s' 0 t) noFill_tuple_mul F.fills_int_mul F.slot_int_rmul repeat_tuple F.slot_int_index.lookup
      (call_meets F.slot_int_rmul (typeIs_int s 0 t) F.entry_int_rmul (F.args_int_rmul_2 _ _) (int_rmul_tuple 0 t l its.toArray n dd sl)
        ⟨ho, rfl, ⟨_, ho, rfl⟩, call_meets F.slot_tuple_mul ⟨_, ho, rfl⟩ F.entry_tuple_mul (F.args_tuple_mul_2 _ _) (tuple_mul0 l its.toArray n dd sl 0 t rfl (by rw [hi]; rfl)) ⟨ho, ?_⟩⟩)
    refine ⟨.ref s.heap.objs.size, _, I.laid (t' := s.toks) (o := .tup []) (fun b ob q => Heap.get?_push_of_some _ q) (Nat.le_refl _) ?_, rfl, q _ (I.hok.fresh (Nat.le_refl _))⟩
    exact ⟨Nat.zero_le _, [], .nil, IsTup.new _ _⟩
end
def rMulA (K : PySem.W.Frag) : R2 := fun x y H Q => rI CMul (fun i j => .int (i * j)) x y H Q ∨ rRep x y H Q ∨ rRepT K x y H Q ∨ rRepT01 K x y H Q
theorem op_mulA {X : Cx} : OpR X (binaryOp .Mult) (rMulA X.K) := op_mul.or (op_rep.or (op_repT.or op_repT01))
theorem flat_rep_len {α : Type} (xs : List α) (k : Nat) : (List.replicate k xs).flatten.length = k * xs.length := by
  induction k with
  | zero => simp
  | succ k ih => rw [List.replicate_succ, List.flatten_cons, List.length_append, ih, Nat.succ_mul, Nat.add_comm]
theorem ok_mul (K : PySem.W.Frag) : Ok2 K (rMulA K) dMul := by
  intro ω H x y d1 d2 d Q c r1 r2 e k
  unfold dMul at e
  split at e
  · split at e
    · rename_i hc
      cases e; cases r1; cases r2
      rw [Bool.or_eq_true] at hc
      exact .inl ⟨_, _, rfl, rfl, hc.imp smallI_ok smallI_ok, k _ _ (Same.refl _) (.int _)⟩
    · cases e
  · split at e
    · rename_i xs kk hc
      cases e
      rw [Bool.and_eq_true, Bool.and_eq_true] at hc
      cases r2
      have hl := of_decide_eq_true hc.2
      rw [lim_eq] at hl
      cases r1 with
      | lst h1 n1 l1 q1 =>
        refine .inr (.inl ⟨_, _, _, rfl, rfl, h1, of_decide_eq_true hc.1.2, of_decide_eq_true hc.1.1, by rw [q1.length]; exact hl, ?_⟩)
        exact new_lst c (q1.rep _) (by rw [flat_rep_len, Nat.mul_comm]; exact hl) k
    · cases e
  · split at e
    · rename_i xs kk hc
      cases e
      rw [Bool.and_eq_true, Bool.and_eq_true, Bool.and_eq_true] at hc
      obtain ⟨⟨⟨hne, h0⟩, h1⟩, h2⟩ := hc
      have h0 := of_decide_eq_true h0
      have h1 := of_decide_eq_true h1
      have h2 := of_decide_eq_true h2
      cases r2
      cases r1 with
      | tup g1 l1 q1 =>
        have hx := q1.length
        have hne' : xs ≠ [] := fun z => by subst z; simp at hne
        rename_i a ys
        have hy : ys ≠ [] := fun z => by
          subst z
          rw [List.length_nil] at hx
          exact hne' (List.eq_nil_of_length_eq_zero hx.symm)
        by_cases k1 : kk = 1
        · subst k1
          refine .inr (.inr (.inr ⟨_, _, _, rfl, rfl, SqT.of g1, hy, .inl ⟨rfl, k _ _ (Same.refl _) ?_⟩⟩))
          have : (List.replicate (1 : Int).toNat xs).flatten = xs := by simp
          rw [this]
          exact .tup g1 l1 q1
        · by_cases k0 : kk = 0
          · subst k0
            refine .inr (.inr (.inr ⟨_, _, _, rfl, rfl, SqT.of g1, hy, .inr ⟨rfl, new_tup (K := K) c .nil (Nat.zero_le _) ?_⟩⟩))
            have : (List.replicate (0 : Int).toNat xs).flatten = [] := by simp
            rw [this] at k
            exact k
          · refine .inr (.inr (.inl ⟨_, _, _, rfl, rfl, SqT.of g1, hy, by omega, h1, by rw [hx]; exact h2, new_tup c (q1.rep _) ?_ k⟩))
            rw [flat_rep_len, sizeLine_eq]
            have a1 : kk.toNat * xs.length ≤ 1000 * 1000 := Nat.mul_le_mul (by omega) h2
            omega
    · cases e
  · cases e
/-! ### comparisons -/
def dCmp (p : Int → Int → Bool) : D → D → Option D
  | .int i, .int j => some (.bool (p i j))
  | _, _ => none
theorem ok_cmp (K : PySem.W.Frag) {p : Int → Int → Bool} : Ok2 K (rI0 fun i j => .bl (p i j)) (dCmp p) := by
  intro ω H x y d1 d2 d Q c r1 r2 e k
  unfold dCmp at e
  split at e
  · cases e; cases r1; cases r2
    exact ⟨_, _, rfl, rfl, k _ _ (Same.refl _) (.bl _)⟩
  · cases e
def dLt : D → D → Option D := dCmp fun i j => decide (i < j)
def dLe : D → D → Option D := dCmp fun i j => decide (i ≤ j)
def dGt : D → D → Option D := dCmp fun i j => decide (j < i)
def dGe : D → D → Option D := dCmp fun i j => decide (j ≤ i)
def dEq (d e : D) : Option D := if SeqAt.shaped d && SeqAt.shaped e then some (.bool (PyData.eqv d e)) else none
def dNe (d e : D) : Option D := if SeqAt.shaped d && SeqAt.shaped e then some (.bool (!PyData.eqv d e)) else none
theorem lay_of {d : D} (h : SeqAt.shaped d = true) : d.canLay0 = true := SeqAt.canLay_of_shaped h
theorem ok_eq (K : PySem.W.Frag) : Ok2 K (rEqD K) dEq := by
  intro ω H x y d1 d2 d Q c r1 r2 e k
  unfold dEq at e
  split at e
  · rename_i h
    rw [Bool.and_eq_true] at h
    cases e
    exact ⟨_, _, r1.dp (lay_of h.1), r2.dp (lay_of h.2), h.1, h.2, k _ _ (Same.refl _) (.bl _)⟩
  · cases e
theorem ok_ne (K : PySem.W.Frag) : Ok2 K (rNeD K) dNe := by
  intro ω H x y d1 d2 d Q c r1 r2 e k
  unfold dNe at e
  split at e
  · rename_i h
    rw [Bool.and_eq_true] at h
    cases e
    exact ⟨_, _, r1.dp (lay_of h.1), r2.dp (lay_of h.2), h.1, h.2, k _ _ (Same.refl _) (.bl _)⟩
  · cases e
/-- is None -/
def isNon : D → Bool
  | .none => true
  | _ => false
def dIs : D → D → Option D
  | d, .none => some (.bool (isNon d))
  | .bool a, .bool b => some (.bool (a == b))
  | _, _ => none
def dIsNot : D → D → Option D
  | d, .none => some (.bool (!isNon d))
  | .bool a, .bool b => some (.bool (!(a == b)))
  | _, _ => none
theorem isNon_eq {K : PySem.W.Frag} {ω : Wd} {H : Hp} {v : V} {d : D} (r : Rp K ω H v d) : decide (v = .non) = isNon d := by
  cases r <;> rfl
def rIsA : R2 := fun x y H Q => (y = .non ∧ Q (.bl (decide (x = .non))) H) ∨ rIsB x y H Q
def rIsNotA : R2 := fun x y H Q => (y = .non ∧ Q (.bl (!decide (x = .non))) H) ∨ rNotB x y H Q
theorem op_isA {X : Cx} : OpR X (compareOp .Is) rIsA := op_isN.or op_isBl
theorem op_isNotA {X : Cx} : OpR X (compareOp .IsNot) rIsNotA := op_notN.or op_notBl
theorem beq_dec (a b : Bool) : decide (a = b) = (a == b) := by cases a <;> cases b <;> rfl
theorem ok_is (K : PySem.W.Frag) : Ok2 K rIsA dIs := by
  intro ω H x y d1 d2 d Q c r1 r2 e k
  unfold dIs at e
  split at e
  · cases e; cases r2
    refine .inl ⟨rfl, ?_⟩
    rw [isNon_eq r1]
    exact k _ _ (Same.refl _) (.bl _)
  · cases e; cases r1; cases r2
    refine .inr ⟨_, _, rfl, rfl, ?_⟩
    rw [beq_dec]
    exact k _ _ (Same.refl _) (.bl _)
  · cases e
theorem ok_isNot (K : PySem.W.Frag) : Ok2 K rIsNotA dIsNot := by
  intro ω H x y d1 d2 d Q c r1 r2 e k
  unfold dIsNot at e
  split at e
  · cases e; cases r2
    refine .inl ⟨rfl, ?_⟩
    rw [isNon_eq r1]
    exact k _ _ (Same.refl _) (.bl _)
  · cases e; cases r1; cases r2
    refine .inr ⟨_, _, rfl, rfl, ?_⟩
    rw [beq_dec]
    exact k _ _ (Same.refl _) (.bl _)
  · cases e
/-! ### items, slices -/
def dIx : D → D → Option D
  | .list ds, .int i => atI ds i
  | .tuple ds, .int i => atI ds i
  | .str z, .int i => (atI z.cps.toList i).map fun c => .str ⟨#[c]⟩
  | _, _ => none
theorem atI_rp {K : PySem.W.Frag} {ω : Wd} {H : Hp} {vs : List V} {ds : List D} {i : Int} {d : D} (r : RpL K ω H vs ds) (h : atI ds i = some d) : ∃ v, atI vs i = some v ∧ Rp K ω H v d := by
  unfold atI at h ⊢
  rw [r.length]
  cases q : ixN ds.length i with
  | none => rw [q] at h; cases h
  | some j =>
    rw [q] at h
    exact r.get h
theorem ok_ix (K : PySem.W.Frag) : Ok2 K (rIx K) dIx := by
  intro ω H x y d1 d2 d Q c r1 r2 e k
  unfold dIx at e
  split at e
  · cases r2
    cases r1 with
    | lst h1 n1 l1 q1 =>
      obtain ⟨v, h2, h3⟩ := atI_rp q1 e
      exact .inl ⟨_, _, _, _, rfl, rfl, SqL.of h1, h2, k _ _ (Same.refl _) h3⟩
  · cases r2
    cases r1 with
    | tup h1 l1 q1 =>
      obtain ⟨v, h2, h3⟩ := atI_rp q1 e
      exact .inr (.inl ⟨_, _, _, _, rfl, rfl, SqT.of h1, h2, k _ _ (Same.refl _) h3⟩)
  · cases r2
    cases r1 with
    | str _ hz =>
      rename_i z i
      cases q : atI z.cps.toList i with
      | none => rw [q] at e; cases e
      | some ch =>
        rw [q] at e
        cases e
        exact .inr (.inr ⟨_, _, _, rfl, rfl, hz, q, k _ _ (Same.refl _) (.str _ (by show 1 ≤ sizeLine; rw [sizeLine_eq]; omega))⟩)
  · cases e
def cutD {α : Type} (xs : List α) (lo hi : Option Int) : List α := (xs.drop (HT.sIx xs.length 0 lo)).take (HT.sIx xs.length xs.length hi - HT.sIx xs.length 0 lo)
def dSl : D → Option Int → Option Int → Option D
  | .list ds, lo, hi => some (.list (cutD ds lo hi))
  | .tuple ds, lo, hi => some (.tuple (cutD ds lo hi))
  | _, _, _ => none
def rSlAll (K : PySem.W.Frag) : V → Option Int → Option Int → Hp → VK → Prop := fun x lo hi H Q => rSlL K x lo hi H Q ∨ rSlA K x lo hi H Q
theorem sl_all {X : Cx} : SlR X (rSlAll X.K) := sl_list.or sl_tupA
theorem cut_rp {K : PySem.W.Frag} {ω : Wd} {H : Hp} {vs : List V} {ds : List D} {lo hi : Option Int} (r : RpL K ω H vs ds) : RpL K ω H (cutV vs lo hi) (cutD ds lo hi) := by
  unfold cutV cutD
  rw [r.length]
  exact (r.drop _).take _
theorem cutD_len {α : Type} (xs : List α) (lo hi : Option Int) : (cutD xs lo hi).length ≤ xs.length := by
  unfold cutD
  rw [List.length_take, List.length_drop]
  omega
theorem cutD_whole {α : Type} (xs : List α) (lo hi : Option Int) (h : HT.sIx xs.length 0 lo = 0 ∧ HT.sIx xs.length xs.length hi = xs.length) : cutD xs lo hi = xs := by
  unfold cutD
  rw [h.1, h.2]
  simp
theorem ok_sl (K : PySem.W.Frag) : OkS K (rSlAll K) dSl := by
  intro ω H x d d' lo hi Q c r e k
  unfold dSl at e
  split at e
  · cases e
    cases r with
    | lst h1 n1 l1 q1 => exact .inl ⟨_, _, rfl, SqL.of h1, new_lst c (cut_rp q1) (Nat.le_trans (cutD_len _ _ _) l1) k⟩
  · cases e
    cases r with
    | tup h1 l1 q1 =>
      refine .inr ⟨_, _, rfl, SqT.of h1, fun hw => ?_, fun _ => new_tup c (cut_rp q1) (Nat.le_trans (cutD_len _ _ _) l1) k⟩
      rw [q1.length] at hw
      rw [cutD_whole _ _ _ hw] at k
      exact k _ _ (Same.refl _) (.tup h1 l1 q1)
  · cases e
/-- xs[::-1] of a list -/
def dRev : D → Option D
  | .list ds => some (.list ds.reverse)
  | _ => none
theorem me_rev {X : Cx} {e : Expr} {f : FE} {k : Nat} {p1 p2 p3 pos : Pos} (he : ME X e f) : ME X (.Subscript e (.Slice none none (some (.UnaryOp .USub (.Constant (.int 1) k p1) p2)) p3) pos) (e1 dRev f) := by
  refine pe_imp (pe_revL he) fun σ H Q q => ?_
  obtain ⟨ω, env, n, d, n', R, t, e, k⟩ := q
  obtain ⟨x, h1, h3⟩ := e1_inv e
  refine tM_run R t h1 fun v ω1 H1 k1 R1 t1 r1 => ?_
  unfold dRev at h3
  split at h3
  · cases h3
    cases r1 with
    | lst g1 n1 l1 q1 =>
      refine ⟨_, _, rfl, SqL.of g1, new_lst R1.ok q1.reverse (by rw [List.length_reverse]; exact l1) fun v' H' s r' => k v' ω1 H' (k1.trans (Ext.of_same s)) (t1.of_same s) r'⟩
  · cases h3


/-! ### lists of ints, of bools -/
def ints? : List D → Option (List Int)
  | [] => some []
  | .int i :: r => (ints? r).map (i :: ·)
  | _ => none
def bools? : List D → Option (List Bool)
  | [] => some []
  | .bool i :: r => (bools? r).map (i :: ·)
  | _ => none
theorem ints?_eq : ∀ {ds : List D} {ns : List Int}, ints? ds = some ns → ds = ns.map .int
  | [], ns, h => by
    cases (show some [] = some ns from h)
    rfl
  | .int i :: r, ns, h => by
    have h1 : (ints? r).map (i :: ·) = some ns := h
    cases q : ints? r with
    | none => rw [q] at h1; cases h1
    | some ms =>
      rw [q] at h1
      cases (show some (i :: ms) = some ns from h1)
      rw [List.map_cons, ints?_eq q]
  | .none :: _, _, h => nomatch h
  | .bool _ :: _, _, h => nomatch h
  | .str _ :: _, _, h => nomatch h
  | .list _ :: _, _, h => nomatch h
  | .tuple _ :: _, _, h => nomatch h
  | .dict _ :: _, _, h => nomatch h
theorem ints?_map : ∀ ns : List Int, ints? (ns.map .int) = some ns
  | [] => rfl
  | n :: r => by
    show (ints? (r.map .int)).map (n :: ·) = _
    rw [ints?_map r]
    rfl
theorem bools?_eq : ∀ {ds : List D} {ns : List Bool}, bools? ds = some ns → ds = ns.map .bool
  | [], ns, h => by
    cases (show some [] = some ns from h)
    rfl
  | .bool i :: r, ns, h => by
    have h1 : (bools? r).map (i :: ·) = some ns := h
    cases q : bools? r with
    | none => rw [q] at h1; cases h1
    | some ms =>
      rw [q] at h1
      cases (show some (i :: ms) = some ns from h1)
      rw [List.map_cons, bools?_eq q]
  | .none :: _, _, h => nomatch h
  | .int _ :: _, _, h => nomatch h
  | .str _ :: _, _, h => nomatch h
  | .list _ :: _, _, h => nomatch h
  | .tuple _ :: _, _, h => nomatch h
  | .dict _ :: _, _, h => nomatch h
theorem bools?_map : ∀ ns : List Bool, bools? (ns.map .bool) = some ns
  | [] => rfl
  | n :: r => by
    show (bools? (r.map .bool)).map (n :: ·) = _
    rw [bools?_map r]
    rfl
def maxL : List Int → Int
  | [] => 0
  | [x] => x
  | x :: y :: r => max x (maxL (y :: r))
def minL : List Int → Int
  | [] => 0
  | [x] => x
  | x :: y :: r => min x (minL (y :: r))
theorem maxL_mem : ∀ {ns : List Int}, ns ≠ [] → maxL ns ∈ ns
  | [], h => absurd rfl h
  | [x], _ => by simp [maxL]
  | x :: y :: r, _ => by
    have ih := maxL_mem (ns := y :: r) (by simp)
    unfold maxL
    by_cases h : x ≤ maxL (y :: r)
    · rw [Int.max_eq_right h]; exact List.mem_cons_of_mem _ ih
    · rw [Int.max_eq_left (by omega)]; exact List.mem_cons_self
theorem maxL_ge : ∀ {ns : List Int} {z : Int}, z ∈ ns → z ≤ maxL ns
  | [], _, h => by simp at h
  | [x], z, h => by simp at h; simp [maxL, h]
  | x :: y :: r, z, h => by
    unfold maxL
    rcases List.mem_cons.mp h with rfl | h
    · omega
    · have ih := maxL_ge (ns := y :: r) h
      omega
theorem maxL_eq {ns : List Int} {m : Int} (h : m ∈ ns) (h2 : ∀ y, y ∈ ns → y ≤ m) : m = maxL ns := by
  have h3 := maxL_ge h
  have h4 := h2 _ (maxL_mem (ns := ns) (by intro z; rw [z] at h; simp at h))
  omega
theorem minL_mem : ∀ {ns : List Int}, ns ≠ [] → minL ns ∈ ns
  | [], h => absurd rfl h
  | [x], _ => by simp [minL]
  | x :: y :: r, _ => by
    have ih := minL_mem (ns := y :: r) (by simp)
    unfold minL
    by_cases h : x ≤ minL (y :: r)
    · rw [Int.min_eq_left h]; exact List.mem_cons_self
    · rw [Int.min_eq_right (by omega)]; exact List.mem_cons_of_mem _ ih
theorem minL_le : ∀ {ns : List Int} {z : Int}, z ∈ ns → minL ns ≤ z
  | [], _, h => by simp at h
  | [x], z, h => by simp at h; simp [minL, h]
  | x :: y :: r, z, h => by
    unfold minL
    rcases List.mem_cons.mp h with rfl | h
    · omega
    · have ih := minL_le (ns := y :: r) h
      omega
theorem minL_eq {ns : List Int} {m : Int} (h : m ∈ ns) (h2 : ∀ y, y ∈ ns → m ≤ y) : m = minL ns := by
  have h3 := minL_le h
  have h4 := h2 _ (minL_mem (ns := ns) (by intro z; rw [z] at h; simp at h))
  omega

/-! ### sum, max, min of a tuple -/
section
variable {prog : Program} {w : World} {A : Around} {E : Value → Shared → Prop} {s : Shared} {l : Addr} {xs : Array (Int × Tok)}
theorem iter_intTup {Q : Value → Shared → Prop} (hl : s.heap.IsTuple l (intItems xs))
    (h : ∀ s₂ : Shared, s₂ = { s with heap := s.heap.push { cls := .type "tuple_iterator", data := .fields #[.ref l, .int 0 0] } } →
      (s₂.heap.IsTupleIter s.heap.objs.size l 0 ∧ s₂.heap.IsTuple l (intItems xs)) → (∀ b ∈ [s.heap.objs.size, l], b < s₂.heap.objs.size) → l ≠ s.heap.objs.size → Q (.ref s.heap.objs.size) s₂) :
    wpAny (model prog w) A (pyIter (.ref l)) Q E s := by
  have hlt : l < s.heap.objs.size := by obtain ⟨_, e, _⟩ := hl; exact Heap.lt_size e
  refine wpAny_pyIter_tuple hl (h _ rfl ⟨⟨_, Heap.get?_push_size _ rfl, rfl, rfl⟩, hl.push _⟩ (fun b hb => ?_) (Nat.ne_of_lt hlt))
  show b < (s.heap.push _).objs.size
  rw [Heap.size_push]
  rcases List.mem_cons.mp hb with rfl | hb
  · exact Nat.lt_succ_self _
  · rcases List.mem_cons.mp hb with rfl | hb
    · exact Nat.lt_succ_of_lt hlt
    · cases hb
theorem old_keptT {h' : Heap} {o' : Obj} (hk : ∀ b o, b ∉ [s.heap.objs.size] → (s.heap.push o').get? b = some o → h'.get? b = some o) :
    ∀ b o, s.heap.get? b = some o → h'.get? b = some o := fun b o e => by
  refine hk b o (fun hm => ?_) (Heap.get?_push_of_some _ e)
  rcases List.mem_cons.mp hm with e1 | hm
  · exact absurd (e1 ▸ Heap.lt_size e) (Nat.lt_irrefl _)
  · cases hm
theorem sum_intTup {Q : Value → Shared → Prop} (hh : A.handled = none) (hl : s.heap.IsTuple l (intItems xs))
    (h : ∀ h' tk t', (∀ b o, s.heap.get? b = some o → h'.get? b = some o) → Q (.int (preSum (numAt xs) xs.size) t') { s with heap := h', toks := tk }) :
    wpAny (model prog w) A (call (.builtin "sum") [.ref l]) Q E s := by
  refine call_sum_walkG (iter_intTup hl fun s₂ e st hfp hlI => ?_)
  subst e
  refine ⟨_, _, _, _, _, _, numAt xs, rfl, Walks.tuple (A := A.in1) hh _ l hlI (intItems xs), st, hfp, (fun _ _ => intItems_at), fun h' tk t' hk => ?_⟩
  have := h h' tk t' (old_keptT hk)
  simpa [intItems] using this
theorem max_intTup {Q : Value → Shared → Prop} (hh : A.handled = none) (hl : s.heap.IsTuple l (intItems xs)) (hne : 0 < xs.size)
    (h : ∀ v h' tk, (intItems xs)[argBest (fun i j => decide (numAt xs i > numAt xs j)) (xs.size - 1)]? = some v → (∀ b o, s.heap.get? b = some o → h'.get? b = some o) → Q v { s with heap := h', toks := tk }) :
    wpAny (model prog w) A (call (.builtin "max") [.ref l]) Q E s := by
  refine call_max_walk (iter_intTup hl fun s₂ e st hfp hlI => ?_)
  subst e
  refine ⟨_, _, _, _, _, _, _, rfl, Walks.tuple (A := A.in1) hh _ l hlI (intItems xs), st, hfp, by simpa [intItems] using hne, CmpOf.ints_gt (numAt xs) (fun _ _ => intItems_at), fun v h' tk hP hk => ?_⟩
  exact h v h' tk (by simpa [intItems] using hP) (old_keptT hk)
theorem min_intTup {Q : Value → Shared → Prop} (hh : A.handled = none) (hl : s.heap.IsTuple l (intItems xs)) (hne : 0 < xs.size)
    (h : ∀ v h' tk, (intItems xs)[argBest (fun i j => decide (numAt xs i < numAt xs j)) (xs.size - 1)]? = some v → (∀ b o, s.heap.get? b = some o → h'.get? b = some o) → Q v { s with heap := h', toks := tk }) :
    wpAny (model prog w) A (call (.builtin "min") [.ref l]) Q E s := by
  refine call_min_walk (iter_intTup hl fun s₂ e st hfp hlI => ?_)
  subst e
  refine ⟨_, _, _, _, _, _, _, rfl, Walks.tuple (A := A.in1) hh _ l hlI (intItems xs), st, hfp, by simpa [intItems] using hne, CmpOf.ints_lt (numAt xs) (fun _ _ => intItems_at), fun v h' tk hP hk => ?_⟩
  exact h v h' tk (by simpa [intItems] using hP) (old_keptT hk)
variable {its : List Value} {ns : List Int}
theorem sum_rawT {Q : Value → Shared → Prop} (hh : A.handled = none) (hl : s.heap.IsTuple l its.toArray) (hi : IntsAre its ns)
    (h : ∀ h' tk t', (∀ b o, s.heap.get? b = some o → h'.get? b = some o) → Q (.int ns.sum t') { s with heap := h', toks := tk }) : wpAny (model prog w) A (call (.builtin "sum") [.ref l]) Q E s := by
  obtain ⟨xs, e⟩ := hi.allInts.items
  have hn : numsOf (intItems xs).toList = ns := by rw [← e]; exact hi.numsOf
  rw [nums_intItems] at hn
  rw [e] at hl
  refine sum_intTup hh hl fun h' tk t' hk => ?_
  have := h h' tk t' hk
  rw [preSum_eq, List.take_of_length_le (by simp), hn]; exact this
theorem max_rawT {Q : Value → Shared → Prop} (hh : A.handled = none) (hl : s.heap.IsTuple l its.toArray) (hi : IntsAre its ns) (hne : 0 < ns.length)
    (h : ∀ h' tk M t', (∀ b o, s.heap.get? b = some o → h'.get? b = some o) → M ∈ ns → (∀ a, a ∈ ns → a ≤ M) → Q (.int M t') { s with heap := h', toks := tk }) : wpAny (model prog w) A (call (.builtin "max") [.ref l]) Q E s := by
  obtain ⟨xs, e⟩ := hi.allInts.items
  have hn : numsOf (intItems xs).toList = ns := by rw [← e]; exact hi.numsOf
  rw [nums_intItems] at hn
  subst hn
  rw [e] at hl
  have hsz : 0 < xs.size := by simpa using hne
  refine max_intTup hh hl hsz fun v h' tk hv hk => ?_
  obtain ⟨t, rfl⟩ := intItems_at hv
  obtain ⟨h1, h2⟩ := argBest_gt (numAt xs) (xs.size - 1)
  refine h h' tk _ t hk ?_ fun a ha => ?_
  · rw [numAt_eq]; exact PySem.getD_mem (by rw [List.length_map, Array.length_toList]; omega)
  · obtain ⟨j, hj, rfl⟩ := mem_getD ha
    rw [List.length_map, Array.length_toList] at hj
    rw [← numAt_eq]; exact h2 j (by omega)
theorem min_rawT {Q : Value → Shared → Prop} (hh : A.handled = none) (hl : s.heap.IsTuple l its.toArray) (hi : IntsAre its ns) (hne : 0 < ns.length)
    (h : ∀ h' tk M t', (∀ b o, s.heap.get? b = some o → h'.get? b = some o) → M ∈ ns → (∀ a, a ∈ ns → M ≤ a) → Q (.int M t') { s with heap := h', toks := tk }) : wpAny (model prog w) A (call (.builtin "min") [.ref l]) Q E s := by
  obtain ⟨xs, e⟩ := hi.allInts.items
  have hn : numsOf (intItems xs).toList = ns := by rw [← e]; exact hi.numsOf
  rw [nums_intItems] at hn
  subst hn
  rw [e] at hl
  have hsz : 0 < xs.size := by simpa using hne
  refine min_intTup hh hl hsz fun v h' tk hv hk => ?_
  obtain ⟨t, rfl⟩ := intItems_at hv
  obtain ⟨h1, h2⟩ := argBest_lt (numAt xs) (xs.size - 1)
  refine h h' tk _ t hk ?_ fun a ha => ?_
  · rw [numAt_eq]; exact PySem.getD_mem (by rw [List.length_map, Array.length_toList]; omega)
  · obtain ⟨j, hj, rfl⟩ := mem_getD ha
    rw [List.length_map, Array.length_toList] at hj
    rw [← numAt_eq]; exact h2 j (by omega)
end

section
variable {X : Cx}
def rSumT (K : PySem.W.Frag) : List V → Hp → VK → Prop := fun vs H Q => ∃ (a : Addr) (ns : List Int), vs = [V.ref a] ∧ SqT K H a (ns.map V.int) ∧ Q (.int ns.sum) H
def rMaxT (K : PySem.W.Frag) : List V → Hp → VK → Prop := fun vs H Q => ∃ (a : Addr) (ns : List Int), vs = [V.ref a] ∧ SqT K H a (ns.map V.int) ∧ 0 < ns.length ∧ ∀ m, m ∈ ns → (∀ y, y ∈ ns → y ≤ m) → Q (.int m) H
def rMinT (K : PySem.W.Frag) : List V → Hp → VK → Prop := fun vs H Q => ∃ (a : Addr) (ns : List Int), vs = [V.ref a] ∧ SqT K H a (ns.map V.int) ∧ 0 < ns.length ∧ ∀ m, m ∈ ns → (∀ y, y ∈ ns → m ≤ y) → Q (.int m) H
theorem cr_sumT (hc : X.calm = true) : CallR X (.builtin "sum") (rSumT X.K) := by
  intro pins s σ H vs us Q I r h
  obtain ⟨a, ns, rfl, hs, q⟩ := h
  obtain ⟨its, rv, hl, _⟩ := I.tuple hs
  rw [Vals.ref1 r]
  exact sum_rawT (I.ok.hd hc) hl rv.ints fun h' tk t' hk => ⟨.int _, H, I.kept hk, ⟨_, rfl⟩, q⟩
theorem cr_maxT (hc : X.calm = true) : CallR X (.builtin "max") (rMaxT X.K) := by
  intro pins s σ H vs us Q I r h
  obtain ⟨a, ns, rfl, hs, hne, q⟩ := h
  obtain ⟨its, rv, hl, _⟩ := I.tuple hs
  rw [Vals.ref1 r]
  exact max_rawT (I.ok.hd hc) hl rv.ints hne fun h' tk m t' hk h1 h2 => ⟨.int _, H, I.kept hk, ⟨_, rfl⟩, q m h1 h2⟩
theorem cr_minT (hc : X.calm = true) : CallR X (.builtin "min") (rMinT X.K) := by
  intro pins s σ H vs us Q I r h
  obtain ⟨a, ns, rfl, hs, hne, q⟩ := h
  obtain ⟨its, rv, hl, _⟩ := I.tuple hs
  rw [Vals.ref1 r]
  exact min_rawT (I.ok.hd hc) hl rv.ints hne fun h' tk m t' hk h1 h2 => ⟨.int _, H, I.kept hk, ⟨_, rfl⟩, q m h1 h2⟩
end
/-! ### the calls as data -/
def seq? : D → Option (List D)
  | .list ds => some ds
  | .tuple ds => some ds
  | _ => none
/-- a list or tuple at its place -/
theorem seq_rp {K : PySem.W.Frag} {ω : Wd} {H : Hp} {v : V} {d : D} {ds : List D} (r : Rp K ω H v d) (h : seq? d = some ds) : ∃ a xs, v = .ref a ∧ RpL K ω H xs ds ∧ ds.length ≤ sizeLine ∧ (H a = some (.lst xs) ∨ H a = some (.tup xs)) := by
  cases r with
  | lst h1 n1 l1 q1 => cases h; exact ⟨_, _, rfl, q1, l1, .inl h1⟩
  | tup h1 l1 q1 => cases h; exact ⟨_, _, rfl, q1, l1, .inr h1⟩
  | _ => cases h
theorem rpl1 {K : PySem.W.Frag} {ω : Wd} {H : Hp} {vs : List V} {d : D} (r : RpL K ω H vs [d]) : ∃ v, vs = [v] ∧ Rp K ω H v d := by
  cases r with
  | cons h t => cases t; exact ⟨_, rfl, h⟩
theorem rpl2 {K : PySem.W.Frag} {ω : Wd} {H : Hp} {vs : List V} {d e : D} (r : RpL K ω H vs [d, e]) : ∃ v u, vs = [v, u] ∧ Rp K ω H v d ∧ Rp K ω H u e := by
  cases r with
  | cons h t =>
    obtain ⟨u, rfl, h2⟩ := rpl1 t
    exact ⟨_, _, rfl, h, h2⟩
def c1 (F : D → Option D) : List D → Option D
  | [d] => F d
  | _ => none
def dLen : D → Option D
  | .str x => some (.int x.length)
  | .list ds => some (.int ds.length)
  | .tuple ds => some (.int ds.length)
  | _ => none
def dSum (d : D) : Option D := ((seq? d).bind ints?).map fun ns => .int ns.sum
def dMax (d : D) : Option D := ((seq? d).bind ints?).bind fun ns => if ns.isEmpty then none else some (.int (maxL ns))
def dMin (d : D) : Option D := ((seq? d).bind ints?).bind fun ns => if ns.isEmpty then none else some (.int (minL ns))
def lst? : D → Option (List D)
  | .list ds => some ds
  | _ => none
def dAny (d : D) : Option D := ((lst? d).bind bools?).map fun ns => .bool (ns.any id)
def dAll (d : D) : Option D := ((lst? d).bind bools?).map fun ns => .bool (ns.all id)
def dList (d : D) : Option D := (seq? d).map .list
def dTuple (d : D) : Option D := (seq? d).map .tuple
section
variable (K : PySem.W.Frag)
def rLenA : List V → Hp → VK → Prop := fun xs H Q => (∃ p ys, xs = [.ref p] ∧ (SqL K H p ys ∨ SqT K H p ys) ∧ Q (.int ys.length) H) ∨ (∃ z, xs = [.str z] ∧ z.length ≤ sizeLine ∧ Q (.int z.length) H)
theorem cr_len {X : Cx} : CallR X (.builtin "len") (rLenA X.K) := call_len_seq.or call_len_str
theorem ok_len : OkL K (rLenA K) (c1 dLen) := by
  intro ω H xs ds d Q c r e k
  unfold c1 at e
  split at e
  · obtain ⟨v, rfl, h⟩ := rpl1 r
    unfold dLen at e
    split at e
    · cases e
      cases h with
      | str _ hz => exact .inr ⟨_, rfl, hz, k _ _ (Same.refl _) (.int _)⟩
    · cases e
      cases h with
      | lst h1 n1 l1 q1 =>
        refine .inl ⟨_, _, rfl, .inl (SqL.of h1), ?_⟩
        rw [q1.length]
        exact k _ _ (Same.refl _) (.int _)
    · cases e
      cases h with
      | tup h1 l1 q1 =>
        refine .inl ⟨_, _, rfl, .inr (SqT.of h1), ?_⟩
        rw [q1.length]
        exact k _ _ (Same.refl _) (.int _)
    · cases e
  · cases e
theorem seqi_inv {d : D} {ns : List Int} (h : (seq? d).bind ints? = some ns) : seq? d = some (ns.map .int) := by
  cases q : seq? d with
  | none => rw [q] at h; cases h
  | some ds => rw [q] at h; rw [ints?_eq h]
theorem seqb_inv {d : D} {ns : List Bool} (h : (lst? d).bind bools? = some ns) : d = .list (ns.map .bool) := by
  unfold lst? at h
  split at h
  · rw [bools?_eq h]
  · cases h
variable {K}
theorem ints_at {ω : Wd} {H : Hp} {v : V} {d : D} {ns : List Int} (r : Rp K ω H v d) (h : (seq? d).bind ints? = some ns) : ∃ a, v = .ref a ∧ (SqL K H a (ns.map V.int) ∨ SqT K H a (ns.map V.int)) := by
  obtain ⟨a, xs, rfl, q, l, ha⟩ := seq_rp r (seqi_inv h)
  rw [q.inv_ints] at ha
  exact ⟨a, rfl, ha.imp SqL.of SqT.of⟩
variable (K)
def rSumA : List V → Hp → VK → Prop := fun xs H Q => rSum K xs H Q ∨ rSumT K xs H Q
def rMaxA : List V → Hp → VK → Prop := fun xs H Q => rMax K xs H Q ∨ rMaxT K xs H Q
def rMinA : List V → Hp → VK → Prop := fun xs H Q => rMin K xs H Q ∨ rMinT K xs H Q
theorem cr_sumA {X : Cx} (hc : X.calm = true) : CallR X (.builtin "sum") (rSumA X.K) := (cr_sum hc).or (cr_sumT hc)
theorem cr_maxA {X : Cx} (hc : X.calm = true) : CallR X (.builtin "max") (rMaxA X.K) := (cr_max hc).or (cr_maxT hc)
theorem cr_minA {X : Cx} (hc : X.calm = true) : CallR X (.builtin "min") (rMinA X.K) := (cr_min hc).or (cr_minT hc)
theorem ok_sum : OkL K (rSumA K) (c1 dSum) := by
  intro ω H xs ds d Q c r e k
  unfold c1 at e
  split at e
  · obtain ⟨v, rfl, h⟩ := rpl1 r
    unfold dSum at e
    rw [Option.map_eq_some_iff] at e
    obtain ⟨ns, e1, rfl⟩ := e
    obtain ⟨a, rfl, ha⟩ := ints_at h e1
    rcases ha with ha | ha
    · exact .inl ⟨a, ns, rfl, ha, k _ _ (Same.refl _) (.int _)⟩
    · exact .inr ⟨a, ns, rfl, ha, k _ _ (Same.refl _) (.int _)⟩
  · cases e
theorem ok_max : OkL K (rMaxA K) (c1 dMax) := by
  intro ω H xs ds d Q c r e k
  unfold c1 at e
  split at e
  · obtain ⟨v, rfl, h⟩ := rpl1 r
    unfold dMax at e
    rw [Option.bind_eq_some_iff] at e
    obtain ⟨ns, e1, e2⟩ := e
    split at e2
    · cases e2
    · rename_i hne
      cases e2
      have hn : 0 < ns.length := by
        cases ns with
        | nil => exact absurd rfl hne
        | cons a b => simp
      obtain ⟨a, rfl, ha⟩ := ints_at h e1
      have fin : ∀ m, m ∈ ns → (∀ y, y ∈ ns → y ≤ m) → Q (.int m) H := fun m h1 h2 => by
        rw [maxL_eq h1 h2]
        exact k _ _ (Same.refl _) (.int _)
      rcases ha with ha | ha
      · exact .inl ⟨a, ns, rfl, ha, hn, fin⟩
      · exact .inr ⟨a, ns, rfl, ha, hn, fin⟩
  · cases e
theorem ok_min : OkL K (rMinA K) (c1 dMin) := by
  intro ω H xs ds d Q c r e k
  unfold c1 at e
  split at e
  · obtain ⟨v, rfl, h⟩ := rpl1 r
    unfold dMin at e
    rw [Option.bind_eq_some_iff] at e
    obtain ⟨ns, e1, e2⟩ := e
    split at e2
    · cases e2
    · rename_i hne
      cases e2
      have hn : 0 < ns.length := by
        cases ns with
        | nil => exact absurd rfl hne
        | cons a b => simp
      obtain ⟨a, rfl, ha⟩ := ints_at h e1
      have fin : ∀ m, m ∈ ns → (∀ y, y ∈ ns → m ≤ y) → Q (.int m) H := fun m h1 h2 => by
        rw [minL_eq h1 h2]
        exact k _ _ (Same.refl _) (.int _)
      rcases ha with ha | ha
      · exact .inl ⟨a, ns, rfl, ha, hn, fin⟩
      · exact .inr ⟨a, ns, rfl, ha, hn, fin⟩
  · cases e
theorem ok_any : OkL K (rAny K) (c1 dAny) := by
  intro ω H xs ds d Q c r e k
  unfold c1 at e
  split at e
  · obtain ⟨v, rfl, h⟩ := rpl1 r
    unfold dAny at e
    rw [Option.map_eq_some_iff] at e
    obtain ⟨ns, e1, rfl⟩ := e
    cases seqb_inv e1
    cases h with
    | lst h1 n1 l1 q1 =>
      rw [q1.inv_bls] at h1
      exact ⟨_, ns, rfl, SqL.of h1, k _ _ (Same.refl _) (.bl _)⟩
  · cases e
theorem ok_all : OkL K (rAll K) (c1 dAll) := by
  intro ω H xs ds d Q c r e k
  unfold c1 at e
  split at e
  · obtain ⟨v, rfl, h⟩ := rpl1 r
    unfold dAll at e
    rw [Option.map_eq_some_iff] at e
    obtain ⟨ns, e1, rfl⟩ := e
    cases seqb_inv e1
    cases h with
    | lst h1 n1 l1 q1 =>
      rw [q1.inv_bls] at h1
      exact ⟨_, ns, rfl, SqL.of h1, k _ _ (Same.refl _) (.bl _)⟩
  · cases e
theorem ok_list : OkL K (fun xs H Q => ∃ p ys, xs = [.ref p] ∧ (SqL K H p ys ∨ SqT K H p ys) ∧ ∀ l, H l = none → Q (.ref l) (upd H l (.lst ys))) (c1 dList) := by
  intro ω H xs ds d Q c r e k
  unfold c1 at e
  split at e
  · obtain ⟨v, rfl, h⟩ := rpl1 r
    unfold dList at e
    rw [Option.map_eq_some_iff] at e
    obtain ⟨es, e1, rfl⟩ := e
    obtain ⟨a, ys, rfl, q, l, ha⟩ := seq_rp h e1
    exact ⟨a, ys, rfl, ha.imp SqL.of SqT.of, new_lst c q l k⟩
  · cases e
theorem ok_tuple : OkL K (fun xs H Q => ∃ p ys, xs = [.ref p] ∧ ((SqL K H p ys ∧ ∀ l, H l = none → Q (.ref l) (upd H l (.tup ys))) ∨ (SqT K H p ys ∧ Q (.ref p) H))) (c1 dTuple) := by
  intro ω H xs ds d Q c r e k
  unfold c1 at e
  split at e
  · obtain ⟨v, rfl, h⟩ := rpl1 r
    unfold dTuple at e
    rw [Option.map_eq_some_iff] at e
    obtain ⟨es, e1, rfl⟩ := e
    cases h with
    | lst h1 n1 l1 q1 =>
      cases e1
      exact ⟨_, _, rfl, .inl ⟨SqL.of h1, new_tup c q1 l1 k⟩⟩
    | tup h1 l1 q1 =>
      cases e1
      exact ⟨_, _, rfl, .inr ⟨SqT.of h1, k _ _ (Same.refl _) (.tup h1 l1 q1)⟩⟩
    | _ => cases e1
  · cases e
end
/-! ### isinstance -/
def isTy (t : String) : D → Option Bool
  | .none => some (t == "NoneType")
  | .bool _ => some (t == "bool" || t == "int")
  | .int _ => some (t == "int")
  | .str _ => some (t == "str")
  | .list _ => some (t == "list")
  | .tuple _ => some (t == "tuple")
  | .dict _ => none
def dIsi (t : String) (d : D) : Option D := (isTy t d).map .bool
structure KitOk (t : String) : Prop where
  non : kitB "NoneType" t = some (t == "NoneType")
  bl : kitB "bool" t = some (t == "bool" || t == "int")
  int : kitB "int" t = some (t == "int")
  str : kitB "str" t = some (t == "str")
  lst : kitB "list" t = some (t == "list")
  tup : kitB "tuple" t = some (t == "tuple")
theorem kit_int : KitOk "int" := ⟨by decide +kernel, by decide +kernel, by decide +kernel, by decide +kernel, by decide +kernel, by decide +kernel⟩
theorem kit_bool : KitOk "bool" := ⟨by decide +kernel, by decide +kernel, by decide +kernel, by decide +kernel, by decide +kernel, by decide +kernel⟩
theorem kit_str : KitOk "str" := ⟨by decide +kernel, by decide +kernel, by decide +kernel, by decide +kernel, by decide +kernel, by decide +kernel⟩
theorem kit_list : KitOk "list" := ⟨by decide +kernel, by decide +kernel, by decide +kernel, by decide +kernel, by decide +kernel, by decide +kernel⟩
theorem kit_tuple : KitOk "tuple" := ⟨by decide +kernel, by decide +kernel, by decide +kernel, by decide +kernel, by decide +kernel, by decide +kernel⟩
theorem ty_rp {K : PySem.W.Frag} {ω : Wd} {H : Hp} {v : V} {d : D} {t : String} {b : Bool} (r : Rp K ω H v d) (k : KitOk t) (h : isTy t d = some b) : ∃ u, TyX K H v u ∧ PySem.W.kitOne K u (.type t) = some b := by
  cases r with
  | non => exact ⟨_, .base .non, by rw [← h]; exact kit_ty k.non⟩
  | bl x => exact ⟨_, .base (.bl x), by rw [← h]; exact kit_ty k.bl⟩
  | int i => exact ⟨_, .base (.int i), by rw [← h]; exact kit_ty k.int⟩
  | str x _ => exact ⟨_, .base (.str x), by rw [← h]; exact kit_ty k.str⟩
  | lst h1 _ _ _ => exact ⟨_, .base (.lst h1), by rw [← h]; exact kit_ty k.lst⟩
  | tup h1 _ _ => exact ⟨_, .base (.tup h1), by rw [← h]; exact kit_ty k.tup⟩
  | town _ => cases h
  | scr _ _ => cases h
  | cell _ => cases h
  | pln _ _ _ _ _ _ _ _ _ => cases h
  | dct _ _ _ _ => cases h
theorem me_isi {X : Cx} {e eT : Expr} {f : FE} {t : String} {p pos : Pos} (k : KitOk t) (hg : Gl X "isinstance") (hm : X.mg "isinstance" = none) (he : ME X e f) (hT : PE X eT (tC (.ty t)))
    (hs : starEach [e, eT] X.env = (false, eval e X.env) :: starEach [eT] X.env := by rfl) (hs2 : starEach [eT] X.env = (false, eval eT X.env) :: starEach [] X.env := by rfl) (hpl : (backTo pos (starEach [eT] X.env)).any (·.1) = false := by rfl) :
    ME X (.Call (.Name "isinstance" p) [e, eT] [] pos) (e1 (dIsi t) f) := by
  refine pe_imp (pe_callB call_isi hg hm (by decide +kernel) (pa_cons he (pa_cons hT pa_nil hs2) hs) (by decide) (by decide) hs hpl) fun σ H Q q => ?_
  obtain ⟨ω, env, n, d, n', R, t, e, kk⟩ := q
  obtain ⟨x, h1, h3⟩ := e1_inv e
  unfold dIsi at h3
  rw [Option.map_eq_some_iff] at h3
  obtain ⟨b, h4, rfl⟩ := h3
  refine tM_run R t h1 fun v ω1 H1 k1 R1 t1 r1 => ?_
  obtain ⟨u, h5, h6⟩ := ty_rp r1 k h4
  exact ⟨v, _, u, _, b, rfl, .ty _, h5, h6, kk _ _ _ k1 t1 (.bl _)⟩
theorem pe_tyN {X : Cx} {x : Str} {t : String} {pos : Pos} (hg : Gl X x) (hm : X.mg x = none) (hv : bootBuiltins x = some (.type t)) (hn : x ≠ "__name__" := by decide) (hd : (x == ("__debug__" : Str)) = false := by decide) : PE X (.Name x pos) (tC (.ty t)) := pe_bltn hg hm hv rfl hn hd


/-! ### targets -/
inductive Tg where
  | nm (i : Nat)
  | tp (is : List Nat)
def Tg.slots : Tg → List Nat
  | .nm i => [i]
  | .tp is => is
def gsOf : List Nat → TGs
  | [] => gNil
  | i :: r => gCons (gName i) (gsOf r)
def gOf (K : PySem.W.Frag) : Tg → TG
  | .nm i => gName i
  | .tp is => gTup K is.length (gsOf is)
def setAll {α : Type} : List (Option α) → List Nat → List α → List (Option α)
  | env, i :: is, d :: ds => setAll (env.set i (some d)) is ds
  | env, _, _ => env
def bindE : Tg → D → En → Option En
  | .nm i, d, env => some (env.set i (some d))
  | .tp is, .tuple ds, env => if ds.length = is.length then some (setAll env is ds) else none
  | .tp _, _, _ => none
abbrev MG (X : Cx) (tg : Expr) (t : Tg) : Prop := PG X tg (gOf X.K t)

theorem setAll_length {α : Type} : ∀ (is : List Nat) (env : List (Option α)) (ds : List α), (setAll env is ds).length = env.length
  | [], _, _ => rfl
  | _ :: _, _, [] => rfl
  | i :: is, env, d :: ds => by
    show (setAll (env.set i (some d)) is ds).length = _
    rw [setAll_length is, List.length_set]
section
variable {K : PySem.W.Frag} {C : Addr} {ω : Wd} {env : En} {σ : L2.St} {H : Hp}
theorem RE.set (R : RE K C ω env σ H) (i : Nat) {v : V} {d : D} (r : Rp K ω H v d) : RE K C ω (env.set i (some d)) (σ.set i (some v)) H := by
  refine ⟨R.ok, R.cl, by rw [List.length_set, List.length_set]; exact R.len, fun j d' e => ?_⟩
  by_cases h : i = j
  · subst h
    by_cases hl : i < env.length
    · rw [List.getElem?_set_self hl] at e
      cases e
      exact ⟨v, List.getElem?_set_self (by rw [← R.len]; exact hl), r⟩
    · rw [List.getElem?_eq_none (by rw [List.length_set]; omega)] at e
      cases e
  · rw [List.getElem?_set_ne h] at e ⊢
    exact R.get j d' e
theorem RE.setAll : ∀ (is : List Nat) {env : En} {σ : L2.St} {vs : List V} {ds : List D}, RE K C ω env σ H → RpL K ω H vs ds → RE K C ω (setAll env is ds) (Pm.setAll σ is vs) H
  | [], _, _, _, _, R, _ => R
  | _ :: _, _, _, _, _, R, .nil => R
  | i :: is, _, _, _, _, R, .cons h t => RE.setAll is (R.set i h) t
theorem gsOf_run {Q : L2.St → Hp → Prop} : ∀ (is : List Nat) {σ : L2.St} {vs : List V}, vs.length = is.length → Q (Pm.setAll σ is vs) H → gsOf is vs σ H Q
  | [], _, [], _, h => ⟨rfl, h⟩
  | [], _, _ :: _, l, _ => by simp at l
  | _ :: _, _, [], l, _ => by simp at l
  | i :: is, σ, v :: vs, l, h => ⟨v, vs, rfl, gsOf_run is (by simpa using l) h⟩
/-- what a target makes of the slots -/
def bindV : Tg → V → List V → L2.St → L2.St
  | .nm i, v, _, σ => σ.set i (some v)
  | .tp is, _, vs, σ => Pm.setAll σ is vs
theorem gOf_run {t : Tg} {v : V} {d : D} {env' : En} {Q : L2.St → Hp → Prop} (R : RE K C ω env σ H) (r : Rp K ω H v d) (e : bindE t d env = some env')
    (h : ∀ vs, RE K C ω env' (bindV t v vs σ) H → Q (bindV t v vs σ) H) : gOf K t v σ H Q := by
  cases t with
  | nm i =>
    cases e
    exact h [] (R.set i r)
  | tp is =>
    cases r with
    | @tup a xs ds h1 l1 q1 =>
      have e' : (if ds.length = is.length then some (Pm.setAll env is ds) else none) = some env' := e
      split at e'
      · rename_i hl
        cases e'
        exact ⟨_, _, rfl, SqT.of h1, by rw [q1.length, hl], gsOf_run is (by rw [q1.length, hl]) (h _ (R.setAll is q1))⟩
      · cases e'
    | _ => simp [bindE] at e
end

/-! ### the slots of a comprehension's own names -/
def wipeE (env : En) : List Nat → En
  | [] => env
  | v :: vs => (wipeE env vs).set v none
theorem wipe_get (σ : L2.St) : ∀ (vs : List Nat) (j : Nat), (wipe σ vs)[j]? = if j ∈ vs then (if j < σ.length then some none else none) else σ[j]?
  | [], j => by simp [wipe]
  | v :: vs, j => by
    have ih := wipe_get σ vs j
    unfold wipe
    by_cases h : v = j
    · subst h
      by_cases hl : v < σ.length
      · rw [List.getElem?_set_self (by rw [wipe_length]; exact hl), if_pos (by simp), if_pos hl]
      · rw [List.getElem?_eq_none (by rw [List.length_set, wipe_length]; omega), if_pos (by simp), if_neg hl]
    · rw [List.getElem?_set_ne h, ih]
      have e : (j ∈ v :: vs) ↔ j ∈ vs := by
        rw [List.mem_cons]
        exact ⟨fun z => z.resolve_left fun q => h q.symm, .inr⟩
      by_cases hj : j ∈ vs
      · rw [if_pos hj, if_pos (e.mpr hj)]
      · rw [if_neg hj, if_neg (fun z => hj (e.mp z))]
theorem wipeE_length (env : En) : ∀ vs : List Nat, (wipeE env vs).length = env.length
  | [] => rfl
  | v :: vs => by unfold wipeE; rw [List.length_set, wipeE_length env vs]
theorem wipeE_some {env : En} {i : Nat} {x : D} : ∀ {vs : List Nat}, (wipeE env vs)[i]? = some (some x) → env[i]? = some (some x) ∧ i ∉ vs
  | [], h => ⟨h, by simp⟩
  | v :: vs, h => by
    unfold wipeE at h
    by_cases hi : v = i
    · subst hi
      by_cases hv : v < (wipeE env vs).length
      · rw [List.getElem?_set_self hv] at h; cases h
      · rw [List.getElem?_eq_none (by rw [List.length_set]; omega)] at h; cases h
    · rw [List.getElem?_set_ne hi] at h
      obtain ⟨h1, h2⟩ := wipeE_some h
      exact ⟨h1, by simp only [List.mem_cons, not_or]; exact ⟨fun e => hi e.symm, h2⟩⟩
theorem RE.wipe {K : PySem.W.Frag} {C : Addr} {ω : Wd} {env : En} {σ : L2.St} {H : Hp} (R : RE K C ω env σ H) (vs : List Nat) : RE K C ω (wipeE env vs) (L2.wipe σ vs) H := by
  refine ⟨R.ok, R.cl, by rw [wipeE_length, wipe_length]; exact R.len, fun j d e => ?_⟩
  obtain ⟨h1, h2⟩ := wipeE_some e
  obtain ⟨v, h3, h4⟩ := R.get j d h1
  exact ⟨v, by rw [wipe_get, if_neg h2]; exact h3, h4⟩
theorem wipe_set {σ : L2.St} {vs : List Nat} {i : Nat} {y : Option V} (h : i ∈ vs) : wipe (σ.set i y) vs = wipe σ vs := by
  apply List.ext_getElem?
  intro j
  rw [wipe_get, wipe_get, List.length_set]
  by_cases hj : j ∈ vs
  · rw [if_pos hj, if_pos hj]
  · rw [if_neg hj, if_neg hj, List.getElem?_set_ne (fun z => hj (by rw [← z]; exact h))]
theorem wipe_wipe (σ : L2.St) (vs : List Nat) : wipe (wipe σ vs) vs = wipe σ vs := by
  apply List.ext_getElem?
  intro j
  rw [wipe_get, wipe_get, wipe_length]
  by_cases hj : j ∈ vs
  · rw [if_pos hj, if_pos hj]
  · simp only [if_neg hj, wipe_get]
theorem wipe_setAll : ∀ (is : List Nat) {σ : L2.St} {vs : List Nat} {xs : List V}, (∀ i ∈ is, i ∈ vs) → wipe (setAll σ is xs) vs = wipe σ vs
  | [], _, _, _, _ => rfl
  | _ :: _, _, _, [], _ => rfl
  | i :: is, σ, vs, x :: xs, h => by
    show wipe (setAll (σ.set i (some x)) is xs) vs = _
    rw [wipe_setAll is fun j hj => h j (List.mem_cons_of_mem _ hj), wipe_set (h i List.mem_cons_self)]
theorem wipe_bind {t : Tg} {v : V} {xs : List V} {σ : L2.St} {vs : List Nat} (h : ∀ i ∈ t.slots, i ∈ vs) : wipe (bindV t v xs (wipe σ vs)) vs = wipe σ vs := by
  cases t with
  | nm i =>
    show wipe ((wipe σ vs).set i (some v)) vs = _
    rw [wipe_set (h i (by simp [Tg.slots])), wipe_wipe]
  | tp is =>
    show wipe (setAll (wipe σ vs) is xs) vs = _
    rw [wipe_setAll is h, wipe_wipe]

/-! ### what is walked -/
structure Wk (K : PySem.W.Frag) (ω : Wd) (J : It) (ds : List D) (H1 : Hp) : Prop where
  len : ds.length ≤ sizeLine
  run : ∀ (ω' : Wd) (H : Hp), Mv ω H1 ω' H → Cok ω' H →
    (∀ i, i < ds.length → J.go i H ∧ ∀ x H', J.yld i H x H' → Same H H' ∧ ∃ d, ds[i]? = some d ∧ Rp K ω' H' x d) ∧ J.stop ds.length H
def iM (K : PySem.W.Frag) (C : Addr) (f : Fe (List D)) : TI := fun σ H R => ∃ (ω : Wd) (env : En) (n : Sn) (ds : List D) (n' : Sn),
  RE K C ω env σ H ∧ Town ω n H ∧ f env n = some (ds, n') ∧ ∀ J ω' H', Ext ω H ω' H' → Town ω' n' H' → Wk K ω' J ds H' → R J H'
abbrev MI (X : Cx) (tg iter : Expr) (f : Fe (List D)) : Prop := PI X tg iter (iM X.K (clsA X.mg) f)
section
variable {X : Cx} {tg e : Expr} {es : List Expr} {pos : Pos} {f : FE} {fs : Fe (List D)}
theorem pi_imp {t t' : TI} (h : PI X tg e t) (i : ∀ σ H R, t' σ H R → t σ H R) : PI X tg e t' := ⟨fun pins s σ H Q I hw => h.run pins s σ H Q I (i _ _ _ hw)⟩
def iSeq (K : PySem.W.Frag) (tl : TE) : TI := fun σ H R => tl σ H fun x H1 => ∃ a, x = .ref a ∧ (((∃ xs, SqL K H1 a xs) ∧ R (Itl K a) H1) ∨ ((∃ xs, SqT K H1 a xs) ∧ R (Itt K a) H1))
theorem pi_seq {l : Expr} {tl : TE} (hl : PE X l tl) : PI X tg l (iSeq X.K tl) := by
  refine ⟨fun pins s σ H R I h => ?_⟩
  refine thn (hl.run pins s σ H _ I h) fun v s1 ⟨x, H1, I1, r1, q1⟩ => ?_
  obtain ⟨a, e, ⟨⟨xs, hq⟩, q⟩ | ⟨⟨xs, hq⟩, q⟩⟩ := q1
  · subst e
    cases r1
    obtain ⟨its, rv, p, hz⟩ := I1.list hq
    refine wpAny_pyIter_list p.isList ?_
    refine ⟨s1.heap.objs.size, [s1.heap.objs.size], _, _, H1, rfl, I1.kept (t' := s1.toks) fun b o e => Heap.get?_push_of_some _ e, turn_list a _, ⟨_, Heap.get?_push_size _ rfl, rfl, rfl⟩, fun b hb => ?_, q⟩
    have e : b = s1.heap.objs.size := by simpa using hb
    subst e
    exact I1.fpOk (Nat.le_refl _) (I1.hok.fresh (Nat.le_refl _))
  · subst e
    cases r1
    obtain ⟨its, rv, p, hz⟩ := I1.tuple hq
    refine wpAny_pyIter_tuple (show s1.heap.IsTuple a its.toArray from p) ?_
    refine ⟨s1.heap.objs.size, [s1.heap.objs.size], _, _, H1, rfl, I1.kept (t' := s1.toks) fun b o e => Heap.get?_push_of_some _ e, turn_tuple a _, ⟨_, Heap.get?_push_size _ rfl, rfl, rfl⟩, fun b hb => ?_, q⟩
    have e : b = s1.heap.objs.size := by simpa using hb
    subst e
    exact I1.fpOk (Nat.le_refl _) (I1.hok.fresh (Nat.le_refl _))
def iS (f : FE) : Fe (List D) := fun env n => match f env n with
  | some (.list ds, n1) => some (ds, n1)
  | some (.tuple ds, n1) => some (ds, n1)
  | _ => none
theorem wk_list {K : PySem.W.Frag} {ω : Wd} {H1 : Hp} {a : Addr} {xs : List V} {ds : List D} (h : H1 a = some (.lst xs)) (n : ¬ ω.T a) (l : ds.length ≤ sizeLine) (r : RpL K ω H1 xs ds) : Wk K ω (Itl K a) ds H1 := by
  refine ⟨l, fun ω' H m c => ⟨fun i hi => ?_, ?_⟩⟩
  · obtain ⟨h2, n2⟩ := m.mv a _ n h
    have r2 : RpL K ω' H xs ds := r.mv m
    obtain ⟨v, hv, rv⟩ := r2.get (List.getElem?_eq_getElem hi)
    refine ⟨⟨xs, v, SqL.of h2, hv⟩, fun x H' y => ?_⟩
    obtain ⟨rfl, y⟩ := y
    have e := y xs (SqL.of h2)
    rw [hv] at e
    cases e
    exact ⟨Same.refl _, _, List.getElem?_eq_getElem hi, rv⟩
  · obtain ⟨h2, n2⟩ := m.mv a _ n h
    exact ⟨xs, SqL.of h2, by rw [r.length]; exact Nat.le_refl _⟩
theorem wk_tup {K : PySem.W.Frag} {ω : Wd} {H1 : Hp} {a : Addr} {xs : List V} {ds : List D} (h : H1 a = some (.tup xs)) (l : ds.length ≤ sizeLine) (r : RpL K ω H1 xs ds) : Wk K ω (Itt K a) ds H1 := by
  refine ⟨l, fun ω' H m c => ⟨fun i hi => ?_, ?_⟩⟩
  · have h2 := m.tup a _ h
    have r2 : RpL K ω' H xs ds := r.mv m
    obtain ⟨v, hv, rv⟩ := r2.get (List.getElem?_eq_getElem hi)
    refine ⟨⟨xs, v, SqT.of h2, hv⟩, fun x H' y => ?_⟩
    obtain ⟨rfl, y⟩ := y
    have e := y xs (SqT.of h2)
    rw [hv] at e
    cases e
    exact ⟨Same.refl _, _, List.getElem?_eq_getElem hi, rv⟩
  · have h2 := m.tup a _ h
    exact ⟨xs, SqT.of h2, by rw [r.length]; exact Nat.le_refl _⟩
theorem mi_seq (he : ME X e f) : MI X tg e (iS f) := by
  refine pi_imp (pi_seq he) fun σ H R q => ?_
  obtain ⟨ω, env, n, ds, n', RR, t, e, k⟩ := q
  unfold iS at e
  split at e
  · rename_i ds1 n1 h1
    cases e
    refine tM_run RR t h1 fun v ω1 H1 k1 R1 t1 r1 => ?_
    cases r1 with
    | lst g1 m1 l1 q1 => exact ⟨_, rfl, .inl ⟨⟨_, SqL.of g1⟩, k _ _ H1 k1 t1 (wk_list g1 m1 l1 q1)⟩⟩
  · rename_i ds1 n1 h1
    cases e
    refine tM_run RR t h1 fun v ω1 H1 k1 R1 t1 r1 => ?_
    cases r1 with
    | tup g1 l1 q1 => exact ⟨_, rfl, .inr ⟨⟨_, SqT.of g1⟩, k _ _ H1 k1 t1 (wk_tup g1 l1 q1)⟩⟩
  · cases e
/-! range -/
def rngD (lo : Int) (n : Nat) : List D := (List.range n).map fun i => .int (lo + (i : Nat))
theorem rngD_len (lo : Int) (n : Nat) : (rngD lo n).length = n := by unfold rngD; rw [List.length_map, List.length_range]
theorem rngD_get {lo : Int} {n i : Nat} (h : i < n) : (rngD lo n)[i]? = some (.int (lo + (i : Nat))) := by
  unfold rngD
  rw [List.getElem?_map, List.getElem?_range h]
  rfl
def iR1 (fs : Fe (List D)) : Fe (List D) := fun env n => match fs env n with
  | some ([.int j], n1) => if -(lim : Int) ≤ j ∧ j ≤ (lim : Int) then some (rngD 0 j.toNat, n1) else none
  | _ => none
def iR2 (fs : Fe (List D)) : Fe (List D) := fun env n => match fs env n with
  | some ([.int i, .int j], n1) => if -(lim : Int) ≤ i ∧ i ≤ (lim : Int) ∧ -(lim : Int) ≤ j ∧ j ≤ (lim : Int) ∧ (j - i).toNat ≤ lim then some (rngD i (j - i).toNat, n1) else none
  | _ => none
theorem wk_range {K : PySem.W.Frag} {ω : Wd} {H1 : Hp} {lo : Int} {n : Nat} (h : n ≤ sizeLine) : Wk K ω (Itr lo n) (rngD lo n) H1 := by
  refine ⟨by rw [rngD_len]; exact h, fun ω' H m c => ⟨fun i hi => ?_, ?_⟩⟩
  · rw [rngD_len] at hi
    refine ⟨hi, fun x H' y => ?_⟩
    obtain ⟨rfl, rfl⟩ := y
    exact ⟨Same.refl _, _, rngD_get hi, .int _⟩
  · rw [rngD_len]
    exact Nat.le_refl n
theorem mi_range1 {p : Pos} (hg : Gl X "range") (hm : X.mg "range" = none) (ha : MA X [e] fs) (hs : starEach [e] X.env = [(false, eval e X.env)] := by rfl) : MI X tg (.Call (.Name "range" p) [e] [] pos) (iR1 fs) := by
  refine pi_imp (pi_range1 hg hm ha hs) fun σ H R q => ?_
  obtain ⟨ω, env, n, ds, n', RR, t, e, k⟩ := q
  unfold iR1 at e
  split at e
  · rename_i j n1 h1
    split at e
    · rename_i hj
      cases e
      refine tMA_run RR t h1 fun v ω1 H1 k1 R1 t1 r1 => ?_
      obtain ⟨u, rfl, r2⟩ := rpl1 r1
      cases r2
      unfold lim at hj
      exact ⟨j, rfl, by omega, by omega, k _ _ H1 k1 t1 (wk_range (by rw [sizeLine_eq]; omega))⟩
    · cases e
  · cases e
theorem mi_range2 {e2 : Expr} {p : Pos} (hg : Gl X "range") (hm : X.mg "range" = none) (ha : MA X [e, e2] fs) (hs : starEach [e, e2] X.env = [(false, eval e X.env), (false, eval e2 X.env)] := by rfl) (hs2 : starEach [e2] X.env = [(false, eval e2 X.env)] := by rfl) : MI X tg (.Call (.Name "range" p) [e, e2] [] pos) (iR2 fs) := by
  refine pi_imp (pi_range2 hg hm ha hs hs2) fun σ H R q => ?_
  obtain ⟨ω, env, n, ds, n', RR, t, e, k⟩ := q
  unfold iR2 at e
  split at e
  · rename_i i j n1 h1
    split at e
    · rename_i hj
      cases e
      refine tMA_run RR t h1 fun v ω1 H1 k1 R1 t1 r1 => ?_
      obtain ⟨u, u2, rfl, r2, r3⟩ := rpl2 r1
      cases r2
      cases r3
      unfold lim at hj
      exact ⟨i, j, rfl, ⟨by omega, by omega, by omega, by omega⟩, k _ _ H1 k1 t1 (wk_range (by rw [sizeLine_eq]; omega))⟩
    · cases e
  · cases e
end

/-! ### list comprehensions -/
def lcGo (env : En) (t : Tg) (ft : Fe Bool) (fe : FE) : List D → Sn → Option (List D × Sn)
  | [], n => some ([], n)
  | x :: r, n => match bindE t x env with
    | some env' => (match ft env' n with
      | some (true, n1) => (match fe env' n1 with
        | some (y, n2) => (match lcGo env t ft fe r n2 with
          | some (ys, n3) => some (y :: ys, n3)
          | none => none)
        | none => none)
      | some (false, n1) => lcGo env t ft fe r n1
      | none => none)
    | none => none
def eLc (own : List Nat) (fi : Fe (List D)) (t : Tg) (ft : Fe Bool) (fe : FE) : Fe (List D) := fun env n => match fi env n with
  | some (items, n1) => lcGo (wipeE env own) t ft fe items n1
  | none => none
def eList (f : Fe (List D)) : FE := fun env n => match f env n with
  | some (ds, n1) => some (.list ds, n1)
  | none => none
/-- a list that is new -/
def tMF (K : PySem.W.Frag) (C : Addr) (f : Fe (List D)) : TE := fun σ H Q => ∃ (ω : Wd) (env : En) (n : Sn) (ds : List D) (n' : Sn),
  RE K C ω env σ H ∧ Town ω n H ∧ f env n = some (ds, n') ∧ ∀ p xs ω' H', Ext ω H ω' H' → Town ω' n' H' → H p = none → ¬ ω'.T p → H' p = some (.lst xs) → ds.length ≤ sizeLine → RpL K (ω'.add p) H' xs ds → Q (.ref p) H'
abbrev MF (X : Cx) (e : Expr) (f : Fe (List D)) : Prop := PE X e (tMF X.K (clsA X.mg) f)
theorem MF.me {X : Cx} {e : Expr} {f : Fe (List D)} (h : MF X e f) : ME X e (eList f) := by
  refine pe_imp h fun σ H Q q => ?_
  obtain ⟨ω, env, n, d, n', R, t, e, k⟩ := q
  unfold eList at e
  split at e
  · rename_i ds n1 h1
    cases e
    refine ⟨ω, env, n, ds, _, R, t, h1, fun p xs ω' H' k1 t1 hp np hp' l r => k _ ω' H' k1 t1 (.lst hp' np l r.ors)⟩
  · cases e
/-- the tests of a clause -/
def bYes : Fe Bool := fun _ n => some (true, n)
abbrev MTs (X : Cx) (ifs : List Expr) (f : Fe Bool) : Prop := PTs X ifs (tMT X.K (clsA X.mg) f)
theorem pts_imp {X : Cx} {ifs : List Expr} {t t' : TT} (h : PTs X ifs t) (i : ∀ σ H Q, t' σ H Q → t σ H Q) : PTs X ifs t' := ⟨fun pins s σ H Q I hw => h.run pins s σ H Q I (i _ _ _ hw)⟩
theorem mts_nil {X : Cx} : MTs X [] bYes := by
  refine pts_imp pts_nil fun σ H Q q => ?_
  obtain ⟨ω, env, n, d, n', R, t, e, k⟩ := q
  cases e
  exact k ω H Ext.refl t
theorem mts_one {X : Cx} {c : Expr} {f : Fe Bool} (h : MT X c f) : MTs X [c] f := pts_one h
section
variable {K : PySem.W.Frag} {C : Addr}
theorem tLc_of {fi : Fe (List D)} {t : Tg} {ft : Fe Bool} {fe : FE} {own : List Nat} (hs : ∀ i ∈ t.slots, i ∈ own) : ∀ σ H Q, tMF K C (eLc own fi t ft fe) σ H Q → tLc (iM K C fi) (gOf K t) (tMT K C ft) (tM K C fe) own σ H Q := by
  intro σ H Q q
  obtain ⟨ω, env, n, ds, n', R, tn, e, k⟩ := q
  unfold eLc at e
  split at e
  · rename_i items n1 h1
    refine ⟨ω, env, n, items, n1, R, tn, h1, fun J ω1 H1 k1 t1 wk Dd hD => ?_⟩
    have R1 : RE K C ω1 env σ H1 := R.ext k1 t1
    -- what holds at turn i
    refine ⟨fun i m Hi => m = items.length - i ∧ i ≤ items.length ∧ ∃ (ωi : Wd) (ni : Sn) (acc : List V) (accD rest : List D), Ext ω1 H1 ωi Hi ∧ Town ωi ni Hi ∧ ωi.T Dd ∧ ¬ ωi.has Dd ∧ Hi Dd = some (.lst acc) ∧
      RpL K ωi Hi acc accD ∧ accD.length ≤ i ∧ lcGo (wipeE env own) t ft fe (items.drop i) ni = some (rest, n') ∧ accD ++ rest = ds, ?_, ?_⟩
    · refine ⟨items.length, by simp, Nat.zero_le _, ω1.add Dd, n1, [], [], ds, (Ext.of_same (same_upd hD)).addNew hD, (t1.of_same (same_upd hD)).or fun a z => by rw [z]; exact ⟨_, upd_same, trivial⟩, .inr rfl, R1.ok.nhas hD, upd_same, .nil, Nat.zero_le _, e, rfl⟩
    · rintro i m Hi ⟨rfl, hi, ωi, ni, acc, accD, rest, ki, ti, hT, hh, hDi, ri, la, eg, ea⟩
      obtain ⟨go, st⟩ := wk.run ωi Hi ki.mv ti.ok
      by_cases hlt : i < items.length
      · obtain ⟨g1, g2⟩ := go i hlt
        have hdrop : items.drop i = items[i] :: items.drop (i + 1) := List.drop_eq_getElem_cons hlt
        rw [hdrop] at eg
        unfold lcGo at eg
        split at eg
        · rename_i env' hb
          refine .inr ⟨g1, fun Hn => i + 1 ≤ items.length ∧ ∃ (ωi : Wd) (ni : Sn) (acc : List V) (accD rest : List D), Ext ω1 H1 ωi Hn ∧ Town ωi ni Hn ∧ ωi.T Dd ∧ ¬ ωi.has Dd ∧ Hn Dd = some (.lst acc) ∧
            RpL K ωi Hn acc accD ∧ accD.length ≤ i + 1 ∧ lcGo (wipeE env own) t ft fe (items.drop (i + 1)) ni = some (rest, n') ∧ accD ++ rest = ds, ?_, ?_⟩
          · rintro Hn ⟨q1, q2⟩
            exact ⟨items.length - (i + 1), by omega, rfl, q1, q2⟩
          · intro x H' hy
            obtain ⟨sm, d, hd, rx⟩ := g2 x H' hy
            rw [List.getElem?_eq_getElem hlt] at hd
            cases hd
            have t' : Town ωi ni H' := ti.of_same sm
            have e' : Ext ω1 H1 ωi H' := ki.trans (Ext.of_same sm)
            have R2 : RE K C ωi (wipeE env own) (wipe σ own) H' := (R1.wipe own).ext e' t'
            have hD' : H' Dd = some (.lst acc) := sm _ _ hDi
            refine gOf_run R2 rx hb fun vs R3 => ⟨wipe_bind hs, ?_⟩
            split at eg
            · rename_i n2 h2
              refine tMT_run R3 t' h2 fun ω3 H3 k3 R4 t3 => ?_
              rw [if_pos rfl]
              split at eg
              · rename_i y n3 h3
                refine tM_run R4 t3 h3 fun v ω4 H4 k4 R5 t4 r4 => ?_
                have k34 := k3.trans k4
                have hD4 : H4 Dd = some (.lst acc) := k34.keep _ _ hh hD'
                have ra : RpL K ω4 H4 acc accD := (ri.same sm).ext k34
                have hT4 : ω4.T Dd := (k34.old Dd (sm_ne hD')).mpr hT
                have hh4 : ¬ ω4.has Dd := fun z => hh (k34.hasB hD' z)
                refine ⟨acc, hD4, ?_, ?_⟩
                · rw [ra.length]
                  have := wk.len
                  omega
                · split at eg
                  · rename_i ys n5 h5
                    cases eg
                    refine ⟨hlt, ω4, n3, acc ++ [v], accD ++ [y], ys, (e'.trans k34).updNew hD, t4.updN hh4 hD4, hT4, hh4, upd_same, (ra.append (.cons r4 .nil)).mv (mv_updN hT4 hD4), by rw [List.length_append]; simp; omega, h5, ?_⟩
                    rw [List.append_assoc]; exact ea
                  · cases eg
              · cases eg
            · rename_i n2 h2
              refine tMT_run R3 t' h2 fun ω3 H3 k3 R4 t3 => ?_
              rw [if_neg Bool.false_ne_true]
              exact ⟨hlt, ω3, n2, acc, accD, rest, e'.trans k3, t3, (k3.old Dd (sm_ne hD')).mpr hT, fun z => hh (k3.hasB hD' z), k3.keep _ _ hh hD', (ri.same sm).ext k3, by omega, eg, ea⟩
            · cases eg
        · cases eg
      · have hie : i = items.length := by omega
        subst hie
        rw [List.drop_length] at eg
        cases eg
        rw [List.append_nil] at ea
        subst ea
        exact .inl ⟨st, k Dd acc (ωi.sub Dd hh) Hi ((k1.trans ki).subNew (k1.noneB hD)) (ti.sub hh) (k1.noneB hD) (fun z => z.2 rfl) hDi (by have := wk.len; omega) (ri.mv (mv_sub_add hT))⟩
  · cases e
theorem me_lcF {X : Cx} {elt tg iter : Expr} {ifs : List Expr} {scope : Scope} {own : List (Str × Nat)} {pos : Pos} {fi : Fe (List D)} {t : Tg} {ft : Fe Bool} {fe : FE} (hc : X.calm = true) (hN : X.N.Nodup) (hi : MI X tg iter fi) (ok : BlkOk X.N X.env.scope scope own)
    (hg : ∀ (s : Shared) (H : Hp) (C : Addr) (cl : List (Str × Addr)) (fp : List Addr), MG (X.blk s H scope (compEnvC scope cl C X.env) fp) tg t) (ht : ∀ (s : Shared) (H : Hp) (C : Addr) (cl : List (Str × Addr)) (fp : List Addr), MTs (X.blk s H scope (compEnvC scope cl C X.env) fp) ifs ft)
    (he : ∀ (s : Shared) (H : Hp) (C : Addr) (cl : List (Str × Addr)) (fp : List Addr), ME (X.blk s H scope (compEnvC scope cl C X.env) fp) elt fe) (hsl : ∀ i ∈ t.slots, i ∈ own.map (·.2)) (hs : ∀ x, foldedSetIterable iter X.env x = pure x := by intro _; rfl) :
    MF X (.ListComp elt [⟨tg, iter, ifs, 0⟩] scope pos) (eLc (own.map (·.2)) fi t ft fe) :=
  pe_imp (pe_lc hc hN hi ok hg ht he hs) (tLc_of hsl)
end


/-! ### functions -/
inductive Rs where
  | ok (d : D)
  | ex (c : Str)
abbrev Fn := List D → Sn → Option (Rs × Sn)
/-- a list that is new since H -/
def NewL (K : PySem.W.Frag) (ω' : Wd) (H H' : Hp) (v : V) (d : D) : Prop :=
  ∃ p xs ds, v = .ref p ∧ d = .list ds ∧ H p = none ∧ H' p = some (.lst xs) ∧ ¬ ω'.T p ∧ ds.length ≤ sizeLine ∧ RpL K (ω'.add p) H' xs ds
/-- a def's promise by its mirror -/
def spX (K : PySem.W.Frag) (mg : Str → Option Value) (ar : Nat) (fr : Bool) (m : Fn) : Sp := fun vs H Q E => ∃ (ω : Wd) (ds : List D) (n : Sn) (r : Rs) (n' : Sn),
  ω.C = clsA mg ∧ RpL K ω H vs ds ∧ ds.length = ar ∧ Town ω n H ∧ m ds n = some (r, n') ∧ match r with
    | .ok d => ∀ v ω' H', Ext ω H ω' H' → Town ω' n' H' → Rp K ω' H' v d → (fr = true → NewL K ω' H H' v d) → Q v H'
    | .ex c => ∀ C ω' H', mg c = some (.ref C) → Ext ω H ω' H' → Town ω' n' H' → E (.ref C) none H'
structure Has (P : Program) (w : World) (K : PySem.W.Frag) (mg : Str → Option Value) (base : Heap) (x : Str) (k ar : Nat) (fr : Bool) (m : Fn) : Prop where
  ex : ∃ (f : Addr) (fd : FuncData) (ps : List Str), FnOk P w K mg base (L2.CX P w) k f fd ps (spX K mg ar fr m) ∧ mg x = some (.ref f) ∧ PySem.W.keepIn K (.ref f) = true ∧ Binds K fd ps []
def eCall (m : Fn) (fs : Fe (List D)) : FE := fun env n => match fs env n with
  | some (ds, n1) => (match m ds n1 with
    | some (.ok d, n2) => some (d, n2)
    | _ => none)
  | none => none
theorem m_len {m : Fn} {ar : Nat} {ds : List D} {n n' : Sn} {r : Rs} (h : ∀ ds n, ds.length ≠ ar → m ds n = none) (e : m ds n = some (r, n')) : ds.length = ar := by
  by_cases q : ds.length = ar
  · exact q
  · rw [h ds n q] at e; cases e
section
variable {X : Cx} {e : Expr} {es : List Expr} {pos p : Pos} {fs : Fe (List D)} {x : Str} {j k ar : Nat} {fr : Bool} {m : Fn}
theorem me_call (h : Has X.prog X.w X.K X.mg X.base x k ar fr m) (hl : ∀ ds n, ds.length ≠ ar → m ds n = none) (hr : Room j X.A) (hk : k ≤ j) (hg : Gl X x) (ha : MA X (e :: es) fs)
    (hdb : (x == ("__debug__" : Str)) = false := by decide) (he : starEach (e :: es) X.env = (false, eval e X.env) :: starEach es X.env := by rfl) (hpl : (backTo pos (starEach es X.env)).any (·.1) = false := by rfl) :
    ME X (.Call (.Name x p) (e :: es) [] pos) (eCall m fs) := by
  obtain ⟨f, fd, ps, F, hm, hkp, hb⟩ := h.ex
  refine pe_imp (pe_call (E := E0) F (hr.mono hk) hg hm hkp hb .nil passL ha hdb he hpl) fun σ H Q q => ?_
  obtain ⟨ω, env, n, d, n', R, t, e, k⟩ := q
  unfold eCall at e
  split at e
  · rename_i ds n1 h1
    split at e
    · rename_i d2 n2 h2
      cases e
      refine tMA_run R t h1 fun v ω1 H1 k1 R1 t1 r1 => ?_
      refine ⟨ω1, ds, n1, .ok d, _, R1.cl, by rw [List.append_nil]; exact r1, m_len hl h2, t1, h2, fun v' ω' H' k2 t2 r2 _ => k v' ω' H' (k1.trans k2) t2 r2⟩
    · cases e
  · cases e
def eCallL (m : Fn) (fs : Fe (List D)) : Fe (List D) := fun env n => match fs env n with
  | some (ds, n1) => (match m ds n1 with
    | some (.ok (.list ds'), n2) => some (ds', n2)
    | _ => none)
  | none => none
/-- a call that hands back a new list -/
theorem me_callF (h : Has X.prog X.w X.K X.mg X.base x k ar true m) (hl : ∀ ds n, ds.length ≠ ar → m ds n = none) (hr : Room j X.A) (hk : k ≤ j) (hg : Gl X x) (ha : MA X (e :: es) fs)
    (hdb : (x == ("__debug__" : Str)) = false := by decide) (he : starEach (e :: es) X.env = (false, eval e X.env) :: starEach es X.env := by rfl) (hpl : (backTo pos (starEach es X.env)).any (·.1) = false := by rfl) :
    MF X (.Call (.Name x p) (e :: es) [] pos) (eCallL m fs) := by
  obtain ⟨f, fd, ps, F, hm, hkp, hb⟩ := h.ex
  refine pe_imp (pe_call (E := E0) F (hr.mono hk) hg hm hkp hb .nil passL ha hdb he hpl) fun σ H Q q => ?_
  obtain ⟨ω, env, n, d, n', R, t, e, k⟩ := q
  unfold eCallL at e
  split at e
  · rename_i ds n1 h1
    split at e
    · rename_i d2 n2 h2
      cases e
      refine tMA_run R t h1 fun v ω1 H1 k1 R1 t1 r1 => ?_
      refine ⟨ω1, ds, n1, _, _, R1.cl, by rw [List.append_nil]; exact r1, m_len hl h2, t1, h2, fun v' ω' H' k2 t2 r2 hf => ?_⟩
      obtain ⟨q, xs, ds', rfl, e', hp, hp', np, l, rl⟩ := hf rfl
      cases e'
      exact k q xs ω' H' (k1.trans k2) t2 (k1.noneB hp) np hp' l rl
    · cases e
  · cases e
end

/-! ### slots: plain data; a list of one's own; a list of lists of one's own; a dict of one's own -/
inductive SV where
  | val (d : D)
  | own (ds : List D)
  | own2 (dss : List (List D))
  | dct (kvs : List (List Int × D))
abbrev Es := List (Option SV)
def frz1 : Option SV → Option D
  | some (.val d) => some d
  | some (.own ds) => some (.list ds)
  | some (.own2 dss) => some (.list (dss.map .list))
  | some (.dct kvs) => some (dctD false kvs)
  | none => none
def hid1 : Option SV → Option D
  | some (.val d) => some d
  | _ => none
def frzE (S : Es) : En := S.map frz1
def hidE (S : Es) : En := S.map hid1
inductive Rows (K : PySem.W.Frag) (ω : Wd) (H : Hp) : List Addr → List (List D) → Prop where
  | nil : Rows K ω H [] []
  | cons {b : Addr} {bs : List Addr} {ds : List D} {dss : List (List D)} (xs : List V) : H b = some (.lst xs) → ds.length ≤ sizeLine → RpL K ω H xs ds → Rows K ω H bs dss → Rows K ω H (b :: bs) (ds :: dss)
def SvRp (K : PySem.W.Frag) (ω : Wd) (H : Hp) (o : Addr → Option Nat) (i : Nat) (v : V) : SV → Prop
  | .val d => Rp K ω H v d
  | .own ds => ∃ a xs, v = .ref a ∧ o a = some i ∧ H a = some (.lst xs) ∧ ds.length ≤ sizeLine ∧ RpL K ω H xs ds
  | .own2 dss => ∃ a bs, v = .ref a ∧ o a = some i ∧ (a :: bs).Nodup ∧ (∀ b ∈ bs, o b = some i) ∧ H a = some (.lst (bs.map V.ref)) ∧ dss.length ≤ sizeLine ∧ Rows K ω H bs dss
  | .dct kvs => ∃ a vs, v = .ref a ∧ o a = some i ∧ H a = some (.dT vs) ∧ kvs.length ≤ sizeLine ∧ DctR H vs kvs
/-- one's own cells may change, too -/
abbrev Wd.plus (ω : Wd) (o : Addr → Option Nat) : Wd := ω.or (fun a => ∃ j, o a = some j)
structure RS (K : PySem.W.Frag) (C : Addr) (ω0 : Wd) (H0 : Hp) (ω : Wd) (S : Es) (n : Sn) (σ : L2.St) (H : Hp) (o : Addr → Option Nat) : Prop where
  ext : Ext ω0 H0 ω H
  cl : ω.C = C
  town : Town ω n H
  new : ∀ a j, o a = some j → H0 a = none ∧ ¬ ω.T a
  own : ∀ a j, o a = some j → ∃ x, H a = some x ∧ noTup x
  len : S.length = σ.length
  slot : ∀ (i : Nat) (sv : SV), S[i]? = some (some sv) → ∃ v, σ[i]? = some (some v) ∧ SvRp K (ω.plus o) H o i v sv
section
variable {K : PySem.W.Frag} {C : Addr} {ω0 : Wd} {H0 : Hp} {ω ω' ω1 : Wd} {S : Es} {n n' n1 : Sn} {σ : L2.St} {H H' H1 : Hp} {o o' o1 : Addr → Option Nat}
theorem Rows.mv (m : Mv ω H ω' H') : ∀ {bs : List Addr} {dss : List (List D)}, (∀ b ∈ bs, ∀ x, H b = some x → H' b = some x) → Rows K ω H bs dss → Rows K ω' H' bs dss
  | _, _, _, .nil => .nil
  | _, _, hb, .cons xs h l r t => .cons xs (hb _ List.mem_cons_self _ h) l (r.mv m) (Rows.mv m (fun b hm => hb b (List.mem_cons_of_mem _ hm)) t)
theorem SvRp.mv {i : Nat} {v : V} {sv : SV} (m : Mv ω H ω' H') (hk : ∀ a x, o a = some i → H a = some x → H' a = some x) (ho : ∀ a, o a = some i → o' a = some i) (h : SvRp K ω H o i v sv) : SvRp K ω' H' o' i v sv := by
  cases sv with
  | val d => exact Rp.mv m h
  | own ds =>
    obtain ⟨a, xs, rfl, h1, h2, l, r⟩ := h
    exact ⟨a, xs, rfl, ho a h1, hk a _ h1 h2, l, r.mv m⟩
  | own2 dss =>
    obtain ⟨a, bs, rfl, h1, hn, h2, h3, l, r⟩ := h
    exact ⟨a, bs, rfl, ho a h1, hn, fun b hb => ho b (h2 b hb), hk a _ h1 h3, l, r.mv m fun b hb x e => hk b x (h2 b hb) e⟩
  | dct kvs =>
    obtain ⟨a, vs, rfl, h1, h2, l, r⟩ := h
    exact ⟨a, vs, rfl, ho a h1, hk a _ h1 h2, l, r.mono m.tup⟩
theorem RS.townP (R : RS K C ω0 H0 ω S n σ H o) : Town (ω.plus o) n H := R.town.or fun a ⟨j, h⟩ => R.own a j h
theorem RS.nhas (R : RS K C ω0 H0 ω S n σ H o) {a : Addr} {j : Nat} (h : o a = some j) : ¬ ω.has a := fun z => (R.new a j h).2 (Wd.hasT z)
theorem frz_get {i : Nat} {d : D} (h : (frzE S)[i]? = some (some d)) : ∃ sv, S[i]? = some (some sv) ∧ frz1 (some sv) = some d := by
  unfold frzE at h
  rw [List.getElem?_map] at h
  cases q : S[i]? with
  | none => rw [q] at h; cases h
  | some z =>
    rw [q] at h
    cases z with
    | none => cases h
    | some sv => exact ⟨sv, rfl, Option.some.inj h⟩
theorem hid_get {i : Nat} {d : D} (h : (hidE S)[i]? = some (some d)) : S[i]? = some (some (.val d)) := by
  unfold hidE at h
  rw [List.getElem?_map] at h
  cases q : S[i]? with
  | none => rw [q] at h; cases h
  | some z =>
    rw [q] at h
    cases z with
    | none => cases h
    | some sv =>
      cases sv with
      | val d' => cases h; rfl
      | own _ => cases h
      | own2 _ => cases h
      | dct _ => cases h
theorem rows_rp {bs : List Addr} {dss : List (List D)} (h : Rows K ω H bs dss) (hb : ∀ b ∈ bs, ¬ ω'.T b) (m : Mv ω H ω' H) : RpL K ω' H (bs.map V.ref) (dss.map .list) := by
  induction h with
  | nil => exact .nil
  | cons xs h l r t ih => exact .cons (.lst h (hb _ List.mem_cons_self) l (r.mv m)) (ih fun b hm => hb b (List.mem_cons_of_mem _ hm))
theorem mv_unplus : Mv (ω.plus o) H ω H := Mv.less (ω := ω.plus o) (ω' := ω) rfl rfl fun a z => Or.inl z
theorem SvRp.d {i : Nat} {v : V} {sv : SV} {d : D} (R : RS K C ω0 H0 ω S n σ H o) (h : SvRp K (ω.plus o) H o i v sv) (e : frz1 (some sv) = some d) : Rp K ω H v d := by
  cases sv with
  | val d => cases e; exact Rp.mv mv_unplus h
  | own ds =>
    cases e
    obtain ⟨a, xs, rfl, h1, h2, l, r⟩ := h
    exact .lst h2 (R.new a i h1).2 l (r.mv mv_unplus)
  | own2 dss =>
    cases e
    obtain ⟨a, bs, rfl, h1, hn, h2, h3, l, r⟩ := h
    exact .lst h3 (R.new a i h1).2 (by rw [List.length_map]; exact l) (rows_rp r (fun b hb => (R.new b i (h2 b hb)).2) mv_unplus)
  | dct kvs =>
    cases e
    obtain ⟨a, vs, rfl, h1, h2, l, r⟩ := h
    exact .dct (b := false) h2 (R.new a i h1).2 l r
theorem RS.frz (R : RS K C ω0 H0 ω S n σ H o) : RE K C ω (frzE S) σ H := by
  refine ⟨R.town.ok, R.cl, by unfold frzE; rw [List.length_map]; exact R.len, fun i d h => ?_⟩
  obtain ⟨sv, h1, e⟩ := frz_get h
  obtain ⟨v, h2, h3⟩ := R.slot i sv h1
  exact ⟨v, h2, h3.d R e⟩
theorem RS.hid (R : RS K C ω0 H0 ω S n σ H o) : RE K C (ω.plus o) (hidE S) σ H := by
  refine ⟨R.townP.ok, R.cl, by unfold hidE; rw [List.length_map]; exact R.len, fun i d h => ?_⟩
  obtain ⟨v, h2, h3⟩ := R.slot i _ (hid_get h)
  exact ⟨v, h2, h3⟩
/-- a world without one's own -/
def Wd.diff (ω : Wd) (o : Addr → Option Nat) (h : ∀ a, ω.has a → o a = none) : Wd := { ω with T := fun a => ω.T a ∧ o a = none, hT1 := fun a z => ⟨ω.hT1 a z, h a (.inl z)⟩, hT2 := fun a k z => ⟨ω.hT2 a k z, h a (.inr ⟨k, z⟩)⟩ }
theorem Town.diff {h : ∀ a, ω.has a → o a = none} (t : Town ω n H) : Town (ω.diff o h) n H :=
  ⟨⟨fun a z => t.ok.tin a z.1⟩, t.town, t.len, fun k c z => let ⟨a, h1, h2⟩ := t.cell k c z; ⟨a, h1, h2.mono rfl (fun _ z => z) (fun _ _ _ z => z) fun _ _ z => z⟩, t.owk⟩
theorem RS.hasO (R : RS K C ω0 H0 ω S n σ H o) (e : Ext (ω.plus o) H ω1 H1) : ∀ a, ω1.has a → o a = none := fun a z => by
  cases q : o a with
  | none => rfl
  | some j =>
    obtain ⟨x, hx, _⟩ := R.own a j q
    exact absurd (show ω.has a from e.hasB hx z) (R.nhas q)
/-- what was evaluated moves the frame along -/
theorem RS.extO (R : RS K C ω0 H0 ω S n σ H o) (e : Ext (ω.plus o) H ω1 H1) : Ext ω0 H0 (ω1.diff o (R.hasO e)) H1 := by
  have oN : ∀ a, H0 a ≠ none → o a = none := fun a h => by
    cases q : o a with
    | none => rfl
    | some j => exact absurd (R.new a j q).1 h
  refine ⟨e.town.trans R.ext.town, e.C.trans R.ext.C, fun k a h => e.root k a (R.ext.root k a h), fun a h => ?_, fun a k h => ?_, fun a x na h => ?_, fun a xs h => e.tup a xs (R.ext.tup a xs h), fun a h => e.al a (R.ext.al a h)⟩
  · have ha := oN a h
    rw [← R.ext.old a h]
    have := e.old a (R.ext.al a h)
    exact ⟨fun z => (this.mp z.1).elim id (fun ⟨j, q⟩ => by rw [ha] at q; cases q), fun z => ⟨this.mpr (.inl z), ha⟩⟩
  · rcases e.ow a k h with z | z
    · exact R.ext.ow a k z
    · exact .inr (R.ext.noneB z)
  · exact e.keep a x (fun z => na (R.ext.hasB h z)) (R.ext.keep a x na h)
theorem RS.oldO (R : RS K C ω0 H0 ω S n σ H o) (e : Ext (ω.plus o) H ω1 H1) {a : Addr} {j : Nat} (h : o a = some j) : ω1.T a := by
  obtain ⟨x, hx, _⟩ := R.own a j h
  exact (e.old a (sm_ne hx)).mpr (.inr ⟨j, h⟩)
theorem RS.mvO (R : RS K C ω0 H0 ω S n σ H o) (e : Ext (ω.plus o) H ω1 H1) : Mv ω1 H1 ((ω1.diff o (R.hasO e)).plus o) H1 := Mv.less rfl rfl fun a z => z.elim (fun q => q.1) fun ⟨j, q⟩ => R.oldO e q
theorem RS.keepO (R : RS K C ω0 H0 ω S n σ H o) (e : Ext (ω.plus o) H ω1 H1) {a : Addr} {j : Nat} {x : HO} (h : o a = some j) (hx : H a = some x) : H1 a = some x := e.keep a x (R.nhas h) hx
theorem RS.extH (R : RS K C ω0 H0 ω S n σ H o) (e : Ext (ω.plus o) H ω1 H1) (t : Town ω1 n1 H1) : RS K C ω0 H0 (ω1.diff o (R.hasO e)) S n1 σ H1 o := by
  refine ⟨R.extO e, e.C.trans R.cl, t.diff, fun a j h => ⟨(R.new a j h).1, fun z => by have z2 := z.2; rw [h] at z2; cases z2⟩, fun a j h => ?_, R.len, fun i sv h => ?_⟩
  · obtain ⟨x, hx, nx⟩ := R.own a j h
    exact ⟨x, R.keepO e h hx, nx⟩
  · obtain ⟨v, h1, h2⟩ := R.slot i sv h
    exact ⟨v, h1, h2.mv (e.mv.trans (R.mvO e)) (fun a x ha hx => R.keepO e ha hx) fun a ha => ha⟩
/-- with one's own lists read as they stand -/
theorem RS.upE (R : RS K C ω0 H0 ω S n σ H o) (e : Ext ω H ω1 H1) : Ext (ω.plus o) H (ω1.plus o) H1 :=
  ⟨e.town, e.C, e.root, fun a h => by
    show ω1.T a ∨ _ ↔ ω.T a ∨ _
    rw [e.old a h], e.ow, e.keep, e.tup, e.al⟩
theorem RS.upT (R : RS K C ω0 H0 ω S n σ H o) (e : Ext ω H ω1 H1) (t : Town ω1 n1 H1) : Town (ω1.plus o) n1 H1 := t.or fun a ⟨j, h⟩ => by
  obtain ⟨x, hx, nx⟩ := R.own a j h
  exact ⟨x, e.keep a x (R.nhas h) hx, nx⟩
theorem RS.extF (R : RS K C ω0 H0 ω S n σ H o) (e : Ext ω H ω1 H1) (t : Town ω1 n1 H1) : RS K C ω0 H0 ω1 S n1 σ H1 o := by
  refine ⟨R.ext.trans e, e.C.trans R.cl, t, fun a j h => ⟨(R.new a j h).1, fun z => ?_⟩, fun a j h => ?_, R.len, fun i sv h => ?_⟩
  · obtain ⟨x, hx, nx⟩ := R.own a j h
    exact (R.new a j h).2 ((e.old a (sm_ne hx)).mp z)
  · obtain ⟨x, hx, nx⟩ := R.own a j h
    exact ⟨x, e.keep a x (R.nhas h) hx, nx⟩
  · obtain ⟨v, h1, h2⟩ := R.slot i sv h
    exact ⟨v, h1, h2.mv (R.upE e).mv (fun a x ha hx => e.keep a x (R.nhas ha) hx) fun a ha => ha⟩
/-- THE STEP: slot i is told anew -/
theorem RS.step {i : Nat} {v' : V} {sv' : SV} (R : RS K C ω0 H0 ω S n σ H o) (e : Ext ω0 H0 ω1 H1) (c : ω1.C = C) (t : Town ω1 n1 H1) (nw : ∀ a j, o1 a = some j → H0 a = none ∧ ¬ ω1.T a)
    (ow : ∀ a j, o1 a = some j → ∃ x, H1 a = some x ∧ noTup x) (m : Mv (ω.plus o) H (ω1.plus o1) H1) (ko : ∀ j a x, j ≠ i → o a = some j → H a = some x → H1 a = some x) (oo : ∀ a j, j ≠ i → o a = some j → o1 a = some j)
    (h5 : SvRp K (ω1.plus o1) H1 o1 i v' sv') : RS K C ω0 H0 ω1 (S.set i (some sv')) n1 (σ.set i (some v')) H1 o1 := by
  refine ⟨e, c, t, nw, ow, by rw [List.length_set, List.length_set]; exact R.len, fun j sv h => ?_⟩
  by_cases hj : i = j
  · subst hj
    by_cases hl : i < S.length
    · rw [List.getElem?_set_self hl] at h
      cases h
      exact ⟨v', List.getElem?_set_self (by rw [← R.len]; exact hl), h5⟩
    · rw [List.getElem?_eq_none (by rw [List.length_set]; omega)] at h
      cases h
  · rw [List.getElem?_set_ne hj] at h ⊢
    obtain ⟨v, q1, q2⟩ := R.slot j sv h
    exact ⟨v, q1, q2.mv m (fun a x ha hx => ko j a x (Ne.symm hj) ha hx) fun a ha => oo a j (Ne.symm hj) ha⟩
theorem Town.move (t : Town ω n H) (h : ∀ a x, ω.T a → H a = some x → H' a = some x) (ht : ∀ a xs, H a = some (.tup xs) → H' a = some (.tup xs)) : Town ω n H' := by
  refine ⟨⟨fun a z => ?_⟩, fun a z => ⟨(t.town a z).1, h a _ (ω.hT1 a z) (t.town a z).2⟩, t.len, fun k c z => ?_, t.owk⟩
  · obtain ⟨x, hx, nx⟩ := t.ok.tin a z
    exact ⟨x, h a x z hx, nx⟩
  · obtain ⟨a, h1, h2⟩ := t.cell k c z
    exact ⟨a, h1, h2.mono rfl (fun _ z => z) (fun b x hb hx => h b x (ω.hT2 b k hb) hx) ht⟩
/-- slot i is told anew in the same world: its own cells may have changed, new ones may have come -/
theorem RS.upd {i : Nat} {v' : V} {sv' : SV} (R : RS K C ω0 H0 ω S n σ H o) (h1 : ∀ a x, H a = some x → o a ≠ some i → H' a = some x) (h2 : ∀ a j, j ≠ i → (o' a = some j ↔ o a = some j)) (h3 : ∀ a, o' a = some i → o a = some i ∨ H a = none)
    (h4 : ∀ a, o' a = some i → ∃ x, H' a = some x ∧ noTup x) (h6 : ∀ a, o a = some i → H' a ≠ none) (h5 : SvRp K (ω.plus o') H' o' i v' sv') : RS K C ω0 H0 ω (S.set i (some sv')) n (σ.set i (some v')) H' o' := by
  have tp : ∀ a xs, H a = some (.tup xs) → H' a = some (.tup xs) := fun a xs h => h1 a _ h fun z => by
    obtain ⟨x, hx, nx⟩ := R.own a i z
    rw [h] at hx; cases hx; exact nx
  have oN : ∀ a, H0 a ≠ none → o a ≠ some i := fun a h z => h (R.new a i z).1
  have no : ∀ a x, H a = some x → (∃ j, o' a = some j) → ∃ j, o a = some j := fun a x hx ⟨j, hj⟩ => by
    by_cases e : j = i
    · subst e
      rcases h3 a hj with z | z
      · exact ⟨_, z⟩
      · rw [hx] at z; cases z
    · exact ⟨j, (h2 a j e).mp hj⟩
  refine R.step ⟨R.ext.town, R.ext.C, R.ext.root, R.ext.old, R.ext.ow, fun a x na h => h1 a x (R.ext.keep a x na h) (oN a (sm_ne h)), fun a xs h => tp a xs (R.ext.tup a xs h), fun a h => ?_⟩ R.cl (R.town.move (fun a x ha hx => h1 a x hx fun z => (R.new a i z).2 ha) tp) (fun a j h => ?_) (fun a j h => ?_)
    ⟨rfl, rfl, fun _ _ z => z, tp, fun a x na hx => ⟨h1 a x hx fun z => na (.inr ⟨i, z⟩), fun z => na (z.imp_right (no a x hx))⟩⟩ (fun j a x hj ha hx => h1 a x hx (by rw [ha]; exact fun z => hj (Option.some.inj z))) (fun a j hj ha => (h2 a j hj).mpr ha) h5
  · obtain ⟨x, hx⟩ := ne_sm (R.ext.al a h)
    exact sm_ne (h1 a x hx (oN a h))
  · by_cases e : j = i
    · subst e
      rcases h3 a h with z | z
      · exact R.new a _ z
      · exact ⟨R.ext.noneB z, R.town.ok.notIn z⟩
    · exact R.new a j ((h2 a j e).mp h)
  · by_cases e : j = i
    · subst e; exact h4 a h
    · obtain ⟨x, hx, nx⟩ := R.own a j ((h2 a j e).mp h)
      exact ⟨x, h1 a x hx (by rw [(h2 a j e).mp h]; exact fun z => e (Option.some.inj z)), nx⟩
/-- slot i forgets what it owned -/
def drop1 (o : Addr → Option Nat) (i : Nat) : Addr → Option Nat := fun a => if o a = some i then none else o a
theorem drop1_ne {i j : Nat} {a : Addr} (hj : j ≠ i) : drop1 o i a = some j ↔ o a = some j := by
  unfold drop1
  split
  · rename_i h
    rw [h]
    exact ⟨fun z => (by cases z), fun z => absurd (Option.some.inj z).symm hj⟩
  · exact Iff.rfl
theorem drop1_eq {i : Nat} {a : Addr} : drop1 o i a ≠ some i := by
  unfold drop1
  split
  · exact fun z => nomatch z
  · assumption
theorem drop1_sub {i : Nat} {a : Addr} {j : Nat} (h : drop1 o i a = some j) : o a = some j := by
  unfold drop1 at h
  split at h
  · cases h
  · exact h
theorem mv_drop {i : Nat} : Mv (ω.plus o) H (ω.plus (drop1 o i)) H := Mv.less rfl rfl fun a z => z.imp_right fun ⟨j, h⟩ => ⟨j, drop1_sub h⟩
theorem RS.setVal {i : Nat} {v : V} {d : D} (R : RS K C ω0 H0 ω S n σ H o) (r : Rp K (ω.plus o) H v d) : RS K C ω0 H0 ω (S.set i (some (.val d))) n (σ.set i (some v)) H (drop1 o i) :=
  R.upd (fun a x h _ => h) (fun a j hj => drop1_ne hj) (fun a h => absurd h drop1_eq) (fun a h => absurd h drop1_eq) (fun a h => let ⟨_, hx, _⟩ := R.own a i h; sm_ne hx) (Rp.mv mv_drop r)
/-- slot i owns the new cells ps -/
def ownL (o : Addr → Option Nat) (i : Nat) (ps : Addr → Prop) [DecidablePred ps] : Addr → Option Nat := fun a => if ps a then some i else drop1 o i a
theorem ownL_in {i : Nat} {ps : Addr → Prop} [DecidablePred ps] {a : Addr} (h : ps a) : ownL o i ps a = some i := if_pos h
theorem ownL_cases {i j : Nat} {ps : Addr → Prop} [DecidablePred ps] {a : Addr} (h : ownL o i ps a = some j) : (ps a ∧ j = i) ∨ (o a = some j ∧ j ≠ i) := by
  unfold ownL at h
  split at h
  · cases h; exact .inl ⟨by assumption, rfl⟩
  · exact .inr ⟨drop1_sub h, fun e => by subst e; exact drop1_eq h⟩
/-- slot i gets new cells of its own, made by what was evaluated -/
theorem RS.setNew {i : Nat} {v' : V} {sv' : SV} {ps : Addr → Prop} [DecidablePred ps] (R : RS K C ω0 H0 ω S n σ H o) (e : Ext (ω.plus o) H ω1 H1) (t : Town ω1 n1 H1) (hn : ∀ a, ps a → H a = none) (hT : ∀ a, ps a → ¬ ω1.T a) (hx : ∀ a, ps a → ∃ x, H1 a = some x ∧ noTup x)
    (h5 : ∀ ω2 : Wd, Mv (ω1.or ps) H1 (ω2.plus (ownL o i ps)) H1 → SvRp K (ω2.plus (ownL o i ps)) H1 (ownL o i ps) i v' sv') : RS K C ω0 H0 (ω1.diff o (R.hasO e)) (S.set i (some sv')) n1 (σ.set i (some v')) H1 (ownL o i ps) := by
  refine R.step (R.extO e) (e.C.trans R.cl) t.diff (fun a j h => ?_) (fun a j h => ?_) ⟨e.town, e.C, e.root, e.tup, fun a x na hx' => ⟨(e.mv.mv a x na hx').1, fun z => ?_⟩⟩ (fun j a x hj ha hx' => R.keepO e ha hx') (fun a j hj ha => ?_) (h5 _ (Mv.less rfl rfl fun a z => ?_))
  · rcases ownL_cases h with ⟨z, _⟩ | ⟨z, _⟩
    · exact ⟨R.ext.noneB (hn a z), fun q => hT a z q.1⟩
    · exact ⟨(R.new a j z).1, fun q => by have q2 := q.2; rw [z] at q2; cases q2⟩
  · rcases ownL_cases h with ⟨z, _⟩ | ⟨z, _⟩
    · exact hx a z
    · obtain ⟨x, hx', nx⟩ := R.own a j z
      exact ⟨x, R.keepO e z hx', nx⟩
  · have q := (e.mv.mv a x na hx').2
    rcases z with z | ⟨j, z⟩
    · exact q z.1
    · rcases ownL_cases z with ⟨z, _⟩ | ⟨z, _⟩
      · rw [hn a z] at hx'; cases hx'
      · exact na (.inr ⟨j, z⟩)
  · unfold ownL
    rw [if_neg (fun z => by
      obtain ⟨x, hx', _⟩ := R.own a j ha
      rw [hn a z] at hx'; cases hx')]
    exact (drop1_ne hj).mpr ha
  · rcases z with z | ⟨j, z⟩
    · exact .inl z.1
    · rcases ownL_cases z with ⟨z, _⟩ | ⟨z, _⟩
      · exact .inr z
      · exact .inl (R.oldO e z)
theorem RS.setOwn {i : Nat} {p : Addr} {xs : List V} {ds : List D} (R : RS K C ω0 H0 ω S n σ H o) (e : Ext (ω.plus o) H ω1 H1) (t : Town ω1 n1 H1) (hp : H p = none) (np : ¬ ω1.T p) (hp' : H1 p = some (.lst xs)) (l : ds.length ≤ sizeLine) (r : RpL K (ω1.add p) H1 xs ds) :
    RS K C ω0 H0 (ω1.diff o (R.hasO e)) (S.set i (some (.own ds))) n1 (σ.set i (some (.ref p))) H1 (ownL o i (fun a => a = p)) :=
  R.setNew e t (fun a z => by rw [z]; exact hp) (fun a z => by rw [z]; exact np) (fun a z => by rw [z]; exact ⟨_, hp', trivial⟩) fun ω2 m => ⟨p, xs, rfl, ownL_in rfl, hp', l, r.mv m⟩
end
/-! ### data without lists -/
mutual
def lf : D → Bool
  | .list _ => false
  | .dict [] => true
  | .dict [(.int _, .none)] => true
  | .dict (_ :: _) => false
  | .tuple ds => lfL ds
  | .none | .bool _ | .int _ | .str _ => true
def lfL : List D → Bool
  | [] => true
  | d :: ds => lf d && lfL ds
end
mutual
theorem Rp.lf {K : PySem.W.Frag} {ω ω' : Wd} {H : Hp} (h1 : ω'.town = ω.town) (h2 : ω'.root = ω.root) : ∀ {d : D} {v : V}, Rp K ω H v d → Pm.lf d = true → Rp K ω' H v d
  | _, _, .non, _ => .non
  | _, _, .bl b, _ => .bl b
  | _, _, .int i, _ => .int i
  | _, _, .str x l, _ => .str x l
  | _, _, .lst _ _ _ _, c => by simp [Pm.lf] at c
  | _, _, .tup h l r, c => .tup h l (RpL.lf h1 h2 r (by rw [Pm.lf] at c; exact c))
  | _, _, .town e, _ => .town (by rw [h1]; exact e)
  | _, _, .scr _ _, c => by simp [Pm.lf] at c
  | _, _, .cell e, _ => .cell (by rw [h2]; exact e)
  | _, _, .pln _ _ _ _ _ _ _ _ _, c => by simp [Pm.lf] at c
  | _, _, .dct _ _ _ _, c => by simp [Pm.lf] at c
theorem RpL.lf {K : PySem.W.Frag} {ω ω' : Wd} {H : Hp} (h1 : ω'.town = ω.town) (h2 : ω'.root = ω.root) : ∀ {ds : List D} {vs : List V}, RpL K ω H vs ds → lfL ds = true → RpL K ω' H vs ds
  | _, _, .nil, _ => .nil
  | _, _, .cons h r, c => by
    rw [lfL, Bool.and_eq_true] at c
    exact .cons (Rp.lf h1 h2 h c.1) (RpL.lf h1 h2 r c.2)
end
theorem Rp.lfS {K : PySem.W.Frag} {ω : Wd} {S : Addr → Prop} {H : Hp} {d : D} {v : V} (r : Rp K ω H v d) (h : Pm.lf d = true) : Rp K (ω.or S) H v d := Rp.lf (ω := ω) (ω' := ω.or S) rfl rfl r h
theorem RpL.lfS {K : PySem.W.Frag} {ω : Wd} {S : Addr → Prop} {H : Hp} {d : List D} {v : List V} (r : RpL K ω H v d) (h : lfL d = true) : RpL K (ω.or S) H v d := RpL.lf (ω := ω) (ω' := ω.or S) rfl rfl r h


/-! ### statements -/
inductive Fl where
  | nx (S : Es) | bk (S : Es) | ct (S : Es)
  | rt (d : D) | rf (ds : List D) | rc (k : Nat)
  | ex (c : Str)
abbrev FS := Es → Sn → Option (Fl × Sn)
def After (K : PySem.W.Frag) (mg : Str → Option Value) (W : WX) (ω0 : Wd) (H0 : Hp) (n' : Sn) (Dn : Ends) : Fl → Prop
  | .nx S' => ∀ ω' σ' H' o', RS K (clsA mg) ω0 H0 ω' S' n' σ' H' o' → Dn.nx σ' H'
  | .bk S' => ∀ ω' σ' H' o', RS K (clsA mg) ω0 H0 ω' S' n' σ' H' o' → Dn.bk σ' H'
  | .ct S' => ∀ ω' σ' H' o', RS K (clsA mg) ω0 H0 ω' S' n' σ' H' o' → Dn.ct σ' H'
  | .rt d => ∀ v ω' H', Ext ω0 H0 ω' H' → Town ω' n' H' → Rp K ω' H' v d → Dn.rt v H'
  | .rf ds => ∀ p xs ω' H', Ext ω0 H0 ω' H' → Town ω' n' H' → H0 p = none → ¬ ω'.T p → H' p = some (.lst xs) → ds.length ≤ sizeLine → RpL K (ω'.add p) H' xs ds → Dn.rt (.ref p) H'
  | .rc k => ∀ p ω' H', Ext ω0 H0 ω' H' → Town ω' n' H' → ω'.root[k]? = some p → Dn.rt (.ref p) H'
  | .ex c => ∀ C σ' ω' H', mg c = some (.ref C) → Ext ω0 H0 ω' H' → Town ω' n' H' → W (.ref C) none σ' H'
def tS (K : PySem.W.Frag) (mg : Str → Option Value) (W : WX) (f : FS) : TS := fun Dn σ H => ∃ (ω0 : Wd) (H0 : Hp) (ω : Wd) (S : Es) (n : Sn) (fl : Fl) (n' : Sn),
  (∃ o, RS K (clsA mg) ω0 H0 ω S n σ H o) ∧ f S n = some (fl, n') ∧ After K mg W ω0 H0 n' Dn fl
abbrev MS (X : Cx) (W : WX) (st : Stmt) (f : FS) : Prop := PS X st (tS X.K X.mg W f)
abbrev MSs (X : Cx) (W : WX) (st : List Stmt) (f : FS) : Prop := PSs X st (tS X.K X.mg W f)
section
variable {X : Cx} {W : WX} {st : Stmt} {rest body orelse : List Stmt} {e c : Expr} {pos : Pos} {f g : FS}
theorem ps_imp {t t' : TS} (h : PS X st t) (i : ∀ Dn σ H, t' Dn σ H → t Dn σ H) : PS X st t' := ⟨fun pins s σ H Dn I hw => h.run pins s σ H Dn I (i _ _ _ hw)⟩
theorem pss_imp {t t' : TS} (h : PSs X body t) (i : ∀ Dn σ H, t' Dn σ H → t Dn σ H) : PSs X body t' := ⟨fun pins s σ H Dn I hw => h.run pins s σ H Dn I (i _ _ _ hw)⟩
def sSkip : FS := fun S n => some (.nx S, n)
def sSeq (f g : FS) : FS := fun S n => match f S n with
  | some (.nx S', n1) => g S' n1
  | r => r
theorem mss_nil : MSs X W [] sSkip := by
  refine pss_imp pss_nil fun Dn σ H q => ?_
  obtain ⟨ω0, H0, ω, S, n, fl, n', ⟨o, R⟩, e, a⟩ := q
  cases e
  exact a ω σ H o R
theorem mss_cons (h1 : MS X W st f) (h2 : MSs X W rest g) : MSs X W (st :: rest) (sSeq f g) := by
  refine pss_imp (pss_cons h1 h2) fun Dn σ H q => ?_
  obtain ⟨ω0, H0, ω, S, n, fl, n', R, e, a⟩ := q
  unfold sSeq at e
  split at e
  · rename_i S1 n1 h3
    exact ⟨ω0, H0, ω, S, n, .nx S1, n1, R, h3, fun ω' σ' H' o' R' => ⟨ω0, H0, ω', S1, n1, fl, n', ⟨o', R'⟩, e, a⟩⟩
  · rename_i hn
    refine ⟨ω0, H0, ω, S, n, fl, n', R, e, ?_⟩
    cases fl with
    | nx S' => exact absurd e (hn S' n')
    | _ => exact a
theorem mss_one (h1 : MS X W st f) : MSs X W [st] f := pss_one h1
theorem ms_pass : MS X W (.Pass pos) sSkip := by
  refine ps_imp ps_pass fun Dn σ H q => ?_
  obtain ⟨ω0, H0, ω, S, n, fl, n', ⟨o, R⟩, e, a⟩ := q
  cases e
  exact a ω σ H o R
def sBreak : FS := fun S n => some (.bk S, n)
def sCont : FS := fun S n => some (.ct S, n)
theorem ms_break : MS X W (.Break pos) sBreak := by
  refine ps_imp ps_break fun Dn σ H q => ?_
  obtain ⟨ω0, H0, ω, S, n, fl, n', ⟨o, R⟩, e, a⟩ := q
  cases e
  exact a ω σ H o R
theorem ms_cont : MS X W (.Continue pos) sCont := by
  refine ps_imp ps_continue fun Dn σ H q => ?_
  obtain ⟨ω0, H0, ω, S, n, fl, n', ⟨o, R⟩, e, a⟩ := q
  cases e
  exact a ω σ H o R
/-! return -/
def sRet (f : FE) : FS := fun S n => match f (frzE S) n with
  | some (d, n1) => some (.rt d, n1)
  | none => none
theorem ms_ret {fe : FE} (he : ME X e fe) : MS X W (.Return (some e) pos) (sRet fe) := by
  refine ps_imp (ps_ret he) fun Dn σ H q => ?_
  obtain ⟨ω0, H0, ω, S, n, fl, n', ⟨o, R⟩, e, a⟩ := q
  unfold sRet at e
  split at e
  · rename_i d n1 h1
    cases e
    exact tM_run R.frz R.town h1 fun v ω' H' k _ t r => a v ω' H' (R.ext.trans k) t r
  · cases e
def sRetF (f : Fe (List D)) : FS := fun S n => match f (frzE S) n with
  | some (ds, n1) => some (.rf ds, n1)
  | none => none
theorem ms_retF {fe : Fe (List D)} (he : MF X e fe) : MS X W (.Return (some e) pos) (sRetF fe) := by
  refine ps_imp (ps_ret he) fun Dn σ H q => ?_
  obtain ⟨ω0, H0, ω, S, n, fl, n', ⟨o, R⟩, e, a⟩ := q
  unfold sRetF at e
  split at e
  · rename_i ds n1 h1
    cases e
    exact ⟨ω, frzE S, n, ds, _, R.frz, R.town, h1, fun p xs ω' H' k t hp np hp' l r => a p xs ω' H' (R.ext.trans k) t (R.ext.noneB hp) np hp' l r⟩
  · cases e
/-- return of an own list -/
def sRetO (i : Nat) : FS := fun S n => match S[i]? with
  | some (some (.own ds)) => some (.rf ds, n)
  | _ => none
theorem ms_retO {i : Nat} (he : PE X e (tVar i)) : MS X W (.Return (some e) pos) (sRetO i) := by
  refine ps_imp (ps_ret he) fun Dn σ H q => ?_
  obtain ⟨ω0, H0, ω, S, n, fl, n', ⟨o, R⟩, e, a⟩ := q
  unfold sRetO at e
  split at e
  · rename_i ds h1
    cases e
    obtain ⟨v, h2, p, xs, rfl, h3, h4, l, r⟩ := R.slot i _ h1
    refine ⟨_, h2, a p xs ω H R.ext R.town (R.new p i h3).1 (R.new p i h3).2 h4 l (r.mv (Mv.less (ω := ω.plus o) (ω' := ω.add p) rfl rfl fun b z => z.imp_right fun z => ⟨i, by rw [z]; exact h3⟩))⟩
  · cases e
def sRetN : FS := fun S n => some (.rt .none, n)
theorem ms_retN : MS X W (.Return none pos) sRetN := by
  refine ps_imp ps_retN fun Dn σ H q => ?_
  obtain ⟨ω0, H0, ω, S, n, fl, n', ⟨o, R⟩, e, a⟩ := q
  cases e
  exact a _ ω H R.ext R.town .non
/-! if -/
def sIf (c : Fe Bool) (f g : FS) : FS := fun S n => match c (frzE S) n with
  | some (true, n1) => f S n1
  | some (false, n1) => g S n1
  | none => none
theorem ms_if {fc : Fe Bool} (hc : MT X c fc) (ha : MSs X W body f) (hb : MSs X W orelse g) : MS X W (.If c body orelse pos) (sIf fc f g) := by
  refine ps_imp (ps_if hc ha hb) fun Dn σ H q => ?_
  obtain ⟨ω0, H0, ω, S, n, fl, n', ⟨o, R⟩, e, a⟩ := q
  unfold sIf at e
  split at e
  · rename_i n1 h1
    refine tMT_run R.frz R.town h1 fun ω' H' k _ t => ?_
    rw [if_pos rfl]
    exact ⟨ω0, H0, ω', S, n1, fl, n', ⟨o, R.extF k t⟩, e, a⟩
  · rename_i n1 h1
    refine tMT_run R.frz R.town h1 fun ω' H' k _ t => ?_
    rw [if_neg Bool.false_ne_true]
    exact ⟨ω0, H0, ω', S, n1, fl, n', ⟨o, R.extF k t⟩, e, a⟩
  · cases e
/-! x = e -/
/-- data without lists -/
def sSet (i : Nat) (f : FE) : FS := fun S n => match f (frzE S) n with
  | some (d, n1) => if lf d then some (.nx (S.set i (some (.val d))), n1) else none
  | none => none
theorem ms_asg {i : Nat} {te : TE} {f : FE} (h : PS X st (tAsg te (gName i))) (hf : te = tM X.K (clsA X.mg) f) : MS X W st (sSet i f) := by
  subst hf
  refine ps_imp h fun Dn σ H q => ?_
  obtain ⟨ω0, H0, ω, S, n, fl, n', ⟨o, R⟩, e, a⟩ := q
  unfold sSet at e
  split at e
  · rename_i d n1 h1
    split at e
    · rename_i hl
      cases e
      refine tM_run R.frz R.town h1 fun v ω' H' k _ t r => ?_
      have R' := R.extF k t
      exact a _ _ _ _ (R'.setVal (i := i) (r.lfS hl))
    · cases e
  · cases e
/-- any data, without one's own lists -/
def sSetH (i : Nat) (f : FE) : FS := fun S n => match f (hidE S) n with
  | some (d, n1) => some (.nx (S.set i (some (.val d))), n1)
  | none => none
theorem ms_asgH {i : Nat} {te : TE} {f : FE} (h : PS X st (tAsg te (gName i))) (hf : te = tM X.K (clsA X.mg) f) : MS X W st (sSetH i f) := by
  subst hf
  refine ps_imp h fun Dn σ H q => ?_
  obtain ⟨ω0, H0, ω, S, n, fl, n', ⟨o, R⟩, e, a⟩ := q
  unfold sSetH at e
  split at e
  · rename_i d n1 h1
    cases e
    refine tM_run R.hid R.townP h1 fun v ω' H' k _ t r => ?_
    exact a _ _ _ _ ((R.extH k t).setVal (i := i) (r.mv (R.mvO k)))
  · cases e
/-- a new list of data without lists, one's own from now on -/
def sOwn (i : Nat) (f : Fe (List D)) : FS := fun S n => match f (frzE S) n with
  | some (ds, n1) => if lfL ds then some (.nx (S.set i (some (.own ds))), n1) else none
  | none => none
theorem ms_own {i : Nat} {te : TE} {f : Fe (List D)} (h : PS X st (tAsg te (gName i))) (hf : te = tMF X.K (clsA X.mg) f) : MS X W st (sOwn i f) := by
  subst hf
  refine ps_imp h fun Dn σ H q => ?_
  obtain ⟨ω0, H0, ω, S, n, fl, n', ⟨o, R⟩, e, a⟩ := q
  unfold sOwn at e
  split at e
  · rename_i ds n1 h1
    split at e
    · rename_i hl
      cases e
      refine ⟨ω, frzE S, n, ds, _, R.frz, R.town, h1, fun p xs ω' H' k t hp np hp' l r => ?_⟩
      refine a _ _ _ _ (R.setOwn (i := i) (R.upE k) (R.upT k t) hp (fun z => z.elim np fun ⟨j, q⟩ => ?_) hp' l (RpL.lf (ω := ω'.add p) (ω' := (ω'.plus o).add p) rfl rfl r hl))
      obtain ⟨x, hx, _⟩ := R.own p j q
      rw [hp] at hx; cases hx
    · cases e
  · cases e
/-- a new list, one's own lists not read -/
def sOwnH (i : Nat) (f : Fe (List D)) : FS := fun S n => match f (hidE S) n with
  | some (ds, n1) => some (.nx (S.set i (some (.own ds))), n1)
  | none => none
theorem ms_ownH {i : Nat} {te : TE} {f : Fe (List D)} (h : PS X st (tAsg te (gName i))) (hf : te = tMF X.K (clsA X.mg) f) : MS X W st (sOwnH i f) := by
  subst hf
  refine ps_imp h fun Dn σ H q => ?_
  obtain ⟨ω0, H0, ω, S, n, fl, n', ⟨o, R⟩, e, a⟩ := q
  unfold sOwnH at e
  split at e
  · rename_i ds n1 h1
    cases e
    refine ⟨_, hidE S, n, ds, _, R.hid, R.townP, h1, fun p xs ω' H' k t hp np hp' l r => ?_⟩
    exact a _ _ _ _ (R.setOwn (i := i) k t hp np hp' l r)
  · cases e
/-- own lists that are not changed any more -/
def frzS (i : Nat) (S : Es) : Es := match S[i]? with
  | some (some (.own ds)) => S.set i (some (.val (.list ds)))
  | some (some (.own2 dss)) => S.set i (some (.val (.list (dss.map .list))))
  | _ => S
def sFrz (i : Nat) (f : FS) : FS := fun S n => f (frzS i S) n
theorem set_here {α : Type} {σ : List (Option α)} {i : Nat} {v : α} (h1 : σ[i]? = some (some v)) : σ.set i (some v) = σ := by
  apply List.ext_getElem?
  intro j
  by_cases hj : i = j
  · subst hj
    have hl : i < σ.length := by
      cases Nat.lt_or_ge i σ.length with
      | inl z => exact z
      | inr z => rw [List.getElem?_eq_none z] at h1; cases h1
    rw [List.getElem?_set_self hl, h1]
  · rw [List.getElem?_set_ne hj]
section
variable {K : PySem.W.Frag} {C : Addr} {ω0 : Wd} {H0 : Hp} {ω ω' ω1 : Wd} {S : Es} {n n' n1 : Sn} {σ : L2.St} {H H' H1 : Hp} {o o' o1 : Addr → Option Nat}
theorem RS.freeze1 {i : Nat} {sv : SV} {d : D} (R : RS K C ω0 H0 ω S n σ H o) (h : S[i]? = some (some sv)) (e : frz1 (some sv) = some d) : RS K C ω0 H0 ω (S.set i (some (.val d))) n σ H (drop1 o i) := by
  obtain ⟨v, h1, h2⟩ := R.slot i sv h
  have hni : ∀ a, o a = some i → ¬ (ω.plus (drop1 o i)).T a := fun a ha z => by
    rcases z with z | ⟨j, z⟩
    · exact (R.new a i ha).2 z
    · have z1 := drop1_sub z
      rw [ha] at z1
      cases z1
      exact drop1_eq z
  have g := R.upd (i := i) (sv' := .val d) (v' := v) (H' := H) (fun a x h _ => h) (fun a j hj => drop1_ne hj) (fun a h => absurd h drop1_eq) (fun a h => absurd h drop1_eq) (fun a h => let ⟨_, hx, _⟩ := R.own a i h; sm_ne hx) (by
    show Rp K (ω.plus (drop1 o i)) H v d
    cases sv with
    | val d => cases e; exact Rp.mv mv_drop h2
    | own ds =>
      cases e
      obtain ⟨a, xs, rfl, q1, q2, l, r⟩ := h2
      exact .lst q2 (hni a q1) l (r.mv mv_drop)
    | own2 dss =>
      cases e
      obtain ⟨a, bs, rfl, q1, hn, q2, q3, l, r⟩ := h2
      exact .lst q3 (hni a q1) (by rw [List.length_map]; exact l) (rows_rp r (fun b hb => hni b (q2 b hb)) mv_drop)
    | dct kvs =>
      cases e
      obtain ⟨a, vs, rfl, q1, q2, l, r⟩ := h2
      exact .dct (b := false) q2 (hni a q1) l r)
  rw [set_here h1] at g
  exact g
theorem RS.freeze (i : Nat) (R : RS K C ω0 H0 ω S n σ H o) : ∃ o', RS K C ω0 H0 ω (frzS i S) n σ H o' := by
  unfold frzS
  split
  · exact ⟨_, R.freeze1 (by assumption) rfl⟩
  · exact ⟨_, R.freeze1 (by assumption) rfl⟩
  · exact ⟨o, R⟩
end
theorem ms_frz {i : Nat} (h : MS X W st f) : MS X W st (sFrz i f) := by
  refine ps_imp h fun Dn σ H q => ?_
  obtain ⟨ω0, H0, ω, S, n, fl, n', ⟨o, R⟩, e, a⟩ := q
  exact ⟨ω0, H0, ω, frzS i S, n, fl, n', R.freeze i, e, a⟩
/-! x.append(e), x.extend(e), y = x.pop() of an own list x -/
def sApp (i : Nat) (f : FE) : FS := fun S n => match S[i]? with
  | some (some (.own ds)) => (match f (frzE S) n with
    | some (d, n1) => if lf d && decide (ds.length < lim) then some (.nx (S.set i (some (.own (ds ++ [d])))), n1) else none
    | none => none)
  | _ => none
def sAppH (i : Nat) (f : FE) : FS := fun S n => match S[i]? with
  | some (some (.own ds)) => (match f (hidE S) n with
    | some (d, n1) => if decide (ds.length < lim) then some (.nx (S.set i (some (.own (ds ++ [d])))), n1) else none
    | none => none)
  | _ => none
/-- the cell of slot i's list is told anew -/
theorem RS.setCell {K : PySem.W.Frag} {C : Addr} {ω0 : Wd} {H0 : Hp} {ω : Wd} {S : Es} {n : Sn} {σ : L2.St} {H : Hp} {o : Addr → Option Nat} {i : Nat} {a : Addr} {xs : List V} {ds : List D} (R : RS K C ω0 H0 ω S n σ H o) (hσ : σ[i]? = some (some (.ref a))) (ha : o a = some i)
    (r : RpL K (ω.plus o) H xs ds) (l : ds.length ≤ sizeLine) : RS K C ω0 H0 ω (S.set i (some (.own ds))) n σ (L2.upd H a (.lst xs)) o := by
  have up : ∀ b x, H b = some x → ∃ y, L2.upd H a (.lst xs) b = some y ∧ (noTup x → noTup y) := fun b x hb => by
    by_cases e : b = a
    · rw [e]; exact ⟨_, upd_same, fun _ => trivial⟩
    · rw [upd_ne e]; exact ⟨x, hb, id⟩
  have g := R.upd (i := i) (sv' := .own ds) (v' := .ref a) (H' := L2.upd H a (.lst xs)) (o' := o) (fun b x hb hn => by rw [upd_ne (fun z => hn (by rw [z]; exact ha))]; exact hb) (fun b j _ => Iff.rfl) (fun b h => .inl h) (fun b h => by
      obtain ⟨x, hx, nx⟩ := R.own b i h
      obtain ⟨y, hy, ny⟩ := up b x hx
      exact ⟨y, hy, ny nx⟩) (fun b h => by
      obtain ⟨x, hx, nx⟩ := R.own b i h
      obtain ⟨y, hy, ny⟩ := up b x hx
      exact sm_ne hy) ⟨a, xs, rfl, ha, upd_same, l, r.mv ⟨rfl, rfl, fun _ _ z => z, fun b ys hb => by
        rw [upd_ne (fun z => by
          obtain ⟨x, hx, nx⟩ := R.own a i ha
          rw [z, hx] at hb; cases hb; exact nx)]
        exact hb, fun b x nb hb => ⟨by rw [upd_ne (fun z => nb (.inr ⟨i, by rw [z]; exact ha⟩))]; exact hb, nb⟩⟩⟩
  rw [set_here hσ] at g
  exact g
theorem ms_app {i : Nat} {fe : FE} (h : PS X st (tDrop (tBM X.K "list" rAppend (tVar i) (tCons (tM X.K (clsA X.mg) fe) tNil)))) : MS X W st (sApp i fe) := by
  refine ps_imp h fun Dn σ H q => ?_
  obtain ⟨ω0, H0, ω, S, n, fl, n', ⟨o, R⟩, e, a⟩ := q
  unfold sApp at e
  split at e
  · rename_i ds hS
    split at e
    · rename_i d n1 h1
      split at e
      · rename_i hc
        cases e
        rw [Bool.and_eq_true] at hc
        have hl := of_decide_eq_true hc.2
        rw [lim_eq] at hl
        obtain ⟨v, hσ, p, xs, rfl, ho, hH, l, r⟩ := R.slot i _ hS
        refine ⟨_, hσ, .inl ⟨rfl, _, SqL.of hH⟩, ?_⟩
        refine tM_run R.frz R.town h1 fun u ω' H' k _ t ru => ?_
        have R' := R.extF k t
        obtain ⟨v2, hσ2, p2, xs2, e2, ho2, hH2, l2, r2⟩ := R'.slot i _ hS
        rw [hσ] at hσ2
        cases hσ2
        cases e2
        refine ⟨p, xs2, u, rfl, rfl, hH2, by rw [r2.length]; exact hl, ?_⟩
        refine a _ _ _ o (R'.setCell hσ ho (r2.append (.cons (ru.lfS hc.1) .nil)) ?_)
        rw [List.length_append]; simp; omega
      · cases e
    · cases e
  · cases e
theorem ms_appH {i : Nat} {fe : FE} (h : PS X st (tDrop (tBM X.K "list" rAppend (tVar i) (tCons (tM X.K (clsA X.mg) fe) tNil)))) : MS X W st (sAppH i fe) := by
  refine ps_imp h fun Dn σ H q => ?_
  obtain ⟨ω0, H0, ω, S, n, fl, n', ⟨o, R⟩, e, a⟩ := q
  unfold sAppH at e
  split at e
  · rename_i ds hS
    split at e
    · rename_i d n1 h1
      split at e
      · rename_i hc
        cases e
        have hl := of_decide_eq_true hc
        rw [lim_eq] at hl
        obtain ⟨v, hσ, p, xs, rfl, ho, hH, l, r⟩ := R.slot i _ hS
        refine ⟨_, hσ, .inl ⟨rfl, _, SqL.of hH⟩, ?_⟩
        refine tM_run R.hid R.townP h1 fun u ω' H' k _ t ru => ?_
        have R' := R.extH k t
        obtain ⟨v2, hσ2, p2, xs2, e2, ho2, hH2, l2, r2⟩ := R'.slot i _ hS
        rw [hσ] at hσ2
        cases hσ2
        cases e2
        refine ⟨p, xs2, u, rfl, rfl, hH2, by rw [r2.length]; exact hl, ?_⟩
        refine a _ _ _ o (R'.setCell hσ ho (r2.append (.cons (ru.mv (R.mvO k)) .nil)) ?_)
        rw [List.length_append]; simp; omega
      · cases e
    · cases e
  · cases e
def sExt (i : Nat) (f : FE) : FS := fun S n => match S[i]? with
  | some (some (.own ds)) => (match f (frzE S) n with
    | some (.list es, n1) => if lfL es && decide (ds.length + es.length ≤ lim) then some (.nx (S.set i (some (.own (ds ++ es)))), n1) else none
    | _ => none)
  | _ => none
def sExtH (i : Nat) (f : FE) : FS := fun S n => match S[i]? with
  | some (some (.own ds)) => (match f (hidE S) n with
    | some (.list es, n1) => if decide (ds.length + es.length ≤ lim) then some (.nx (S.set i (some (.own (ds ++ es)))), n1) else none
    | _ => none)
  | _ => none
theorem ms_ext {i : Nat} {fe : FE} (h : PS X st (tDrop (tBM X.K "list" rExtend (tVar i) (tCons (tM X.K (clsA X.mg) fe) tNil)))) : MS X W st (sExt i fe) := by
  refine ps_imp h fun Dn σ H q => ?_
  obtain ⟨ω0, H0, ω, S, n, fl, n', ⟨o, R⟩, e, a⟩ := q
  unfold sExt at e
  split at e
  · rename_i ds hS
    split at e
    · rename_i es n1 h1
      split at e
      · rename_i hc
        cases e
        rw [Bool.and_eq_true] at hc
        have hl := of_decide_eq_true hc.2
        rw [lim_eq] at hl
        obtain ⟨v, hσ, p, xs, rfl, ho, hH, l, r⟩ := R.slot i _ hS
        refine ⟨_, hσ, .inl ⟨rfl, _, SqL.of hH⟩, ?_⟩
        refine tM_run R.frz R.town h1 fun u ω' H' k _ t ru => ?_
        have R' := R.extF k t
        obtain ⟨v2, hσ2, p2, xs2, e2, ho2, hH2, l2, r2⟩ := R'.slot i _ hS
        rw [hσ] at hσ2
        cases hσ2
        cases e2
        cases ru with
        | lst g1 m1 l1 q1 =>
          refine ⟨p, _, xs2, _, rfl, rfl, hH2, g1, by rw [r2.length, q1.length]; exact hl, ?_⟩
          refine a _ _ _ o (R'.setCell hσ ho (r2.append (q1.lfS hc.1)) ?_)
          rw [List.length_append]; exact hl
      · cases e
    · cases e
  · cases e
theorem ms_extH {i : Nat} {fe : FE} (h : PS X st (tDrop (tBM X.K "list" rExtend (tVar i) (tCons (tM X.K (clsA X.mg) fe) tNil)))) : MS X W st (sExtH i fe) := by
  refine ps_imp h fun Dn σ H q => ?_
  obtain ⟨ω0, H0, ω, S, n, fl, n', ⟨o, R⟩, e, a⟩ := q
  unfold sExtH at e
  split at e
  · rename_i ds hS
    split at e
    · rename_i es n1 h1
      split at e
      · rename_i hc
        cases e
        have hl := of_decide_eq_true hc
        rw [lim_eq] at hl
        obtain ⟨v, hσ, p, xs, rfl, ho, hH, l, r⟩ := R.slot i _ hS
        refine ⟨_, hσ, .inl ⟨rfl, _, SqL.of hH⟩, ?_⟩
        refine tM_run R.hid R.townP h1 fun u ω' H' k _ t ru => ?_
        have R' := R.extH k t
        obtain ⟨v2, hσ2, p2, xs2, e2, ho2, hH2, l2, r2⟩ := R'.slot i _ hS
        rw [hσ] at hσ2
        cases hσ2
        cases e2
        cases ru with
        | lst g1 m1 l1 q1 =>
          refine ⟨p, _, xs2, _, rfl, rfl, hH2, g1, by rw [r2.length, q1.length]; exact hl, ?_⟩
          refine a _ _ _ o (R'.setCell hσ ho (r2.append (q1.mv (R.mvO k))) ?_)
          rw [List.length_append]; exact hl
      · cases e
    · cases e
  · cases e
/-- an expression whose value is not kept: a call that may raise -/
def sCallX (m : Fn) (fs : Fe (List D)) : FS := fun S n => match fs (frzE S) n with
  | some (ds, n1) => (match m ds n1 with
    | some (.ok _, n2) => some (.nx S, n2)
    | some (.ex c, n2) => some (.ex c, n2)
    | none => none)
  | none => none
theorem ms_callX {ar : Nat} {fr : Bool} {m : Fn} {fs : Fe (List D)} (hl : ∀ ds n, ds.length ≠ ar → m ds n = none) (h : PS X st (tDrop (tCallS (spX X.K X.mg ar fr m) (WE W) (tMA X.K (clsA X.mg) fs)))) : MS X W st (sCallX m fs) := by
  refine ps_imp h fun Dn σ H q => ?_
  obtain ⟨ω0, H0, ω, S, n, fl, n', ⟨o, R⟩, e, a⟩ := q
  unfold sCallX at e
  split at e
  · rename_i ds n1 h1
    refine tMA_run R.frz R.town h1 fun vs ω1 H1 k1 R1 t1 r1 => ?_
    split at e
    · rename_i d n2 h2
      cases e
      refine ⟨ω1, ds, n1, _, _, R1.cl, r1, m_len hl h2, t1, h2, fun v ω2 H2 k2 t2 r2 _ => ?_⟩
      exact a ω2 σ H2 o (R.extF (k1.trans k2) t2)
    · rename_i c n2 h2
      cases e
      refine ⟨ω1, ds, n1, _, _, R1.cl, r1, m_len hl h2, t1, h2, fun C ω2 H2 hC k2 t2 => ?_⟩
      exact a C σ ω2 H2 hC (R.ext.trans (k1.trans k2)) t2
    · cases e
  · cases e
/-- return f(..), which may raise -/
def sRetX (m : Fn) (fs : Fe (List D)) : FS := fun S n => match fs (frzE S) n with
  | some (ds, n1) => (match m ds n1 with
    | some (.ok d, n2) => some (.rt d, n2)
    | some (.ex c, n2) => some (.ex c, n2)
    | none => none)
  | none => none
theorem ms_retX {ar : Nat} {fr : Bool} {m : Fn} {fs : Fe (List D)} (hl : ∀ ds n, ds.length ≠ ar → m ds n = none) (h : PS X st (tRet (tCallS (spX X.K X.mg ar fr m) (WE W) (tMA X.K (clsA X.mg) fs)))) : MS X W st (sRetX m fs) := by
  refine ps_imp h fun Dn σ H q => ?_
  obtain ⟨ω0, H0, ω, S, n, fl, n', ⟨o, R⟩, e, a⟩ := q
  unfold sRetX at e
  split at e
  · rename_i ds n1 h1
    refine tMA_run R.frz R.town h1 fun vs ω1 H1 k1 R1 t1 r1 => ?_
    split at e
    · rename_i d n2 h2
      cases e
      refine ⟨ω1, ds, n1, _, _, R1.cl, r1, m_len hl h2, t1, h2, fun v ω2 H2 k2 t2 r2 _ => ?_⟩
      exact a v ω2 H2 (R.ext.trans (k1.trans k2)) t2 r2
    · rename_i c n2 h2
      cases e
      refine ⟨ω1, ds, n1, _, _, R1.cl, r1, m_len hl h2, t1, h2, fun C ω2 H2 hC k2 t2 => ?_⟩
      exact a C σ ω2 H2 hC (R.ext.trans (k1.trans k2)) t2
    · cases e
  · cases e
/-- raise C('..') -/
def sRaise (c : Str) : FS := fun _ n => some (.ex c, n)
theorem ms_raise {c : Str} {C : Addr} (hC : X.mg c = some (.ref C)) (h : PS X st (fun _ σ H => W (.ref C) none σ H)) : MS X W st (sRaise c) := by
  refine ps_imp h fun Dn σ H q => ?_
  obtain ⟨ω0, H0, ω, S, n, fl, n', ⟨o, R⟩, e, a⟩ := q
  cases e
  exact a C σ ω H hC R.ext R.town
end


/-! ### for -/
def setAllV : Es → List Nat → List D → Es
  | S, i :: is, d :: ds => setAllV (S.set i (some (.val d))) is ds
  | S, _, _ => S
def bindS : Tg → D → Es → Option Es
  | .nm i, d, S => some (S.set i (some (.val d)))
  | .tp is, .tuple ds, S => if ds.length = is.length then some (setAllV S is ds) else none
  | .tp _, _, _ => none
section
variable {K : PySem.W.Frag} {C : Addr} {ω0 : Wd} {H0 : Hp} {ω : Wd} {n : Sn} {H : Hp}
theorem RS.setAllV : ∀ (is : List Nat) {S : Es} {σ : L2.St} {o : Addr → Option Nat} {vs : List V} {ds : List D}, RS K C ω0 H0 ω S n σ H o → RpL K (ω.plus o) H vs ds → ∃ o', RS K C ω0 H0 ω (Pm.setAllV S is ds) n (Pm.setAll σ is vs) H o'
  | [], _, _, o, _, _, R, _ => ⟨o, R⟩
  | _ :: _, _, _, o, _, _, R, .nil => ⟨o, R⟩
  | i :: is, _, _, _, _, _, R, .cons h t => RS.setAllV is (R.setVal (i := i) h) (t.mv mv_drop)
theorem gOf_runS {S S' : Es} {σ : L2.St} {o : Addr → Option Nat} {t : Tg} {v : V} {d : D} {Q : L2.St → Hp → Prop} (R : RS K C ω0 H0 ω S n σ H o) (r : Rp K (ω.plus o) H v d) (e : bindS t d S = some S')
    (h : ∀ σ' o', RS K C ω0 H0 ω S' n σ' H o' → Q σ' H) : gOf K t v σ H Q := by
  cases t with
  | nm i =>
    cases e
    exact h _ _ (R.setVal (i := i) r)
  | tp is =>
    cases r with
    | @tup a xs ds h1 l1 q1 =>
      have e' : (if ds.length = is.length then some (Pm.setAllV S is ds) else none) = some S' := e
      split at e'
      · rename_i hl
        cases e'
        obtain ⟨o', R'⟩ := R.setAllV is q1
        exact ⟨_, _, rfl, SqT.of h1, by rw [q1.length, hl], gsOf_run is (by rw [q1.length, hl]) (h _ _ R')⟩
      · cases e'
    | _ => simp [bindS] at e
end
def forGo (t : Tg) (fb : FS) : List D → Es → Sn → Option (Fl × Sn)
  | [], S, n => some (.nx S, n)
  | x :: r, S, n => match bindS t x S with
    | some S' => (match fb S' n with
      | some (.nx S2, n2) => forGo t fb r S2 n2
      | some (.ct S2, n2) => forGo t fb r S2 n2
      | some (.bk S2, n2) => some (.nx S2, n2)
      | r => r)
    | none => none
def sFor (fi : Fe (List D)) (t : Tg) (fb : FS) : FS := fun S n => match fi (hidE S) n with
  | some (items, n1) => forGo t fb items S n1
  | none => none
/-- all that is not one's own -/
def reFz (o : Addr → Option Nat) (H : Hp) : Hp := fun a => if (o a).isSome = true then none else H a
section
variable {K : PySem.W.Frag} {C : Addr} {ω0 ω ω' : Wd} {H0 : Hp} {S S' : Es} {n n' : Sn} {σ σ' : L2.St} {H H' : Hp} {o o' : Addr → Option Nat}
theorem reFz_some {a : Addr} {x : HO} (h : reFz o H a = some x) : H a = some x ∧ o a = none := by
  unfold reFz at h
  split at h
  · cases h
  · rename_i hn
    refine ⟨h, ?_⟩
    cases q : o a with
    | none => rfl
    | some j => exact absurd (by rw [q]; rfl) hn
theorem reFz_of {a : Addr} {x : HO} (h : H a = some x) (h1 : o a = none) : reFz o H a = some x := by
  unfold reFz
  rw [if_neg (by rw [h1]; exact fun z => nomatch z)]
  exact h
theorem reFz_none {a : Addr} {j : Nat} (h : o a = some j) : reFz o H a = none := by
  unfold reFz
  rw [if_pos (by rw [h]; rfl)]
theorem RS.re (R : RS K C ω0 H0 ω S n σ H o) : RS K C ω (reFz o H) ω S n σ H o :=
  ⟨⟨rfl, rfl, fun _ _ h => h, fun _ _ => Iff.rfl, fun _ _ h => .inl h, fun a x _ h => (reFz_some h).1, fun a xs h => (reFz_some h).1, fun a h => by
    obtain ⟨x, hx⟩ := ne_sm h
    exact sm_ne (reFz_some hx).1⟩, R.cl, R.town, fun a j h => ⟨reFz_none h, (R.new a j h).2⟩, R.own, R.len, R.slot⟩
theorem RS.onone (R : RS K C ω0 H0 ω S n σ H o) {a : Addr} (h : H0 a ≠ none) : o a = none := by
  cases q : o a with
  | none => rfl
  | some j => exact absurd (R.new a j q).1 h
theorem RS.ext0 (R : RS K C ω0 H0 ω S n σ H o) : Ext ω0 H0 ω (reFz o H) :=
  ⟨R.ext.town, R.ext.C, R.ext.root, R.ext.old, R.ext.ow, fun a x na h => reFz_of (R.ext.keep a x na h) (R.onone (sm_ne h)), fun a xs h => reFz_of (R.ext.tup a xs h) (R.onone (sm_ne h)), fun a h => by
    obtain ⟨x, hx⟩ := ne_sm (R.ext.al a h)
    exact sm_ne (reFz_of hx (R.onone h))⟩
theorem RS.none0 (R : RS K C ω0 H0 ω S n σ H o) {a : Addr} (h : reFz o H a = none) : H0 a = none := R.ext0.noneB h
/-- back to what stood before -/
theorem RS.back (R' : RS K C ω (reFz o H) ω' S' n' σ' H' o') (R : RS K C ω0 H0 ω S n σ H o) : RS K C ω0 H0 ω' S' n' σ' H' o' :=
  ⟨R.ext0.trans R'.ext, R'.cl, R'.town, fun a j h => ⟨R.none0 (R'.new a j h).1, (R'.new a j h).2⟩, R'.own, R'.len, R'.slot⟩
theorem RS.mvR (R' : RS K C ω (reFz o H) ω' S' n' σ' H' o') (R : RS K C ω0 H0 ω S n σ H o) : Mv (ω.plus o) H (ω'.plus o') H' := by
  refine ⟨R'.ext.town, R'.ext.C, R'.ext.root, fun a xs h => R'.ext.tup a xs (reFz_of h ?_), fun a x na h => ?_⟩
  · cases q : o a with
    | none => rfl
    | some j =>
      obtain ⟨x, hx, nx⟩ := R.own a j q
      rw [h] at hx; cases hx; exact nx.elim
  · have oa : o a = none := by
      cases q : o a with
      | none => rfl
      | some k => exact absurd (.inr ⟨k, q⟩) na
    have h0 := reFz_of h oa
    refine ⟨R'.ext.keep a x (fun z => na (.inl (Wd.hasT z))) h0, fun z => ?_⟩
    rcases z with z | ⟨j, z⟩
    · exact na (.inl ((R'.ext.old a (sm_ne h0)).mp z))
    · rw [(R'.new a j z).1] at h0; cases h0
theorem After.back {mg : Str → Option Value} {W : WX} {n' : Sn} {Dn : Ends} {fl : Fl} (R : RS K (clsA mg) ω0 H0 ω S n σ H o) (a : After K mg W ω0 H0 n' Dn fl) : After K mg W ω (reFz o H) n' Dn fl := by
  cases fl with
  | nx S' => exact fun ω' σ' H' o' R' => a ω' σ' H' o' (R'.back R)
  | bk S' => exact fun ω' σ' H' o' R' => a ω' σ' H' o' (R'.back R)
  | ct S' => exact fun ω' σ' H' o' R' => a ω' σ' H' o' (R'.back R)
  | rt d => exact fun v ω' H' k t r => a v ω' H' (R.ext0.trans k) t r
  | rf ds => exact fun p xs ω' H' k t hp => a p xs ω' H' (R.ext0.trans k) t (R.none0 hp)
  | rc k => exact fun p ω' H' k t h => a p ω' H' (R.ext0.trans k) t h
  | ex c => exact fun C σ' ω' H' hC k t => a C σ' ω' H' hC (R.ext0.trans k) t
end
section
variable {X : Cx} {W : WX} {st : Stmt} {body : List Stmt} {iter tg c : Expr} {pos : Pos} {fb : FS}
theorem ms_for {fi : Fe (List D)} {t : Tg} (hp : PassesOwn (model X.prog X.w) X.A X.env X.xe) (hc : X.calm = true) (hi : MI X tg iter fi) (hg : MG X tg t) (hb : MSs X W body fb) (hs : ∀ x, foldedSetIterable iter X.env x = pure x := by intro _; rfl) :
    MS X W (.For tg iter body [] pos) (sFor fi t fb) := by
  refine ps_imp (ps_for hp hc hi hg hb hs) fun Dn σ H q => ?_
  obtain ⟨ω0, H0, ω, S, n, fl, n', ⟨o, R⟩, e, af⟩ := q
  unfold sFor at e
  split at e
  · rename_i items n1 h1
    refine ⟨_, hidE S, n, items, n1, R.hid, R.townP, h1, fun J ω1 H1 k1 t1 wk => ?_⟩
    have R1 := R.extH k1 t1
    have R2 := R1.re
    have mO := R.mvO k1
    generalize Wd.diff ω1 o (R.hasO k1) = ω2 at R1 R2 mO
    refine ⟨fun i m σi Hi => m = items.length - i ∧ i ≤ items.length ∧ ∃ ωi Si ni oi, RS X.K (clsA X.mg) ω2 (reFz o H1) ωi Si ni σi Hi oi ∧ forGo t fb (items.drop i) Si ni = some (fl, n'), ⟨items.length, by simp, Nat.zero_le _, ω2, S, n1, o, R2, e⟩, ?_⟩
    rintro i m σi Hi ⟨rfl, hi, ωi, Si, ni, oi, Ri, ei⟩
    obtain ⟨go, stp⟩ := wk.run _ Hi (mO.trans (Ri.mvR R1)) Ri.townP.ok
    by_cases hlt : i < items.length
    · obtain ⟨g1, g2⟩ := go i hlt
      have hdrop : items.drop i = items[i] :: items.drop (i + 1) := List.drop_eq_getElem_cons hlt
      rw [hdrop] at ei
      unfold forGo at ei
      split at ei
      · rename_i S' hbd
        refine .inr ⟨g1, fun σn Hn => i + 1 ≤ items.length ∧ ∃ ωn Sn nn on, RS X.K (clsA X.mg) ω2 (reFz o H1) ωn Sn nn σn Hn on ∧ forGo t fb (items.drop (i + 1)) Sn nn = some (fl, n'), ?_, ?_⟩
        · rintro σn Hn ⟨q1, q2⟩
          exact ⟨items.length - (i + 1), by omega, rfl, q1, q2⟩
        · intro x H' hy
          obtain ⟨sm, d, hd, rx⟩ := g2 x H' hy
          rw [List.getElem?_eq_getElem hlt] at hd
          cases hd
          refine gOf_runS (Ri.extF (Ext.of_same sm) (Ri.town.of_same sm)) rx hbd fun σ2 o2 R3 => ?_
          split at ei
          · rename_i S2 n2 h2
            exact ⟨_, _, _, S', ni, .nx S2, n2, ⟨o2, R3⟩, h2, fun ω' σ' H' o' R' => ⟨hlt, ω', S2, n2, o', R', ei⟩⟩
          · rename_i S2 n2 h2
            exact ⟨_, _, _, S', ni, .ct S2, n2, ⟨o2, R3⟩, h2, fun ω' σ' H' o' R' => ⟨hlt, ω', S2, n2, o', R', ei⟩⟩
          · rename_i S2 n2 h2
            cases ei
            exact ⟨_, _, _, S', ni, .bk S2, _, ⟨o2, R3⟩, h2, fun ω' σ' H' o' R' => af ω' σ' H' o' (R'.back R1)⟩
          · rename_i hn1 hn2 hn3
            refine ⟨_, _, _, S', ni, fl, n', ⟨o2, R3⟩, ei, ?_⟩
            have af' := After.back R1 af
            cases fl with
            | nx S' => exact absurd ei (hn1 S' n')
            | ct S' => exact absurd ei (hn2 S' n')
            | bk S' => exact absurd ei (hn3 S' n')
            | rt d => exact af'
            | rf ds => exact af'
            | rc k => exact af'
            | ex c => exact af'
      · cases ei
    · have hie : i = items.length := by omega
      subst hie
      rw [List.drop_length] at ei
      cases ei
      exact .inl ⟨stp, af ωi σi Hi oi (Ri.back R1)⟩
  · cases e
/-! ### while -/
def whGo (fc : Fe Bool) (fb : FS) : Nat → Es → Sn → Option (Fl × Sn)
  | 0, _, _ => none
  | N + 1, S, n => match fc (frzE S) n with
    | some (true, n1) => (match fb S n1 with
      | some (.nx S2, n2) => whGo fc fb N S2 n2
      | some (.ct S2, n2) => whGo fc fb N S2 n2
      | some (.bk S2, n2) => some (.nx S2, n2)
      | r => r)
    | some (false, n1) => some (.nx S, n1)
    | none => none
/-- at most N turns -/
def sWhile (N : Nat) (fc : Fe Bool) (fb : FS) : FS := whGo fc fb N
theorem ms_while {N : Nat} {fc : Fe Bool} (hp : PassesOwn (model X.prog X.w) X.A X.env X.xe) (hc : MT X c fc) (hb : MSs X W body fb) : MS X W (.While c body [] pos) (sWhile N fc fb) := by
  refine ps_imp (ps_while hp hc hb) fun Dn σ H q => ?_
  obtain ⟨ω0, H0, ω, S, n, fl, n', ⟨o, R⟩, e, af⟩ := q
  refine ⟨fun m σi Hi => ∃ ωi Si ni oi, RS X.K (clsA X.mg) ω0 H0 ωi Si ni σi Hi oi ∧ whGo fc fb m Si ni = some (fl, n'), ⟨N, ω, S, n, o, R, e⟩, ?_⟩
  rintro m σi Hi ⟨ωi, Si, ni, oi, Ri, ei⟩
  cases m with
  | zero => cases ei
  | succ m =>
    unfold whGo at ei
    split at ei
    · rename_i n1 h1
      refine tMT_run Ri.frz Ri.town h1 fun ω' H' k _ t => ?_
      rw [if_pos rfl]
      refine ⟨fun σn Hn => ∃ ωn Sn nn on, RS X.K (clsA X.mg) ω0 H0 ωn Sn nn σn Hn on ∧ whGo fc fb m Sn nn = some (fl, n'), fun σn Hn hn => ⟨m, Nat.lt_succ_self m, hn⟩, ?_⟩
      have R3 := Ri.extF k t
      split at ei
      · rename_i S2 n2 h2
        exact ⟨_, _, _, Si, n1, .nx S2, n2, ⟨oi, R3⟩, h2, fun ω' σ' H' o' R' => ⟨ω', S2, n2, o', R', ei⟩⟩
      · rename_i S2 n2 h2
        exact ⟨_, _, _, Si, n1, .ct S2, n2, ⟨oi, R3⟩, h2, fun ω' σ' H' o' R' => ⟨ω', S2, n2, o', R', ei⟩⟩
      · rename_i S2 n2 h2
        cases ei
        exact ⟨_, _, _, Si, n1, .bk S2, _, ⟨oi, R3⟩, h2, fun ω' σ' H' o' R' => af ω' σ' H' o' R'⟩
      · rename_i hn1 hn2 hn3
        refine ⟨_, _, _, Si, n1, fl, n', ⟨oi, R3⟩, ei, ?_⟩
        cases fl with
        | nx S' => exact absurd ei (hn1 S' n')
        | ct S' => exact absurd ei (hn2 S' n')
        | bk S' => exact absurd ei (hn3 S' n')
        | rt d => exact af
        | rf ds => exact af
        | rc k => exact af
        | ex c => exact af
    · rename_i n1 h1
      cases ei
      refine tMT_run Ri.frz Ri.town h1 fun ω' H' k _ t => ?_
      rw [if_neg Bool.false_ne_true]
      exact af ω' σi H' oi (Ri.extF k t)
    · cases ei
end

/-! ### a def: the cells that it made go -/
mutual
def clean (k : Nat) : D → Bool
  | .none | .bool _ | .int _ | .str _ => true
  | .tuple ds => cleanL k ds
  | .list ds => cleanL k ds
  | .dict [] => true
  | .dict [(.int j, .none)] => decide (j < (k : Int))
  | .dict [(.none, .list _)] => true
  | .dict _ => false
def cleanL (k : Nat) : List D → Bool
  | [] => true
  | d :: ds => clean k d && cleanL k ds
end
def cleanR (k : Nat) : Rs → Bool
  | .ok d => clean k d
  | .ex _ => true
def fin (n : Sn) (r : Rs) (n' : Sn) : Option (Rs × Sn) := if n'.c.length = n.c.length then some (r, n') else if cleanR n.c.length r && decide (n.c.length ≤ n'.c.length) then some (r, n'.cut n.c.length) else none
theorem fin_c {n n' : Sn} {r : Rs} (h : n'.c = n.c) : fin n r n' = some (r, n') := by unfold fin; rw [h, if_pos rfl]
theorem fin_self {n : Sn} {r : Rs} : fin n r n = some (r, n) := fin_c rfl
def start0 (nl : Nat) (ds : List D) : Es := ds.map (fun d => some (.val d)) ++ List.replicate nl none
/-- a cell that the def made is handed back -/
def finC (n : Sn) (k : Nat) (n' : Sn) : Option (Rs × Sn) := match n'.c[k]? with
  | some (.lst ds) => if n.c.length ≤ k then some (.ok (.list ds), n'.cut n.c.length) else none
  | _ => none
def mkF (ar nl : Nat) (f : FS) : Fn := fun ds n => if ds.length = ar then (match f (start0 nl ds) n with
    | some (.rt d, n') => fin n (.ok d) n'
    | some (.rf es, n') => fin n (.ok (.list es)) n'
    | some (.rc k, n') => finC n k n'
    | some (.nx _, n') => fin n (.ok .none) n'
    | some (.ex c, n') => fin n (.ex c) n'
    | _ => none) else none
/-- a def that hands back new lists -/
def mkL (ar nl : Nat) (f : FS) : Fn := fun ds n => if ds.length = ar then (match f (start0 nl ds) n with
    | some (.rf es, n') => fin n (.ok (.list es)) n'
    | some (.rc k, n') => finC n k n'
    | some (.ex c, n') => fin n (.ex c) n'
    | _ => none) else none
/-- a def whose new cells stay -/
def mkK (ar nl : Nat) (f : FS) : Fn := fun ds n => if ds.length = ar then (match f (start0 nl ds) n with
    | some (.rt d, n') => some (.ok d, n')
    | some (.nx _, n') => some (.ok .none, n')
    | some (.ex c, n') => some (.ex c, n')
    | _ => none) else none
theorem mkF_len {ar nl : Nat} {f : FS} : ∀ ds n, ds.length ≠ ar → mkF ar nl f ds n = none := fun ds n h => by unfold mkF; rw [if_neg h]
theorem mkL_len {ar nl : Nat} {f : FS} : ∀ ds n, ds.length ≠ ar → mkL ar nl f ds n = none := fun ds n h => by unfold mkL; rw [if_neg h]
theorem mkK_len {ar nl : Nat} {f : FS} : ∀ ds n, ds.length ≠ ar → mkK ar nl f ds n = none := fun ds n h => by unfold mkK; rw [if_neg h]
def cutOw (k : Nat) : Option Nat → Option Nat
  | some j => if j < k then some j else none
  | none => none
theorem cutOw_some {k j : Nat} {x : Option Nat} (h : cutOw k x = some j) : x = some j ∧ j < k := by
  cases x with
  | none => cases h
  | some i =>
    have h' : (if i < k then some i else none) = some j := h
    by_cases q : i < k
    · rw [if_pos q] at h'
      cases h'
      exact ⟨rfl, q⟩
    · rw [if_neg q] at h'
      cases h'
/-- the world without the cells from k on -/
def Wd.cutc (ω : Wd) (k : Nat) : Wd := { ω with root := ω.root.take k, ow := fun a => cutOw k (ω.ow a), hT2 := fun a j h => ω.hT2 a j (cutOw_some h).1 }
section
variable {K : PySem.W.Frag} {ω ω' : Wd} {H H' : Hp} {n n' : Sn} {k : Nat}
theorem cutc_ow {a : Addr} {j : Nat} (h : (ω.cutc k).ow a = some j) : ω.ow a = some j ∧ j < k := cutOw_some h
theorem cutc_of {a : Addr} {j : Nat} (h : ω.ow a = some j) (hk : j < k) : (ω.cutc k).ow a = some j := by
  show cutOw k (ω.ow a) = some j
  rw [h]
  exact if_pos hk
theorem Town.cut (t : Town ω n H) (hk : k ≤ n.c.length) : Town (ω.cutc k) (n.cut k) H := by
  refine ⟨⟨t.ok.tin⟩, fun a h => ⟨?_, (t.town a h).2⟩, ?_, fun j c h => ?_, fun a j h => ?_⟩
  · show cutOw k (ω.ow a) = none
    rw [(t.town a h).1]
    rfl
  · show (n.c.take k).length = (ω.root.take k).length
    rw [List.length_take, List.length_take, t.len]
  · have h' : (n.c.take k)[j]? = some c := h
    rw [List.getElem?_take] at h'
    split at h'
    · rename_i hj
      obtain ⟨a, h1, h2⟩ := t.cell j c h'
      refine ⟨a, ?_, CellAt.mono (ω := ω) (ω' := ω.cutc k) rfl (fun b z => cutc_of z hj) (fun _ _ _ z => z) (fun _ _ z => z) h2⟩
      show (ω.root.take k)[j]? = some a
      rw [List.getElem?_take, if_pos hj]
      exact h1
    · cases h'
  · obtain ⟨_, h2⟩ := cutc_ow h
    show j < (n.c.take k).length
    rw [List.length_take]
    omega
theorem Ext.cut (e : Ext ω H ω' H') (hk : ω.root.length ≤ k) : Ext ω H (ω'.cutc k) H' := by
  refine ⟨e.town, e.C, fun j a h => ?_, e.old, fun a j h => e.ow a j (cutc_ow h).1, e.keep, e.tup, e.al⟩
  show (ω'.root.take k)[j]? = some a
  have hj : j < ω.root.length := by
    cases Nat.lt_or_ge j ω.root.length with
    | inl z => exact z
    | inr z => rw [List.getElem?_eq_none z] at h; cases h
  rw [List.getElem?_take, if_pos (by omega)]
  exact e.root j a h
mutual
theorem Rp.cut : ∀ {v : V} {d : D}, Rp K ω H v d → clean k d = true → Rp K (ω.cutc k) H v d
  | _, _, .non, _ => .non
  | _, _, .bl b, _ => .bl b
  | _, _, .int i, _ => .int i
  | _, _, .str x h, _ => .str x h
  | _, _, .lst h n l r, c => .lst h n l (RpL.cut r (by rw [clean] at c; exact c))
  | _, _, .tup h l r, c => .tup h l (RpL.cut r (by rw [clean] at c; exact c))
  | _, _, .town e, _ => .town e
  | _, _, .scr h l, _ => .scr h l
  | _, _, .cell (a := a) (k := j) h, c => .cell (by
      show (ω.root.take k)[j]? = some a
      have c' : decide ((j : Int) < (k : Int)) = true := by rw [clean] at c; exact c
      have := of_decide_eq_true c'
      rw [List.getElem?_take, if_pos (by omega)]
      exact h)
  | _, _, .pln _ _ _ _ _ _ _ _ _, c => by simp [clean] at c
  | _, _, .dct _ _ _ _, c => by simp [clean] at c
theorem RpL.cut : ∀ {vs : List V} {ds : List D}, RpL K ω H vs ds → cleanL k ds = true → RpL K (ω.cutc k) H vs ds
  | _, _, .nil, _ => .nil
  | _, _, .cons h r, c => by
    rw [cleanL, Bool.and_eq_true] at c
    exact .cons (Rp.cut h c.1) (RpL.cut r c.2)
end
theorem rs_start {N : List Str} {C : Addr} {vs : List V} {ds : List D} (hC : ω.C = C) (r : RpL K ω H vs ds) (t : Town ω n H) (hN : vs.length ≤ N.length) : RS K C ω H ω (start0 (N.length - vs.length) ds) n (start N vs) H (fun _ => none) := by
  refine ⟨Ext.refl, hC, t, fun a j h => (by cases h), fun a j h => (by cases h), ?_, fun i sv h => ?_⟩
  · unfold start0 L2.start
    rw [List.length_append, List.length_append, List.length_map, List.length_map, List.length_replicate, List.length_replicate, r.length]
  · unfold start0 at h
    unfold L2.start
    by_cases hi : i < ds.length
    · rw [List.getElem?_append_left (by rw [List.length_map]; exact hi), List.getElem?_map, List.getElem?_eq_getElem hi] at h
      cases h
      obtain ⟨v, hv, rv⟩ := r.get (List.getElem?_eq_getElem hi)
      refine ⟨v, ?_, Rp.mv (Mv.less (ω := ω) (ω' := ω.plus fun _ => none) rfl rfl fun a z => Or.elim z id fun ⟨_, q⟩ => nomatch q) rv⟩
      rw [List.getElem?_append_left (by rw [List.length_map, r.length]; exact hi), List.getElem?_map, hv]
      rfl
    · rw [List.getElem?_append_right (by rw [List.length_map]; omega), List.getElem?_replicate] at h
      split at h <;> cases h
end
section
variable {P : Program} {w : World} {K : PySem.W.Frag} {mg : Str → Option Value} {base : Heap} {x qual : Str} {params : Arguments} {body : List Stmt} {scope : Scope} {f : Addr} {fd : FuncData} {N ps : List Str} {k ar : Nat} {fb : FS}
/-- the end of a def, the cells that it made gone -/
theorem fin_ok {ω ω1 : Wd} {H H1 : Hp} {n n1 n' : Sn} {r r' : Rs} (h : fin n r n1 = some (r', n')) (e : Ext ω H ω1 H1) (t0 : Town ω n H) (t : Town ω1 n1 H1) : r' = r ∧ ∃ ω', Ext ω H ω' H1 ∧ Town ω' n' H1 ∧ ω'.T = ω1.T ∧ ∀ d v, r = .ok d → Rp K ω1 H1 v d → Rp K ω' H1 v d := by
  unfold fin at h
  split at h
  · cases h
    exact ⟨rfl, ω1, e, t, rfl, fun _ _ _ z => z⟩
  · split at h
    · rename_i hc
      cases h
      rw [Bool.and_eq_true] at hc
      refine ⟨rfl, ω1.cutc n.c.length, e.cut (by rw [t0.len]; exact Nat.le_refl _), t.cut (of_decide_eq_true hc.2), rfl, fun d v hr z => z.cut ?_⟩
      subst hr
      exact hc.1
    · cases h
theorem fin_okL {ω ω1 : Wd} {H H1 : Hp} {n n1 n' : Sn} {ds : List D} {r' : Rs} {p : Addr} {xs : List V} (h : fin n (.ok (.list ds)) n1 = some (r', n')) (e : Ext ω H ω1 H1) (t0 : Town ω n H) (t : Town ω1 n1 H1) (r : RpL K (ω1.add p) H1 xs ds) : r' = .ok (.list ds) ∧ ∃ ω', Ext ω H ω' H1 ∧ Town ω' n' H1 ∧ ω'.T = ω1.T ∧ RpL K (ω'.add p) H1 xs ds := by
  unfold fin at h
  split at h
  · cases h
    exact ⟨rfl, ω1, e, t, rfl, r⟩
  · split at h
    · rename_i hc
      cases h
      rw [Bool.and_eq_true] at hc
      refine ⟨rfl, ω1.cutc n.c.length, e.cut (by rw [t0.len]; exact Nat.le_refl _), t.cut (of_decide_eq_true hc.2), rfl, ?_⟩
      have hc1 : cleanL n.c.length ds = true := by
        have h0 : clean n.c.length (.list ds) = true := hc.1
        rw [clean] at h0
        exact h0
      exact (r.cut hc1).mv (Mv.less rfl rfl fun a z => z)
    · cases h
theorem finC_ok {ω ω1 : Wd} {H H1 : Hp} {n n1 n' : Sn} {r' : Rs} {k : Nat} {p : Addr} (h : finC n k n1 = some (r', n')) (e : Ext ω H ω1 H1) (t0 : Town ω n H) (t : Town ω1 n1 H1) (hr : ω1.root[k]? = some p) : ∃ ds xs ω', r' = .ok (.list ds) ∧ Ext ω H ω' H1 ∧ Town ω' n' H1 ∧ H p = none ∧ ¬ ω'.T p ∧ H1 p = some (.lst xs) ∧ ds.length ≤ sizeLine ∧ RpL K (ω'.add p) H1 xs ds := by
  unfold finC at h
  split at h
  · rename_i ds hc
    split at h
    · rename_i hk
      cases h
      obtain ⟨a, h1, h2⟩ := t.cell k _ hc
      rw [hr] at h1
      cases h1
      obtain ⟨ho, xs, hx, l, r⟩ := h2
      have hn : H p = none := by
        rcases e.ow p k ho with z | z
        · have := t0.owk p k z
          omega
        · exact z
      have hkl : k < n1.c.length := (List.getElem?_eq_some_iff.mp hc).1
      have nh : ¬ (ω1.cutc n.c.length).has p := fun z => by
        rcases z with z | ⟨j, z⟩
        · have z' : ω1.town = some p := z
          rw [(t.town p z').1] at ho
          cases ho
        · obtain ⟨z1, z2⟩ := cutc_ow z
          rw [ho] at z1
          cases z1
          omega
      exact ⟨ds, xs, (ω1.cutc n.c.length).sub p nh, rfl, (e.cut (by rw [t0.len]; exact Nat.le_refl _)).subNew hn, (t.cut (by omega)).sub nh, hn, fun z => z.2 rfl, hx, l, r.rp⟩
    · cases h
  · cases h
/-- the body's mirror is the def's -/
theorem fn_mk (F : FunD K x qual params body scope [] [] f fd) (S : FnScope N ps scope) (ha : ps.length = ar) (hN : ar ≤ N.length)
    (hbody : ∀ (cdv : Value) (A : Around) (outer : List Env) (s : Shared) (H : Hp) (E : XK), Room k (A.deeper (envOfC qual scope s.heap.objs.size f cdv)) →
      MSs (cxOf (L2.CX P w) P w K mg base N qual scope f cdv A outer s H E) (fun cls d _ H => E cls d H) body fb) : FnOk P w K mg base (L2.CX P w) (k + 1) f fd ps (spX K mg ar false (mkF ar (N.length - ar) fb)) := by
  refine F.ok S (fun vs H Q E h => ?_) fun cdv A outer s H vs Q E hr h => ⟨_, hbody cdv A outer s H E hr, ?_⟩
  · obtain ⟨ω, ds, n, r, n', c, rp, l, _⟩ := h
    rw [rp.length, l, ha]
  · obtain ⟨ω, ds, n, r, n', c, rp, l, t, e, q⟩ := h
    have hvl : vs.length = ar := by rw [rp.length, l]
    unfold mkF at e
    rw [if_pos l] at e
    have R0 : RS K (clsA mg) ω H ω (start0 (N.length - ar) ds) n (start N vs) H (fun _ => none) := by
      have := rs_start (N := N) c rp t (by rw [hvl]; exact hN)
      rw [hvl] at this
      exact this
    split at e
    · rename_i d n1 h1
      refine ⟨ω, H, ω, _, n, _, n1, ⟨_, R0⟩, h1, fun v ω1 H1 kk tt rr => ?_⟩
      obtain ⟨rfl, ω', k2, t2, _, z⟩ := fin_ok (K := K) e kk t tt
      exact q v ω' H1 k2 t2 (z d v rfl rr) (fun z => nomatch z)
    · rename_i es n1 h1
      refine ⟨ω, H, ω, _, n, _, n1, ⟨_, R0⟩, h1, fun p xs ω1 H1 kk tt hp hT hp' ll rr => ?_⟩
      obtain ⟨rfl, ω', k2, t2, hT2, z⟩ := fin_okL (K := K) e kk t tt rr
      exact q (.ref p) ω' H1 k2 t2 (.lst hp' (by rw [hT2]; exact hT) ll z.ors) (fun z => nomatch z)
    · rename_i k1 n1 h1
      refine ⟨ω, H, ω, _, n, _, n1, ⟨_, R0⟩, h1, fun p ω1 H1 kk tt hr => ?_⟩
      obtain ⟨ds', xs, ω', rfl, k2, t2, _, nT, hp', ll, z⟩ := finC_ok (K := K) e kk t tt hr
      exact q (.ref p) ω' H1 k2 t2 (.lst hp' nT ll z.ors) (fun z => nomatch z)
    · rename_i S' n1 h1
      refine ⟨ω, H, ω, _, n, _, n1, ⟨_, R0⟩, h1, fun ω1 σ' H1 o' R' => ?_⟩
      obtain ⟨rfl, ω', k2, t2, _, z⟩ := fin_ok (K := K) e R'.ext t R'.town
      exact q .non ω' H1 k2 t2 .non (fun z => nomatch z)
    · rename_i c' n1 h1
      refine ⟨ω, H, ω, _, n, _, n1, ⟨_, R0⟩, h1, fun C σ' ω1 H1 hC kk tt => ?_⟩
      obtain ⟨rfl, ω', k2, t2, _, z⟩ := fin_ok (K := K) e kk t tt
      exact q C ω' H1 hC k2 t2
    · cases e
theorem fn_mkL (F : FunD K x qual params body scope [] [] f fd) (S : FnScope N ps scope) (ha : ps.length = ar) (hN : ar ≤ N.length)
    (hbody : ∀ (cdv : Value) (A : Around) (outer : List Env) (s : Shared) (H : Hp) (E : XK), Room k (A.deeper (envOfC qual scope s.heap.objs.size f cdv)) →
      MSs (cxOf (L2.CX P w) P w K mg base N qual scope f cdv A outer s H E) (fun cls d _ H => E cls d H) body fb) : FnOk P w K mg base (L2.CX P w) (k + 1) f fd ps (spX K mg ar true (mkL ar (N.length - ar) fb)) := by
  refine F.ok S (fun vs H Q E h => ?_) fun cdv A outer s H vs Q E hr h => ⟨_, hbody cdv A outer s H E hr, ?_⟩
  · obtain ⟨ω, ds, n, r, n', c, rp, l, _⟩ := h
    rw [rp.length, l, ha]
  · obtain ⟨ω, ds, n, r, n', c, rp, l, t, e, q⟩ := h
    have hvl : vs.length = ar := by rw [rp.length, l]
    unfold mkL at e
    rw [if_pos l] at e
    have R0 : RS K (clsA mg) ω H ω (start0 (N.length - ar) ds) n (start N vs) H (fun _ => none) := by
      have := rs_start (N := N) c rp t (by rw [hvl]; exact hN)
      rw [hvl] at this
      exact this
    split at e
    · rename_i es n1 h1
      refine ⟨ω, H, ω, _, n, _, n1, ⟨_, R0⟩, h1, fun p xs ω1 H1 kk tt hp hT hp' ll rr => ?_⟩
      obtain ⟨rfl, ω', k2, t2, hT2, z⟩ := fin_okL (K := K) e kk t tt rr
      have nT : ¬ ω'.T p := by rw [hT2]; exact hT
      exact q (.ref p) ω' H1 k2 t2 (.lst hp' nT ll z.ors) fun _ => ⟨p, xs, es, rfl, rfl, hp, hp', nT, ll, z⟩
    · rename_i k1 n1 h1
      refine ⟨ω, H, ω, _, n, _, n1, ⟨_, R0⟩, h1, fun p ω1 H1 kk tt hr => ?_⟩
      obtain ⟨ds', xs, ω', rfl, k2, t2, hp, nT, hp', ll, z⟩ := finC_ok (K := K) e kk t tt hr
      exact q (.ref p) ω' H1 k2 t2 (.lst hp' nT ll z.ors) fun _ => ⟨p, xs, ds', rfl, rfl, hp, hp', nT, ll, z⟩
    · rename_i c' n1 h1
      refine ⟨ω, H, ω, _, n, _, n1, ⟨_, R0⟩, h1, fun C σ' ω1 H1 hC kk tt => ?_⟩
      obtain ⟨rfl, ω', k2, t2, _, z⟩ := fin_ok (K := K) e kk t tt
      exact q C ω' H1 hC k2 t2
    · cases e
theorem fn_mkK (F : FunD K x qual params body scope [] [] f fd) (S : FnScope N ps scope) (ha : ps.length = ar) (hN : ar ≤ N.length)
    (hbody : ∀ (cdv : Value) (A : Around) (outer : List Env) (s : Shared) (H : Hp) (E : XK), Room k (A.deeper (envOfC qual scope s.heap.objs.size f cdv)) →
      MSs (cxOf (L2.CX P w) P w K mg base N qual scope f cdv A outer s H E) (fun cls d _ H => E cls d H) body fb) : FnOk P w K mg base (L2.CX P w) (k + 1) f fd ps (spX K mg ar false (mkK ar (N.length - ar) fb)) := by
  refine F.ok S (fun vs H Q E h => ?_) fun cdv A outer s H vs Q E hr h => ⟨_, hbody cdv A outer s H E hr, ?_⟩
  · obtain ⟨ω, ds, n, r, n', c, rp, l, _⟩ := h
    rw [rp.length, l, ha]
  · obtain ⟨ω, ds, n, r, n', c, rp, l, t, e, q⟩ := h
    have hvl : vs.length = ar := by rw [rp.length, l]
    unfold mkK at e
    rw [if_pos l] at e
    have R0 : RS K (clsA mg) ω H ω (start0 (N.length - ar) ds) n (start N vs) H (fun _ => none) := by
      have := rs_start (N := N) c rp t (by rw [hvl]; exact hN)
      rw [hvl] at this
      exact this
    split at e
    · rename_i d n1 h1
      cases e
      exact ⟨ω, H, ω, _, n, _, _, ⟨_, R0⟩, h1, fun v ω1 H1 kk tt rr => q v ω1 H1 kk tt rr (fun z => nomatch z)⟩
    · rename_i S' n1 h1
      cases e
      exact ⟨ω, H, ω, _, n, _, _, ⟨_, R0⟩, h1, fun ω1 σ' H1 o' R' => q .non ω1 H1 R'.ext R'.town .non (fun z => nomatch z)⟩
    · rename_i c' n1 h1
      cases e
      exact ⟨ω, H, ω, _, n, _, _, ⟨_, R0⟩, h1, fun C σ' ω1 H1 hC kk tt => q C ω1 H1 hC kk tt⟩
    · cases e
end


/-! ### new lists: a display, list(x), x + y, x * k, a slice back -/
section
variable {X : Cx} {e a b : Expr} {es : List Expr} {pos p : Pos} {f g : FE} {fs : Fe (List D)}
theorem tMF_new {K : PySem.W.Frag} {ω : Wd} {H1 : Hp} {xs : List V} {ds : List D} {p : Addr} (r : RpL K ω H1 xs ds) (hp : H1 p = none) : RpL K (ω.add p) (upd H1 p (.lst xs)) xs ds :=
  RpL.mv (ω := ω) (ω' := ω.add p) (H := H1) (H' := upd H1 p (.lst xs)) ⟨rfl, rfl, fun _ _ z => z, fun a ys ha => by rw [upd_ne (ne_of_none ha hp)]; exact ha, fun a x na ha => ⟨by rw [upd_ne (ne_of_none ha hp)]; exact ha, fun z => Or.elim z na (ne_of_none ha hp)⟩⟩ r
def aLim (f : Fe (List D)) : Fe (List D) := fun env n => match f env n with
  | some (ds, n1) => if ds.length ≤ lim then some (ds, n1) else none
  | none => none
theorem mf_lst (h : MA X es fs) : MF X (.List es pos) (aLim fs) := by
  refine pe_imp (pe_lst h) fun σ H Q q => ?_
  obtain ⟨ω, env, n, d, n', R, t, e, k⟩ := q
  unfold aLim at e
  split at e
  · rename_i ds n1 h1
    split at e
    · rename_i hl
      cases e
      rw [lim_eq] at hl
      refine tMA_run R t h1 fun v ω1 H1 k1 R1 t1 r1 => ⟨by rw [r1.length]; exact hl, fun p hp => ?_⟩
      exact k p v ω1 _ (k1.trans (Ext.of_same (same_upd hp))) (t1.of_same (same_upd hp)) (k1.noneB hp) (R1.ok.notIn hp) upd_same hl (tMF_new r1 hp)
    · cases e
  · cases e
def aSeq (f : Fe (List D)) : Fe (List D) := fun env n => match f env n with
  | some ([.list ds], n1) => some (ds, n1)
  | some ([.tuple ds], n1) => some (ds, n1)
  | _ => none
theorem mf_list (hg : Gl X "list") (hm : X.mg "list" = none) (ha : MA X [e] fs) (he : starEach [e] X.env = (false, eval e X.env) :: starEach [] X.env := by rfl) (hpl : (backTo pos (starEach [] X.env)).any (·.1) = false := by rfl) : MF X (.Call (.Name "list" p) [e] [] pos) (aSeq fs) := by
  refine pe_imp (pe_callTy call_list_of hg hm (by decide +kernel) ha (by decide) (by decide) he hpl) fun σ H Q q => ?_
  obtain ⟨ω, env, n, d, n', R, t, e, k⟩ := q
  have fin : ∀ {d1 : D} {ds : List D} {n1 : Sn}, seq? d1 = some ds → fs env n = some ([d1], n1) → (d, n') = (ds, n1) → tCB (fun xs H Q => ∃ p ys, xs = [.ref p] ∧ (SqL X.K H p ys ∨ SqT X.K H p ys) ∧ ∀ l, H l = none → Q (.ref l) (upd H l (.lst ys))) (tMA X.K (clsA X.mg) fs) σ H Q := by
    intro d1 ds n1 hs h1 he
    cases he
    refine tMA_run R t h1 fun v ω1 H1 k1 R1 t1 r1 => ?_
    obtain ⟨u, rfl, r2⟩ := rpl1 r1
    obtain ⟨a, xs, rfl, q, l, ha⟩ := seq_rp r2 hs
    refine ⟨a, xs, rfl, ha.imp SqL.of SqT.of, fun p hp => ?_⟩
    exact k p xs ω1 _ (k1.trans (Ext.of_same (same_upd hp))) (t1.of_same (same_upd hp)) (k1.noneB hp) (R1.ok.notIn hp) upd_same l (tMF_new q hp)
  unfold aSeq at e
  split at e
  · rename_i ds n1 h1
    exact fin (d1 := .list ds) rfl h1 (Option.some.inj e).symm
  · rename_i ds n1 h1
    exact fin (d1 := .tuple ds) rfl h1 (Option.some.inj e).symm
  · cases e
def aCat (f g : FE) : Fe (List D) := fun env n => match f env n with
  | some (.list x, n1) => (match g env n1 with
    | some (.list y, n2) => if x.length + y.length ≤ lim then some (x ++ y, n2) else none
    | _ => none)
  | _ => none
theorem mf_cat (ha : ME X a f) (hb : ME X b g) : MF X (.BinOp a .Add b pos) (aCat f g) := by
  refine pe_imp (pe_op op_cat ha hb) fun σ H Q q => ?_
  obtain ⟨ω, env, n, d, n', R, t, e, k⟩ := q
  unfold aCat at e
  split at e
  · rename_i x n1 h1
    split at e
    · rename_i y n2 h2
      split at e
      · rename_i hl
        cases e
        rw [lim_eq] at hl
        refine tM_run R t h1 fun v ω1 H1 k1 R1 t1 r1 => ?_
        refine tM_run R1 t1 h2 fun u ω2 H2 k2 R2 t2 r2 => ?_
        have r1' := r1.ext k2
        cases r1' with
        | lst g1 m1 l1 q1 =>
          cases r2 with
          | lst g2 m2 l2 q2 =>
            refine ⟨_, _, _, _, rfl, rfl, g1, g2, by rw [q1.length, q2.length]; exact hl, fun p hp => ?_⟩
            have kk := k1.trans k2
            exact k p _ ω2 _ (kk.trans (Ext.of_same (same_upd hp))) (t2.of_same (same_upd hp)) (kk.noneB hp) (R2.ok.notIn hp) upd_same (by rw [List.length_append]; exact hl) (tMF_new (q1.append q2) hp)
      · cases e
    · cases e
  · cases e
def aRep (f g : FE) : Fe (List D) := fun env n => match f env n with
  | some (.list x, n1) => (match g env n1 with
    | some (.int k, n2) => if k < 2 ^ 63 ∧ -(2 ^ 63) ≤ k ∧ x.length * k.toNat ≤ lim then some ((List.replicate k.toNat x).flatten, n2) else none
    | _ => none)
  | _ => none
theorem mf_rep (ha : ME X a f) (hb : ME X b g) : MF X (.BinOp a .Mult b pos) (aRep f g) := by
  refine pe_imp (pe_op op_rep ha hb) fun σ H Q q => ?_
  obtain ⟨ω, env, n, d, n', R, t, e, k⟩ := q
  unfold aRep at e
  split at e
  · rename_i x n1 h1
    split at e
    · rename_i y n2 h2
      split at e
      · rename_i hl
        cases e
        obtain ⟨hl1, hl2, hl⟩ := hl
        rw [lim_eq] at hl
        refine tM_run R t h1 fun v ω1 H1 k1 R1 t1 r1 => ?_
        refine tM_run R1 t1 h2 fun u ω2 H2 k2 R2 t2 r2 => ?_
        have r1' := r1.ext k2
        cases r2
        cases r1' with
        | lst g1 m1 l1 q1 =>
          refine ⟨_, _, _, rfl, rfl, g1, hl2, hl1, by rw [q1.length]; exact hl, fun p hp => ?_⟩
          have kk := k1.trans k2
          exact k p _ ω2 _ (kk.trans (Ext.of_same (same_upd hp))) (t2.of_same (same_upd hp)) (kk.noneB hp) (R2.ok.notIn hp) upd_same (by rw [flat_rep_len, Nat.mul_comm]; exact hl) (tMF_new (q1.rep _) hp)
      · cases e
    · cases e
  · cases e
/-! ### min, max of two -/
def dMin2 : List D → Option D
  | [.int i, .int j] => some (.int (if j < i then j else i))
  | _ => none
def dMax2 : List D → Option D
  | [.int i, .int j] => some (.int (if j > i then j else i))
  | _ => none
theorem ok_min2 (K : PySem.W.Frag) : OkL K (fun xs H Q => ∃ i j, xs = [.int i, .int j] ∧ Q (.int (if j < i then j else i)) H) dMin2 := by
  intro ω H xs ds d Q c r e k
  unfold dMin2 at e
  split at e
  · cases e
    obtain ⟨u, v, rfl, r1, r2⟩ := rpl2 r
    cases r1
    cases r2
    exact ⟨_, _, rfl, k _ _ (Same.refl _) (.int _)⟩
  · cases e
theorem ok_max2 (K : PySem.W.Frag) : OkL K (fun xs H Q => ∃ i j, xs = [.int i, .int j] ∧ Q (.int (if j > i then j else i)) H) dMax2 := by
  intro ω H xs ds d Q c r e k
  unfold dMax2 at e
  split at e
  · cases e
    obtain ⟨u, v, rfl, r1, r2⟩ := rpl2 r
    cases r1
    cases r2
    exact ⟨_, _, rfl, k _ _ (Same.refl _) (.int _)⟩
  · cases e
/-! ### in, not in -/
def flatD : D → Bool
  | .none | .bool _ | .int _ | .str _ => true
  | _ => false
def inD (d : D) : D → Option Bool
  | .list ds => if SeqAt.shaped d && SeqAt.shaped (.list ds) then some (ds.any fun z => PyData.eqv z d) else none
  | .tuple ds => if flatD d && ds.all flatD then some (ds.any fun z => PyData.eqv z d) else none
  | _ => none
def dIn (d e : D) : Option D := (inD d e).map .bool
def dNotIn (d e : D) : Option D := (inD d e).map fun b => .bool (!b)
def rInA (K : PySem.W.Frag) : R2 := fun x y H Q => rInD K x y H Q ∨ rIn K false x y H Q
def rNotInA (K : PySem.W.Frag) : R2 := fun x y H Q => rNotInD K x y H Q ∨ rIn K true x y H Q
theorem op_inA {X : Cx} (hu : X.A.units + 65 < cLine) : OpR X (compareOp .In) (rInA X.K) := (op_inD hu).or op_in_seq
theorem op_notInA {X : Cx} (hu : X.A.units + 65 < cLine) : OpR X (compareOp .NotIn) (rNotInA X.K) := (op_notInD hu).or op_notIn_seq
section
variable {K : PySem.W.Frag} {ω : Wd} {H : Hp}
theorem flat_rp {v : V} {d : D} (r : Rp K ω H v d) (h : flatD d = true) : flatV v = true := by
  cases r <;> first | rfl | cases h
theorem eqV_rp {v u : V} {d e : D} (r : Rp K ω H v d) (h : flatD d = true) (r2 : Rp K ω H u e) (h2 : flatD e = true) : eqV v u = PyData.eqv d e := by
  cases r <;> cases r2 <;> first | cases h; done | cases h2; done | simp [eqV, PyData.eqv]
theorem flatL_rp : ∀ {vs : List V} {ds : List D}, RpL K ω H vs ds → ds.all flatD = true → vs.all flatV = true
  | _, _, .nil, _ => rfl
  | _, _, .cons h r, c => by
    rw [List.all_cons, Bool.and_eq_true] at c
    rw [List.all_cons, flat_rp h c.1, flatL_rp r c.2]
    rfl
theorem inV_rp {x : V} {d : D} (rx : Rp K ω H x d) (hx : flatD d = true) : ∀ {vs : List V} {ds : List D}, RpL K ω H vs ds → ds.all flatD = true → inV x vs = ds.any fun z => PyData.eqv z d
  | _, _, .nil, _ => rfl
  | _, _, .cons h r, c => by
    rw [List.all_cons, Bool.and_eq_true] at c
    have ih := inV_rp rx hx r c.2
    unfold inV at ih ⊢
    rw [List.any_cons, List.any_cons, ih, eqV_rp h c.1 rx hx]
end
theorem ok_in (K : PySem.W.Frag) : Ok2 K (rInA K) dIn := by
  intro ω H x y d1 d2 d Q c r1 r2 e k
  unfold dIn at e
  rw [Option.map_eq_some_iff] at e
  obtain ⟨b, e, rfl⟩ := e
  unfold inD at e
  split at e
  · split at e
    · rename_i h
      rw [Bool.and_eq_true] at h
      cases e
      exact .inl ⟨_, _, r1.dp (lay_of h.1), r2.dp (lay_of h.2), h.1, h.2, k _ _ (Same.refl _) (.bl _)⟩
    · cases e
  · split at e
    · rename_i h
      rw [Bool.and_eq_true] at h
      cases e
      cases r2 with
      | tup h1 l1 q1 =>
        refine .inr ⟨_, _, rfl, .inr (SqT.of h1), flat_rp r1 h.1, flatL_rp q1 h.2, ?_⟩
        rw [if_neg Bool.false_ne_true, inV_rp r1 h.1 q1 h.2]
        exact k _ _ (Same.refl _) (.bl _)
    · cases e
  · cases e
theorem ok_notIn (K : PySem.W.Frag) : Ok2 K (rNotInA K) dNotIn := by
  intro ω H x y d1 d2 d Q c r1 r2 e k
  unfold dNotIn at e
  rw [Option.map_eq_some_iff] at e
  obtain ⟨b, e, rfl⟩ := e
  unfold inD at e
  split at e
  · split at e
    · rename_i h
      rw [Bool.and_eq_true] at h
      cases e
      exact .inl ⟨_, _, r1.dp (lay_of h.1), r2.dp (lay_of h.2), h.1, h.2, k _ _ (Same.refl _) (.bl _)⟩
    · cases e
  · split at e
    · rename_i h
      rw [Bool.and_eq_true] at h
      cases e
      cases r2 with
      | tup h1 l1 q1 =>
        refine .inr ⟨_, _, rfl, .inr (SqT.of h1), flat_rp r1 h.1, flatL_rp q1 h.2, ?_⟩
        rw [if_pos rfl, inV_rp r1 h.1 q1 h.2]
        exact k _ _ (Same.refl _) (.bl _)
    · cases e
  · cases e
/-! ### the script -/
def dLenS : D → Option D
  | .dict [(.none, .list ds)] => some (.int ds.length)
  | _ => none
def dIxS : D → D → Option D
  | .dict [(.none, .list ds)], .int i => atI ds i
  | _, _ => none
def dEqS : D → D → Option D
  | .dict [(.none, .list ds)], .list [] => some (.bool ds.isEmpty)
  | _, _ => none
section
variable (K : PySem.W.Frag)
theorem ok_lenS : OkL K (rLenA K) (c1 dLenS) := by
  intro ω H xs ds d Q c r e k
  unfold c1 at e
  split at e
  · obtain ⟨v, rfl, h⟩ := rpl1 r
    unfold dLenS at e
    split at e
    · cases e
      cases h with
      | scr hs hl =>
        refine .inl ⟨_, _, rfl, .inl hs.sq, ?_⟩
        rw [List.length_map] at k ⊢
        exact k _ _ (Same.refl _) (.int _)
    · cases e
  · cases e
theorem atI_map {α β : Type} (g : α → β) (xs : List α) (i : Int) : atI (xs.map g) i = (atI xs i).map g := by
  unfold atI
  rw [List.length_map]
  cases ixN xs.length i with
  | none => rfl
  | some j => simp
theorem ok_ixS : Ok2 K (rIx K) dIxS := by
  intro ω H x y d1 d2 d Q c r1 r2 e k
  unfold dIxS at e
  split at e
  · cases r2
    cases r1 with
    | scr hs hl =>
      rw [atI_map, Option.map_eq_some_iff] at e
      obtain ⟨z, h1, rfl⟩ := e
      exact .inl ⟨_, _, _, _, rfl, rfl, hs.sq, by rw [atI_map, h1]; rfl, k _ _ (Same.refl _) (.int _)⟩
  · cases e
theorem dpall_ints {H : Hp} : ∀ ns : List Int, DpAll K H (ns.map V.int) (ns.map .int)
  | [] => .nil
  | n :: r => .cons (.int n) (dpall_ints r)
theorem lay_ints : ∀ ns : List Int, PyData.canLayAll0 (ns.map .int) = true
  | [] => rfl
  | n :: r => by
    rw [List.map_cons, PyData.canLayAll0, lay_ints r]
    rfl
theorem depth_ints : ∀ ns : List Int, PyData.depthAll (ns.map .int) = 0
  | [] => rfl
  | n :: r => by
    rw [List.map_cons, PyData.depthAll, depth_ints r]
    rfl
theorem ok_eqS : Ok2 K (rEqD K) dEqS := by
  intro ω H x y d1 d2 d Q c r1 r2 e k
  unfold dEqS at e
  split at e
  · cases e
    cases r1 with
    | @scr a ns hs hl =>
      have e2 : PyData.eqv (.list (ns.map .int)) (.list []) = (ns.map PyData.int).isEmpty := by
        cases ns with
        | nil => simp [PyData.eqv, PyData.eqvAll]
        | cons n r => simp [PyData.eqv, PyData.eqvAll]
      refine ⟨.list (ns.map .int), .list [], .lst hs.sq (dpall_ints K ns), r2.dp rfl, ?_, rfl, ?_⟩
      · show (PyData.canLay0 (.list (ns.map .int)) && decide (PyData.depth (.list (ns.map .int)) ≤ 64)) = true
        rw [PyData.canLay0, PyData.depth, lay_ints, depth_ints]
        rfl
      · rw [e2]
        exact k _ _ (Same.refl _) (.bl _)
  · cases e
end
/-! ### the town -/
def eTown (i : Nat) : FE := fun env n => match env[i]? with
  | some (some (.dict [])) => some (.int n.t, n)
  | _ => none
theorem me_lenTown {X : Cx} {i : Nat} {e : Expr} {p pos : Pos} (hg : Gl X "len") (hm : X.mg "len" = none) (he : PE X e (tVar i)) (hs : starEach [e] X.env = (false, eval e X.env) :: starEach [] X.env := by rfl) (hpl : (backTo pos (starEach [] X.env)).any (·.1) = false := by rfl) :
    ME X (.Call (.Name "len" p) [e] [] pos) (eTown i) := by
  refine pe_imp (pe_callB call_len_seq hg hm (by decide +kernel) (pa_cons he pa_nil hs) (by decide) (by decide) hs hpl) fun σ H Q q => ?_
  obtain ⟨ω, env, n, d, n', R, t, e, k⟩ := q
  unfold eTown at e
  split at e
  · rename_i h1
    cases e
    obtain ⟨v, h2, h3⟩ := R.get i _ h1
    cases h3 with
    | town ht =>
      refine ⟨_, h2, _, _, rfl, .inl (SqL.of (t.town _ ht).2), ?_⟩
      rw [List.length_replicate]
      exact k _ ω H Ext.refl t (.int _)
  · cases e
def sTown (i : Nat) : FS := fun S n => match S[i]? with
  | some (some (.val (.dict []))) => if n.t < lim then some (.nx S, n.tick) else none
  | _ => none
theorem ms_town {X : Cx} {W : WX} {st : Stmt} {i : Nat} (h : PS X st (tDrop (tBM X.K "list" rAppend (tVar i) (tCons (tC (.int 0)) tNil)))) : MS X W st (sTown i) := by
  refine ps_imp h fun Dn σ H q => ?_
  obtain ⟨ω0, H0, ω, S, n, fl, n', ⟨o, R⟩, e, a⟩ := q
  unfold sTown at e
  split at e
  · rename_i hS
    split at e
    · rename_i hl
      cases e
      rw [lim_eq] at hl
      obtain ⟨v, hσ, hv⟩ := R.slot i _ hS
      cases (show Rp X.K (ω.plus o) H v (.dict []) from hv) with
      | @town p ht =>
        have hH := (R.town.town p ht).2
        refine ⟨_, hσ, .inl ⟨rfl, _, SqL.of hH⟩, p, _, _, rfl, rfl, hH, by rw [List.length_replicate]; exact hl, ?_⟩
        refine a ω σ _ o (R.extF (Ext.updHas (.inl ht) hH trivial) ⟨⟨fun b z => ?_⟩, fun b z => ⟨(R.town.town b z).1, ?_⟩, R.town.len, fun k c z => ?_, R.town.owk⟩)
        · by_cases e : b = p
          · rw [e]; exact ⟨_, upd_same, trivial⟩
          · obtain ⟨x, hx, nx⟩ := R.town.ok.tin b z
            exact ⟨x, by rw [upd_ne e]; exact hx, nx⟩
        · have e : b = p := Option.some.inj (z.symm.trans ht)
          rw [e, upd_same]
          show some (HO.lst (List.replicate n.t (V.int 0) ++ [V.int 0])) = some (HO.lst (List.replicate (n.t + 1) (V.int 0)))
          rw [List.replicate_succ']
        · obtain ⟨b, h1, h2⟩ := R.town.cell k c z
          refine ⟨b, h1, h2.mono rfl (fun _ z => z) (fun b x hb hx => ?_) fun b ys hb => ?_⟩
          · rw [upd_ne (fun e => by rw [e, (R.town.town p ht).1] at hb; cases hb)]; exact hx
          · rw [upd_ne (fun e => by rw [e, hH] at hb; cases hb)]; exact hb
    · cases e
  · cases e
end
/-! ### packed rules -/
section
variable {X : Cx} {W : WX} {e : Expr} {es : List Expr} {pos pos' p : Pos} {fs : Fe (List D)} {x : Str} {i j k ar : Nat} {fr : Bool} {m : Fn} {f : FE}
theorem ms_set (hN : X.N.Nodup) (hi : X.N[i]? = some x) (hx : Loc X.env.scope x) (he : ME X e f) (hs : swapsWith e (some (.Name x pos')) pos.line X.env = pure false := by rfl) (hf : X.fn x = true ∨ X.env.scope.names.lookup x = some .local := by first | exact .inl rfl | exact .inr rfl | assumption) :
    MS X W (.Assign [.Name x pos'] e pos) (sSet i f) := ms_asg (ps_set hN hi hx he hs hf) rfl
theorem ms_setH (hN : X.N.Nodup) (hi : X.N[i]? = some x) (hx : Loc X.env.scope x) (he : ME X e f) (hs : swapsWith e (some (.Name x pos')) pos.line X.env = pure false := by rfl) (hf : X.fn x = true ∨ X.env.scope.names.lookup x = some .local := by first | exact .inl rfl | exact .inr rfl | assumption) :
    MS X W (.Assign [.Name x pos'] e pos) (sSetH i f) := ms_asgH (ps_set hN hi hx he hs hf) rfl
theorem ms_setO (hN : X.N.Nodup) (hi : X.N[i]? = some x) (hx : Loc X.env.scope x) (he : MF X e fs) (hs : swapsWith e (some (.Name x pos')) pos.line X.env = pure false := by rfl) (hf : X.fn x = true ∨ X.env.scope.names.lookup x = some .local := by first | exact .inl rfl | exact .inr rfl | assumption) :
    MS X W (.Assign [.Name x pos'] e pos) (sOwn i fs) := ms_own (ps_set hN hi hx he hs hf) rfl
theorem ms_setOH (hN : X.N.Nodup) (hi : X.N[i]? = some x) (hx : Loc X.env.scope x) (he : MF X e fs) (hs : swapsWith e (some (.Name x pos')) pos.line X.env = pure false := by rfl) (hf : X.fn x = true ∨ X.env.scope.names.lookup x = some .local := by first | exact .inl rfl | exact .inr rfl | assumption) :
    MS X W (.Assign [.Name x pos'] e pos) (sOwnH i fs) := ms_ownH (ps_set hN hi hx he hs hf) rfl
/-- y = [.. for ..] on one line, y a plain local -/
theorem ps_setLcF {i : Nat} {y : Str} {py : Pos} {elt tg iter : Expr} {ifs : List Expr} {scope : Scope} {own : List (Str × Nat)} {pos spos : Pos} {fi : Fe (List D)} {t : Tg} {ft : Fe Bool} {fe : FE} (hc : X.calm = true) (hN : X.N.Nodup) (hy : X.N[i]? = some y) (hyl : X.env.scope.names.lookup y = some .local)
    (hsw : swapsWith (.ListComp elt [⟨tg, iter, ifs, 0⟩] scope pos) (some (.Name y py)) spos.line X.env = pure true) (hi : MI X tg iter fi) (ok : BlkOk X.N X.env.scope scope own)
    (hg : ∀ (s : Shared) (H : Hp) (C : Addr) (cl : List (Str × Addr)) (fp : List Addr), MG (X.blk s H scope (compEnvC scope cl C X.env) fp) tg t) (ht : ∀ (s : Shared) (H : Hp) (C : Addr) (cl : List (Str × Addr)) (fp : List Addr), MTs (X.blk s H scope (compEnvC scope cl C X.env) fp) ifs ft)
    (he : ∀ (s : Shared) (H : Hp) (C : Addr) (cl : List (Str × Addr)) (fp : List Addr), ME (X.blk s H scope (compEnvC scope cl C X.env) fp) elt fe) (hsl : ∀ i ∈ t.slots, i ∈ own.map (·.2)) (hs : ∀ x, foldedSetIterable iter X.env x = pure x := by intro _; rfl) :
    PS X (.Assign [.Name y py] (.ListComp elt [⟨tg, iter, ifs, 0⟩] scope pos) spos) (tAsg (tMF X.K (clsA X.mg) (eLc (own.map (·.2)) fi t ft fe)) (gName i)) :=
  ps_imp (ps_setLc hc hN hy hyl hsw hi ok hg ht he hs) fun Dn σ H q => tLc_of hsl σ H _ q
theorem ps_asgF {st : Stmt} {f : Fe (List D)} (h : PS X st (tAsg (tMF X.K (clsA X.mg) f) (gName i))) : PS X st (tAsg (tM X.K (clsA X.mg) (eList f)) (gName i)) := ps_imp h fun Dn σ H q => by
  obtain ⟨ω, env, n, d, n', R, t, e, k⟩ := q
  unfold eList at e
  split at e
  · rename_i ds n1 h1
    cases e
    exact ⟨ω, env, n, ds, _, R, t, h1, fun p xs ω' H' k1 t1 hp np hp' l r => k _ ω' H' k1 t1 (.lst hp' np l r.ors)⟩
  · cases e
theorem ms_callS (h : Has X.prog X.w X.K X.mg X.base x k ar fr m) (hl : ∀ ds n, ds.length ≠ ar → m ds n = none) (hr : Room j X.A) (hk : k ≤ j) (tk : Takes X W) (hg : Gl X x) (ha : MA X (e :: es) fs)
    (hs : swapsWith (.Call (.Name x p) (e :: es) [] pos) none pos'.line X.env = pure false := by rfl) (hdb : (x == ("__debug__" : Str)) = false := by decide) (he : starEach (e :: es) X.env = (false, eval e X.env) :: starEach es X.env := by rfl) (hpl : (backTo pos (starEach es X.env)).any (·.1) = false := by rfl) :
    MS X W (.Expr (.Call (.Name x p) (e :: es) [] pos) pos') (sCallX m fs) := by
  obtain ⟨f, fd, ps, F, hm, hkp, hb⟩ := h.ex
  exact ms_callX hl (ps_expr (pe_callS F (hr.mono hk) hg hm hkp hb (fun σ => passAt tk σ) ha hdb he hpl) hs)
theorem ms_retS (h : Has X.prog X.w X.K X.mg X.base x k ar fr m) (hl : ∀ ds n, ds.length ≠ ar → m ds n = none) (hr : Room j X.A) (hk : k ≤ j) (tk : Takes X W) (hg : Gl X x) (ha : MA X (e :: es) fs)
    (hdb : (x == ("__debug__" : Str)) = false := by decide) (he : starEach (e :: es) X.env = (false, eval e X.env) :: starEach es X.env := by rfl) (hpl : (backTo pos (starEach es X.env)).any (·.1) = false := by rfl) :
    MS X W (.Return (some (.Call (.Name x p) (e :: es) [] pos)) pos') (sRetX m fs) := by
  obtain ⟨f, fd, ps, F, hm, hkp, hb⟩ := h.ex
  exact ms_retX hl (ps_ret (pe_callS F (hr.mono hk) hg hm hkp hb (fun σ => passAt tk σ) ha hdb he hpl))
/-- an own exception class over ValueError -/
def ExF (K : PySem.W.Frag) (mg : Str → Option Value) (c : Str) : Prop := ∃ C : Addr, mg c = some (.ref C) ∧ PySem.W.excIn K C He.veBase "ValueError.__new__" = true ∧ PySem.W.keepIn K (.ref C) = true ∧ PySem.W.subIn K (.ref C) (.type "BaseException") = some true ∧ PySem.W.typeIn K (.ref C) = some (.type "type")
theorem ms_rs {c m : Str} {j : Nat} {p2 : Pos} (h : ExF X.K X.mg c) (hc : X.calm = true) (tk : Takes X W) (hg : Gl X c) (hdb : (c == ("__debug__" : Str)) = false := by decide) : MS X W (.Raise (some (.Call (.Name c p) [.Constant (.str m) j p2] [] pos)) none pos') (sRaise c) := by
  obtain ⟨C, h1, h2, h3, h4, h5⟩ := h
  exact ms_raise h1 (ps_raise hc tk (pmk_own PySem.F.excBase_ValueError h2 h1 h3 (raises_own h4 h5) hg hdb))
/-- x.append(e), x.extend(e) -/
theorem ms_append {cpos apos : Pos} (ho : PE X e (tVar i)) (he : ME X a f) (hb : attributeBase e "append" X.env (eval e X.env) = eval e X.env := by rfl)
    (hfew : ((backTo cpos (starEach [a] X.env)).all (fun x => !x.1) && (backToKw cpos (keywordEach [] X.env)).all (fun x => x.1.isSome) && decide ([a].length + ([] : List Keyword).length + (if ([] : List Keyword).isEmpty then 0 else 1) < 30)) = true := by rfl)
    (hline : (apos.endLine == cpos.line) = true := by rfl) (hs : starEach [a] X.env = (false, eval a X.env) :: starEach [] X.env := by rfl) (hpl : (backTo cpos (starEach [] X.env)).any (·.1) = false := by rfl) (hsw : swapsWith (.Call (.Attribute e "append" apos) [a] [] cpos) none pos.line X.env = pure false := by rfl) :
    PS X (.Expr (.Call (.Attribute e "append" apos) [a] [] cpos) pos) (tDrop (tBM X.K "list" rAppend (tVar i) (tCons (tM X.K (clsA X.mg) f) tNil))) :=
  ps_expr (pe_bm PySem.F.plainAttrs_list PySem.F.slot_list_append PySem.F.type_list_append mt_append ho (pa_cons he pa_nil hs) hb hfew hline hs hpl) hsw
theorem ms_extend {cpos apos : Pos} (ho : PE X e (tVar i)) (he : ME X a f) (hb : attributeBase e "extend" X.env (eval e X.env) = eval e X.env := by rfl)
    (hfew : ((backTo cpos (starEach [a] X.env)).all (fun x => !x.1) && (backToKw cpos (keywordEach [] X.env)).all (fun x => x.1.isSome) && decide ([a].length + ([] : List Keyword).length + (if ([] : List Keyword).isEmpty then 0 else 1) < 30)) = true := by rfl)
    (hline : (apos.endLine == cpos.line) = true := by rfl) (hs : starEach [a] X.env = (false, eval a X.env) :: starEach [] X.env := by rfl) (hpl : (backTo cpos (starEach [] X.env)).any (·.1) = false := by rfl) (hsw : swapsWith (.Call (.Attribute e "extend" apos) [a] [] cpos) none pos.line X.env = pure false := by rfl) :
    PS X (.Expr (.Call (.Attribute e "extend" apos) [a] [] cpos) pos) (tDrop (tBM X.K "list" rExtend (tVar i) (tCons (tM X.K (clsA X.mg) f) tNil))) :=
  ps_expr (pe_bm PySem.F.plainAttrs_list PySem.F.slot_list_extend PySem.F.type_list_extend mt_extend ho (pa_cons he pa_nil hs) hb hfew hline hs hpl) hsw
end


/-! ### worlds without some -/
def Wd.subs (ω : Wd) (S : Addr → Prop) (h : ∀ a, S a → ¬ ω.has a) : Wd := { ω with T := fun a => ω.T a ∧ ¬ S a, hT1 := fun a z => ⟨ω.hT1 a z, fun e => h a e (.inl z)⟩, hT2 := fun a k z => ⟨ω.hT2 a k z, fun e => h a e (.inr ⟨k, z⟩)⟩ }
section
variable {K : PySem.W.Frag} {ω ω' : Wd} {H H' : Hp} {n : Sn} {S : Addr → Prop}
theorem Town.subs {h : ∀ a, S a → ¬ ω.has a} (t : Town ω n H) : Town (ω.subs S h) n H :=
  ⟨⟨fun a z => t.ok.tin a z.1⟩, t.town, t.len, fun k c z => let ⟨a, h1, h2⟩ := t.cell k c z; ⟨a, h1, h2.mono rfl (fun _ z => z) (fun _ _ _ z => z) fun _ _ z => z⟩, t.owk⟩
theorem Ext.subsNew {h : ∀ a, S a → ¬ ω'.has a} (e : Ext ω H ω' H') (hp : ∀ a, S a → H a = none) : Ext ω H (ω'.subs S h) H' := by
  refine ⟨e.town, e.C, e.root, fun a ha => ?_, e.ow, e.keep, e.tup, e.al⟩
  rw [← e.old a ha]
  exact ⟨fun z => z.1, fun z => ⟨z, fun q => ha (hp a q)⟩⟩
theorem mv_subs_or {h : ∀ a, S a → ¬ ω.has a} (hT : ∀ a, S a → ω.T a) : Mv ω H ((ω.subs S h).or S) H := Mv.less rfl rfl fun a z => Or.elim z (fun q => q.1) (hT a)
end
/-! ### a new list of new lists -/
def lcGo2 (env : En) (t : Tg) (fe : Fe (List D)) : List D → Sn → Option (List (List D) × Sn)
  | [], n => some ([], n)
  | x :: r, n => match bindE t x env with
    | some env' => (match fe env' n with
      | some (y, n2) => (match lcGo2 env t fe r n2 with
        | some (ys, n3) => some (y :: ys, n3)
        | none => none)
      | none => none)
    | none => none
def eLc2 (own : List Nat) (fi : Fe (List D)) (t : Tg) (fe : Fe (List D)) : Fe (List (List D)) := fun env n => match fi env n with
  | some (items, n1) => lcGo2 (wipeE env own) t fe items n1
  | none => none
def tMF2 (K : PySem.W.Frag) (C : Addr) (f : Fe (List (List D))) : TE := fun σ H Q => ∃ (ω : Wd) (env : En) (n : Sn) (dss : List (List D)) (n' : Sn),
  RE K C ω env σ H ∧ Town ω n H ∧ f env n = some (dss, n') ∧ ∀ p bs ω' H', Ext ω H ω' H' → Town ω' n' H' → (∀ b ∈ p :: bs, H b = none ∧ ¬ ω'.T b) → (p :: bs).Nodup → H' p = some (.lst (bs.map V.ref)) → dss.length ≤ sizeLine → Rows K (ω'.or fun a => a ∈ p :: bs) H' bs dss → Q (.ref p) H'
theorem Rows.length {K : PySem.W.Frag} {ω : Wd} {H : Hp} {bs : List Addr} {dss : List (List D)} (h : Rows K ω H bs dss) : bs.length = dss.length := by
  induction h with
  | nil => rfl
  | cons _ _ _ _ _ ih => rw [List.length_cons, List.length_cons, ih]
theorem Rows.append {K : PySem.W.Frag} {ω : Wd} {H : Hp} {bs bs' : List Addr} {dss dss' : List (List D)} (h : Rows K ω H bs dss) (h' : Rows K ω H bs' dss') : Rows K ω H (bs ++ bs') (dss ++ dss') := by
  induction h with
  | nil => exact h'
  | cons xs a b c _ ih => exact .cons xs a b c ih
theorem Rows.mem {K : PySem.W.Frag} {ω : Wd} {H : Hp} {bs : List Addr} {dss : List (List D)} (h : Rows K ω H bs dss) : ∀ b ∈ bs, ∃ xs, H b = some (.lst xs) := by
  induction h with
  | nil => intro b hb; cases hb
  | cons xs a _ _ _ ih =>
    intro b hb
    rcases List.mem_cons.mp hb with rfl | hb
    · exact ⟨xs, a⟩
    · exact ih b hb
section
variable {K : PySem.W.Frag} {C : Addr}
theorem tLc2_of {fi : Fe (List D)} {t : Tg} {fe : Fe (List D)} {own : List Nat} (hs : ∀ i ∈ t.slots, i ∈ own) : ∀ σ H Q, tMF2 K C (eLc2 own fi t fe) σ H Q → tLc (iM K C fi) (gOf K t) tYes (tMF K C fe) own σ H Q := by
  intro σ H Q q
  obtain ⟨ω, env, n, dss, n', R, tn, e, k⟩ := q
  unfold eLc2 at e
  split at e
  · rename_i items n1 h1
    refine ⟨ω, env, n, items, n1, R, tn, h1, fun J ω1 H1 k1 t1 wk Dd hD => ?_⟩
    have R1 : RE K C ω1 env σ H1 := R.ext k1 t1
    refine ⟨fun i m Hi => m = items.length - i ∧ i ≤ items.length ∧ ∃ (ωi : Wd) (ni : Sn) (bs : List Addr) (accD rest : List (List D)), Ext ω1 H1 ωi Hi ∧ Town ωi ni Hi ∧ (∀ b ∈ Dd :: bs, ωi.T b ∧ ¬ ωi.has b ∧ H1 b = none) ∧ (Dd :: bs).Nodup ∧ Hi Dd = some (.lst (bs.map V.ref)) ∧
      Rows K ωi Hi bs accD ∧ accD.length ≤ i ∧ lcGo2 (wipeE env own) t fe (items.drop i) ni = some (rest, n') ∧ accD ++ rest = dss, ?_, ?_⟩
    · refine ⟨items.length, by simp, Nat.zero_le _, ω1.add Dd, n1, [], [], dss, (Ext.of_same (same_upd hD)).addNew hD, (t1.of_same (same_upd hD)).or fun a z => by rw [z]; exact ⟨_, upd_same, trivial⟩, fun b hb => ?_, by simp, upd_same, .nil, Nat.zero_le _, e, rfl⟩
      have e : b = Dd := by simpa using hb
      rw [e]
      exact ⟨.inr rfl, R1.ok.nhas hD, hD⟩
    · rintro i m Hi ⟨rfl, hi, ωi, ni, bs, accD, rest, ki, ti, hm, nd, hDi, ri, la, eg, ea⟩
      obtain ⟨go, st⟩ := wk.run ωi Hi ki.mv ti.ok
      by_cases hlt : i < items.length
      · obtain ⟨g1, g2⟩ := go i hlt
        have hdrop : items.drop i = items[i] :: items.drop (i + 1) := List.drop_eq_getElem_cons hlt
        rw [hdrop] at eg
        unfold lcGo2 at eg
        split at eg
        · rename_i env' hb
          refine .inr ⟨g1, fun Hn => i + 1 ≤ items.length ∧ ∃ (ωi : Wd) (ni : Sn) (bs : List Addr) (accD rest : List (List D)), Ext ω1 H1 ωi Hn ∧ Town ωi ni Hn ∧ (∀ b ∈ Dd :: bs, ωi.T b ∧ ¬ ωi.has b ∧ H1 b = none) ∧ (Dd :: bs).Nodup ∧ Hn Dd = some (.lst (bs.map V.ref)) ∧
            Rows K ωi Hn bs accD ∧ accD.length ≤ i + 1 ∧ lcGo2 (wipeE env own) t fe (items.drop (i + 1)) ni = some (rest, n') ∧ accD ++ rest = dss, ?_, ?_⟩
          · rintro Hn ⟨q1, q2⟩
            exact ⟨items.length - (i + 1), by omega, rfl, q1, q2⟩
          · intro x H' hy
            obtain ⟨sm, d, hd, rx⟩ := g2 x H' hy
            rw [List.getElem?_eq_getElem hlt] at hd
            cases hd
            have t' : Town ωi ni H' := ti.of_same sm
            have e' : Ext ω1 H1 ωi H' := ki.trans (Ext.of_same sm)
            have R2 : RE K C ωi (wipeE env own) (wipe σ own) H' := (R1.wipe own).ext e' t'
            have hD' : H' Dd = some (.lst (bs.map V.ref)) := sm _ _ hDi
            refine gOf_run R2 rx hb fun vs R3 => ⟨wipe_bind hs, ?_⟩
            unfold tYes
            dsimp only
            rw [if_pos rfl]
            split at eg
            · rename_i y n3 h3
              refine ⟨ωi, env', ni, y, n3, R3, t', h3, fun p xs ω4 H4 k4 t4 hp np hp4 l4 r4 => ?_⟩
              have all' : ∀ b ∈ Dd :: bs, ∃ z, H' b = some z := fun b hb => by
                obtain ⟨x, hx, _⟩ := t'.ok.tin b (hm b hb).1
                exact ⟨x, hx⟩
              have pn : p ∉ Dd :: bs := fun hb => by
                obtain ⟨x, hx⟩ := all' p hb
                rw [hp] at hx; cases hx
              have pD : p ≠ Dd := fun z => pn (by rw [z]; exact List.mem_cons_self)
              have hD4 : H4 Dd = some (.lst (bs.map V.ref)) := k4.keep _ _ (hm Dd List.mem_cons_self).2.1 hD'
              have hp1 : H1 p = none := e'.noneB hp
              have hT4 : ∀ b ∈ Dd :: bs, ω4.T b := fun b hb => by
                obtain ⟨x, hx⟩ := all' b hb
                exact (k4.old b (sm_ne hx)).mpr (hm b hb).1
              have hh4 : ∀ b ∈ Dd :: bs, ¬ ω4.has b := fun b hb z => by
                obtain ⟨x, hx⟩ := all' b hb
                exact (hm b hb).2.1 (k4.hasB hx z)
              refine ⟨_, hD4, ?_, ?_⟩
              · rw [List.length_map, ri.length]
                have := wk.len
                omega
              · split at eg
                · rename_i ys n5 h5
                  cases eg
                  refine ⟨hlt, ω4.add p, n3, bs ++ [p], accD ++ [y], ys, ((e'.trans k4).addNew hp1).updNew hD, (t4.or fun a z => by rw [z]; exact ⟨_, hp4, trivial⟩).updN (hh4 Dd List.mem_cons_self) hD4, fun b hb => ?_, ?_, by rw [List.map_append]; exact upd_same, ?_, by rw [List.length_append]; simp; omega, h5, ?_⟩
                  · rw [← List.cons_append, List.mem_append] at hb
                    rcases hb with hb | hb
                    · exact ⟨.inl (hT4 b hb), hh4 b hb, (hm b hb).2.2⟩
                    · have e : b = p := by simpa using hb
                      rw [e]
                      exact ⟨.inr rfl, fun z => np (Wd.hasT (ω := ω4) z), hp1⟩
                  · rw [← List.cons_append, List.nodup_append]
                    refine ⟨nd, by simp, fun a ha b hb => ?_⟩
                    have e : b = p := by simpa using hb
                    rw [e]
                    exact fun z => pn (by rw [← z]; exact ha)
                  · have m5 : Mv ωi H' (ω4.add p) (upd H4 Dd (.lst (bs.map V.ref ++ [.ref p]))) := by
                      refine ⟨k4.town, k4.C, k4.root, fun a zs ha => ?_, fun a x na ha => ⟨?_, fun z => ?_⟩⟩
                      · have h4 := k4.tup a zs ha
                        rw [upd_ne (fun z => by rw [z, hD4] at h4; cases h4)]
                        exact h4
                      · rw [upd_ne (fun z => na (by rw [z]; exact (hm Dd List.mem_cons_self).1))]
                        exact (k4.mv.mv a x na ha).1
                      · rcases z with z | z
                        · exact (k4.mv.mv a x na ha).2 z
                        · rw [z, hp] at ha; cases ha
                    have ri' : Rows K ωi H' bs accD := ri.mv (Mv.same sm) fun b _ x z => sm b x z
                    refine (ri'.mv m5 fun b hb x hx => ?_).append (.cons xs ?_ l4 (r4.mv (mv_updN (ω := ω4.add p) (Or.inl (hT4 Dd List.mem_cons_self)) hD4)) .nil)
                    · have hbm : b ∈ Dd :: bs := List.mem_cons_of_mem _ hb
                      rw [upd_ne (fun z => (List.nodup_cons.mp nd).1 (by rw [← z]; exact hb))]
                      exact k4.keep b x (hm b hbm).2.1 hx
                    · rw [upd_ne pD]
                      exact hp4
                  · rw [List.append_assoc]; exact ea
                · cases eg
            · cases eg
        · cases eg
      · have hie : i = items.length := by omega
        subst hie
        rw [List.drop_length] at eg
        cases eg
        rw [List.append_nil] at ea
        subst ea
        exact .inl ⟨st, k Dd bs (ωi.subs (fun a => a ∈ Dd :: bs) fun a ha => (hm a ha).2.1) Hi ((k1.trans ki).subsNew fun a ha => k1.noneB (hm a ha).2.2) ti.subs (fun b hb => ⟨k1.noneB (hm b hb).2.2, fun z => z.2 hb⟩) nd hDi (by have := wk.len; omega) (ri.mv (mv_subs_or fun a ha => (hm a ha).1) fun _ _ _ z => z)⟩
  · cases e
end
abbrev MF2 (X : Cx) (e : Expr) (f : Fe (List (List D))) : Prop := PE X e (tMF2 X.K (clsA X.mg) f)
/-! ### slot i with several new cells -/
section
variable {K : PySem.W.Frag} {C : Addr} {ω0 : Wd} {H0 : Hp} {ω ω' ω1 : Wd} {S : Es} {n n' n1 : Sn} {σ : L2.St} {H H' H1 : Hp} {o o' o1 : Addr → Option Nat}
theorem RS.setOwn2 {i : Nat} {p : Addr} {bs : List Addr} {dss : List (List D)} (R : RS K C ω0 H0 ω S n σ H o) (e : Ext (ω.plus o) H ω1 H1) (t : Town ω1 n1 H1) (hf : ∀ b ∈ p :: bs, H b = none ∧ ¬ ω1.T b) (nd : (p :: bs).Nodup) (hp' : H1 p = some (.lst (bs.map V.ref))) (l : dss.length ≤ sizeLine)
    (r : Rows K (ω1.or fun a => a ∈ p :: bs) H1 bs dss) : RS K C ω0 H0 (ω1.diff o (R.hasO e)) (S.set i (some (.own2 dss))) n1 (σ.set i (some (.ref p))) H1 (ownL o i (fun a => a ∈ p :: bs)) :=
  R.setNew e t (fun a z => (hf a z).1) (fun a z => (hf a z).2) (fun a z => by
    rcases List.mem_cons.mp z with z | z
    · rw [z]; exact ⟨_, hp', trivial⟩
    · obtain ⟨xs, hx⟩ := r.mem a z
      exact ⟨_, hx, trivial⟩) fun ω2 m => ⟨p, bs, rfl, ownL_in List.mem_cons_self, nd, fun b hb => ownL_in (List.mem_cons_of_mem _ hb), hp', l, r.mv m fun _ _ _ z => z⟩
end
def sOwn2 (i : Nat) (f : Fe (List (List D))) : FS := fun S n => match f (hidE S) n with
  | some (dss, n1) => some (.nx (S.set i (some (.own2 dss))), n1)
  | none => none
theorem ms_own2 {X : Cx} {W : WX} {st : Stmt} {i : Nat} {f : Fe (List (List D))} (h : PS X st (tAsg (tMF2 X.K (clsA X.mg) f) (gName i))) : MS X W st (sOwn2 i f) := by
  refine ps_imp h fun Dn σ H q => ?_
  obtain ⟨ω0, H0, ω, S, n, fl, n', ⟨o, R⟩, e, a⟩ := q
  unfold sOwn2 at e
  split at e
  · rename_i dss n1 h1
    cases e
    exact ⟨_, hidE S, n, dss, _, R.hid, R.townP, h1, fun p bs ω' H' k t hf nd hp' l r => a _ _ _ _ (R.setOwn2 (i := i) k t hf nd hp' l r)⟩
  · cases e
theorem ps_setLc2F {X : Cx} {i : Nat} {y : Str} {py : Pos} {elt tg iter : Expr} {scope : Scope} {own : List (Str × Nat)} {pos spos : Pos} {fi : Fe (List D)} {t : Tg} {fe : Fe (List D)} (hc : X.calm = true) (hN : X.N.Nodup) (hy : X.N[i]? = some y) (hyl : X.env.scope.names.lookup y = some .local)
    (hsw : swapsWith (.ListComp elt [⟨tg, iter, [], 0⟩] scope pos) (some (.Name y py)) spos.line X.env = pure true) (hi : MI X tg iter fi) (ok : BlkOk X.N X.env.scope scope own)
    (hg : ∀ (s : Shared) (H : Hp) (C : Addr) (cl : List (Str × Addr)) (fp : List Addr), MG (X.blk s H scope (compEnvC scope cl C X.env) fp) tg t)
    (he : ∀ (s : Shared) (H : Hp) (C : Addr) (cl : List (Str × Addr)) (fp : List Addr), MF (X.blk s H scope (compEnvC scope cl C X.env) fp) elt fe) (hsl : ∀ i ∈ t.slots, i ∈ own.map (·.2)) (hs : ∀ x, foldedSetIterable iter X.env x = pure x := by intro _; rfl) :
    PS X (.Assign [.Name y py] (.ListComp elt [⟨tg, iter, [], 0⟩] scope pos) spos) (tAsg (tMF2 X.K (clsA X.mg) (eLc2 (own.map (·.2)) fi t fe)) (gName i)) :=
  ps_imp (ps_setLc hc hN hy hyl hsw hi ok hg (fun _ _ _ _ _ => pts_nil) he hs) fun Dn σ H q => tLc2_of hsl σ H _ q
/-- the same where y is a cell (captured by a comprehension) -/
theorem ps_setLc2C {X : Cx} {i : Nat} {y : Str} {py : Pos} {elt tg iter : Expr} {scope : Scope} {own : List (Str × Nat)} {pos spos : Pos} {fi : Fe (List D)} {t : Tg} {fe : Fe (List D)} (hc : X.calm = true) (hN : X.N.Nodup) (hy : X.N[i]? = some y) (hyl : Loc X.env.scope y)
    (hsw : swapsWith (.ListComp elt [⟨tg, iter, [], 0⟩] scope pos) (some (.Name y py)) spos.line X.env = pure false) (hi : MI X tg iter fi) (ok : BlkOk X.N X.env.scope scope own)
    (hg : ∀ (s : Shared) (H : Hp) (C : Addr) (cl : List (Str × Addr)) (fp : List Addr), MG (X.blk s H scope (compEnvC scope cl C X.env) fp) tg t)
    (he : ∀ (s : Shared) (H : Hp) (C : Addr) (cl : List (Str × Addr)) (fp : List Addr), MF (X.blk s H scope (compEnvC scope cl C X.env) fp) elt fe) (hsl : ∀ i ∈ t.slots, i ∈ own.map (·.2)) (hs : ∀ x, foldedSetIterable iter X.env x = pure x := by intro _; rfl)
    (hf : X.fn y = true ∨ X.env.scope.names.lookup y = some .local := by first | exact .inl rfl | exact .inr rfl | assumption) :
    PS X (.Assign [.Name y py] (.ListComp elt [⟨tg, iter, [], 0⟩] scope pos) spos) (tAsg (tMF2 X.K (clsA X.mg) (eLc2 (own.map (·.2)) fi t fe)) (gName i)) :=
  ps_imp (ps_set hN hy hyl (pe_lc hc hN hi ok hg (fun _ _ _ _ _ => pts_nil) he hs) hsw hf) fun Dn σ H q => tLc2_of hsl σ H _ q
/-! ### rows[i][j] op= e -/
def rIxN (K : PySem.W.Frag) : V → V → Hp → VK → Prop := fun x y H Q => ∃ p xs i v, x = .ref p ∧ y = .int i ∧ 0 ≤ i ∧ SqL K H p xs ∧ xs[i.toNat]? = some v ∧ Q v H
theorem pget_list {X : Cx} : PGet X (rIxN X.K) := by
  intro pins s σ H x y v u Q I rx ry h
  obtain ⟨p, xs, i, z, rfl, rfl, h0, hq, he, q⟩ := h
  cases rx
  obtain ⟨t, rfl⟩ := ry
  obtain ⟨its, r, pl, hz⟩ := I.list hq
  obtain ⟨w, ew, rw'⟩ := r.get he
  have hl : i.toNat < xs.length := by
    cases Nat.lt_or_ge i.toNat xs.length with
    | inl z => exact z
    | inr z => rw [List.getElem?_eq_none z] at he; cases he
  have hn := line63
  exact wpAny_getItem_list pl.isList h0 (by omega) (by simpa using ew) ⟨z, H, I, rw', q⟩
def sAug2 (r : Nat) (fi fj fe : FE) (g : Int → Int → Int) : FS := fun S n => match S[r]? with
  | some (some (.own2 dss)) => (match fi (frzE S) n with
    | some (.int i, n1) => (match fj (frzE S) n1 with
      | some (.int j, n2) => (match dss[i.toNat]? with
        | some ds => (match ds[j.toNat]? with
          | some (.int x) => (match fe (frzE S) n2 with
            | some (.int y, n3) => if 0 ≤ i ∧ 0 ≤ j then some (.nx (S.set r (some (.own2 (dss.set i.toNat (ds.set j.toNat (.int (g x y))))))), n3) else none
            | _ => none)
          | _ => none)
        | none => none)
      | _ => none)
    | _ => none)
  | _ => none
theorem Rows.get {K : PySem.W.Frag} {ω : Wd} {H : Hp} {bs : List Addr} {dss : List (List D)} (h : Rows K ω H bs dss) : ∀ {i : Nat} {ds : List D}, dss[i]? = some ds → ∃ b xs, bs[i]? = some b ∧ H b = some (.lst xs) ∧ ds.length ≤ sizeLine ∧ RpL K ω H xs ds := by
  induction h with
  | nil => intro i ds e; simp at e
  | cons xs a b c _ ih =>
    intro i ds e
    cases i with
    | zero => simp at e; subst e; exact ⟨_, xs, rfl, a, b, c⟩
    | succ i => exact ih (by simpa using e)
theorem Rows.set {K : PySem.W.Frag} {ω : Wd} {H : Hp} {bs : List Addr} {dss : List (List D)} (h : Rows K ω H bs dss) : ∀ {i : Nat} {b : Addr} {xs zs : List V} {ds : List D}, bs.Nodup → bs[i]? = some b → H b = some (.lst zs) → ω.T b → ds.length ≤ sizeLine → RpL K ω H xs ds → Rows K ω (L2.upd H b (.lst xs)) bs (dss.set i ds) := by
  induction h with
  | nil => intro i b xs zs ds _ e; simp at e
  | @cons b0 bs0 ds0 dss0 xs0 a l c t ih =>
    intro i b xs zs ds nd e hb tb ld r
    have mv := mv_updN (ys := xs) tb hb
    cases i with
    | zero =>
      have e' : b0 = b := by simpa using e
      subst e'
      refine .cons xs upd_same ld (r.mv mv) (t.mv mv fun b2 hb2 x hx => ?_)
      rw [upd_ne (fun z => (List.nodup_cons.mp nd).1 (by rw [← z]; exact hb2))]
      exact hx
    | succ i =>
      have e' : bs0[i]? = some b := by simpa using e
      have hne : b0 ≠ b := fun z => (List.nodup_cons.mp nd).1 (by rw [z]; exact List.mem_of_getElem? e')
      exact .cons xs0 (by rw [upd_ne hne]; exact a) l (c.mv mv) (ih (List.nodup_cons.mp nd).2 e' hb tb ld r)
theorem ixN_nat {n : Nat} {i : Int} (h0 : 0 ≤ i) (h : i.toNat < n) : ixN n i = some i.toNat := by
  unfold ixN
  rw [if_pos h0, if_pos (by omega)]
theorem refs_inj : ∀ {l1 l2 : List Addr}, l1.map V.ref = l2.map V.ref → l1 = l2
  | [], [], _ => rfl
  | [], _ :: _, h => by cases h
  | _ :: _, [], h => by cases h
  | a :: l, c :: d, h => by
    rw [List.map_cons, List.map_cons] at h
    injection h with h1 h2
    rw [V.ref.inj h1, refs_inj h2]
/-- an own2 slot's row is told anew -/
theorem RS.setRow {K : PySem.W.Frag} {C : Addr} {ω0 : Wd} {H0 : Hp} {ω : Wd} {S : Es} {n : Sn} {σ : L2.St} {H : Hp} {o : Addr → Option Nat} {r i : Nat} {p b : Addr} {bs : List Addr} {dss : List (List D)} {xs zs : List V} {ds : List D} (R : RS K C ω0 H0 ω S n σ H o) (hσ : σ[r]? = some (some (.ref p))) (hp : o p = some r) (nd : (p :: bs).Nodup)
    (hb : ∀ b ∈ bs, o b = some r) (hH : H p = some (.lst (bs.map V.ref))) (l : dss.length ≤ sizeLine) (rw' : Rows K (ω.plus o) H bs dss) (hi : bs[i]? = some b) (hz : H b = some (.lst zs)) (ld : ds.length ≤ sizeLine) (rl : RpL K (ω.plus o) H xs ds) :
    RS K C ω0 H0 ω (S.set r (some (.own2 (dss.set i ds)))) n σ (L2.upd H b (.lst xs)) o := by
  have hbm := List.mem_of_getElem? hi
  have ob := hb b hbm
  have hpb : p ≠ b := fun z => (List.nodup_cons.mp nd).1 (by rw [z]; exact hbm)
  have g := R.upd (i := r) (sv' := .own2 (dss.set i ds)) (v' := .ref p) (H' := L2.upd H b (.lst xs)) (o' := o) (fun c z hc hn => by rw [upd_ne (fun z => hn (by rw [z]; exact ob))]; exact hc) (fun c k _ => Iff.rfl) (fun c h => .inl h) (fun c h => by
      by_cases hcb : c = b
      · rw [hcb]; exact ⟨_, upd_same, trivial⟩
      · rw [upd_ne hcb]; exact R.own c r h) (fun c h => by
      by_cases hcb : c = b
      · rw [hcb, upd_same]; exact fun z => nomatch z
      · rw [upd_ne hcb]
        obtain ⟨x, hx, _⟩ := R.own c r h
        exact sm_ne hx) ⟨p, bs, rfl, hp, nd, hb, by rw [upd_ne hpb]; exact hH, by rw [List.length_set]; exact l, rw'.set (List.nodup_cons.mp nd).2 hi hz (.inr ⟨r, ob⟩) ld rl⟩
  rw [set_here hσ] at g
  exact g
theorem ms_aug2 {X : Cx} {W : WX} {r : Nat} {o i e er : Expr} {fi fj fe : FE} {g : Int → Int → Int} {op : Operator} {pos tpos p2 : Pos} (ho : PE X er (tVar r)) (hi : ME X o fi) (hj : ME X i fj) (he : ME X e fe) (hp : PIp X op (ipI g)) (hs : PlainIx o)
    (ha : ∀ ov iv new, augStore i ov iv new = (do holding [new, ov, iv] (setItem ov iv new); release [new, ov, iv] []; pure .next) := by intros; rfl) :
    MS X W (.AugAssign (.Subscript (.Subscript er o p2) i tpos) op e pos) (sAug2 r fi fj fe g) := by
  refine ps_imp (ps_augS (pe_ix ix_list ho hi hs) hj pget_list he hp set_list ha) fun Dn σ H q => ?_
  obtain ⟨ω0, H0, ω, S, n, fl, n', ⟨ow, R⟩, e, a⟩ := q
  unfold sAug2 at e
  split at e
  · rename_i dss hS
    split at e
    · rename_i i n1 h1
      split at e
      · rename_i j n2 h2
        split at e
        · rename_i ds hds
          split at e
          · rename_i x hx
            split at e
            · rename_i y n3 h3
              split at e
              · rename_i hij
                cases e
                obtain ⟨v, hσ, p, bs, rfl, hop, nd, hbo, hHp, ll, _⟩ := R.slot r _ hS
                refine ⟨_, hσ, ?_⟩
                refine tM_run R.frz R.town h1 fun v1 ω1 H1 k1 R1 t1 r1 => ?_
                cases r1
                have Ra := R.extF k1 t1
                have hp1 : H1 p = some (.lst (bs.map V.ref)) := k1.keep _ _ (R.nhas hop) hHp
                have same : ∀ {ωx : Wd} {nx : Sn} {Hx : Hp}, RS X.K (clsA X.mg) ω0 H0 ωx S nx σ Hx ow → Hx p = some (.lst (bs.map V.ref)) → Rows X.K (ωx.plus ow) Hx bs dss := fun {ωx nx Hx} Rx hx => by
                  obtain ⟨v2, hσ2, p2, bs2, e2, ho2, nd2, hb2, hp2, l2, rw2⟩ := Rx.slot r _ hS
                  rw [hσ] at hσ2
                  cases hσ2
                  cases e2
                  rw [hx] at hp2
                  rw [refs_inj (HO.lst.inj (Option.some.inj hp2))]
                  exact rw2
                obtain ⟨b, xs, hb, hxs, ld, rl⟩ := (same Ra hp1).get hds
                have hbl : i.toNat < bs.length := by
                  cases Nat.lt_or_ge i.toNat bs.length with
                  | inl z => exact z
                  | inr z => rw [List.getElem?_eq_none z] at hb; cases hb
                refine ⟨_, _, _, .ref b, rfl, rfl, SqL.of hp1, ?_, ?_⟩
                · unfold atI
                  rw [List.length_map, ixN_nat hij.1 hbl]
                  show (bs.map V.ref)[i.toNat]? = _
                  rw [List.getElem?_map, hb]
                  rfl
                refine tM_run R1 t1 h2 fun v2 ω2 H2 k2 R2 t2 r2 => ?_
                cases r2
                have Rb := Ra.extF k2 t2
                have hp2 : H2 p = some (.lst (bs.map V.ref)) := k2.keep _ _ (Ra.nhas hop) hp1
                obtain ⟨b', ys, hb', hys, ld', rl'⟩ := (same Rb hp2).get hds
                rw [hb] at hb'
                cases hb'
                obtain ⟨vx, hvx, rvx⟩ := rl'.get hx
                cases rvx
                refine ⟨b, ys, _, _, rfl, rfl, hij.2, SqL.of hys, hvx, ?_⟩
                refine tM_run R2 t2 h3 fun v3 ω3 H3 k3 R3 t3 r3 => ?_
                cases r3
                have Rc := Rb.extF k3 t3
                have hp3 : H3 p = some (.lst (bs.map V.ref)) := k3.keep _ _ (Rb.nhas hop) hp2
                have ob : ow b = some r := hbo b (List.mem_of_getElem? hb)
                have hys3 : H3 b = some (.lst ys) := k3.keep _ _ (Rb.nhas ob) hys
                have rl3 : RpL X.K (ω3.plus ow) H3 ys ds := rl'.mv (Rb.upE k3).mv
                have hjl : j.toNat < ys.length := by
                  cases Nat.lt_or_ge j.toNat ys.length with
                  | inl z => exact z
                  | inr z => rw [List.getElem?_eq_none z] at hvx; cases hvx
                refine ⟨_, _, rfl, rfl, b, ys, j, j.toNat, rfl, rfl, hys3, ixN_nat hij.2 hjl, ?_⟩
                exact a ω3 σ _ ow (Rc.setRow hσ hop nd hbo hp3 ll (same Rc hp3) hb hys3 (by rw [List.length_set]; exact ld') (rl3.set _ (.int _)))
              · cases e
            · cases e
          · cases e
        · cases e
      · cases e
    · cases e
  · cases e


/-! ### y = x, x an own list that is not used any more under its old name -/
def sMove (i j : Nat) : FS := fun S n => match S[i]? with
  | some (some (.own ds)) => if i = j then none else some (.nx ((S.set i none).set j (some (.own ds))), n)
  | some (some (.own2 ds)) => if i = j then none else some (.nx ((S.set i none).set j (some (.own2 ds))), n)
  | some (some (.dct ds)) => if i = j then none else some (.nx ((S.set i none).set j (some (.dct ds))), n)
  | _ => none
def ownMv (o : Addr → Option Nat) (i j : Nat) : Addr → Option Nat := fun a => if o a = some i then some j else if o a = some j then none else o a
section
variable {K : PySem.W.Frag} {C : Addr} {ω0 : Wd} {H0 : Hp} {ω : Wd} {S : Es} {n : Sn} {σ : L2.St} {H : Hp} {o : Addr → Option Nat} {i j : Nat}
theorem ownMv_cases {a : Addr} {k : Nat} (h : ownMv o i j a = some k) : ∃ k', o a = some k' := by
  unfold ownMv at h
  split at h
  · exact ⟨i, by assumption⟩
  · split at h
    · cases h
    · exact ⟨k, h⟩
theorem mv_ownMv : Mv (ω.plus o) H (ω.plus (ownMv o i j)) H := Mv.less rfl rfl fun a z => Or.imp id (fun ⟨k, h⟩ => ownMv_cases h) z
theorem ownMv_i {a : Addr} (h : o a = some i) : ownMv o i j a = some j := if_pos h
theorem SvRp.ren {v : V} {sv : SV} (hv : ∀ d, sv ≠ .val d) (h : SvRp K (ω.plus o) H o i v sv) : SvRp K (ω.plus (ownMv o i j)) H (ownMv o i j) j v sv := by
  cases sv with
  | val d => exact absurd rfl (hv d)
  | own ds =>
    obtain ⟨a, xs, rfl, h1, h2, l, r⟩ := h
    exact ⟨a, xs, rfl, ownMv_i h1, h2, l, r.mv mv_ownMv⟩
  | own2 dss =>
    obtain ⟨a, bs, rfl, h1, hn, h2, h3, l, r⟩ := h
    exact ⟨a, bs, rfl, ownMv_i h1, hn, fun b hb => ownMv_i (h2 b hb), h3, l, r.mv mv_ownMv fun _ _ _ z => z⟩
  | dct kvs =>
    obtain ⟨a, vs, rfl, h1, h2, l, r⟩ := h
    exact ⟨a, vs, rfl, ownMv_i h1, h2, l, r⟩
theorem RS.rename {v : V} {sv : SV} (R : RS K C ω0 H0 ω S n σ H o) (hS : S[i]? = some (some sv)) (hσ : σ[i]? = some (some v)) (hv : ∀ d, sv ≠ .val d) (hij : i ≠ j) : RS K C ω0 H0 ω ((S.set i none).set j (some sv)) n (σ.set j (some v)) H (ownMv o i j) := by
  obtain ⟨v', hσ', sr⟩ := R.slot i _ hS
  rw [hσ] at hσ'
  cases hσ'
  refine ⟨R.ext, R.cl, R.town, fun a k h => let ⟨k', h'⟩ := ownMv_cases h; R.new a k' h', fun a k h => let ⟨k', h'⟩ := ownMv_cases h; R.own a k' h', by rw [List.length_set, List.length_set, List.length_set]; exact R.len, fun k sv' hk => ?_⟩
  by_cases hjk : j = k
  · subst hjk
    by_cases hl : j < S.length
    · rw [List.getElem?_set_self (by rw [List.length_set]; exact hl)] at hk
      cases hk
      exact ⟨_, List.getElem?_set_self (by rw [← R.len]; exact hl), sr.ren hv⟩
    · rw [List.getElem?_eq_none (by rw [List.length_set, List.length_set]; omega)] at hk
      cases hk
  · rw [List.getElem?_set_ne hjk] at hk ⊢
    by_cases hik : i = k
    · subst hik
      by_cases hl : i < S.length
      · rw [List.getElem?_set_self hl] at hk; cases hk
      · rw [List.getElem?_eq_none (by rw [List.length_set]; omega)] at hk; cases hk
    · rw [List.getElem?_set_ne hik] at hk
      obtain ⟨v, q1, q2⟩ := R.slot k sv' hk
      refine ⟨v, q1, q2.mv mv_ownMv (fun a x _ hx => hx) fun a ha => ?_⟩
      unfold ownMv
      rw [if_neg (by rw [ha]; exact fun z => hik (Option.some.inj z).symm), if_neg (by rw [ha]; exact fun z => hjk (Option.some.inj z).symm)]
      exact ha
end
theorem ms_move {X : Cx} {W : WX} {st : Stmt} {i j : Nat} (h : PS X st (tAsg (tVar i) (gName j))) : MS X W st (sMove i j) := by
  refine ps_imp h fun Dn σ H q => ?_
  obtain ⟨ω0, H0, ω, S, n, fl, n', ⟨o, R⟩, e, af⟩ := q
  unfold sMove at e
  split at e
  · rename_i ds hS
    split at e
    · cases e
    · rename_i hij
      cases e
      obtain ⟨v, hσ, sr⟩ := R.slot i _ hS
      exact ⟨_, hσ, af _ _ _ _ (R.rename hS hσ (fun _ z => nomatch z) hij)⟩
  · rename_i ds hS
    split at e
    · cases e
    · rename_i hij
      cases e
      obtain ⟨v, hσ, sr⟩ := R.slot i _ hS
      exact ⟨_, hσ, af _ _ _ _ (R.rename hS hσ (fun _ z => nomatch z) hij)⟩
  · rename_i ds hS
    split at e
    · cases e
    · rename_i hij
      cases e
      obtain ⟨v, hσ, sr⟩ := R.slot i _ hS
      exact ⟨_, hσ, af _ _ _ _ (R.rename hS hσ (fun _ z => nomatch z) hij)⟩
  · cases e
theorem ms_mv {X : Cx} {W : WX} {e : Expr} {i j : Nat} {x : Str} {pos pos' : Pos} (hN : X.N.Nodup) (hi : X.N[j]? = some x) (hx : Loc X.env.scope x) (he : PE X e (tVar i)) (hs : swapsWith e (some (.Name x pos')) pos.line X.env = pure false := by rfl) (hf : X.fn x = true ∨ X.env.scope.names.lookup x = some .local := by first | exact .inl rfl | exact .inr rfl | assumption) :
    MS X W (.Assign [.Name x pos'] e pos) (sMove i j) := ms_move (ps_set hN hi hx he hs hf)
/-! ### x += e, ints -/
def sAug (i : Nat) (f : FE) (g : Int → Int → Int) : FS := fun S n => match S[i]? with
  | some (some (.val (.int x))) => (match f (frzE S) n with
    | some (.int y, n1) => some (.nx (S.set i (some (.val (.int (g x y))))), n1)
    | _ => none)
  | _ => none
theorem ms_aug {X : Cx} {W : WX} {st : Stmt} {i : Nat} {f : FE} {g : Int → Int → Int} (h : PS X st (tAug i (tM X.K (clsA X.mg) f) (ipI g))) : MS X W st (sAug i f g) := by
  refine ps_imp h fun Dn σ H q => ?_
  obtain ⟨ω0, H0, ω, S, n, fl, n', ⟨o, R⟩, e, af⟩ := q
  unfold sAug at e
  split at e
  · rename_i x hS
    split at e
    · rename_i y n1 h1
      cases e
      obtain ⟨v, hσ, hv⟩ := R.slot i _ hS
      cases (show Rp X.K (ω.plus o) H v (.int x) from hv)
      refine ⟨_, hσ, tM_run R.frz R.town h1 fun u ω' H' k _ t r => ?_⟩
      cases r
      exact ⟨_, _, rfl, rfl, af _ _ _ _ ((R.extF k t).setVal (i := i) (.int _))⟩
    · cases e
  · cases e

/-! ### the law -/
def scrD (ns : List Int) : D := .dict [(.none, .list (ns.map .int))]
def townD : D := .dict []
def n0 : Sn := ⟨0, []⟩
def spLaw (K : PySem.W.Frag) : Sp := fun vs H Q _ => ∃ (a : Addr) (ns : List Int), vs = [.ref a] ∧ SqL K H a (ns.map V.int) ∧ ns.length ≤ 63 ∧ ∀ H', Q (.bl true) H'
section
variable {P : Program} {w : World} {K : PySem.W.Frag} {mg : Str → Option Value} {base : Heap} {x qual : Str} {params : Arguments} {st : Stmt} {body : List Stmt} {scope : Scope} {f : Addr} {fd : FuncData} {N : List Str} {k : Nat} {fb : FS}
/-- town = [] comes first; then the rest, which gives True -/
theorem law_mk (F : FunD K x qual params (st :: body) scope [] [] f fd) (S : FnScope N ["script"] scope) (hN : 2 ≤ N.length)
    (hst : ∀ (cdv : Value) (A : Around) (outer : List Env) (s : Shared) (H : Hp) (E : XK), PS (cxOf (L2.CX P w) P w K mg base N qual scope f cdv A outer s H E) st (tAsg (tLst tNil) (gName 1)))
    (hbody : ∀ (cdv : Value) (A : Around) (outer : List Env) (s : Shared) (H : Hp) (E : XK), Room k (A.deeper (envOfC qual scope s.heap.objs.size f cdv)) →
      MSs (cxOf (L2.CX P w) P w K mg base N qual scope f cdv A outer s H E) (fun cls d _ H => E cls d H) body fb)
    (hT : ∀ ns : List Int, ns.length ≤ 63 → ∃ n', fb (some (.val (scrD ns)) :: some (.val townD) :: List.replicate (N.length - 2) none) n0 = some (.rt (.bool true), n')) :
    FnOk P w K mg base (L2.CX P w) (k + 1) f fd ["script"] (spLaw K) := by
  refine F.ok S (fun vs H Q E h => ?_) fun cdv A outer s H vs Q E hr h => ⟨_, pss_cons (hst cdv A outer s H E) (hbody cdv A outer s H E hr), ?_⟩
  · obtain ⟨a, ns, rfl, _⟩ := h
    rfl
  · obtain ⟨a, ns, rfl, hS, hl, q⟩ := h
    obtain ⟨n', e⟩ := hT ns hl
    refine ⟨Nat.zero_le _, fun p hp => ?_⟩
    have sc : ScrAt K (fun b => b = p) (upd H p (.lst [])) a ns := by
      rcases hS with (h | ⟨o, h⟩) | h
      · exact .inl ⟨.inl (by rw [upd_ne (ne_of_none h hp)]; exact h), ne_of_none h hp⟩
      · exact .inl ⟨.inr ⟨o, by rw [upd_ne (ne_of_none h hp)]; exact h⟩, ne_of_none h hp⟩
      · exact .inr h
    let ω : Wd := ⟨some p, clsA mg, [], fun _ => none, fun b => b = p, fun b z => (Option.some.inj z).symm, fun _ _ z => nomatch z⟩
    refine ⟨ω, reFz (fun b => if b = p then some 0 else none) (upd H p (.lst [])), ω, _, n0, _, n', ⟨fun _ => none, ?_⟩, e, fun v ω' H' _ _ r => ?_⟩
    · refine ⟨⟨rfl, rfl, fun _ _ z => z, fun _ _ => Iff.rfl, fun _ _ z => .inl z, fun b x _ z => (reFz_some z).1, fun b x z => (reFz_some z).1, fun b z => ?_⟩, rfl, ⟨⟨fun b z => ?_⟩, fun b z => ⟨rfl, ?_⟩, rfl, fun k c z => (by cases z), (fun _ _ z => nomatch z)⟩, (fun _ _ z => nomatch z), (fun _ _ z => nomatch z), ?_, fun i sv hi => ?_⟩
      · obtain ⟨x, hx⟩ := ne_sm z
        exact sm_ne (reFz_some hx).1
      · have z' : b = p := z
        rw [z']
        exact ⟨_, upd_same, trivial⟩
      · have z' : b = p := (Option.some.inj z).symm
        rw [z']
        exact upd_same
      · show _ = ((L2.start N [.ref a]).set 1 (some (.ref p))).length
        unfold L2.start
        rw [List.length_set, List.length_append]
        simp
        omega
      · have hlen : ([some (.ref a)] ++ List.replicate (N.length - 1) none : L2.St) = some (.ref a) :: none :: List.replicate (N.length - 2) none := by
          obtain ⟨m, hm⟩ : ∃ m, N.length = m + 2 := ⟨N.length - 2, by omega⟩
          rw [hm]
          rfl
        have hσ : (L2.start N [.ref a]).set 1 (some (.ref p)) = some (.ref a) :: some (.ref p) :: List.replicate (N.length - 2) none := by
          show ([some (.ref a)] ++ List.replicate (N.length - 1) none : L2.St).set 1 (some (.ref p)) = _
          rw [hlen]
          rfl
        rw [hσ]
        cases i with
        | zero =>
          cases hi
          refine ⟨_, rfl, ?_⟩
          exact Rp.mv (Mv.less (ω := ω) (ω' := ω.plus fun _ => none) rfl rfl fun b z => Or.elim z id fun ⟨_, y⟩ => nomatch y) (.scr sc hl)
        | succ i =>
          cases i with
          | zero =>
            cases hi
            exact ⟨_, rfl, .town rfl⟩
          | succ i =>
            have h2 : (List.replicate (N.length - 2) (none : Option SV))[i]? = some (some sv) := hi
            rw [List.getElem?_replicate] at h2
            split at h2 <;> cases h2
    · cases r
      exact q H'
end
/-- a def as it stands behind the top -/
theorem has_mk {P : Program} {w : World} {K : PySem.W.Frag} {mg : Str → Option Value} {base : Heap} {x qual : Str} {params : Arguments} {body : List Stmt} {scope : Scope} {f : Addr} {fd : FuncData} {ps : List Str} {k ar : Nat} {fr : Bool} {m : Fn}
    (F : FunD K x qual params body scope [] [] f fd) (g : mg x = some (.ref f)) (G : FnOk P w K mg base (L2.CX P w) k f fd ps (spX K mg ar fr m)) (b : Binds K fd ps []) : Has P w K mg base x k ar fr m := ⟨f, fd, ps, G, g, F.kp, b⟩
/-- the built-in names are free -/
structure Bt (mg : Str → Option Value) : Prop where
  len : mg "len" = none
  min : mg "min" = none
  max : mg "max" = none
  sum : mg "sum" = none
  range : mg "range" = none
  zip : mg "zip" = none
  enumerate : mg "enumerate" = none
  sorted : mg "sorted" = none
  set : mg "set" = none
  list : mg "list" = none
  tuple : mg "tuple" = none
  isinstance : mg "isinstance" = none
  all : mg "all" = none
  any : mg "any" = none
  int : mg "int" = none
  bool : mg "bool" = none
  str : mg "str" = none
  dict : mg "dict" = none

theorem me_globI' {X : Cx} {x : Str} {i : Int} {pos : Pos} (hg : Gl X x) (hm : ∃ t, X.mg x = some (.int i t)) (hd : (x == ("__debug__" : Str)) = false := by decide) : ME X (.Name x pos) (eC (.int i)) := let ⟨t, h⟩ := hm; me_globI hg h ⟨t, rfl⟩ hd
theorem me_globS' {X : Cx} {x z : Str} {pos : Pos} (hg : Gl X x) (hm : ∃ t, X.mg x = some (.str z t)) (hz : z.length ≤ sizeLine := by decide) (hd : (x == ("__debug__" : Str)) = false := by decide) : ME X (.Name x pos) (eC (.str z)) := let ⟨t, h⟩ := hm; me_globS hg h ⟨t, rfl⟩ hz hd
theorem bb_len : bootBuiltins "len" = some (.builtin "len") := by decide +kernel
theorem bb_min : bootBuiltins "min" = some (.builtin "min") := by decide +kernel
theorem bb_max : bootBuiltins "max" = some (.builtin "max") := by decide +kernel
theorem bb_sum : bootBuiltins "sum" = some (.builtin "sum") := by decide +kernel
theorem bb_all : bootBuiltins "all" = some (.builtin "all") := by decide +kernel
theorem bb_any : bootBuiltins "any" = some (.builtin "any") := by decide +kernel
theorem bb_sorted : bootBuiltins "sorted" = some (.builtin "sorted") := by decide +kernel
theorem bb_list : bootBuiltins "list" = some (.type "list") := by decide +kernel
theorem bb_tuple : bootBuiltins "tuple" = some (.type "tuple") := by decide +kernel
theorem bb_int : bootBuiltins "int" = some (.type "int") := by decide +kernel
theorem bb_bool : bootBuiltins "bool" = some (.type "bool") := by decide +kernel
theorem bb_str : bootBuiltins "str" = some (.type "str") := by decide +kernel
theorem _root_.L2.Room.u65 {k : Nat} {A : PySem.Around} (r : L2.Room k A) : A.units + 65 < PySem.cLine := by have := r.un; omega

/-! ### the rules with side conditions left to the kernel -/
def visB (sc : Scope) (x : Str) : Bool := match sc.names.lookup x with
  | some .local => true
  | some .cell => true
  | some .free => true
  | _ => false
def locB (sc : Scope) (x : Str) : Bool := match sc.names.lookup x with
  | some .local => true
  | some .cell => true
  | _ => false
def lclB (sc : Scope) (x : Str) : Bool := match sc.names.lookup x with
  | some .local => true
  | _ => false
theorem vis_of {sc : Scope} {x : Str} (h : visB sc x = true) : Vis sc x := by
  unfold visB at h
  split at h
  · exact .inl (by assumption)
  · exact .inr (.inl (by assumption))
  · exact .inr (.inr (by assumption))
  · cases h
theorem loc_of {sc : Scope} {x : Str} (h : locB sc x = true) : Loc sc x := by
  unfold locB at h
  split at h
  · exact .inl (by assumption)
  · exact .inr (by assumption)
  · cases h
theorem lcl_of {sc : Scope} {x : Str} (h : lclB sc x = true) : sc.names.lookup x = some .local := by
  unfold lclB at h
  split at h
  · assumption
  · cases h
theorem fn_of' {X : Cx} {x : Str} (h : (X.fn x || lclB X.env.scope x) = true) : X.fn x = true ∨ X.env.scope.names.lookup x = some .local := by
  rw [Bool.or_eq_true] at h
  exact h.imp id lcl_of
section
variable {X : Cx} {W : WX} {e a b c : Expr} {es : List Expr} {pos pos' p : Pos} {f g h : FE} {fs : Fe (List D)} {x : Str} {i j k ar : Nat} {fr : Bool} {m : Fn}
theorem kpv (i : Nat) {x : Str} {pos : Pos} (hN : X.N[i]? = some x := by kernel_rfl) (hv : visB X.env.scope x = true := by kernel_rfl) (hd : (x == ("__debug__" : Str)) = false := by kernel_rfl) (hcd : (x == ("__classdict__" : Str)) = false := by kernel_rfl) : PE X (.Name x pos) (tVar i) := pe_var hN (vis_of hv) hd hcd
theorem kvar (i : Nat) {x : Str} {pos : Pos} (hN : X.N[i]? = some x := by kernel_rfl) (hv : visB X.env.scope x = true := by kernel_rfl) (hd : (x == ("__debug__" : Str)) = false := by kernel_rfl) (hcd : (x == ("__classdict__" : Str)) = false := by kernel_rfl) : ME X (.Name x pos) (eVar i) := me_var i (pe_var hN (vis_of hv) hd hcd)
theorem kstr {x : Str} {j pos} (hx : Nat.ble x.length sizeLine = true := by kernel_rfl) : ME X (.Constant (.str x) j pos) (eC (.str x)) := me_str (Nat.le_of_ble_eq_true hx)
theorem kglobI {i : Int} (hm : ∃ t, X.mg x = some (.int i t)) (hg : X.env.kindOf x = some .globalImplicit := by kernel_rfl) (hd : (x == ("__debug__" : Str)) = false := by kernel_rfl) : ME X (.Name x pos) (eC (.int i)) := me_globI' hg hm hd
theorem kglobS {z : Str} (hm : ∃ t, X.mg x = some (.str z t)) (hg : X.env.kindOf x = some .globalImplicit := by kernel_rfl) (hz : Nat.ble z.length sizeLine = true := by kernel_rfl) (hd : (x == ("__debug__" : Str)) = false := by kernel_rfl) : ME X (.Name x pos) (eC (.str z)) := me_globS' hg hm (Nat.le_of_ble_eq_true hz) hd
theorem kcmp {op : CmpOp} {r : R2} {F : D → D → Option D} (ho : OpR X (compareOp op) r) (hF : Ok2 X.K r F) (ha : ME X a f) (hb : ME X b g) (hm : behindInMarks op b = false := by kernel_rfl) : ME X (.Compare a [op] [b] pos) (e2 F f g) := me_cmp ho hF ha hb hm
theorem ktcmp {op : CmpOp} {r : R2} {F : D → D → Option D} (ho : OpR X (compareOp op) r) (hF : Ok2 X.K r F) (ha : ME X a f) (hb : ME X b g) (hm : behindInMarks op b = false := by kernel_rfl) : MT X (.Compare a [op] [b] pos) (bV (e2 F f g)) := mt_cmp ho hF ha hb hm
theorem kchain {op op' : CmpOp} {r r' : R2} {F G : D → D → Option D} (ho : OpR X (compareOp op) r) (ho' : OpR X (compareOp op') r') (hF : Ok2 X.K r F) (hG : Ok2 X.K r' G) (ha : ME X a f) (hb : ME X b g) (hc : ME X c h) (hm : lastMarks [op, op'] [b, c] = false := by kernel_rfl) : ME X (.Compare a [op, op'] [b, c] pos) (eChain F G f g h) := me_chain ho ho' hF hG ha hb hc hm
theorem ktchain {op op' : CmpOp} {r r' : R2} {F G : D → D → Option D} (ho : OpR X (compareOp op) r) (ho' : OpR X (compareOp op') r') (hF : Ok2 X.K r F) (hG : Ok2 X.K r' G) (ha : ME X a f) (hb : ME X b g) (hc : ME X c h) (hm : lastMarks [op, op'] [b, c] = false := by kernel_rfl) : MT X (.Compare a [op, op'] [b, c] pos) (bV (eChain F G f g h)) := mt_chain ho ho' hF hG ha hb hc hm
theorem kix {r : R2} {F : D → D → Option D} (hr : IxR X r) (hF : Ok2 X.K r F) (ha : ME X a f) (hb : ME X b g) (hs : ∀ o i, subscripted b false o i = operate [o, i] (getItem o i) := by intro _ _; kernel_rfl) : ME X (.Subscript a b pos) (e2 F f g) := me_ix hr hF ha hb hs
theorem ktval (he : ME X e f) (hp : ∀ whole, isTrue e X.env whole = (do let v ← whole; standAt e.pos; holding [v] (truthy v)) := by intro _; kernel_rfl) : MT X e (bV f) := mt_val he hp
theorem kacons (ha : ME X e f) (hr : MA X es fs) (hs : starEach (e :: es) X.env = (false, eval e X.env) :: starEach es X.env := by kernel_rfl) : MA X (e :: es) (aCons f fs) := ma_cons ha hr hs
theorem kcallB {id : String} {r : List V → Hp → VK → Prop} {F : List D → Option D} (hc : CallR X (.builtin id) r) (hF : OkL X.K r F) (hm : X.mg x = none) (hv : bootBuiltins x = some (.builtin id)) (ha : MA X (e :: es) fs) (hg : X.env.kindOf x = some .globalImplicit := by kernel_rfl)
    (hn : (x == ("__name__" : Str)) = false := by kernel_rfl) (hdb : (x == ("__debug__" : Str)) = false := by kernel_rfl) (he : starEach (e :: es) X.env = (false, eval e X.env) :: starEach es X.env := by kernel_rfl) (hpl : (backTo pos (starEach es X.env)).any (·.1) = false := by kernel_rfl) :
    ME X (.Call (.Name x p) (e :: es) [] pos) (eL F fs) := me_callB hc hF hg hm hv ha (beq_eq_false_iff_ne.mp hn) hdb he hpl
theorem kcallTy {T : String} {r : List V → Hp → VK → Prop} {F : List D → Option D} (hc : CallR X (.type T) r) (hF : OkL X.K r F) (hm : X.mg x = none) (hv : bootBuiltins x = some (.type T)) (ha : MA X (e :: es) fs) (hg : X.env.kindOf x = some .globalImplicit := by kernel_rfl)
    (hn : (x == ("__name__" : Str)) = false := by kernel_rfl) (hdb : (x == ("__debug__" : Str)) = false := by kernel_rfl) (he : starEach (e :: es) X.env = (false, eval e X.env) :: starEach es X.env := by kernel_rfl) (hpl : (backTo pos (starEach es X.env)).any (·.1) = false := by kernel_rfl) :
    ME X (.Call (.Name x p) (e :: es) [] pos) (eL F fs) := me_callTy hc hF hg hm hv ha (beq_eq_false_iff_ne.mp hn) hdb he hpl
theorem ktyN {t : String} (hm : X.mg x = none) (hv : bootBuiltins x = some (.type t)) (hg : X.env.kindOf x = some .globalImplicit := by kernel_rfl) (hn : (x == ("__name__" : Str)) = false := by kernel_rfl) (hd : (x == ("__debug__" : Str)) = false := by kernel_rfl) : PE X (.Name x pos) (tC (.ty t)) := pe_tyN hg hm hv (beq_eq_false_iff_ne.mp hn) hd
theorem kisi {eT : Expr} {t : String} (k : KitOk t) (hm : X.mg "isinstance" = none) (he : ME X e f) (hT : PE X eT (tC (.ty t))) (hg : X.env.kindOf "isinstance" = some .globalImplicit := by kernel_rfl)
    (hs : starEach [e, eT] X.env = (false, eval e X.env) :: starEach [eT] X.env := by kernel_rfl) (hs2 : starEach [eT] X.env = (false, eval eT X.env) :: starEach [] X.env := by kernel_rfl) (hpl : (backTo pos (starEach [eT] X.env)).any (·.1) = false := by kernel_rfl) :
    ME X (.Call (.Name "isinstance" p) [e, eT] [] pos) (e1 (dIsi t) f) := me_isi k hg hm he hT hs hs2 hpl
theorem kcall (hh : Has X.prog X.w X.K X.mg X.base x k ar fr m) (hl : ∀ ds n, ds.length ≠ ar → m ds n = none) (hr : Room j X.A) (ha : MA X (e :: es) fs) (hk : Nat.ble k j = true := by kernel_rfl) (hg : X.env.kindOf x = some .globalImplicit := by kernel_rfl)
    (hdb : (x == ("__debug__" : Str)) = false := by kernel_rfl) (he : starEach (e :: es) X.env = (false, eval e X.env) :: starEach es X.env := by kernel_rfl) (hpl : (backTo pos (starEach es X.env)).any (·.1) = false := by kernel_rfl) :
    ME X (.Call (.Name x p) (e :: es) [] pos) (eCall m fs) := me_call hh hl hr (Nat.le_of_ble_eq_true hk) hg ha hdb he hpl
theorem kcallF (hh : Has X.prog X.w X.K X.mg X.base x k ar true m) (hl : ∀ ds n, ds.length ≠ ar → m ds n = none) (hr : Room j X.A) (ha : MA X (e :: es) fs) (hk : Nat.ble k j = true := by kernel_rfl) (hg : X.env.kindOf x = some .globalImplicit := by kernel_rfl)
    (hdb : (x == ("__debug__" : Str)) = false := by kernel_rfl) (he : starEach (e :: es) X.env = (false, eval e X.env) :: starEach es X.env := by kernel_rfl) (hpl : (backTo pos (starEach es X.env)).any (·.1) = false := by kernel_rfl) :
    MF X (.Call (.Name x p) (e :: es) [] pos) (eCallL m fs) := me_callF hh hl hr (Nat.le_of_ble_eq_true hk) hg ha hdb he hpl
theorem kflist (hm : X.mg "list" = none) (ha : MA X [e] fs) (hg : X.env.kindOf "list" = some .globalImplicit := by kernel_rfl) (he : starEach [e] X.env = (false, eval e X.env) :: starEach [] X.env := by kernel_rfl) (hpl : (backTo pos (starEach [] X.env)).any (·.1) = false := by kernel_rfl) : MF X (.Call (.Name "list" p) [e] [] pos) (aSeq fs) := mf_list hg hm ha he hpl
theorem klenTown (i : Nat) (hm : X.mg "len" = none) (he : PE X e (tVar i)) (hg : X.env.kindOf "len" = some .globalImplicit := by kernel_rfl) (hs : starEach [e] X.env = (false, eval e X.env) :: starEach [] X.env := by kernel_rfl) (hpl : (backTo pos (starEach [] X.env)).any (·.1) = false := by kernel_rfl) :
    ME X (.Call (.Name "len" p) [e] [] pos) (eTown i) := me_lenTown hg hm he hs hpl
/-! what is walked -/
variable {tg iter : Expr}
theorem krange1 (hm : X.mg "range" = none) (ha : MA X [e] fs) (hg : X.env.kindOf "range" = some .globalImplicit := by kernel_rfl) (hs : starEach [e] X.env = [(false, eval e X.env)] := by kernel_rfl) : MI X tg (.Call (.Name "range" p) [e] [] pos) (iR1 fs) := mi_range1 hg hm ha hs
theorem krange2 {e2 : Expr} (hm : X.mg "range" = none) (ha : MA X [e, e2] fs) (hg : X.env.kindOf "range" = some .globalImplicit := by kernel_rfl) (hs : starEach [e, e2] X.env = [(false, eval e X.env), (false, eval e2 X.env)] := by kernel_rfl) (hs2 : starEach [e2] X.env = [(false, eval e2 X.env)] := by kernel_rfl) : MI X tg (.Call (.Name "range" p) [e, e2] [] pos) (iR2 fs) := mi_range2 hg hm ha hs hs2
theorem kname (i : Nat) (hN : X.N.Nodup) (hi : X.N[i]? = some x := by kernel_rfl) (hx : locB X.env.scope x = true := by kernel_rfl) (hf : (X.fn x || lclB X.env.scope x) = true := by kernel_rfl) : MG X (.Name x pos) (.nm i) := pg_name hN hi (loc_of hx) (fn_of' hf)
theorem ktup2 {x y : Str} {px py : Pos} {q : Nat} (i j : Nat) (hN : X.N.Nodup) (hi : X.N[i]? = some x := by kernel_rfl) (hx : locB X.env.scope x = true := by kernel_rfl) (hf : (X.fn x || lclB X.env.scope x) = true := by kernel_rfl)
    (hj : X.N[j]? = some y := by kernel_rfl) (hy : locB X.env.scope y = true := by kernel_rfl) (hfy : (X.fn y || lclB X.env.scope y) = true := by kernel_rfl) (hc : X.calm = true := by kernel_rfl)
    (hn : (assignEach [.Name x px, .Name y py] X.env).length = 2 := by kernel_rfl) (hst : (assignEach [.Name x px, .Name y py] X.env).findIdx? (·.1) = none := by kernel_rfl) : MG X (.Tuple [.Name x px, .Name y py] q pos) (.tp [i, j]) :=
  pg_tup hc (pgs_cons (pg_name hN hi (loc_of hx) (fn_of' hf)) (pgs_cons (pg_name hN hj (loc_of hy) (fn_of' hfy)) pgs_nil)) hn hst
theorem klc {elt : Expr} {ifs : List Expr} {scope : Scope} (own : List (Str × Nat)) {fi : Fe (List D)} {t : Tg} {ft : Fe Bool} {fe : FE} (hN : X.N.Nodup) (hi : MI X tg iter fi)
    (hg : ∀ (s : Shared) (H : Hp) (C : Addr) (cl : List (Str × Addr)) (fp : List Addr), MG (X.blk s H scope (compEnvC scope cl C X.env) fp) tg t) (ht : ∀ (s : Shared) (H : Hp) (C : Addr) (cl : List (Str × Addr)) (fp : List Addr), MTs (X.blk s H scope (compEnvC scope cl C X.env) fp) ifs ft)
    (he : ∀ (s : Shared) (H : Hp) (C : Addr) (cl : List (Str × Addr)) (fp : List Addr), ME (X.blk s H scope (compEnvC scope cl C X.env) fp) elt fe) (hc : X.calm = true := by kernel_rfl) (ok : blkC X.N X.env.scope scope own = true := by kernel_rfl)
    (hsl : (t.slots.all fun i => (own.map (·.2)).contains i) = true := by kernel_rfl) (hs : ∀ x, foldedSetIterable iter X.env x = pure x := by intro _; kernel_rfl) :
    MF X (.ListComp elt [⟨tg, iter, ifs, 0⟩] scope pos) (eLc (own.map (·.2)) fi t ft fe) :=
  me_lcF hc hN hi (blkOk_by ok) hg ht he (fun i hi => by simpa using List.all_eq_true.mp hsl i hi) hs
/-! statements -/
theorem kset (i : Nat) (hN : X.N.Nodup) (he : ME X e f) (hi : X.N[i]? = some x := by kernel_rfl) (hx : locB X.env.scope x = true := by kernel_rfl) (hs : swapsWith e (some (.Name x pos')) pos.line X.env = pure false := by kernel_rfl) (hf : (X.fn x || lclB X.env.scope x) = true := by kernel_rfl) :
    MS X W (.Assign [.Name x pos'] e pos) (sSet i f) := ms_set hN hi (loc_of hx) he hs (fn_of' hf)
theorem ksetH (i : Nat) (hN : X.N.Nodup) (he : ME X e f) (hi : X.N[i]? = some x := by kernel_rfl) (hx : locB X.env.scope x = true := by kernel_rfl) (hs : swapsWith e (some (.Name x pos')) pos.line X.env = pure false := by kernel_rfl) (hf : (X.fn x || lclB X.env.scope x) = true := by kernel_rfl) :
    MS X W (.Assign [.Name x pos'] e pos) (sSetH i f) := ms_setH hN hi (loc_of hx) he hs (fn_of' hf)
theorem ksetO (i : Nat) (hN : X.N.Nodup) (he : MF X e fs) (hi : X.N[i]? = some x := by kernel_rfl) (hx : locB X.env.scope x = true := by kernel_rfl) (hs : swapsWith e (some (.Name x pos')) pos.line X.env = pure false := by kernel_rfl) (hf : (X.fn x || lclB X.env.scope x) = true := by kernel_rfl) :
    MS X W (.Assign [.Name x pos'] e pos) (sOwn i fs) := ms_setO hN hi (loc_of hx) he hs (fn_of' hf)
theorem ksetOH (i : Nat) (hN : X.N.Nodup) (he : MF X e fs) (hi : X.N[i]? = some x := by kernel_rfl) (hx : locB X.env.scope x = true := by kernel_rfl) (hs : swapsWith e (some (.Name x pos')) pos.line X.env = pure false := by kernel_rfl) (hf : (X.fn x || lclB X.env.scope x) = true := by kernel_rfl) :
    MS X W (.Assign [.Name x pos'] e pos) (sOwnH i fs) := ms_setOH hN hi (loc_of hx) he hs (fn_of' hf)
theorem kmv (i j : Nat) (hN : X.N.Nodup) (he : PE X e (tVar i)) (hi : X.N[j]? = some x := by kernel_rfl) (hx : locB X.env.scope x = true := by kernel_rfl) (hs : swapsWith e (some (.Name x pos')) pos.line X.env = pure false := by kernel_rfl) (hf : (X.fn x || lclB X.env.scope x) = true := by kernel_rfl) :
    MS X W (.Assign [.Name x pos'] e pos) (sMove i j) := ms_mv hN hi (loc_of hx) he hs (fn_of' hf)
/-- x = [..], x a plain local | a cell -/
theorem ksetLc (i : Nat) {y : Str} {py : Pos} {elt : Expr} {ifs : List Expr} {scope : Scope} (own : List (Str × Nat)) {spos : Pos} {fi : Fe (List D)} {t : Tg} {ft : Fe Bool} {fe : FE} (hN : X.N.Nodup) (hi : MI X tg iter fi)
    (hg : ∀ (s : Shared) (H : Hp) (C : Addr) (cl : List (Str × Addr)) (fp : List Addr), MG (X.blk s H scope (compEnvC scope cl C X.env) fp) tg t) (ht : ∀ (s : Shared) (H : Hp) (C : Addr) (cl : List (Str × Addr)) (fp : List Addr), MTs (X.blk s H scope (compEnvC scope cl C X.env) fp) ifs ft)
    (he : ∀ (s : Shared) (H : Hp) (C : Addr) (cl : List (Str × Addr)) (fp : List Addr), ME (X.blk s H scope (compEnvC scope cl C X.env) fp) elt fe) (hy : X.N[i]? = some y := by kernel_rfl) (hyl : lclB X.env.scope y = true := by kernel_rfl) (hk : X.env.scope.kind = .function := by kernel_rfl) (hln : (py.line == pos.line) = true := by kernel_rfl)
    (hnm : (scope.names.any fun (n, k) => n == y && (k == .local || k == .cell)) = false := by kernel_rfl) (hc : X.calm = true := by kernel_rfl) (ok : blkC X.N X.env.scope scope own = true := by kernel_rfl)
    (hsl : (t.slots.all fun i => (own.map (·.2)).contains i) = true := by kernel_rfl) (hs : ∀ x, foldedSetIterable iter X.env x = pure x := by intro _; kernel_rfl) :
    PS X (.Assign [.Name y py] (.ListComp elt [⟨tg, iter, ifs, 0⟩] scope pos) spos) (tAsg (tMF X.K (clsA X.mg) (eLc (own.map (·.2)) fi t ft fe)) (gName i)) :=
  ps_setLcF hc hN hy (lcl_of hyl) (sw_true hk (lcl_of hyl) hln hnm) hi (blkOk_by ok) hg ht he (fun i hi => by simpa using List.all_eq_true.mp hsl i hi) hs
theorem ksetLcC (i : Nat) (hN : X.N.Nodup) (he : MF X e fs) (hi : X.N[i]? = some x := by kernel_rfl) (hx : locB X.env.scope x = true := by kernel_rfl) (hs : swapsWith e (some (.Name x pos')) pos.line X.env = pure false := by kernel_rfl) (hf : (X.fn x || lclB X.env.scope x) = true := by kernel_rfl) :
    PS X (.Assign [.Name x pos'] e pos) (tAsg (tMF X.K (clsA X.mg) fs) (gName i)) := ps_set hN hi (loc_of hx) he hs (fn_of' hf)
theorem ksetLc2 (i : Nat) {y : Str} {py : Pos} {elt : Expr} {scope : Scope} (own : List (Str × Nat)) {spos : Pos} {fi : Fe (List D)} {t : Tg} {fe : Fe (List D)} (hN : X.N.Nodup) (hi : MI X tg iter fi)
    (hg : ∀ (s : Shared) (H : Hp) (C : Addr) (cl : List (Str × Addr)) (fp : List Addr), MG (X.blk s H scope (compEnvC scope cl C X.env) fp) tg t)
    (he : ∀ (s : Shared) (H : Hp) (C : Addr) (cl : List (Str × Addr)) (fp : List Addr), MF (X.blk s H scope (compEnvC scope cl C X.env) fp) elt fe) (hy : X.N[i]? = some y := by kernel_rfl) (hyl : lclB X.env.scope y = true := by kernel_rfl) (hk : X.env.scope.kind = .function := by kernel_rfl) (hln : (py.line == pos.line) = true := by kernel_rfl)
    (hnm : (scope.names.any fun (n, k) => n == y && (k == .local || k == .cell)) = false := by kernel_rfl) (hc : X.calm = true := by kernel_rfl) (ok : blkC X.N X.env.scope scope own = true := by kernel_rfl)
    (hsl : (t.slots.all fun i => (own.map (·.2)).contains i) = true := by kernel_rfl) (hs : ∀ x, foldedSetIterable iter X.env x = pure x := by intro _; kernel_rfl) :
    PS X (.Assign [.Name y py] (.ListComp elt [⟨tg, iter, [], 0⟩] scope pos) spos) (tAsg (tMF2 X.K (clsA X.mg) (eLc2 (own.map (·.2)) fi t fe)) (gName i)) :=
  ps_setLc2F hc hN hy (lcl_of hyl) (sw_true hk (lcl_of hyl) hln hnm) hi (blkOk_by ok) hg he (fun i hi => by simpa using List.all_eq_true.mp hsl i hi) hs
theorem ksetLc2C (i : Nat) {y : Str} {py : Pos} {elt : Expr} {scope : Scope} (own : List (Str × Nat)) {spos : Pos} {fi : Fe (List D)} {t : Tg} {fe : Fe (List D)} (hN : X.N.Nodup) (hi : MI X tg iter fi)
    (hg : ∀ (s : Shared) (H : Hp) (C : Addr) (cl : List (Str × Addr)) (fp : List Addr), MG (X.blk s H scope (compEnvC scope cl C X.env) fp) tg t)
    (he : ∀ (s : Shared) (H : Hp) (C : Addr) (cl : List (Str × Addr)) (fp : List Addr), MF (X.blk s H scope (compEnvC scope cl C X.env) fp) elt fe) (hy : X.N[i]? = some y := by kernel_rfl) (hyl : locB X.env.scope y = true := by kernel_rfl)
    (hsw : swapsWith (.ListComp elt [⟨tg, iter, [], 0⟩] scope pos) (some (.Name y py)) spos.line X.env = pure false := by kernel_rfl) (hc : X.calm = true := by kernel_rfl) (ok : blkC X.N X.env.scope scope own = true := by kernel_rfl)
    (hsl : (t.slots.all fun i => (own.map (·.2)).contains i) = true := by kernel_rfl) (hs : ∀ x, foldedSetIterable iter X.env x = pure x := by intro _; kernel_rfl) (hf : (X.fn y || lclB X.env.scope y) = true := by kernel_rfl) :
    PS X (.Assign [.Name y py] (.ListComp elt [⟨tg, iter, [], 0⟩] scope pos) spos) (tAsg (tMF2 X.K (clsA X.mg) (eLc2 (own.map (·.2)) fi t fe)) (gName i)) :=
  ps_setLc2C hc hN hy (loc_of hyl) hsw hi (blkOk_by ok) hg he (fun i hi => by simpa using List.all_eq_true.mp hsl i hi) hs (fn_of' hf)
theorem kaug (i : Nat) {op : Operator} {g : Int → Int → Int} (hN : X.N.Nodup) (he : ME X e f) (ho : PIp X op (ipI g)) (hi : X.N[i]? = some x := by kernel_rfl) (hx : locB X.env.scope x = true := by kernel_rfl) (hf : (X.fn x || lclB X.env.scope x) = true := by kernel_rfl) : MS X W (.AugAssign (.Name x pos') op e pos) (sAug i f g) := ms_aug (ps_aug hN hi (loc_of hx) he ho (fn_of' hf))
theorem kaug2 (r : Nat) {o i er : Expr} {fi fj fe : FE} {g : Int → Int → Int} {op : Operator} {tpos p2 : Pos} (ho : PE X er (tVar r)) (hi : ME X o fi) (hj : ME X i fj) (he : ME X e fe) (hp : PIp X op (ipI g)) (hs : ∀ o' i', subscripted o false o' i' = operate [o', i'] (getItem o' i') := by intro _ _; kernel_rfl)
    (ha : ∀ ov iv new, augStore i ov iv new = (do holding [new, ov, iv] (setItem ov iv new); release [new, ov, iv] []; pure .next) := by intro _ _ _; kernel_rfl) :
    MS X W (.AugAssign (.Subscript (.Subscript er o p2) i tpos) op e pos) (sAug2 r fi fj fe g) := ms_aug2 ho hi hj he hp hs ha
theorem kfor {body : List Stmt} {fb : FS} {fi : Fe (List D)} (t : Tg) (hp : PassesOwn (model X.prog X.w) X.A X.env X.xe) (hi : MI X tg iter fi) (hg : MG X tg t) (hb : MSs X W body fb) (hc : X.calm = true := by kernel_rfl) (hs : ∀ x, foldedSetIterable iter X.env x = pure x := by intro _; kernel_rfl) :
    MS X W (.For tg iter body [] pos) (sFor fi t fb) := ms_for hp hc hi hg hb hs
theorem kcallS (hh : Has X.prog X.w X.K X.mg X.base x k ar fr m) (hl : ∀ ds n, ds.length ≠ ar → m ds n = none) (hr : Room j X.A) (tk : Takes X W) (ha : MA X (e :: es) fs) (hk : Nat.ble k j = true := by kernel_rfl) (hg : X.env.kindOf x = some .globalImplicit := by kernel_rfl)
    (hs : swapsWith (.Call (.Name x p) (e :: es) [] pos) none pos'.line X.env = pure false := by kernel_rfl) (hdb : (x == ("__debug__" : Str)) = false := by kernel_rfl) (he : starEach (e :: es) X.env = (false, eval e X.env) :: starEach es X.env := by kernel_rfl) (hpl : (backTo pos (starEach es X.env)).any (·.1) = false := by kernel_rfl) :
    MS X W (.Expr (.Call (.Name x p) (e :: es) [] pos) pos') (sCallX m fs) := ms_callS hh hl hr (Nat.le_of_ble_eq_true hk) tk hg ha hs hdb he hpl
theorem kretS (hh : Has X.prog X.w X.K X.mg X.base x k ar fr m) (hl : ∀ ds n, ds.length ≠ ar → m ds n = none) (hr : Room j X.A) (tk : Takes X W) (ha : MA X (e :: es) fs) (hk : Nat.ble k j = true := by kernel_rfl) (hg : X.env.kindOf x = some .globalImplicit := by kernel_rfl)
    (hdb : (x == ("__debug__" : Str)) = false := by kernel_rfl) (he : starEach (e :: es) X.env = (false, eval e X.env) :: starEach es X.env := by kernel_rfl) (hpl : (backTo pos (starEach es X.env)).any (·.1) = false := by kernel_rfl) :
    MS X W (.Return (some (.Call (.Name x p) (e :: es) [] pos)) pos') (sRetX m fs) := ms_retS hh hl hr (Nat.le_of_ble_eq_true hk) tk hg ha hdb he hpl
theorem kraise {c m : Str} {j : Nat} {p2 : Pos} (h : ExF X.K X.mg c) (tk : Takes X W) (hc : X.calm = true := by kernel_rfl) (hg : X.env.kindOf c = some .globalImplicit := by kernel_rfl) (hdb : (c == ("__debug__" : Str)) = false := by kernel_rfl) : MS X W (.Raise (some (.Call (.Name c p) [.Constant (.str m) j p2] [] pos)) none pos') (sRaise c) := ms_rs h hc tk hg hdb
theorem kappend (i : Nat) {cpos apos : Pos} (ho : PE X e (tVar i)) (he : ME X a f) (hb : attributeBase e "append" X.env (eval e X.env) = eval e X.env := by kernel_rfl)
    (hfew : ((backTo cpos (starEach [a] X.env)).all (fun x => !x.1) && (backToKw cpos (keywordEach [] X.env)).all (fun x => x.1.isSome) && decide ([a].length + ([] : List Keyword).length + (if ([] : List Keyword).isEmpty then 0 else 1) < 30)) = true := by kernel_rfl)
    (hline : (apos.endLine == cpos.line) = true := by kernel_rfl) (hs : starEach [a] X.env = (false, eval a X.env) :: starEach [] X.env := by kernel_rfl) (hpl : (backTo cpos (starEach [] X.env)).any (·.1) = false := by kernel_rfl) (hsw : swapsWith (.Call (.Attribute e "append" apos) [a] [] cpos) none pos.line X.env = pure false := by kernel_rfl) :
    PS X (.Expr (.Call (.Attribute e "append" apos) [a] [] cpos) pos) (tDrop (tBM X.K "list" rAppend (tVar i) (tCons (tM X.K (clsA X.mg) f) tNil))) := ms_append ho he hb hfew hline hs hpl hsw
theorem kextend (i : Nat) {cpos apos : Pos} (ho : PE X e (tVar i)) (he : ME X a f) (hb : attributeBase e "extend" X.env (eval e X.env) = eval e X.env := by kernel_rfl)
    (hfew : ((backTo cpos (starEach [a] X.env)).all (fun x => !x.1) && (backToKw cpos (keywordEach [] X.env)).all (fun x => x.1.isSome) && decide ([a].length + ([] : List Keyword).length + (if ([] : List Keyword).isEmpty then 0 else 1) < 30)) = true := by kernel_rfl)
    (hline : (apos.endLine == cpos.line) = true := by kernel_rfl) (hs : starEach [a] X.env = (false, eval a X.env) :: starEach [] X.env := by kernel_rfl) (hpl : (backTo cpos (starEach [] X.env)).any (·.1) = false := by kernel_rfl) (hsw : swapsWith (.Call (.Attribute e "extend" apos) [a] [] cpos) none pos.line X.env = pure false := by kernel_rfl) :
    PS X (.Expr (.Call (.Attribute e "extend" apos) [a] [] cpos) pos) (tDrop (tBM X.K "list" rExtend (tVar i) (tCons (tM X.K (clsA X.mg) f) tNil))) := ms_extend ho he hb hfew hline hs hpl hsw
theorem ktown (i : Nat) {j : Nat} {p2 cpos apos : Pos} (ho : PE X e (tVar i)) (hb : attributeBase e "append" X.env (eval e X.env) = eval e X.env := by kernel_rfl)
    (hfew : ((backTo cpos (starEach [.Constant (.int 0) j p2] X.env)).all (fun x => !x.1) && (backToKw cpos (keywordEach [] X.env)).all (fun x => x.1.isSome) && decide ([Expr.Constant (.int 0) j p2].length + ([] : List Keyword).length + (if ([] : List Keyword).isEmpty then 0 else 1) < 30)) = true := by kernel_rfl)
    (hline : (apos.endLine == cpos.line) = true := by kernel_rfl) (hs : starEach [.Constant (.int 0) j p2] X.env = (false, eval (.Constant (.int 0) j p2) X.env) :: starEach [] X.env := by kernel_rfl) (hpl : (backTo cpos (starEach [] X.env)).any (·.1) = false := by kernel_rfl) (hsw : swapsWith (.Call (.Attribute e "append" apos) [.Constant (.int 0) j p2] [] cpos) none pos.line X.env = pure false := by kernel_rfl) :
    MS X W (.Expr (.Call (.Attribute e "append" apos) [.Constant (.int 0) j p2] [] cpos) pos) (sTown i) :=
  ms_town (ps_expr (pe_bm PySem.F.plainAttrs_list PySem.F.slot_list_append PySem.F.type_list_append mt_append ho (pa_cons pe_int pa_nil hs) hb hfew hline hs hpl) hsw)
end
/-! ### defs -/
def fnScB (N P : List Str) (sc : Scope) : Bool :=
  (match sc.kind with | .function => true | _ => false) && !sc.isCoroutine && !sc.isGenerator && decide N.Nodup && decide (N.take P.length = P) && (P.all fun x => locB sc x) && (sc.names.all fun y => match y.2 with | .free => false | _ => true)
theorem fnSc {N P : List Str} {sc : Scope} (h : fnScB N P sc = true := by kernel_rfl) : FnScope N P sc := by
  unfold fnScB at h
  simp only [Bool.and_eq_true] at h
  obtain ⟨⟨⟨⟨⟨⟨h1, h2⟩, h3⟩, h4⟩, h5⟩, h6⟩, h7⟩ := h
  refine ⟨?_, by simpa using h2, by simpa using h3, of_decide_eq_true h4, of_decide_eq_true h5, fun x hx => loc_of (List.all_eq_true.mp h6 x hx), fun y hy z => ?_⟩
  · split at h1
    · assumption
    · cases h1
  · have := List.all_eq_true.mp h7 y hy
    rw [z] at this
    cases this
section
variable {P : Program} {w : World} {K : PySem.W.Frag} {mg : Str → Option Value} {base : Heap} {x qual : Str} {params : Arguments} {st : Stmt} {body : List Stmt} {scope : Scope} {f : Addr} {fd : FuncData} {N ps : List Str} {k ar : Nat} {fb : FS} {m : Fn}
theorem kfn (F : FunD K x qual params body scope [] [] f fd) (S : FnScope N ps scope)
    (hbody : ∀ (cdv : Value) (A : Around) (outer : List Env) (s : Shared) (H : Hp) (E : XK), Room k (A.deeper (envOfC qual scope s.heap.objs.size f cdv)) →
      Takes (cxOf (L2.CX P w) P w K mg base N qual scope f cdv A outer s H E) (fun cls d _ H => E cls d H) → PassesOwn (model P w) (A.deeper (envOfC qual scope s.heap.objs.size f cdv)) (envOfC qual scope s.heap.objs.size f cdv) (cxOf (L2.CX P w) P w K mg base N qual scope f cdv A outer s H E).xe →
      MSs (cxOf (L2.CX P w) P w K mg base N qual scope f cdv A outer s H E) (fun cls d _ H => E cls d H) body fb) (ha : ps.length = ar := by kernel_rfl) (hN : Nat.ble ar N.length = true := by kernel_rfl) (hm : m = mkF ar (N.length - ar) fb := by kernel_rfl) : FnOk P w K mg base (L2.CX P w) (k + 1) f fd ps (spX K mg ar false m) := by
  subst hm
  exact fn_mk F S ha (Nat.le_of_ble_eq_true hN) fun cdv A outer s H E hr => hbody cdv A outer s H E hr (takes_of rfl rfl rfl rfl) (passes_of rfl)
theorem kfnL (F : FunD K x qual params body scope [] [] f fd) (S : FnScope N ps scope)
    (hbody : ∀ (cdv : Value) (A : Around) (outer : List Env) (s : Shared) (H : Hp) (E : XK), Room k (A.deeper (envOfC qual scope s.heap.objs.size f cdv)) →
      Takes (cxOf (L2.CX P w) P w K mg base N qual scope f cdv A outer s H E) (fun cls d _ H => E cls d H) → PassesOwn (model P w) (A.deeper (envOfC qual scope s.heap.objs.size f cdv)) (envOfC qual scope s.heap.objs.size f cdv) (cxOf (L2.CX P w) P w K mg base N qual scope f cdv A outer s H E).xe →
      MSs (cxOf (L2.CX P w) P w K mg base N qual scope f cdv A outer s H E) (fun cls d _ H => E cls d H) body fb) (ha : ps.length = ar := by kernel_rfl) (hN : Nat.ble ar N.length = true := by kernel_rfl) (hm : m = mkL ar (N.length - ar) fb := by kernel_rfl) : FnOk P w K mg base (L2.CX P w) (k + 1) f fd ps (spX K mg ar true m) := by
  subst hm
  exact fn_mkL F S ha (Nat.le_of_ble_eq_true hN) fun cdv A outer s H E hr => hbody cdv A outer s H E hr (takes_of rfl rfl rfl rfl) (passes_of rfl)
theorem klaw (F : FunD K x qual params (st :: body) scope [] [] f fd) (S : FnScope N ["script"] scope)
    (hst : ∀ (cdv : Value) (A : Around) (outer : List Env) (s : Shared) (H : Hp) (E : XK), PS (cxOf (L2.CX P w) P w K mg base N qual scope f cdv A outer s H E) st (tAsg (tLst tNil) (gName 1)))
    (hbody : ∀ (cdv : Value) (A : Around) (outer : List Env) (s : Shared) (H : Hp) (E : XK), Room k (A.deeper (envOfC qual scope s.heap.objs.size f cdv)) →
      Takes (cxOf (L2.CX P w) P w K mg base N qual scope f cdv A outer s H E) (fun cls d _ H => E cls d H) → PassesOwn (model P w) (A.deeper (envOfC qual scope s.heap.objs.size f cdv)) (envOfC qual scope s.heap.objs.size f cdv) (cxOf (L2.CX P w) P w K mg base N qual scope f cdv A outer s H E).xe →
      MSs (cxOf (L2.CX P w) P w K mg base N qual scope f cdv A outer s H E) (fun cls d _ H => E cls d H) body fb)
    (hT : ∀ ns : List Int, ns.length ≤ 63 → ∃ n', fb (some (.val (scrD ns)) :: some (.val townD) :: List.replicate (N.length - 2) none) n0 = some (.rt (.bool true), n')) (hN : Nat.ble 2 N.length = true := by kernel_rfl) :
    FnOk P w K mg base (L2.CX P w) (k + 1) f fd ["script"] (spLaw K) :=
  law_mk F S (Nat.le_of_ble_eq_true hN) hst (fun cdv A outer s H E hr => hbody cdv A outer s H E hr (takes_of rfl rfl rfl rfl) (passes_of rfl)) hT
end
theorem ktown0 {X : Cx} {x : Str} {pos pos' p : Pos} (hN : X.N.Nodup) (hi : X.N[1]? = some x := by kernel_rfl) (hx : locB X.env.scope x = true := by kernel_rfl) (hs : swapsWith (.List [] p) (some (.Name x pos')) pos.line X.env = pure false := by kernel_rfl) (hf : (X.fn x || lclB X.env.scope x) = true := by kernel_rfl) :
    PS X (.Assign [.Name x pos'] (.List [] p) pos) (tAsg (tLst tNil) (gName 1)) := ps_set hN hi (loc_of hx) (pe_lst pa_nil) hs (fn_of' hf)
/-- the end of a law over a head by facts, the exceptions' shape by the world -/
theorem walk_ofW {l : PySem.W.OpenLaw} {n k : Nat} {q : Program} {loose : List Str} {XP : (Str → Option Value) → Heap → Prop} {YP : World → Heap → Prop} {d : DefRec} {CX : World → CXT} {x : Str}
    (hn : l.most = some n) (hn2 : n ≤ sizeLine) (hdf : d.params.defaults = []) (hr : Room k callerA)
    (F : ∀ (w : World) (mg : Str → Option Value) (fa : Addr) (h : Heap), YP w h → h.Ns mainGlobals mg → mg d.name = some (.ref fa) →
      ∃ (K : PySem.W.Frag) (fd : FuncData) (sp : Sp), K.In h ∧ (∀ (s : Shared) (u : Value), BindsTo s fd ⟨[u], []⟩ [(x, u)]) ∧
        (∀ (H : Hp) (a : Addr) (ns : List Int), ns.length ≤ n → Only H → SqL K H a (ns.map V.int) → sp [.ref a] H (fun v _ => v = .bl true) fun _ _ _ => False) ∧
        ∀ base : Heap, K.In base → base.Ns mainGlobals mg → FnOk l.prog w K mg base (CX w) k fa fd [x] sp)
    (hCX : ∀ (w : World) (H : Hp) (s : Shared) (e : Value) (s' : Shared), CX w [] H s (fun _ _ _ => False) e s' → False) :
    PySem.W.WalkO q loose XP YP l.row.toRowW d [] (fun f vs => PySem.call f vs) := by
  refine Att.attach_call hn hdf fun w s₀ s₁ mg mb fa o pm cd doc a vs ns G Y ho hd hcd hmg hobj hints hlen hg => ?_
  obtain ⟨K, fd, sp, KX, hb, hsp, hF⟩ := F w mg fa _ Y G.T.g hmg
  exact law_call KX G.T.g G.T.b G.T.builtins G.T.nolimit hg hobj hints (Nat.le_trans hlen hn2) hr hF hb (fun H hO hS => hsp H a ns hlen hO hS) fun H e s' => hCX w H s₁ e s'

/-! ### zip -/
def zipD (xs ys : List D) : List D := List.zipWith (fun x y => .tuple [x, y]) xs ys
def iZ (fs : Fe (List D)) : Fe (List D) := fun env n => match fs env n with
  | some ([.tuple xs, .tuple ys], n1) => some (zipD xs ys, n1)
  | some ([.list xs, .list ys], n1) => some (zipD xs ys, n1)
  | _ => none
theorem zipD_len (xs ys : List D) : (zipD xs ys).length = min xs.length ys.length := by unfold zipD; rw [List.length_zipWith]
theorem zipD_get {xs ys : List D} {i : Nat} {x y : D} (h1 : xs[i]? = some x) (h2 : ys[i]? = some y) : (zipD xs ys)[i]? = some (.tuple [x, y]) := by
  unfold zipD
  rw [List.getElem?_zipWith, h1, h2]
theorem rp_pair {K : PySem.W.Frag} {ω : Wd} {H : Hp} {p : Addr} {x y : V} {a b : D} (c : Cok ω H) (hp : H p = none) (h1 : Rp K ω H x a) (h2 : Rp K ω H y b) : Same H (upd H p (.tup [x, y])) ∧ Rp K ω (upd H p (.tup [x, y])) (.ref p) (.tuple [a, b]) := by
  have s : Same H (upd H p (.tup [x, y])) := same_upd hp
  refine ⟨s, Rp.tup upd_same (by show 2 ≤ sizeLine; decide) (.cons (h1.same s) (.cons (h2.same s) .nil))⟩
theorem wk_zipT {K : PySem.W.Frag} {ω : Wd} {H1 : Hp} {a b : Addr} {xs ys : List V} {ds es : List D} (h : H1 a = some (.tup xs)) (l : ds.length ≤ sizeLine) (r : RpL K ω H1 xs ds)
    (h' : H1 b = some (.tup ys)) (r' : RpL K ω H1 ys es) : Wk K ω (RZ.ItzT K a b) (zipD ds es) H1 := by
  refine ⟨by rw [zipD_len]; omega, fun ω' H m c => ⟨fun i hi => ?_, ?_⟩⟩
  · rw [zipD_len] at hi
    have h2 := m.tup a _ h
    have h3 := m.tup b _ h'
    have r2 : RpL K ω' H xs ds := r.mv m
    have r3 : RpL K ω' H ys es := r'.mv m
    obtain ⟨v, hv, rv⟩ := r2.get (List.getElem?_eq_getElem (show i < ds.length by omega))
    obtain ⟨u, hu, ru⟩ := r3.get (List.getElem?_eq_getElem (show i < es.length by omega))
    refine ⟨⟨xs, ys, v, u, SqT.of h2, SqT.of h3, hv, hu⟩, fun x H' y => ?_⟩
    obtain ⟨p, x1, y1, rfl, hp, rfl, f1, f2⟩ := y
    have e1 := f1 xs (SqT.of h2)
    have e2 := f2 ys (SqT.of h3)
    rw [hv] at e1
    rw [hu] at e2
    cases e1
    cases e2
    obtain ⟨s, q⟩ := rp_pair c hp rv ru
    exact ⟨s, _, zipD_get (List.getElem?_eq_getElem _) (List.getElem?_eq_getElem _), q⟩
  · have h2 := m.tup a _ h
    have h3 := m.tup b _ h'
    refine ⟨xs, ys, SqT.of h2, SqT.of h3, ?_⟩
    rw [zipD_len, r.length, r'.length]
    omega
theorem wk_zipL {K : PySem.W.Frag} {ω : Wd} {H1 : Hp} {a b : Addr} {xs ys : List V} {ds es : List D} (h : H1 a = some (.lst xs)) (n : ¬ ω.T a) (l : ds.length ≤ sizeLine) (r : RpL K ω H1 xs ds)
    (h' : H1 b = some (.lst ys)) (n' : ¬ ω.T b) (r' : RpL K ω H1 ys es) : Wk K ω (L2.Itz K a b) (zipD ds es) H1 := by
  refine ⟨by rw [zipD_len]; omega, fun ω' H m c => ⟨fun i hi => ?_, ?_⟩⟩
  · rw [zipD_len] at hi
    obtain ⟨h2, n2⟩ := m.mv a _ n h
    obtain ⟨h3, n3⟩ := m.mv b _ n' h'
    have r2 : RpL K ω' H xs ds := r.mv m
    have r3 : RpL K ω' H ys es := r'.mv m
    obtain ⟨v, hv, rv⟩ := r2.get (List.getElem?_eq_getElem (show i < ds.length by omega))
    obtain ⟨u, hu, ru⟩ := r3.get (List.getElem?_eq_getElem (show i < es.length by omega))
    refine ⟨⟨xs, ys, v, u, SqL.of h2, SqL.of h3, hv, hu⟩, fun x H' y => ?_⟩
    obtain ⟨p, x1, y1, rfl, hp, rfl, f1, f2⟩ := y
    have e1 := f1 xs (SqL.of h2)
    have e2 := f2 ys (SqL.of h3)
    rw [hv] at e1
    rw [hu] at e2
    cases e1
    cases e2
    obtain ⟨s, q⟩ := rp_pair c hp rv ru
    exact ⟨s, _, zipD_get (List.getElem?_eq_getElem _) (List.getElem?_eq_getElem _), q⟩
  · obtain ⟨h2, n2⟩ := m.mv a _ n h
    obtain ⟨h3, n3⟩ := m.mv b _ n' h'
    refine ⟨xs, ys, SqL.of h2, SqL.of h3, ?_⟩
    rw [zipD_len, r.length, r'.length]
    omega
theorem mi_zip {X : Cx} {e e2 : Expr} {fs : Fe (List D)} {p pos tpos : Pos} {elts : List Expr} {kk : Nat} (hg : Gl X "zip") (hm : X.mg "zip" = none) (ha : MA X [e, e2] fs)
    (hs : starEach [e, e2] X.env = (false, eval e X.env) :: starEach [e2] X.env) (hpl : (backTo pos (starEach [e2] X.env)).any (·.1) = false) :
    MI X (.Tuple elts kk tpos) (.Call (.Name "zip" p) [e, e2] [] pos) (iZ fs) := by
  refine pi_imp (RZ.pi_zipA hg hm ha hs hpl) fun σ H R q => ?_
  obtain ⟨ω, env, n, ds, n', RR, t, e, k⟩ := q
  unfold iZ at e
  split at e
  · rename_i xs ys n1 h1
    cases e
    refine tMA_run RR t h1 fun v ω1 H1 k1 R1 t1 r1 => ?_
    obtain ⟨u, u2, rfl, r2, r3⟩ := rpl2 r1
    cases r2 with
    | tup g1 l1 q1 =>
      cases r3 with
      | tup g2 l2 q2 => exact ⟨_, _, _, _, rfl, .inr ⟨SqT.of g1, SqT.of g2, k _ ω1 H1 k1 t1 (wk_zipT g1 l1 q1 g2 q2)⟩⟩
  · rename_i xs ys n1 h1
    cases e
    refine tMA_run RR t h1 fun v ω1 H1 k1 R1 t1 r1 => ?_
    obtain ⟨u, u2, rfl, r2, r3⟩ := rpl2 r1
    cases r2 with
    | lst g1 m1 l1 q1 =>
      cases r3 with
      | lst g2 m2 l2 q2 => exact ⟨_, _, _, _, rfl, .inl ⟨SqL.of g1, SqL.of g2, k _ ω1 H1 k1 t1 (wk_zipL g1 m1 l1 q1 g2 m2 q2)⟩⟩
  · cases e
theorem kzip {X : Cx} {e e2 : Expr} {fs : Fe (List D)} {p pos tpos : Pos} {elts : List Expr} {kk : Nat} (hm : X.mg "zip" = none) (ha : MA X [e, e2] fs) (hg : X.env.kindOf "zip" = some .globalImplicit := by kernel_rfl)
    (hs : starEach [e, e2] X.env = (false, eval e X.env) :: starEach [e2] X.env := by kernel_rfl) (hpl : (backTo pos (starEach [e2] X.env)).any (·.1) = false := by kernel_rfl) :
    MI X (.Tuple elts kk tpos) (.Call (.Name "zip" p) [e, e2] [] pos) (iZ fs) := mi_zip hg hm ha hs hpl
/-! ### three names -/
theorem ktup3 {X : Cx} {pos : Pos} {x y z : Str} {px py pz : Pos} {q : Nat} (i j k : Nat) (hN : X.N.Nodup) (hi : X.N[i]? = some x := by kernel_rfl) (hx : locB X.env.scope x = true := by kernel_rfl) (hf : (X.fn x || lclB X.env.scope x) = true := by kernel_rfl)
    (hj : X.N[j]? = some y := by kernel_rfl) (hy : locB X.env.scope y = true := by kernel_rfl) (hfy : (X.fn y || lclB X.env.scope y) = true := by kernel_rfl) (hk : X.N[k]? = some z := by kernel_rfl) (hz : locB X.env.scope z = true := by kernel_rfl) (hfz : (X.fn z || lclB X.env.scope z) = true := by kernel_rfl) (hc : X.calm = true := by kernel_rfl)
    (hn : (assignEach [.Name x px, .Name y py, .Name z pz] X.env).length = 3 := by kernel_rfl) (hst : (assignEach [.Name x px, .Name y py, .Name z pz] X.env).findIdx? (·.1) = none := by kernel_rfl) : MG X (.Tuple [.Name x px, .Name y py, .Name z pz] q pos) (.tp [i, j, k]) :=
  pg_tup hc (pgs_cons (pg_name hN hi (loc_of hx) (fn_of' hf)) (pgs_cons (pg_name hN hj (loc_of hy) (fn_of' hfy)) (pgs_cons (pg_name hN hk (loc_of hz) (fn_of' hfz)) pgs_nil))) hn hst
/-! ### names = data -/
section
variable {X : Cx} {W : WX} {st : Stmt}
/-- a target = data, one's own lists not read -/
def sTgtH (t : Tg) (f : FE) : FS := fun S n => match f (hidE S) n with
  | some (d, n1) => (match bindS t d S with
    | some S' => some (.nx S', n1)
    | none => none)
  | none => none
theorem ms_tgtH {t : Tg} {te : TE} {f : FE} (h : PS X st (tAsg te (gOf X.K t))) (hf : te = tM X.K (clsA X.mg) f) : MS X W st (sTgtH t f) := by
  subst hf
  refine ps_imp h fun Dn σ H q => ?_
  obtain ⟨ω0, H0, ω, S, n, fl, n', ⟨o, R⟩, e, a⟩ := q
  unfold sTgtH at e
  split at e
  · rename_i d n1 h1
    split at e
    · rename_i S' h2
      cases e
      refine tM_run R.hid R.townP h1 fun v ω' H' k _ t r => ?_
      exact gOf_runS (R.extH k t) (r.mv (R.mvO k)) h2 fun σ1 o1 q => a _ σ1 _ o1 q
    · cases e
  · cases e
theorem ktgtH {tg e : Expr} {t : Tg} {f : FE} {pos : Pos} (hg : MG X tg t) (he : ME X e f) (hs : swapsWithSole [tg] e pos.line X.env = pure false := by kernel_rfl) (hw : swappedStores [tg] e X.env = pure none := by kernel_rfl)
    (h1 : (assignEach [tg] X.env).map (·.2) = [assign tg X.env] := by kernel_rfl) : MS X W (.Assign [tg] e pos) (sTgtH t f) := ms_tgtH (ps_asg he hg hs hw h1) rfl
/-- a target = data without lists -/
def sTgt (t : Tg) (f : FE) : FS := fun S n => match f (frzE S) n with
  | some (d, n1) => if lf d then (match bindS t d S with
    | some S' => some (.nx S', n1)
    | none => none) else none
  | none => none
theorem ms_tgt {t : Tg} {te : TE} {f : FE} (h : PS X st (tAsg te (gOf X.K t))) (hf : te = tM X.K (clsA X.mg) f) : MS X W st (sTgt t f) := by
  subst hf
  refine ps_imp h fun Dn σ H q => ?_
  obtain ⟨ω0, H0, ω, S, n, fl, n', ⟨o, R⟩, e, a⟩ := q
  unfold sTgt at e
  split at e
  · rename_i d n1 h1
    split at e
    · rename_i hl
      split at e
      · rename_i S' h2
        cases e
        refine tM_run R.frz R.town h1 fun v ω' H' k _ t r => ?_
        exact gOf_runS (R.extF k t) (r.lfS hl) h2 fun σ1 o1 q => a _ σ1 _ o1 q
      · cases e
    · cases e
  · cases e
theorem ktgt {tg e : Expr} {t : Tg} {f : FE} {pos : Pos} (hg : MG X tg t) (he : ME X e f) (hs : swapsWithSole [tg] e pos.line X.env = pure false := by kernel_rfl) (hw : swappedStores [tg] e X.env = pure none := by kernel_rfl)
    (h1 : (assignEach [tg] X.env).map (·.2) = [assign tg X.env] := by kernel_rfl) : MS X W (.Assign [tg] e pos) (sTgt t f) := ms_tgt (ps_asg he hg hs hw h1) rfl
/-- names = a list of data without lists -/
def sUnp (is : List Nat) (f : FE) : FS := fun S n => match f (frzE S) n with
  | some (.list ds, n1) => if lfL ds && decide (ds.length = is.length) then some (.nx (setAllV S is ds), n1) else none
  | _ => none
theorem ms_unp {is : List Nat} {te : TE} {f : FE} (h : PS X st (tAsg te (gLst X.K is.length (gsOf is)))) (hf : te = tM X.K (clsA X.mg) f) : MS X W st (sUnp is f) := by
  subst hf
  refine ps_imp h fun Dn σ H q => ?_
  obtain ⟨ω0, H0, ω, S, n, fl, n', ⟨o, R⟩, e, a⟩ := q
  unfold sUnp at e
  split at e
  · rename_i ds n1 h1
    split at e
    · rename_i hl
      rw [Bool.and_eq_true] at hl
      obtain ⟨hl, hn⟩ := hl
      have hn := of_decide_eq_true hn
      cases e
      refine tM_run R.frz R.town h1 fun v ω' H' k _ t r => ?_
      cases r with
      | lst g1 m1 l1 q1 =>
        have R' := R.extF k t
        obtain ⟨o', R2⟩ := R'.setAllV is (q1.lfS hl)
        exact ⟨_, _, rfl, SqL.of g1, by rw [q1.length, hn], gsOf_run is (by rw [q1.length, hn]) (a _ _ _ _ R2)⟩
    · cases e
  · cases e
def namesB (X : Cx) : List Expr → List Nat → Bool
  | [], [] => true
  | .Name x _ :: es, i :: is => decide (X.N[i]? = some x) && locB X.env.scope x && (X.fn x || lclB X.env.scope x) && namesB X es is
  | _, _ => false
theorem ae_name (x : Str) (p : Pos) (es : List Expr) : (assignEach (.Name x p :: es) X.env).map (·.2) = assign (.Name x p) X.env :: (assignEach es X.env).map (·.2) := by
  conv => lhs; unfold assignEach
  rfl
theorem pgs_names (hN : X.N.Nodup) : ∀ {es : List Expr} {is : List Nat}, namesB X es is = true → PGs X es (gsOf is)
  | [], [], _ => pgs_nil
  | [], _ :: _, h => by cases h
  | .Name x p :: es, i :: is, h => by
    unfold namesB at h
    simp only [Bool.and_eq_true] at h
    obtain ⟨⟨⟨h1, h2⟩, h3⟩, h4⟩ := h
    exact pgs_cons (pg_name hN (of_decide_eq_true h1) (loc_of h2) (fn_of' h3)) (pgs_names hN h4) (ae_name x p es)
  | .Name x p :: es, [], h => by cases h
theorem kunp {es : List Expr} (is : List Nat) {e : Expr} {kk : Nat} {f : FE} {pos tpos : Pos} (hN : X.N.Nodup) (he : ME X e f) (hb : namesB X es is = true := by kernel_rfl) (hc : X.calm = true := by kernel_rfl)
    (hn : (assignEach es X.env).length = is.length := by kernel_rfl) (hst : (assignEach es X.env).findIdx? (·.1) = none := by kernel_rfl)
    (hs : swapsWithSole [.Tuple es kk tpos] e pos.line X.env = pure false := by kernel_rfl) (hw : swappedStores [.Tuple es kk tpos] e X.env = pure none := by kernel_rfl)
    (h1 : (assignEach [.Tuple es kk tpos] X.env).map (·.2) = [assign (.Tuple es kk tpos) X.env] := by kernel_rfl) : MS X W (.Assign [.Tuple es kk tpos] e pos) (sUnp is f) :=
  ms_unp (ps_asg he (pg_lst hc (pgs_names hN hb) hn hst) hs hw h1) rfl
/-- x, y = a, b: data without lists -/
def sPar (i j : Nat) (fs : Fe (List D)) : FS := fun S n => match fs (frzE S) n with
  | some ([d, e], n1) => if lf d && lf e then some (.nx ((S.set i (some (.val d))).set j (some (.val e))), n1) else none
  | _ => none
theorem ms_par {i j : Nat} {ta : TA} {fs : Fe (List D)} (h : PS X st (tPar i j ta)) (hf : ta = tMA X.K (clsA X.mg) fs) : MS X W st (sPar i j fs) := by
  subst hf
  refine ps_imp h fun Dn σ H q => ?_
  obtain ⟨ω0, H0, ω, S, n, fl, n', ⟨o, R⟩, e, a⟩ := q
  unfold sPar at e
  split at e
  · rename_i d1 d2 n1 h1
    split at e
    · rename_i hl
      rw [Bool.and_eq_true] at hl
      cases e
      refine tMA_run R.frz R.town h1 fun v ω' H' k _ t r => ?_
      obtain ⟨u, u2, rfl, r2, r3⟩ := rpl2 r
      have R' := R.extF k t
      have R2 := R'.setVal (i := i) (r2.lfS hl.1)
      exact ⟨_, _, rfl, a _ _ _ _ (R2.setVal (i := j) (r3.lfS hl.2))⟩
    · cases e
  · cases e
/-- x, y = a, b: any data, one's own lists not read -/
def sParH (i j : Nat) (fs : Fe (List D)) : FS := fun S n => match fs (hidE S) n with
  | some ([d, e], n1) => some (.nx ((S.set i (some (.val d))).set j (some (.val e))), n1)
  | _ => none
theorem ms_parH {i j : Nat} {ta : TA} {fs : Fe (List D)} (h : PS X st (tPar i j ta)) (hf : ta = tMA X.K (clsA X.mg) fs) : MS X W st (sParH i j fs) := by
  subst hf
  refine ps_imp h fun Dn σ H q => ?_
  obtain ⟨ω0, H0, ω, S, n, fl, n', ⟨o, R⟩, e, a⟩ := q
  unfold sParH at e
  split at e
  · rename_i d1 d2 n1 h1
    cases e
    refine tMA_run R.hid R.townP h1 fun v ω' H' k _ t r => ?_
    obtain ⟨u, u2, rfl, r2, r3⟩ := rpl2 r
    have R2 := (R.extH k t).setVal (i := i) (r2.mv (R.mvO k))
    exact ⟨_, _, rfl, a _ _ _ _ (R2.setVal (i := j) ((r3.mv (R.mvO k)).mv mv_drop))⟩
  · cases e
theorem kparP {x y : Str} {a b : Expr} {ta : TA} {px py pt pos pt2 : Pos} {kt k2 : Nat} (i j : Nat) (hN : X.N.Nodup) (ha : PA X [a, b] ta) (hi : X.N[i]? = some x := by kernel_rfl) (hj : X.N[j]? = some y := by kernel_rfl) (hij : Nat.beq i j = false := by kernel_rfl)
    (hx : lclB X.env.scope x = true := by kernel_rfl) (hy : lclB X.env.scope y = true := by kernel_rfl) (hc : X.calm = true := by kernel_rfl)
    (hw : swappedStores [.Tuple [.Name x px, .Name y py] kt pt] (.Tuple [a, b] k2 pt2) X.env = pure (some [x, y]) := by kernel_rfl)
    (hs : swapsWithSole [.Tuple [.Name x px, .Name y py] kt pt] (.Tuple [a, b] k2 pt2) pos.line X.env = pure false := by kernel_rfl) :
    PS X (.Assign [.Tuple [.Name x px, .Name y py] kt pt] (.Tuple [a, b] k2 pt2) pos) (tPar i j ta) :=
  ps_par hc hN hi hj (fun z => by subst z; rw [Nat.beq_refl] at hij; cases hij) (lcl_of hx) (lcl_of hy) ha hw hs
end

/-! ### sorted of data -/
section
variable {prog : Program} {w : World} {A : Around} {E : Value → Shared → Prop} {s : Shared}
theorem collect_seq {l : Addr} {vs : List Value} {Q : List Value → Shared → Prop} {o : Obj} {n : Nat} {T : String} (hT : T = "list" ∨ T = "tuple") (ho : s.heap.get? l = some o) (hc : o.cls = .type T) (hd : o.data = .seq vs.toArray n)
    (h : Q vs { s with heap := (s.heap.push (seqObj "list" #[] 0)).update s.heap.objs.size (Obj.mapSeq (· ++ vs.toArray)) }) (hsz : vs.length ≤ sizeLine) :
    wpAny (model prog w) A (collect (.ref l)) Q E s := by
  unfold collect
  refine wpAny_bind (wpAny_runValue (codeAny_builtin entry_proto_collect' ?_))
  show wpAny _ _ (do again (.builtin "list.__iadd__" ⟨[← newList [], .ref l], []⟩)) _ _ s
  refine wpAny_bind (wpAny_newList (wpAny_pure ⟨Code.quiet_builtin _ (by decide +kernel), codeAny_builtin entry_list_iadd' ?_⟩))
  show wpAny _ _ (Builtin.List.listExtendWith (.ref s.heap.objs.size) (.ref l) (.ref s.heap.objs.size)) _ _ { s with heap := s.heap.push (seqObj "list" #[] 0) }
  unfold Builtin.List.listExtendWith
  have ho' : (s.heap.push (seqObj "list" #[] 0)).get? l = some o := Heap.get?_push_of_some _ ho
  refine wpAny_bind (wpAny_typeOf (T := T) ⟨o, ho', hc⟩ ?_)
  have ht : ((Value.type T == Value.type "list") || (Value.type T == Value.type "tuple")) = true := by rcases hT with rfl | rfl <;> decide +kernel
  rw [if_pos (by rcases hT with rfl | rfl <;> simp)]
  refine wpAny_bind (listItems_at ho' hd ?_)
  refine wpAny_bind (listItems_at (xs := #[]) (n := 0) (Heap.get?_push_size _ rfl) rfl ?_)
  rw [if_neg (by simp)]
  refine wpAny_bind (listUpdate_at (xs := #[]) (n := 0) (Heap.get?_push_size _ rfl) rfl ?_ (Nat.zero_le _) (by show (#[] ++ vs.toArray).size ≤ sizeLine + 1; simp only [Array.size_append, List.size_toArray, List.length_nil]; omega))
  refine wpAny_pure ?_
  show wpAny (model prog w) A (do
      let o ← load s.heap.objs.size
      match o.data with
      | .seq xs _ => pure xs.toList
      | _ => unsupported "internal:collect") Q E { s with heap := (s.heap.push (seqObj "list" #[] 0)).update s.heap.objs.size (Obj.mapSeq (· ++ vs.toArray)) }
  refine wpAny_bind (wpAny_load (get?_update_seq (Heap.get?_push_size _ rfl) _) ?_)
  show wpAny _ _ (pure ((#[] : Array Value) ++ vs.toArray).toList) Q E _
  rw [show ((#[] : Array Value) ++ vs.toArray).toList = vs by simp]
  exact wpAny_pure h
theorem sorted_seq {β : Type} {enc : β → PyData} {R : Value → β → Prop} {bs : List β} {l : Addr} {vs : List Value} {Q : Value → Shared → Prop} {o : Obj} {n : Nat} {T : String} (hT : T = "list" ∨ T = "tuple") (ho : s.heap.get? l = some o) (hc : o.cls = .type T) (hd : o.data = .seq vs.toArray n)
    (e : PySem.W.EachIs R vs bs) (er : PySem.W.EachIs (fun v b => ∃ as, Reads s.heap v (enc b) as) vs bs) (hal : PySem.W.AllAlike (bs.map enc)) (hk : PySem.W.Sortable (bs.map enc)) (hL : bs.length ≤ sizeLine)
    (hu : ∀ b, b ∈ bs → A.units + 2 + (enc b).depth < cLine) (h : ∀ out, out.length = bs.length → PySem.W.EachIs R out (bs.mergeSort (PySem.W.dataLe false enc)) → Q (.ref (s.heap.objs.size + 1)) { s with heap := sortedAll s.heap vs (List.toArray out) }) :
    wpAny (model prog w) A (call (.builtin "sorted") [.ref l]) Q E s := by
  have hLv : vs.length ≤ sizeLine := by rw [e.length]; exact hL
  have er' : PySem.W.EachIs (fun v b => ∃ as, Reads (PySem.W.sortingHeap (PySem.W.copyHeap s.heap vs) (s.heap.objs.size + 1) vs) v (enc b) as) vs bs := er.mono fun _ _ ⟨as, r⟩ => ⟨as, PyProof.Rows.Reads.keeps (fun _ _ => PySem.W.sorting_copy_old) r⟩
  have S := PySem.W.SortsAt.data (prog := prog) (w := w) (A := A.in1.in1) (s := { s with heap := PySem.W.sortingHeap (PySem.W.copyHeap s.heap vs) (s.heap.objs.size + 1) vs }) (PySem.W.each_map (R := fun v d => ∃ as, Reads (PySem.W.sortingHeap (PySem.W.copyHeap s.heap vs) (s.heap.objs.size + 1) vs) v d as) enc er') hal hk (PySem.W.bound_map hu)
  refine PyProof.Rows.call_function_entry_kw PyProof.Rows.kind_sorted PyProof.Rows.plain_sorted PyProof.Rows.entry_sorted (PyProof.Rows.args_sorted1 _) ?_
  unfold Builtin.«sorted»
  refine wpAny_bind (m := checkCount "sorted" 1 1 _) (wpAny_pure ?_)
  refine wpAny_bind (collect_seq hT ho hc hd ?_ hLv)
  refine wpAny_bind (wpAny_newList ?_ hLv)
  have hsz : ((s.heap.push (seqObj "list" #[] 0)).update s.heap.objs.size (Obj.mapSeq (· ++ vs.toArray))).objs.size = s.heap.objs.size + 1 := by
    rw [Heap.size_update, size_push']
  show wpAny _ _ _ _ _ { s with heap := PySem.W.copyHeap s.heap vs }
  rw [hsz]
  refine wpAny_bind (wpAny_holding (wpAny_call_entry_kw PyProof.Rows.slot_list_sort ⟨_, PySem.W.copyHeap_at s.heap vs, rfl⟩ PyProof.Rows.entry_list_sort ?body (PyProof.Rows.args_list_sort _)))
  case body =>
    show wpAny (model prog w) A.in1.in1 (Builtin.«list.sort» ⟨[.ref (s.heap.objs.size + 1)], []⟩) _ _ _
    refine PySem.W.list_sort_vals (s := { s with heap := PySem.W.copyHeap s.heap vs }) (PySem.W.copyHeap_at s.heap vs) S hLv ?_
    exact ⟨_, rfl, wpAny_pure ⟨_, rfl, h _ (by rw [PySem.W.sortVals_length false rfl]; exact e.length) (PySem.W.sortVals_data false e er' hal)⟩⟩
end

def rSortD (K : PySem.W.Frag) : List V → Hp → VK → Prop := fun vs H Q => ∃ (a : Addr) (xs : List V) (ds : List D), vs = [.ref a] ∧ (SqL K H a xs ∨ SqT K H a xs) ∧ DpAll K H xs ds ∧ PySem.W.AllAlike ds ∧ PySem.W.Sortable ds ∧ (∀ d ∈ ds, d.depth ≤ 60) ∧
  ∀ p, H p = none → Q (.ref p) (upd H p (.lst (((xs.zip ds).mergeSort (PySem.W.dataLe false Prod.snd)).map Prod.fst)))
theorem dpAll_len {K : PySem.W.Frag} {H : Hp} : ∀ {xs : List V} {ds : List D}, DpAll K H xs ds → xs.length = ds.length
  | _, _, .nil => rfl
  | _, _, .cons _ t => by rw [List.length_cons, List.length_cons, dpAll_len t]
theorem vals_each : ∀ {xs : List V} {ds : List D} {us : List Value}, Vals xs us → xs.length = ds.length → PySem.W.EachIs (fun u (b : V × D) => RelV b.1 u) us (xs.zip ds)
  | [], [], _, .nil, _ => .nil
  | _ :: _, _ :: _, _, .cons r t, h => .cons r (vals_each t (by simpa using h))
  | _ :: _, [], _, _, h => by simp at h
theorem each_vals : ∀ {us : List Value} {bs : List (V × D)}, PySem.W.EachIs (fun u (b : V × D) => RelV b.1 u) us bs → Vals (bs.map Prod.fst) us
  | _, _, .nil => .nil
  | _, _, .cons r t => .cons r (each_vals t)
theorem reads_each {X : Cx} {pins : List (Addr × Obj)} {σ : L2.St} {H : Hp} {s : Shared} (I : Inv X pins σ H s) : ∀ {xs : List V} {ds : List D} {us : List Value}, DpAll X.K H xs ds → Vals xs us → PySem.W.EachIs (fun u (b : V × D) => ∃ as, Reads s.heap u b.2 as) us (xs.zip ds)
  | _, _, _, .nil, .nil => .nil
  | _, _, _, .cons d t, .cons r q => .cons (Dp.reads I _ _ _ d r) (reads_each I t q)
theorem cr_sortD {X : Cx} (hu : X.A.units + 64 < cLine) : CallR X (.builtin "sorted") (rSortD X.K) := by
  intro pins s σ H vs us Q I r h
  obtain ⟨a, xs, ds, rfl, hq, hdp, hal, hk, hdep, q⟩ := h
  obtain ⟨u, rfl, ru⟩ := vals1 r
  cases ru
  have hlen := dpAll_len hdp
  have e2 : (xs.zip ds).map Prod.snd = ds := List.map_snd_zip (by omega)
  have fin : ∀ {its : List Value} {o : Obj} {n : Nat} {T : String}, (T = "list" ∨ T = "tuple") → s.heap.get? a = some o → o.cls = .type T → o.data = .seq its.toArray n → Vals xs its → xs.length ≤ sizeLine → wpAny (model X.prog X.w) X.A (call (.builtin "sorted") [.ref a]) (EP X pins σ Q) X.xe s := by
    intro its o n T hT ho hc hd rv hz
    refine sorted_seq (enc := Prod.snd) (bs := xs.zip ds) hT ho hc hd (vals_each rv hlen) (reads_each I hdp rv) (by rw [e2]; exact hal) (by rw [e2]; exact hk) (by rw [List.length_zip]; omega) (fun b hb => ?_) fun out ho2 hE => ?_
    · have := hdep b.2 (by rw [← e2]; exact List.mem_map.mpr ⟨b, hb, rfl⟩)
      omega
    · obtain ⟨c, hc2⟩ := sortedAll_at s.heap its out.toArray
      refine ⟨.ref (s.heap.objs.size + 1), _, I.laid (t' := s.toks) (fun b ob eb => sortedAll_old eb) (Nat.le_succ _) (show ObjOk X.prog X.w _ _ _ (.lst _) from ⟨?_, out, c, each_vals hE, hc2⟩), rfl, q _ (I.hok.fresh (Nat.le_succ _))⟩
      rw [List.length_map, List.length_mergeSort, List.length_zip]
      omega
  rcases hq with hq | hq
  · obtain ⟨its, rv, p, hz⟩ := I.list hq
    obtain ⟨o, ho, hc, n, hd⟩ := p.isList
    exact fin (.inl rfl) ho hc hd rv hz
  · obtain ⟨its, rv, p, hz⟩ := I.tuple hq
    obtain ⟨o, ho, hc, n, hd⟩ := p
    exact fin (.inr rfl) ho hc hd rv hz
/-! the mirror -/
def alikeB (ds : List D) : Bool := ds.all fun x => ds.all fun y => PySem.W.alike x y
def tupHd : D → Bool
  | .tuple (_ :: _) => true
  | _ => false
def plainHd : D → Bool
  | .none => false
  | .tuple _ => false
  | _ => true
def ordB (ds : List D) : Bool := alikeB ds && PyData.canLayAll0 ds && (ds.all fun d => decide (d.depth ≤ 60))
def sortB (ds : List D) : Bool := ordB ds && (ds.all tupHd || ds.all plainHd)
def sortD (ds : List D) : List D := ds.mergeSort (PySem.W.dataLe false id)
def dSorted (d : D) : Option D := (seq? d).bind fun ds => if sortB ds then some (.list (sortD ds)) else none
theorem alike_of {ds : List D} (h : alikeB ds = true) : PySem.W.AllAlike ds := fun d hd e he => List.all_eq_true.mp (List.all_eq_true.mp h d hd) e he
theorem sortable_of {ds : List D} (h : (ds.all tupHd || ds.all plainHd) = true) : PySem.W.Sortable ds := by
  rw [Bool.or_eq_true] at h
  rcases h with h | h
  · refine .inl fun d hd => ?_
    have := List.all_eq_true.mp h d hd
    match d, this with
    | .tuple (x :: r), _ => exact ⟨x, r, rfl⟩
  · refine .inr fun d hd => ?_
    have := List.all_eq_true.mp h d hd
    match d, this with
    | .bool _, _ => exact ⟨by simp, by simp⟩
    | .int _, _ => exact ⟨by simp, by simp⟩
    | .str _, _ => exact ⟨by simp, by simp⟩
    | .list _, _ => exact ⟨by simp, by simp⟩
    | .dict _, _ => exact ⟨by simp, by simp⟩
theorem RpL.of_pairs {K : PySem.W.Frag} {ω : Wd} {H : Hp} : ∀ {l : List (V × D)}, (∀ p ∈ l, Rp K ω H p.1 p.2) → RpL K ω H (l.map Prod.fst) (l.map Prod.snd)
  | [], _ => .nil
  | p :: l, h => .cons (h p List.mem_cons_self) (RpL.of_pairs fun q hq => h q (List.mem_cons_of_mem _ hq))
theorem RpL.pairs {K : PySem.W.Frag} {ω : Wd} {H : Hp} : ∀ {xs : List V} {ds : List D}, RpL K ω H xs ds → ∀ p ∈ xs.zip ds, Rp K ω H p.1 p.2
  | _, _, .nil, p, hp => by simp at hp
  | _, _, .cons r t, p, hp => by
    rw [List.zip_cons_cons] at hp
    rcases List.mem_cons.mp hp with rfl | hp
    · exact r
    · exact t.pairs p hp
theorem RpL.sort {K : PySem.W.Frag} {ω : Wd} {H : Hp} {xs : List V} {ds : List D} (r : RpL K ω H xs ds) : RpL K ω H (((xs.zip ds).mergeSort (PySem.W.dataLe false Prod.snd)).map Prod.fst) (sortD ds) := by
  have e : sortD ds = ((xs.zip ds).mergeSort (PySem.W.dataLe false Prod.snd)).map Prod.snd := by
    have h := PySem.W.sort_maps (r := PySem.W.dataLe false Prod.snd) (s := PySem.W.dataLe false id) (Prod.snd : V × D → D) (l := xs.zip ds) (fun _ _ _ _ => rfl)
    rw [h, List.map_snd_zip (by rw [r.length]; omega)]
    rfl
  rw [e]
  refine RpL.of_pairs fun p hp => r.pairs p ?_
  exact (List.mergeSort_perm _ _).mem_iff.mp hp
theorem sortD_len (ds : List D) : (sortD ds).length = ds.length := List.length_mergeSort ds
theorem ok_sorted (K : PySem.W.Frag) : OkL K (rSortD K) (c1 dSorted) := by
  intro ω H vs es d Q c r e k
  unfold c1 at e
  split at e
  · obtain ⟨v, rfl, h⟩ := rpl1 r
    unfold dSorted at e
    rw [Option.bind_eq_some_iff] at e
    obtain ⟨ds, e1, e2⟩ := e
    split at e2
    · rename_i hb
      cases e2
      unfold sortB ordB at hb
      simp only [Bool.and_eq_true] at hb
      obtain ⟨⟨⟨h1, h2⟩, h3⟩, h4⟩ := hb
      have dep : ∀ d ∈ ds, d.depth ≤ 60 := fun d hd => of_decide_eq_true (List.all_eq_true.mp h3 d hd)
      have done : ∀ {xs : List V} {p : Addr}, ds.length ≤ sizeLine → RpL K ω H xs ds → H p = none → Q (.ref p) (upd H p (.lst (((xs.zip ds).mergeSort (PySem.W.dataLe false Prod.snd)).map Prod.fst))) := by
        intro xs p l q hp
        have s := same_upd (o := .lst (((xs.zip ds).mergeSort (PySem.W.dataLe false Prod.snd)).map Prod.fst)) hp
        exact k _ _ s (.lst upd_same (c.notIn hp) (by rw [sortD_len]; exact l) (q.sort.same s))
      cases h with
      | lst g1 m1 l1 q1 =>
        cases e1
        exact ⟨_, _, ds, rfl, .inl (SqL.of g1), q1.dp h2, alike_of h1, sortable_of h4, dep, fun p hp => done l1 q1 hp⟩
      | tup g1 l1 q1 =>
        cases e1
        exact ⟨_, _, ds, rfl, .inr (SqT.of g1), q1.dp h2, alike_of h1, sortable_of h4, dep, fun p hp => done l1 q1 hp⟩
      | _ => simp [seq?] at e1
    · cases e2
  · cases e
/-! ### max of data -/
def rMaxD (K : PySem.W.Frag) : List V → Hp → VK → Prop := fun vs H Q => ∃ (a : Addr) (xs : List V) (d : D) (ds : List D), vs = [.ref a] ∧ SqL K H a xs ∧ DpAll K H xs (d :: ds) ∧ PyData.canLayAll0 (d :: ds) = true ∧ PySem.W.AlikeAll (d :: ds) ∧ PyData.depthAll (d :: ds) ≤ 60 ∧
  ∀ (i : Nat) x e, xs[i]? = some x → (d :: ds)[i]? = some e → e = PySem.W.maxD d ds → Q x H
theorem cr_maxD {X : Cx} (hc : X.calm = true) (hu : X.A.units + 64 < cLine) : CallR X (.builtin "max") (rMaxD X.K) := by
  intro pins s σ H vs us Q I r h
  obtain ⟨a, xs, d, ds, rfl, hq, hdp, hlay, hal, hdep, q⟩ := h
  obtain ⟨u, rfl, ru⟩ := vals1 r
  cases ru
  obtain ⟨its, rv, p, hz⟩ := I.list hq
  obtain ⟨as, hr⟩ := Dp.readsAll I (d :: ds) xs its hdp rv
  refine PySem.W.max_list_data (I.ok.hd hc) p.isList (by simpa using hr) hal (by omega) fun i v h' tk bs hv hrd hk => ?_
  have I2 : Inv X pins σ H { s with heap := h', toks := tk } := I.kept hk
  have hi : i < its.length := by
    have := (Array.getElem?_eq_some_iff.mp hv).1
    simpa using this
  have hlx : xs.length = its.length := rv.length
  have hld : xs.length = (d :: ds).length := dpAll_len hdp
  have hxi : xs[i]? = some xs[i] := List.getElem?_eq_getElem (by omega)
  obtain ⟨u, hu1, hu2⟩ := rv.get hxi
  have euv : u = v := by
    have : its[i]? = some v := by simpa using hv
    rw [hu1] at this
    exact Option.some.inj this
  subst euv
  have hdi : (d :: ds)[i]? = some (d :: ds)[i] := List.getElem?_eq_getElem (by omega)
  have hdpi : ∀ {xs : List V} {es : List D} {i : Nat} {x : V} {e : D}, DpAll X.K H xs es → xs[i]? = some x → es[i]? = some e → Dp X.K H x e := by
    intro xs es i
    induction i generalizing xs es with
    | zero =>
      intro x e h h1 h2
      cases h with
      | nil => cases h1
      | cons a b => cases h1; cases h2; exact a
    | succ i ih =>
      intro x e h h1 h2
      cases h with
      | nil => cases h1
      | cons a b => exact ih b (by simpa using h1) (by simpa using h2)
  obtain ⟨bs2, rd2⟩ := Dp.reads I2 _ _ _ (hdpi hdp hxi hdi) hu2
  have lay : PyData.canLay0 (d :: ds)[i] = true := by
    have : ∀ {es : List D}, PyData.canLayAll0 es = true → ∀ e ∈ es, PyData.canLay0 e = true := by
      intro es
      induction es with
      | nil => intro _ e he; cases he
      | cons a b ih =>
        intro h e he
        rw [PyData.canLayAll0, Bool.and_eq_true] at h
        rcases List.mem_cons.mp he with rfl | he
        · exact h.1
        · exact ih h.2 e he
    exact this hlay _ (List.getElem_mem _)
  exact ⟨xs[i], H, I2, hu2, q i _ _ hxi hdi (SeqAt.Reads.unique _ _ _ _ _ lay rd2 hrd)⟩
def dMaxD : D → Option D
  | .list (d :: ds) => if ordB (d :: ds) && (d :: ds).all (fun e => !isNon e) then some (PySem.W.maxD d ds) else none
  | _ => none
theorem ok_maxD (K : PySem.W.Frag) : OkL K (rMaxD K) (c1 dMaxD) := by
  intro ω H vs es d Q c r e k
  unfold c1 at e
  split at e
  · obtain ⟨v, rfl, h⟩ := rpl1 r
    unfold dMaxD at e
    split at e
    · rename_i d0 ds
      split at e
      · rename_i hb
        cases e
        unfold ordB at hb
        simp only [Bool.and_eq_true] at hb
        obtain ⟨⟨⟨h1, h2⟩, h3⟩, h4⟩ := hb
        cases h with
        | lst g1 m1 l1 q1 =>
          refine ⟨_, _, d0, ds, rfl, SqL.of g1, q1.dp h2, h2, ⟨alike_of h1, fun x hx z => ?_⟩, ?_, fun i x e hx he heq => ?_⟩
          · have := List.all_eq_true.mp h4 x hx
            rw [z] at this
            cases this
          · have : ∀ {es : List D}, (es.all fun d => decide (d.depth ≤ 60)) = true → PyData.depthAll es ≤ 60 := by
              intro es
              induction es with
              | nil => intro _; exact Nat.zero_le _
              | cons a b ih =>
                intro h
                rw [List.all_cons, Bool.and_eq_true] at h
                rw [PyData.depthAll]
                exact Nat.max_le.2 ⟨of_decide_eq_true h.1, ih h.2⟩
            exact this h3
          · obtain ⟨v, hv, rv⟩ := q1.get he
            rw [hx] at hv
            cases hv
            rw [heq] at rv
            exact k _ _ (Same.refl _) rv
      · cases e
    · cases e
  · cases e

/-! ### enumerate of a tuple -/
theorem enum_newT (l : Addr) (items : Array Value) (n : Nat) (dct : Option Addr) (sl : Array (Option Value)) :
    Meets (Builtin.«enumerate.__new__» ⟨[.type "enumerate", .ref l], []⟩) (fun _ R s => s.heap.get? l = some { cls := .type "tuple", dict := dct, data := .seq items n, slots := sl } ∧
      R (.ok (.ret (.ref (s.heap.push { cls := .type "tuple_iterator", data := .fields #[.ref l, .int 0 0] }).objs.size)))
        { s with heap := (s.heap.push { cls := .type "tuple_iterator", data := .fields #[.ref l, .int 0 0] }).push { cls := .type "enumerate", data := .fields #[.none, .bool false, .ref s.heap.objs.size, rawInt 0, .none, .none] } }) :=
  .of_wp fun prog w A R s h => by
    obtain ⟨hp, g, d, tk, os⟩ := s; obtain ⟨hl, h⟩ := h
    have hsub := sub_enumerate
    have hL : Heap.IsTuple (Shared.heap ⟨hp, g, d, tk, os⟩) l items := ⟨_, hl, rfl, n, rfl⟩
    wp_walk using wpAny_loadPart' hl
    refine wpAny_stack_any fun st => wpAny_pure ?_
    split
    · rename_i c _ _ _ _ _
      cases (c == Value.type "enumerate")
      · wp_walk using wpAny_loadPart' hl, wpAny_pyIter_tuple hL
        exact ⟨_, rfl, h⟩
      · wp_walk using wpAny_loadPart' hl, wpAny_pyIter_tuple hL
        exact ⟨_, rfl, h⟩
    · wp_walk using wpAny_loadPart' hl, wpAny_pyIter_tuple hL
      exact ⟨_, rfl, h⟩
theorem call_enumT {prog : Program} {w : World} {A : Around} {E : Value → Shared → Prop} {s : Shared} {l : Addr} {items : Array Value} {Q : Value → Shared → Prop} (hL : s.heap.IsTuple l items)
    (h : ∀ h', IsEnum h' (s.heap.objs.size + 1) s.heap.objs.size 0 .none → h'.IsTupleIter s.heap.objs.size l 0 → h'.objs.size = s.heap.objs.size + 2 →
      (∀ b o, s.heap.get? b = some o → h'.get? b = some o) → Q (.ref (s.heap.objs.size + 1)) { s with heap := h' }) :
    wpAny (model prog w) A (call (.type "enumerate") [.ref l]) Q E s := by
  obtain ⟨⟨c, dct, dt, sl⟩, hl, hc, n, hd⟩ := hL
  replace hc : c = .type "tuple" := hc
  replace hd : dt = .seq items n := hd
  subst hc hd
  refine callType_new F.called_enumerate (by decide) (F.typeCall_enumerate_1 _) (F.newCall_enumerate_1 _) (fun obj => F.args_object_init_2 obj _) F.entry_enumerate_new
    (enum_newT l items n dct sl) ⟨hl, ?_⟩
  have hz : (s.heap.push { cls := .type "tuple_iterator", data := .fields #[.ref l, .int 0 0] }).objs.size = s.heap.objs.size + 1 := Heap.size_push ..
  show _ ∧ _
  rw [hz]
  have he : IsEnum ((s.heap.push { cls := .type "tuple_iterator", data := .fields #[.ref l, .int 0 0] }).push
      { cls := .type "enumerate", data := .fields #[.none, .bool false, .ref s.heap.objs.size, rawInt 0, .none, .none] }) (s.heap.objs.size + 1) s.heap.objs.size 0 .none := by
    have := Heap.get?_push_size (s.heap.push { cls := .type "tuple_iterator", data := .fields #[.ref l, .int 0 0] })
      (o := { cls := .type "enumerate", data := .fields #[.none, .bool false, .ref s.heap.objs.size, rawInt 0, .none, .none] }) rfl
    rw [hz] at this; exact this
  refine ⟨⟨_, he, rfl⟩, h _ he ⟨_, Heap.get?_push_of_some _ (Heap.get?_push_size _ rfl), rfl, rfl⟩ (by rw [Heap.size_push, hz]) fun b o x => Heap.get?_push_of_some _ (Heap.get?_push_of_some _ x)⟩
theorem enum_endT {prog : Program} {w : World} {A : Around} {E : Value → Shared → Prop} {s : Shared} {e it l : Addr} {i : Nat} {items : Array Value} {old : Value} {Q : Option Value → Shared → Prop} (hh : A.handled = none)
    (he : IsEnum s.heap e it i old) (hit : s.heap.IsTupleIter it l i) (hl : s.heap.IsTuple l items) (hx : items[i]? = none)
    (hQ : ∀ h', Heap.ExtBut it s.heap h' → Q none { s with heap := h' }) : wpAny (model prog w) A (pyNext (.ref e)) Q E s := by
  have hT : s.TypeIs (.ref e) "enumerate" := ⟨_, he, rfl⟩
  unfold pyNext
  refine wpAny_bind (wpAny_attempt (wpAny_callSpecial?_slot (name := Str.ofString "__next__") hT PySem.F.slot_enumerate_next
    (wpAny_call_entry PySem.F.slot_enumerate_next hT PySem.F.entry_enumerate_next ?_ (PySem.F.args_enumerate_next_1 _))))
  show wpAny _ _ (field (.ref e) 2 >>= _) _ _ _
  refine wpAny_bind (wpAny_field he rfl (x := .ref it) rfl ?_)
  refine wpAny_bind (wpAny_nextOf_tuple_end hh hit hl hx fun h' x he' hx' => ?_)
  obtain ⟨o, ho, hc⟩ := hx'
  refine wpAny_bind (wpAny_isInstance (T := "StopIteration") (b := true) ⟨o, ho, hc⟩ isSubtype_stop ?_)
  exact wpAny_pure (hQ _ he')
/-- the tuple at a, each item in a new pair -/
def IteT (K : PySem.W.Frag) (a : Addr) : It :=
  ⟨fun i H => ∃ (xs : List V) (x : V), SqT K H a xs ∧ xs[i]? = some x, fun i H v H' => ∃ T x, v = .ref T ∧ H T = none ∧ H' = upd H T (.tup [.int (i : Nat), x]) ∧ ∀ xs, SqT K H a xs → xs[i]? = some x, fun i H => ∃ xs : List V, SqT K H a xs ∧ xs.length ≤ i⟩
theorem turn_enumT {P : Program} {w : World} {K : PySem.W.Frag} {elts : List Expr} {kk : Nat} {tpos : Pos} (a e it : Addr) (hae : a ≠ it) (hae2 : e ≠ a) :
    Turn P w K (.Tuple elts kk tpos) (IteT K a) [e, it] e (fun i h => (∃ old, IsEnum h e it ((i : Nat) : Int) old) ∧ h.IsTupleIter it a i ∧ e ≠ it) where
  mem := by simp
  obj := fun i h st b hb => by
    obtain ⟨⟨old, he⟩, ⟨o, ho, hc, hd⟩, _⟩ := st
    have e' : b = e ∨ b = it := by simpa using hb
    rcases e' with z | z
    · rw [z]; exact ⟨_, he, fun v q => nomatch q⟩
    · rw [z]; exact ⟨o, ho, fun v q => by rw [hd] at q; cases q⟩
  keep := fun i h h' st k => let ⟨⟨old, he⟩, hi, hne⟩ := st; ⟨⟨old, k e (by simp) _ he⟩, hi.at fun o q => k it (by simp) o q, hne⟩
  item := by
    intro X hP hw hK hc i pins s σ H E I hf st hg
    subst hP hw hK
    obtain ⟨⟨old, he⟩, hit, hne⟩ := st
    obtain ⟨xs, x, hq, hx⟩ := hg
    obtain ⟨its, rv, p, hz⟩ := I.tuple hq
    obtain ⟨u, hu, ru⟩ := rv.get hx
    have hel : e < s.heap.objs.size := Heap.lt_size he
    have hil : it < s.heap.objs.size := by obtain ⟨_, q, _⟩ := hit; exact Heap.lt_size q
    have hlt : i < its.toArray.size := by
      have := (List.getElem?_eq_some_iff.mp hu).1
      simpa using this
    refine wpAny_pyNext_enum_itemD (Draws.tuple (prog := X.prog) (w := X.w) (A := X.A.in1) (by first | exact I.ok.hd hc | rfl) it a hae its.toArray) he ⟨hit, p⟩ hlt hne (by simp [hne, hae2]) fun x1 h' tk hx1 ho hst' hT hsz hk => ?_
    have ex1 : x1 = u := by
      have h1 : its[i]? = some x1 := by simpa using hx1
      rw [hu] at h1
      exact (Option.some.inj h1).symm
    subst ex1
    obtain ⟨hit', hp'⟩ := hst'
    refine ⟨_, rfl, wpAny_letOwnedTupleGo_enum (s := { s with heap := h', toks := tk + 1 }) ho fun h'' he' sb => ?_⟩
    have hT2 : h''.get? s.heap.objs.size = some { cls := .type "tuple", data := .seq #[.int i tk, x1] } := (sb.2 _ (Nat.ne_of_gt hel)).trans hT
    have new : ObjOk X.prog X.w (upd H s.heap.objs.size (.tup [.int (i : Nat), x])) h'' s.heap.objs.size (.tup [.int (i : Nat), x]) :=
      ⟨by show 2 ≤ sizeLine; decide, [.int i tk, x1], .cons ⟨_, rfl⟩ (.cons ru .nil), ⟨_, hT2, rfl, _, rfl⟩⟩
    have I1 : Inv X pins σ (upd H s.heap.objs.size (.tup [.int (i : Nat), x])) { s with heap := h'', toks := tk + 1 } :=
      I.turnedNew (ch := [e, it]) (fun b ob hb q => (sb.2 b (fun z => hb (by simp [z]))).trans (hk b ob (fun z => hb (by simp [z])) (fun z => hb (by simp [z])) q)) hf (Nat.le_refl _) new
    refine ⟨.ref s.heap.objs.size, _, I1, rfl, ⟨_, x, rfl, I.hok.fresh (Nat.le_refl _), rfl, fun ys hy => by rw [I.tuple_inj hy hq]; exact hx⟩, ⟨⟨x1, ?_⟩, hit'.at fun o q => (sb.2 it (Ne.symm hne)).trans q, hne⟩, fun b hb => ?_⟩
    · have e1 : ((i + 1 : Nat) : Int) = (i : Int) + 1 := by omega
      rw [e1]; exact he'
    · have hb' : b < s.heap.objs.size := by
        have e' : b = e ∨ b = it := by simpa using hb
        rcases e' with z | z
        · rw [z]; exact hel
        · rw [z]; exact hil
      rw [upd_ne (Nat.ne_of_lt hb')]
      exact (hf b hb).1
  done := by
    intro X hP hw hK hc i pins s σ H E I hf st hg
    subst hP hw hK
    obtain ⟨⟨old, he⟩, hit, hne⟩ := st
    obtain ⟨xs, hq, hx⟩ := hg
    obtain ⟨its, rv, p, hz⟩ := I.tuple hq
    obtain ⟨f0, f1, f2, f3, f4, f5⟩ := hf it (by simp)
    have hl := rv.length
    exact enum_endT (I.ok.hd hc) he hit p (by simp; omega) fun h' eb => ⟨rfl, I.turned (t' := s.toks) (fun b o hb q => eb b o hb q) f0 f1 f3 f4 f5⟩
  self := fun A i s Q E st h => let ⟨⟨_, he⟩, _⟩ := st; wpAny_pyIter_enum he h

def iEnumA (K : PySem.W.Frag) (ta : TA) : TI := fun σ H R => ta σ H fun vs H1 => ∃ a xs, vs = [.ref a] ∧ ((SqL K H1 a xs ∧ R (L2.Ite K a) H1) ∨ (SqT K H1 a xs ∧ R (IteT K a) H1))
theorem pi_enumA {X : Cx} {e : Expr} {ta : TA} {p pos tpos : Pos} {elts : List Expr} {kk : Nat} (hg : Gl X "enumerate") (hm : X.mg "enumerate" = none) (ha : PA X [e] ta) (hs : starEach [e] X.env = [(false, eval e X.env)]) :
    PI X (.Tuple elts kk tpos) (.Call (.Name "enumerate" p) [e] [] pos) (iEnumA X.K ta) := by
  refine ⟨fun pins s σ H R I h => ?_⟩
  refine Call_ (ld_blt I hg hm boot_enumerate (PyProof.Rows.callWith_type1 (thn (ha.run pos pins s σ H _ I h) fun us s1 ⟨vs, H1, I1, r1, q1⟩ => ?_) hs rfl))
  obtain ⟨a, xs, ex, q1⟩ := q1
  subst ex
  have fresh2 : ∀ b, b ∈ [s1.heap.objs.size + 1, s1.heap.objs.size] → FpOk X pins H1 b := fun b hb => by
    have e' : b = s1.heap.objs.size + 1 ∨ b = s1.heap.objs.size := by simpa using hb
    have hle : s1.heap.objs.size ≤ b := by
      rcases e' with z | z
      · rw [z]; exact Nat.le_add_right _ _
      · rw [z]; exact Nat.le_refl _
    exact I1.fpOk hle (I1.hok.fresh hle)
  cases r1 with
  | cons r rr =>
    cases rr
    cases r
    rcases q1 with ⟨hq, q⟩ | ⟨hq, q⟩
    · obtain ⟨its, rv, p', hz⟩ := I1.list hq
      refine call_enumerate_list p'.isList fun h' he hit hsz hk => wpAny_pyIter_enum he ?_
      have I2 : Inv X pins σ H1 { s1 with heap := h' } := I1.kept (t' := s1.toks) hk
      exact ⟨s1.heap.objs.size + 1, [s1.heap.objs.size + 1, s1.heap.objs.size], _, _, H1, rfl, I2, turn_enum a (s1.heap.objs.size + 1) s1.heap.objs.size, ⟨⟨.none, he⟩, hit, Nat.succ_ne_self _⟩, fresh2, q⟩
    · obtain ⟨its, rv, p', hz⟩ := I1.tuple hq
      obtain ⟨ot, hot, _⟩ := id p'
      have hlt : a < s1.heap.objs.size := Heap.lt_size hot
      refine call_enumT p' fun h' he hit hsz hk => wpAny_pyIter_enum he ?_
      have I2 : Inv X pins σ H1 { s1 with heap := h' } := I1.kept (t' := s1.toks) hk
      exact ⟨s1.heap.objs.size + 1, [s1.heap.objs.size + 1, s1.heap.objs.size], _, _, H1, rfl, I2, turn_enumT a (s1.heap.objs.size + 1) s1.heap.objs.size (Nat.ne_of_lt hlt) (Nat.ne_of_gt (Nat.lt_succ_of_lt hlt)), ⟨⟨.none, he⟩, hit, Nat.succ_ne_self _⟩, fresh2, q⟩
def enuD : Nat → List D → List D
  | _, [] => []
  | k, d :: ds => .tuple [.int (k : Nat), d] :: enuD (k + 1) ds
theorem enuD_len : ∀ (k : Nat) (ds : List D), (enuD k ds).length = ds.length
  | _, [] => rfl
  | k, d :: ds => by rw [enuD, List.length_cons, enuD_len, List.length_cons]
theorem enuD_get : ∀ (k : Nat) {ds : List D} {i : Nat} {d : D}, ds[i]? = some d → (enuD k ds)[i]? = some (.tuple [.int ((k + i : Nat) : Int), d])
  | k, d :: ds, 0, _, h => by cases h; rfl
  | k, d :: ds, i + 1, e, h => by
    show (enuD (k + 1) ds)[i]? = _
    rw [enuD_get (k + 1) (by simpa using h)]
    congr 4
    omega
def iEn (fs : Fe (List D)) : Fe (List D) := fun env n => match fs env n with
  | some ([.tuple xs], n1) => some (enuD 0 xs, n1)
  | some ([.list xs], n1) => some (enuD 0 xs, n1)
  | _ => none
theorem wk_enumT {K : PySem.W.Frag} {ω : Wd} {H1 : Hp} {a : Addr} {xs : List V} {ds : List D} (h : H1 a = some (.tup xs)) (l : ds.length ≤ sizeLine) (r : RpL K ω H1 xs ds) : Wk K ω (IteT K a) (enuD 0 ds) H1 := by
  refine ⟨by rw [enuD_len]; exact l, fun ω' H m c => ⟨fun i hi => ?_, ?_⟩⟩
  · rw [enuD_len] at hi
    have h2 := m.tup a _ h
    have r2 : RpL K ω' H xs ds := r.mv m
    obtain ⟨v, hv, rv⟩ := r2.get (List.getElem?_eq_getElem hi)
    refine ⟨⟨xs, v, SqT.of h2, hv⟩, fun x H' y => ?_⟩
    obtain ⟨p, x1, rfl, hp, rfl, f1⟩ := y
    have e1 := f1 xs (SqT.of h2)
    rw [hv] at e1
    cases e1
    obtain ⟨s, q⟩ := rp_pair (x := .int (i : Nat)) (a := .int (i : Nat)) c hp (.int _) rv
    refine ⟨s, _, enuD_get 0 (List.getElem?_eq_getElem hi), ?_⟩
    rw [Nat.zero_add]
    exact q
  · have h2 := m.tup a _ h
    exact ⟨xs, SqT.of h2, by rw [enuD_len, r.length]; exact Nat.le_refl _⟩
theorem wk_enumL {K : PySem.W.Frag} {ω : Wd} {H1 : Hp} {a : Addr} {xs : List V} {ds : List D} (h : H1 a = some (.lst xs)) (n : ¬ ω.T a) (l : ds.length ≤ sizeLine) (r : RpL K ω H1 xs ds) : Wk K ω (L2.Ite K a) (enuD 0 ds) H1 := by
  refine ⟨by rw [enuD_len]; exact l, fun ω' H m c => ⟨fun i hi => ?_, ?_⟩⟩
  · rw [enuD_len] at hi
    obtain ⟨h2, n2⟩ := m.mv a _ n h
    have r2 : RpL K ω' H xs ds := r.mv m
    obtain ⟨v, hv, rv⟩ := r2.get (List.getElem?_eq_getElem hi)
    refine ⟨⟨xs, v, SqL.of h2, hv⟩, fun x H' y => ?_⟩
    obtain ⟨p, x1, rfl, hp, rfl, f1⟩ := y
    have e1 := f1 xs (SqL.of h2)
    rw [hv] at e1
    cases e1
    obtain ⟨s, q⟩ := rp_pair (x := .int (i : Nat)) (a := .int (i : Nat)) c hp (.int _) rv
    refine ⟨s, _, enuD_get 0 (List.getElem?_eq_getElem hi), ?_⟩
    rw [Nat.zero_add]
    exact q
  · obtain ⟨h2, n2⟩ := m.mv a _ n h
    exact ⟨xs, SqL.of h2, by rw [enuD_len, r.length]; exact Nat.le_refl _⟩
theorem mi_enum {X : Cx} {e : Expr} {fs : Fe (List D)} {p pos tpos : Pos} {elts : List Expr} {kk : Nat} (hg : Gl X "enumerate") (hm : X.mg "enumerate" = none) (ha : MA X [e] fs) (hs : starEach [e] X.env = [(false, eval e X.env)]) :
    MI X (.Tuple elts kk tpos) (.Call (.Name "enumerate" p) [e] [] pos) (iEn fs) := by
  refine pi_imp (pi_enumA hg hm ha hs) fun σ H R q => ?_
  obtain ⟨ω, env, n, ds, n', RR, t, e, k⟩ := q
  unfold iEn at e
  split at e
  · rename_i xs n1 h1
    cases e
    refine tMA_run RR t h1 fun v ω1 H1 k1 R1 t1 r1 => ?_
    obtain ⟨u, rfl, r2⟩ := rpl1 r1
    cases r2 with
    | tup g1 l1 q1 => exact ⟨_, _, rfl, .inr ⟨SqT.of g1, k _ ω1 H1 k1 t1 (wk_enumT g1 l1 q1)⟩⟩
  · rename_i xs n1 h1
    cases e
    refine tMA_run RR t h1 fun v ω1 H1 k1 R1 t1 r1 => ?_
    obtain ⟨u, rfl, r2⟩ := rpl1 r1
    cases r2 with
    | lst g1 m1 l1 q1 => exact ⟨_, _, rfl, .inl ⟨SqL.of g1, k _ ω1 H1 k1 t1 (wk_enumL g1 m1 l1 q1)⟩⟩
  · cases e
theorem kenum {X : Cx} {e : Expr} {fs : Fe (List D)} {p pos tpos : Pos} {elts : List Expr} {kk : Nat} (hm : X.mg "enumerate" = none) (ha : MA X [e] fs) (hg : X.env.kindOf "enumerate" = some .globalImplicit := by kernel_rfl)
    (hs : starEach [e] X.env = [(false, eval e X.env)] := by kernel_rfl) : MI X (.Tuple elts kk tpos) (.Call (.Name "enumerate" p) [e] [] pos) (iEn fs) := mi_enum hg hm ha hs

/-! ### list(enumerate(t)), t a tuple -/
section
variable {prog : Program} {w : World} {A : Around} {E : Value → Shared → Prop} {s : Shared}
theorem enum_heldT {e it l T : Addr} {i : Nat} {items : Array Value} {x old : Value} {f : Bool} {oT : Obj} {Q : Option Value → Shared → Prop}
    (he : IsEnumHeld s.heap e it i old T f) (hT : s.heap.get? T = some oT) (hTe : T ≠ e) (hTi : T ≠ it) (hit : s.heap.IsTupleIter it l i) (hl : s.heap.IsTuple l items) (hx : items[i]? = some x) (hne : e ≠ it)
    (hQ : ∀ h', IsEnumHeld h' e it ((i : Int) + 1) old T true → h'.IsTupleIter it l (i + 1) →
      h'.get? s.heap.objs.size = some { cls := .type "tuple", data := .seq #[.int i s.toks, x] } → h'.objs.size = s.heap.objs.size + 1 →
      (∀ b o, b ≠ e → b ≠ it → s.heap.get? b = some o → h'.get? b = some o) → Q (some (.ref s.heap.objs.size)) { s with heap := h', toks := s.toks + 1 }) :
    wpAny (model prog w) A (pyNext (.ref e)) Q E s := by
  have hTy : s.TypeIs (.ref e) "enumerate" := ⟨_, he, rfl⟩
  unfold pyNext
  refine wpAny_bind (wpAny_attempt (wpAny_callSpecial?_slot (name := Str.ofString "__next__") hTy PySem.F.slot_enumerate_next
    (wpAny_call_entry PySem.F.slot_enumerate_next hTy PySem.F.entry_enumerate_next ?_ (PySem.F.args_enumerate_next_1 _))))
  obtain ⟨hp, g, d, tk, os⟩ := s
  show wpAny _ _ (field (.ref e) 2 >>= _) _ _ _
  refine wpAny_bind (wpAny_field he rfl (x := .ref it) rfl ?_)
  refine wpAny_bind (wpAny_nextOf_tuple_item hit hl hx fun h₁ hit₁ hs₁ => ?_)
  replace hs₁ : Heap.SameBut it hp h₁ := hs₁
  have he₁ : IsEnumHeld h₁ e it i old T f := (hs₁.2 e hne).trans he
  show wpAny _ _ (field (.ref e) 3 >>= _) _ _ ⟨h₁, g, d, tk, os⟩
  refine wpAny_bind (wpAny_field he₁ rfl (x := rawInt i) rfl ?_)
  show wpAny _ _ (field (.ref e) 4 >>= _) _ _ ⟨h₁, g, d, tk, os⟩
  refine wpAny_bind (wpAny_field he₁ rfl (x := .none) rfl ?_)
  show wpAny _ _ (mkInt i >>= _) _ _ ⟨h₁, g, d, tk, os⟩
  refine wpAny_bind (wpAny_mkInt ?_)
  show wpAny _ _ (setField (.ref e) 3 (rawInt ((i : Int) + 1)) >>= _) _ _ ⟨h₁, g, d, tk + 1, os⟩
  refine wpAny_bind (wpAny_setField_rec he₁ (by simp) fun h₂ he₂ hs₂ => ?_)
  replace hs₂ : Heap.SameBut e h₁ h₂ := hs₂
  replace he₂ : IsEnumHeld h₂ e it ((i : Int) + 1) old T f := he₂
  show wpAny _ _ (setField (.ref e) 4 .none >>= _) _ _ ⟨h₂, g, d, tk + 1, os⟩
  refine wpAny_bind (wpAny_setField_rec he₂ (by simp) fun h₃ he₃ hs₃ => ?_)
  replace hs₃ : Heap.SameBut e h₂ h₃ := hs₃
  replace he₃ : IsEnumHeld h₃ e it ((i : Int) + 1) old T f := he₃
  show wpAny _ _ (newTuple [.int i tk, x] >>= _) _ _ ⟨h₃, g, d, tk + 1, os⟩
  refine wpAny_bind (wpAny_newTuple ?_)
  have he₄ : IsEnumHeld (h₃.push { cls := .type "tuple", data := .seq #[.int i tk, x] }) e it ((i : Int) + 1) old T f := Heap.get?_push_of_some _ he₃
  generalize hh₄ : h₃.push { cls := .type "tuple", data := .seq #[.int i tk, x] } = h₄ at he₄
  have hsz : h₃.objs.size = hp.objs.size := by rw [hs₃.1, hs₂.1, hs₁.1]
  have hel : e < hp.objs.size := Heap.lt_size he
  have ht₄ : h₄.get? hp.objs.size = some { cls := .type "tuple", data := .seq #[.int i tk, x] } := by rw [← hh₄, ← hsz]; exact Heap.get?_push_size _ rfl
  have hz₄ : h₄.objs.size = hp.objs.size + 1 := by rw [← hh₄, Heap.size_push, hsz]
  have hk₄ : ∀ b o, b ≠ e → b ≠ it → hp.get? b = some o → h₄.get? b = some o := fun b o hbe hbi hb => by
    rw [← hh₄]; exact Heap.get?_push_of_some _ (hs₃.extBut b o hbe (hs₂.extBut b o hbe (hs₁.extBut b o hbi hb)))
  have hit₄ : h₄.IsTupleIter it l (i + 1) := by
    rw [← hh₄]
    exact hit₁.at fun o q => Heap.get?_push_of_some _ (hs₃.extBut it o (Ne.symm hne) (hs₂.extBut it o (Ne.symm hne) q))
  show wpAny _ _ (Builtin.SmallTypes.ownedTupleIsFree (.ref e) >>= _) _ _ ⟨h₄, g, d, tk + 1, os⟩
  rw [hsz]
  clear hh₄ he₃ hs₃ he₂ hs₂ he₁ hs₁ hit₁ hsz h₃ h₂ h₁
  refine wpAny_bind (wpAny_tupleHeld_enum (s := ⟨h₄, g, d, tk + 1, os⟩) he₄ (hk₄ T oT hTe hTi hT) fun h₅ he₅ hs₅ => ?_)
  replace hs₅ : Heap.SameBut e h₄ h₅ := hs₅
  simp only [Bool.false_eq_true, if_false]
  refine wpAny_pure ⟨_, rfl, wpAny_pure (hQ h₅ he₅ (hit₄.at fun o q => hs₅.extBut it o (Ne.symm hne) q) (hs₅.extBut _ _ (Nat.ne_of_gt hel) ht₄) ?_ fun b o hbe hbi hb => hs₅.extBut b o hbe (hk₄ b o hbe hbi hb))⟩
  show h₅.objs.size = hp.objs.size + 1
  rw [hs₅.1, hz₄]
theorem enum_endHeldT {e it l T : Addr} {i : Nat} {items : Array Value} {old : Value} {f : Bool} {Q : Option Value → Shared → Prop} (hh : A.handled = none)
    (he : IsEnumHeld s.heap e it i old T f) (hit : s.heap.IsTupleIter it l i) (hl : s.heap.IsTuple l items) (hx : items[i]? = none)
    (hQ : ∀ h', Heap.ExtBut it s.heap h' → Q none { s with heap := h' }) : wpAny (model prog w) A (pyNext (.ref e)) Q E s := by
  have hTy : s.TypeIs (.ref e) "enumerate" := ⟨_, he, rfl⟩
  unfold pyNext
  refine wpAny_bind (wpAny_attempt (wpAny_callSpecial?_slot (name := Str.ofString "__next__") hTy PySem.F.slot_enumerate_next
    (wpAny_call_entry PySem.F.slot_enumerate_next hTy PySem.F.entry_enumerate_next ?_ (PySem.F.args_enumerate_next_1 _))))
  show wpAny _ _ (field (.ref e) 2 >>= _) _ _ _
  refine wpAny_bind (wpAny_field he rfl (x := .ref it) rfl ?_)
  refine wpAny_bind (wpAny_nextOf_tuple_end hh hit hl hx fun h' x he' hx' => ?_)
  obtain ⟨o, ho, hc⟩ := hx'
  refine wpAny_bind (wpAny_isInstance (T := "StopIteration") (b := true) ⟨o, ho, hc⟩ isSubtype_stop ?_)
  exact wpAny_pure (hQ _ he')
theorem ne_lo {b x : Addr} {lo : Nat} (h1 : x < lo) (h2 : lo ≤ b) : b ≠ x := Nat.ne_of_gt (Nat.lt_of_lt_of_le h1 h2)
/-- the iterator's state, beside the list S that is filled -/
def EnSt (h : Heap) (e it a S : Addr) (i : Nat) : Prop := h.IsTupleIter it a i ∧ ((∃ old, IsEnum h e it ((i : Nat) : Int) old) ∨ ∃ old T f oT, IsEnumHeld h e it ((i : Nat) : Int) old T f ∧ h.get? T = some oT ∧ T ≠ e ∧ T ≠ it ∧ T ≠ S)
/-- the pairs that were made -/
structure EnG (items : Array Value) (lo : Nat) (h : Heap) (as : List Addr) : Prop where
  rise : as.Pairwise (· < ·)
  above : ∀ a ∈ as, lo ≤ a
  pairs : ∀ (j : Nat) (a : Addr), as[j]? = some a → ∃ (t : Tok) (x : Value), items[j]? = some x ∧ h.get? a = some { cls := .type "tuple", data := .seq #[.int (j : Nat) t, x] }
theorem EnG.there {items : Array Value} {lo : Nat} {h : Heap} {as : List Addr} (g : EnG items lo h as) {a : Addr} (ha : a ∈ as) : a < h.objs.size := by
  obtain ⟨j, hj⟩ := List.mem_iff_getElem?.mp ha
  obtain ⟨_, _, _, e⟩ := g.pairs j a hj
  exact Heap.lt_size e
theorem enl_loop {R : Result → Shared → Prop} {S e it a : Addr} {items : Array Value} (hh : A.handled = none) (hSe : S ≠ e) (hSi : S ≠ it) (hSa : S ≠ a) (hei : e ≠ it) (hea : e ≠ a) (hia : it ≠ a) (hn : items.size ≤ sizeLine) (res : Value) {h₁ : Heap} (lo : Nat) (hlo : S < lo) (hloe : e < lo) (hloi : it < lo)
    (hR : ∀ h' tk acc c as, (∀ b o, b ≠ S → b ≠ e → b ≠ it → h₁.get? b = some o → h'.get? b = some o) → h'.get? S = some { cls := .type "list", dict := none, data := .seq acc c, slots := #[] } → as.length = items.size → EnG items lo h' as →
      acc.toList = as.map Value.ref → R (.ok (.ret res)) { s with heap := h', toks := tk }) :
    ∀ (k i : Nat) (h : Heap) (tk c : Nat) (acc : Array Value) (as : List Addr), items.size - i = k → i ≤ items.size → EnSt h e it a S i → h.IsTuple a items → (∀ b o, b ≠ S → b ≠ e → b ≠ it → h₁.get? b = some o → h.get? b = some o) →
      h.get? S = some { cls := .type "list", dict := none, data := .seq acc c, slots := #[] } → acc.toList = as.map Value.ref → as.length = i → EnG items lo h as → lo ≤ h.objs.size →
      codeAny (model prog w) A (.builtin "list.extend.loop" ⟨[.ref S, .ref e, res], []⟩) R { s with heap := h, toks := tk } := by
  intro k
  induction k with
  | zero =>
    intro i h tk c acc as hk hi hst hD hkeep hS hacc hal hG hIs
    have hin : i = items.size := by omega
    refine codeAny_builtin PySem.F.entry_extend_loop ?_
    rw [Around.under_plainId PySem.F.plain_extend_loop _]
    show wpAny _ A.in1 (pyNext (.ref e) >>= _) _ _ _
    have hx : items[i]? = none := by rw [hin]; simp
    have fin : ∀ h', Heap.ExtBut it h h' → R (.ok (.ret res)) { s with heap := h', toks := tk } := fun h' eb => by
      refine hR h' tk acc c as (fun b o h1 h2 h3 q => eb b o h3 (hkeep b o h1 h2 h3 q)) (eb S _ hSi hS) (by omega) ⟨hG.rise, hG.above, fun j b hj => ?_⟩ hacc
      obtain ⟨t, x, e1, e2⟩ := hG.pairs j b hj
      have := hG.above b (List.mem_of_getElem? hj)
      exact ⟨t, x, e1, eb b _ (ne_lo hloi this) e2⟩
    obtain ⟨hit, ⟨old, he⟩ | ⟨old, T, f, oT, he, _⟩⟩ := hst
    · exact wpAny_bind (enum_endT (s := { s with heap := h, toks := tk }) (A := A.in1) hh he hit hD hx fun h' eb => wpAny_pure (fin h' eb))
    · exact wpAny_bind (enum_endHeldT (s := { s with heap := h, toks := tk }) (A := A.in1) hh he hit hD hx fun h' eb => wpAny_pure (fin h' eb))
  | succ k ih =>
    intro i h tk c acc as hk hi hst hD hkeep hS hacc hal hG hIs
    have hlt : i < items.size := by omega
    have hx : items[i]? = some items[i] := Array.getElem?_eq_getElem hlt
    have hsz : acc.size = i := by rw [← Array.length_toList, hacc, List.length_map, hal]
    have hSl : S < h.objs.size := Heap.lt_size hS
    refine codeAny_builtin PySem.F.entry_extend_loop ?_
    rw [Around.under_plainId PySem.F.plain_extend_loop _]
    show wpAny _ A.in1 (pyNext (.ref e) >>= _) _ _ _
    -- what follows a turn
    have next : ∀ (h' : Heap) (tk' : Nat) (t : Tok), EnSt h' e it a S (i + 1) → h'.get? h.objs.size = some { cls := .type "tuple", data := .seq #[.int i t, items[i]] } → h'.objs.size = h.objs.size + 1 → (∀ b o, b ≠ e → b ≠ it → h.get? b = some o → h'.get? b = some o) →
        wpAny (model prog w) A.in1 (updateSeq S (·.push (Value.ref h.objs.size)) >>= fun _ => again (.builtin "list.extend.loop" ⟨[.ref S, .ref e, res], []⟩))
          (fun fin s' => match fin with | .done f => R (.ok f) s' | .again c' => c'.quiet = true ∧ codeAny (model prog w) A c' R s') (fun e s' => R (.error e) s') { s with heap := h', toks := tk' } := by
      intro h' tk' t hst' ht hz hkp
      have hS' := hkp S _ hSe hSi hS
      have up : ∀ b o, b ≠ S → h'.get? b = some o → (h'.update S (Obj.mapSeq (·.push (Value.ref h.objs.size)))).get? b = some o := fun b o hb q => (Heap.get?_update_other _ _ (Ne.symm hb)).trans q
      refine wpAny_bind ?_
      refine wpAny_updateSeq hS' rfl (wpAny_pure ⟨plainId_quiet PySem.F.plain_extend_loop _, ih (i + 1) _ tk' _ (acc.push (Value.ref h.objs.size)) (as ++ [h.objs.size]) (by omega) hlt ?_ (hD.at fun o q => up a o (Ne.symm hSa) (hkp a o (Ne.symm hea) (Ne.symm hia) q))
        (fun b o h1 h2 h3 q => up b o h1 (hkp b o h2 h3 (hkeep b o h1 h2 h3 q))) (Heap.get?_update_self _ hS' rfl) (by rw [Array.toList_push, hacc, List.map_append]; rfl) (by rw [List.length_append, hal]; rfl) ⟨?_, ?_, ?_⟩ ?_⟩) (by rw [hsz]; omega) (by show (acc.push (Value.ref h.objs.size)).size ≤ sizeLine + 1; rw [Array.size_push, hsz]; omega)
      · obtain ⟨hit', ⟨old, he⟩ | ⟨old, T, f, oT, he, hT, r1, r2, r3⟩⟩ := hst'
        · exact ⟨hit'.at fun o q => up it o (Ne.symm hSi) q, .inl ⟨old, up e _ (Ne.symm hSe) he⟩⟩
        · exact ⟨hit'.at fun o q => up it o (Ne.symm hSi) q, .inr ⟨old, T, f, oT, up e _ (Ne.symm hSe) he, up T _ r3 hT, r1, r2, r3⟩⟩
      · refine List.pairwise_append.mpr ⟨hG.rise, List.pairwise_singleton _ _, fun x hx y hy => ?_⟩
        rw [List.mem_singleton.mp hy]
        exact hG.there hx
      · intro x hx
        rcases List.mem_append.mp hx with hx | hx
        · exact hG.above x hx
        · rw [List.mem_singleton.mp hx]; exact hIs
      · intro j b hj
        rcases Nat.lt_trichotomy j as.length with h1 | h1 | h1
        · rw [List.getElem?_append_left h1] at hj
          obtain ⟨t', x', e1, e2⟩ := hG.pairs j b hj
          have hb := hG.above b (List.mem_of_getElem? hj)
          exact ⟨t', x', e1, up b _ (ne_lo hlo hb) (hkp b _ (ne_lo hloe hb) (ne_lo hloi hb) e2)⟩
        · have hb : h.objs.size = b := by
            rw [h1] at hj
            simpa using hj
          subst hb
          have e0 : j = i := by omega
          subst e0
          exact ⟨t, items[j], hx, up _ _ (Nat.ne_of_gt hSl) ht⟩
        · have hnone : (as ++ [h.objs.size])[j]? = none := List.getElem?_eq_none (by rw [List.length_append, List.length_singleton]; omega)
          rw [hnone] at hj; cases hj
      · have q : (h'.update S (Obj.mapSeq (·.push (Value.ref h.objs.size)))).get? h.objs.size = _ := up _ _ (Nat.ne_of_gt hSl) ht
        exact Nat.le_trans hIs (Nat.le_of_lt (Heap.lt_size q))
    have ec : ((i + 1 : Nat) : Int) = (i : Int) + 1 := by omega
    obtain ⟨hit, ⟨old, he⟩ | ⟨old, T, f, oT, he, hT, r1, r2, r3⟩⟩ := hst
    · have nit : h.objs.size ≠ it := ne_lo hloi hIs
      have ne : h.objs.size ≠ e := ne_lo hloe hIs
      refine wpAny_bind (wpAny_pyNext_enum_itemD (s := { s with heap := h, toks := tk }) (A := A.in1) (Draws.tuple (prog := prog) (w := w) (A := A.in1.in1) (by first | exact hh | rfl) it a (Ne.symm hia) items) he ⟨hit, hD⟩ hlt hei (by simp [hei, hea]) fun x1 h' tk' hx1 ho hst' hT hsz' hk' => ?_)
      have ex1 : x1 = items[i] := by
        rw [hx] at hx1
        exact (Option.some.inj hx1).symm
      subst ex1
      exact next h' (tk' + 1) tk' ⟨hst'.1, .inr ⟨_, h.objs.size, false, _, (by rw [ec]; exact ho), hT, ne, nit, Nat.ne_of_gt hSl⟩⟩ hT hsz' hk'
    · refine wpAny_bind (enum_heldT (s := { s with heap := h, toks := tk }) (A := A.in1) he hT r1 r2 hit hD hx hei fun h' ho hit' hT' hsz' hk' => ?_)
      exact next h' (tk + 1) tk ⟨hit', .inr ⟨old, T, true, oT, (by rw [ec]; exact ho), hk' T _ r1 r2 hT, r1, r2, r3⟩⟩ hT' hsz' hk'
end

theorem enum_no_len : typeLookup (.type "enumerate") "__len__" = pure none := by rw [typeLookup_type, builtinLookup_eq_fast]; kernel_rfl
theorem enum_no_hint : typeLookup (.type "enumerate") "__length_hint__" = pure none := by rw [typeLookup_type, builtinLookup_eq_fast]; kernel_rfl
section
variable {prog : Program} {w : World} {A : Around} {E : Value → Shared → Prop} {s : Shared}
theorem enl_extend {R : Result → Shared → Prop} {S e it a : Addr} {items : Array Value} (hh : A.handled = none) (hSe : S ≠ e) (hSi : S ≠ it) (hSa : S ≠ a) (hei : e ≠ it) (hea : e ≠ a) (hia : it ≠ a) (hn : items.size ≤ sizeLine) (res : Value) (c₀ : Nat)
    (he : IsEnum s.heap e it 0 .none) (hit : s.heap.IsTupleIter it a 0) (hD : s.heap.IsTuple a items) (hS : s.heap.get? S = some { cls := .type "list", data := .seq #[] c₀ })
    (hR : ∀ h' tk acc c as, (∀ b o, b ≠ S → b ≠ e → b ≠ it → s.heap.get? b = some o → h'.get? b = some o) → h'.get? S = some { cls := .type "list", dict := none, data := .seq acc c, slots := #[] } → as.length = items.size → EnG items s.heap.objs.size h' as →
      acc.toList = as.map Value.ref → R (.ok (.ret res)) { s with heap := h', toks := tk }) :
    wpAny (model prog w) A.in1 (Builtin.List.listExtendWith (.ref S) (.ref e) res)
      (fun fin s' => match fin with | .done f => R (.ok f) s' | .again c' => c'.quiet = true ∧ codeAny (model prog w) A c' R s') (fun e s' => R (.error e) s') s := by
  have hT : s.TypeIs (.ref e) "enumerate" := ⟨_, he, rfl⟩
  have hSl : S < s.heap.objs.size := Heap.lt_size hS
  have hel : e < s.heap.objs.size := Heap.lt_size he
  have hil : it < s.heap.objs.size := by obtain ⟨_, q, _⟩ := hit; exact Heap.lt_size q
  unfold Builtin.List.listExtendWith
  refine wpAny_bind (wpAny_typeOf (T := "enumerate") hT ?_)
  have h1 : Builtin.List.listSameRef (.ref S) (.ref e) = false := by simp [Builtin.List.listSameRef, hSe]
  have h2 : (Value.type "enumerate" == Value.type "list") = false := by decide
  have h3 : (Value.type "enumerate" == Value.type "tuple") = false := by decide
  simp only [h1, h2, h3, Bool.or_false, Bool.false_eq_true, if_false]
  refine wpAny_bind (wpAny_pyIter_enum he ?_)
  refine wpAny_bind (wpAny_holding ?_)
  unfold Builtin.List.listLengthHint
  refine wpAny_bind (wpAny_specialOf hT enum_no_len ?_)
  show wpAny _ A.in1 (specialOf (Value.ref e) (Str.ofString "__length_hint__") >>= _) _ _ _
  refine wpAny_bind (wpAny_specialOf hT enum_no_hint ?_)
  refine wpAny_pure ?_
  show wpAny _ A.in1 (rule "list.extend.makes-room" >>= fun _ => Builtin.List.listTouch (.ref S) >>= fun _ =>
    again (.builtin "list.extend.loop" ⟨[.ref S, .ref e, res], []⟩)) _ _ _
  refine wpAny_bind (wpAny_rule ?_)
  refine wpAny_bind ?_
  show wpAny _ A.in1 (updateSeq S (·.push .none) >>= fun _ => updateSeq S (·.pop)) _ _ _
  refine wpAny_bind (wpAny_updateSeq hS rfl ?_)
  have hS₂ := Heap.get?_update_self (Obj.mapSeq (·.push Value.none)) hS rfl
  refine wpAny_updateSeq (hz := by seq_fits) hS₂ rfl ?_
  have hS₃ := Heap.get?_update_self (Obj.mapSeq (·.pop)) hS₂ rfl
  have oth : ∀ b o, b ≠ S → s.heap.get? b = some o → ((s.heap.update S (Obj.mapSeq (·.push Value.none))).update S (Obj.mapSeq (·.pop))).get? b = some o :=
    fun b o hb q => (Heap.get?_update_other _ _ (Ne.symm hb)).trans ((Heap.get?_update_other _ _ (Ne.symm hb)).trans q)
  refine wpAny_pure ⟨plainId_quiet PySem.F.plain_extend_loop _, enl_loop (h₁ := s.heap) (s := s) hh hSe hSi hSa hei hea hia hn res s.heap.objs.size hSl hel hil hR items.size 0 _ _ _ #[] [] (Nat.sub_zero _) (Nat.zero_le _) ⟨hit.at fun o q => oth it o (Ne.symm hSi) q, .inl ⟨.none, oth e _ (Ne.symm hSe) he⟩⟩ (hD.at fun o q => oth a o (Ne.symm hSa) q) (fun b o hb _ _ q => oth b o hb q) hS₃ rfl rfl ⟨List.Pairwise.nil, (fun _ z => nomatch z), (fun j x z => by simp at z)⟩ (by rw [Heap.size_update, Heap.size_update]; exact Nat.le_refl _)⟩
end

section
variable {prog : Program} {w : World} {A : Around} {E : Value → Shared → Prop} {s : Shared}
theorem enl_call {Q : Value → Shared → Prop} {e it a : Addr} {items : Array Value} (hh : A.handled = none) (hei : e ≠ it) (hea : e ≠ a) (hia : it ≠ a) (hn : items.size ≤ sizeLine) (he : IsEnum s.heap e it 0 .none) (hit : s.heap.IsTupleIter it a 0) (hD : s.heap.IsTuple a items)
    (hQ : ∀ h' tk acc c as, (∀ b o, b ≠ e → b ≠ it → s.heap.get? b = some o → h'.get? b = some o) → h'.get? s.heap.objs.size = some { cls := .type "list", dict := none, data := .seq acc c, slots := #[] } → as.length = items.size → EnG items (s.heap.objs.size + 1) h' as →
      acc.toList = as.map Value.ref → Q (.ref s.heap.objs.size) { s with heap := h', toks := tk }) :
    wpAny (model prog w) A (call (.type "list") [.ref e]) Q E s := by
  refine callType_codes (Q₁ := fun obj s₁ => obj = .ref s.heap.objs.size ∧ s₁ = { s with heap := s.heap.push { cls := .type "list", data := .seq #[] } }) PySem.F.called_list (PySem.F.typeCall_list_1 _) PySem.F.entry_list_init
    (code_list_new _ ⟨rfl, rfl⟩) fun obj s₁ h₁ => ?_
  obtain ⟨rfl, rfl⟩ := h₁
  have hS : (s.heap.push { cls := .type "list", data := .seq #[] }).get? s.heap.objs.size = some { cls := .type "list", data := .seq #[] } := Heap.get?_push_size _ rfl
  have hel : e < s.heap.objs.size := Heap.lt_size he
  have hil : it < s.heap.objs.size := by obtain ⟨_, q, _⟩ := hit; exact Heap.lt_size q
  have hal : a < s.heap.objs.size := by obtain ⟨_, q, _⟩ := hD; exact Heap.lt_size q
  refine ⟨⟨_, hS, rfl⟩, PySem.F.args_list_init_2 _ _, ?_⟩
  show wpAny _ A.in1.in1 (do let old ← Builtin.List.listItems (.ref s.heap.objs.size); Builtin.List.listUpdate (.ref s.heap.objs.size) (fun _ => #[]); letGo old.toList.reverse; Builtin.List.listExtendWith (.ref s.heap.objs.size) (.ref e) .none) _ _ _
  refine wpAny_bind ?_
  unfold Builtin.List.listItems
  refine wpAny_bind (wpAny_seqItems hS rfl (wpAny_pure ?_))
  show wpAny _ _ (updateSeq s.heap.objs.size (fun _ => #[]) >>= fun _ => letGo (#[] : Array Value).toList.reverse >>= fun _ => Builtin.List.listExtendWith (.ref s.heap.objs.size) (.ref e) .none) _ _ _
  refine wpAny_bind (wpAny_updateSeq hS rfl ?_)
  have hS₂ := Heap.get?_update_self (Obj.mapSeq (fun _ => (#[] : Array Value))) hS rfl
  have oth : ∀ b o, b ≠ s.heap.objs.size → (s.heap.push { cls := .type "list", data := .seq #[] }).get? b = some o → ((s.heap.push { cls := .type "list", data := .seq #[] }).update s.heap.objs.size (Obj.mapSeq (fun _ => (#[] : Array Value)))).get? b = some o :=
    fun b o hb q => (Heap.get?_update_other _ _ (Ne.symm hb)).trans q
  have keep : ∀ b o, s.heap.get? b = some o → ((s.heap.push { cls := .type "list", data := .seq #[] }).update s.heap.objs.size (Obj.mapSeq (fun _ => (#[] : Array Value)))).get? b = some o := fun b o q => oth b o (Nat.ne_of_lt (Heap.lt_size q)) (Heap.get?_push_of_some _ q)
  refine wpAny_bind (wpAny_letGo ?_)
  refine enl_extend (A := A.in1) (s := { s with heap := (s.heap.push { cls := .type "list", data := .seq #[] }).update s.heap.objs.size (Obj.mapSeq (fun _ => (#[] : Array Value))) }) hh (Nat.ne_of_gt hel) (Nat.ne_of_gt hil) (Nat.ne_of_gt hal) hei hea hia hn .none _ (keep e _ he) (hit.at fun o q => keep it o q) (hD.at fun o q => keep a o q) hS₂ fun h' tk acc c as hk hS' hl hG hacc => ?_
  refine ⟨rfl, hQ h' tk acc c as (fun b o h2 h3 q => hk b o (Nat.ne_of_lt (Heap.lt_size q)) h2 h3 (keep b o q)) hS' hl ?_ hacc⟩
  rw [show ({ s with heap := (s.heap.push { cls := .type "list", data := .seq #[] }).update s.heap.objs.size (Obj.mapSeq (fun _ => (#[] : Array Value))) } : Shared).heap.objs.size = s.heap.objs.size + 1 from by rw [Heap.size_update, Heap.size_push]] at hG
  exact hG
end
/-- list(enumerate(t)): a new list of new pairs -/
def tEnuL (K : PySem.W.Frag) (ta : TE) : TE := fun σ H Q => ta σ H fun x H1 => ∃ (a : Addr) (xs : List V), x = .ref a ∧ SqT K H1 a xs ∧ ∀ (H' : Hp) (l : Addr) (as : List Addr), Same H1 H' → H1 l = none → as.length = xs.length →
  (∀ (j : Nat) (b : Addr), as[j]? = some b → H1 b = none ∧ ∃ y, xs[j]? = some y ∧ H' b = some (.tup [.int (j : Nat), y])) → H' l = some (.lst (as.map V.ref)) → Q (.ref l) H'
theorem vals_refs : ∀ (as : List Addr), Vals (as.map V.ref) (as.map Value.ref)
  | [] => .nil
  | a :: as => .cons rfl (vals_refs as)
theorem pe_enuL {X : Cx} {x : Expr} {ta : TE} {p p2 q pos : Pos} (hg : Gl X "list") (hm : X.mg "list" = none) (hg2 : Gl X "enumerate") (hm2 : X.mg "enumerate" = none) (ha : PE X x ta) (hc : X.calm = true)
    (na : starEach [x] X.env = (false, eval x X.env) :: starEach [] X.env)
    (nb : starEach [.Call (.Name "enumerate" p2) [x] [] q] X.env = (false, eval (.Call (.Name "enumerate" p2) [x] [] q) X.env) :: starEach [] X.env) : PE X (.Call (.Name "list" p) [.Call (.Name "enumerate" p2) [x] [] q] [] pos) (tEnuL X.K ta) := by
  refine ⟨fun pins s σ H Q I h => ?_⟩
  refine Call_ (ld_blt I hg hm bb_list ?_)
  refine PyProof.Rows.callWith_type1 (PyProof.Rows.args_cons ?_ nb) nb rfl
  refine Call_ (ld_blt I hg2 hm2 boot_enumerate ?_)
  refine PyProof.Rows.callWith_type1 (PyProof.Rows.args_cons (thn (ha.run pins s σ H _ I h) fun v s1 ⟨y, H1, I1, r1, q1⟩ => PyProof.Rows.args_nil ?_) na) na rfl
  obtain ⟨a, xs, rfl, hq, q1⟩ := q1
  cases r1
  obtain ⟨its, rv, pt, hz⟩ := I1.tuple hq
  obtain ⟨ot, hot, _⟩ := id pt
  have hal : a < s1.heap.objs.size := Heap.lt_size hot
  refine call_enumT pt fun h' he hit hsz hk => PyProof.Rows.args_nil ?_
  have I2 : Inv X pins σ H1 { s1 with heap := h' } := I1.kept (t' := s1.toks) hk
  have hsz2 : its.toArray.size = its.length := List.size_toArray ..
  have hlx := rv.length
  refine enl_call (s := { s1 with heap := h' }) (I1.ok.hd hc) (Nat.succ_ne_self _) (Nat.ne_of_gt (Nat.lt_succ_of_lt hal)) (Nat.ne_of_gt hal) (by rw [hsz2, ← hlx]; exact hz) he hit ((show s1.heap.IsTuple a its.toArray from pt).at fun o e => hk a o e) fun h2 tk acc c as hk2 hS hl hG hacc => ?_
  have keep : ∀ b o, s1.heap.get? b = some o → h2.get? b = some o := fun b o q => hk2 b o (Nat.ne_of_lt (Nat.lt_succ_of_lt (Heap.lt_size q))) (Nat.ne_of_lt (Heap.lt_size q)) (hk b o q)
  have I3 : Inv X pins σ H1 { s1 with heap := h2, toks := tk } := I1.kept keep
  have nd : as.Nodup := List.Pairwise.imp (fun h => Nat.ne_of_lt h) hG.rise
  have hhs : ({ s1 with heap := h' } : Shared).heap.objs.size = s1.heap.objs.size + 2 := hsz
  rw [hhs] at hG hS
  have ab : ∀ b ∈ as, s1.heap.objs.size + 3 ≤ b := fun b hb => hG.above b hb
  have fr : ∀ b, s1.heap.objs.size ≤ b → H1 b = none := fun b hb => I1.hok.fresh hb
  have hSn : H1 (s1.heap.objs.size + 2) = none := fr _ (Nat.le_add_right _ _)
  have I5 : Inv X pins σ (upd H1 (s1.heap.objs.size + 2) (.lst (as.map V.ref))) { s1 with heap := h2, toks := tk } := I3.take (h' := h2) (t' := tk) (fun b ob _ e => e) (I1.fpOk (Nat.le_add_right _ _) hSn) ⟨by rw [List.length_map, hl, hsz2, ← hlx]; exact hz, as.map Value.ref, c, vals_refs as, by rw [← hacc]; exact hS⟩
  obtain ⟨H2, I4, g, q2⟩ := L2.DX.takeT (h' := h2) (tk := tk) (P := fun b vs => ∃ (j : Nat) (y : V), as[j]? = some b ∧ xs[j]? = some y ∧ vs = [.int (j : Nat), y]) I1 as _ I5 nd fun b hb => by
    have h1 := ab b hb
    refine ⟨Nat.le_trans (Nat.le_add_right _ _) h1, by rw [upd_ne (Nat.ne_of_gt (Nat.lt_of_lt_of_le (Nat.lt_succ_self _) h1))]; exact fr b (Nat.le_trans (Nat.le_add_right _ _) h1), ?_⟩
    obtain ⟨j, hj⟩ := List.mem_iff_getElem?.mp hb
    obtain ⟨t, u, hu, hg3⟩ := hG.pairs j b hj
    have hjl : j < xs.length := by
      have := (Array.getElem?_eq_some_iff.mp hu).1
      rw [hsz2] at this
      omega
    have hxj : xs[j]? = some xs[j] := List.getElem?_eq_getElem hjl
    obtain ⟨u', hu', ru'⟩ := rv.get hxj
    have eu : u' = u := by
      have : its[j]? = some u := by simpa using hu
      rw [hu'] at this
      exact Option.some.inj this
    subst eu
    exact ⟨_, ⟨j, _, hj, hxj, rfl⟩, fun H2 => ⟨by show 2 ≤ sizeLine; decide, [.int j t, u'], .cons ⟨_, rfl⟩ (.cons ru' .nil), ⟨_, hg3, rfl, _, rfl⟩⟩⟩
  refine ⟨.ref (s1.heap.objs.size + 2), H2, I4, (show Value.ref ({ s1 with heap := h' } : Shared).heap.objs.size = _ by rw [hhs]), q1 H2 (s1.heap.objs.size + 2) as (fun b o e => g b o (by rw [upd_ne (fun z => by rw [z, hSn] at e; cases e)]; exact e)) hSn (by rw [hl, hsz2, ← hlx]) (fun j b hj => ?_) (g _ _ upd_same)⟩
  refine ⟨fr b (Nat.le_trans (Nat.le_add_right _ _) (ab b (List.mem_of_getElem? hj))), ?_⟩
  obtain ⟨vs, ⟨j', y, hj', hy, rfl⟩, hH⟩ := q2 b (List.mem_of_getElem? hj)
  have ejj : j' = j := by
    obtain ⟨l1, e1⟩ := List.getElem?_eq_some_iff.mp hj'
    obtain ⟨l2, e2⟩ := List.getElem?_eq_some_iff.mp hj
    exact (List.getElem_inj nd).mp (e1.trans e2.symm)
  subst ejj
  exact ⟨y, hy, hH⟩

def eEnL (f : FE) : Fe (List D) := fun env n => match f env n with
  | some (.tuple ds, n1) => some (enuD 0 ds, n1)
  | _ => none
theorem RpL.of_get {K : PySem.W.Frag} {ω : Wd} {H : Hp} : ∀ {vs : List V} {ds : List D}, vs.length = ds.length → (∀ (j : Nat) v d, vs[j]? = some v → ds[j]? = some d → Rp K ω H v d) → RpL K ω H vs ds
  | [], [], _, _ => .nil
  | v :: vs, d :: ds, h, q => .cons (q 0 v d rfl rfl) (RpL.of_get (by simpa using h) fun j x y hx hy => q (j + 1) x y (by simpa using hx) (by simpa using hy))
  | [], _ :: _, h, _ => by simp at h
  | _ :: _, [], h, _ => by simp at h
theorem mf_enuL {X : Cx} {x : Expr} {f : FE} {p p2 q pos : Pos} (hg : Gl X "list") (hm : X.mg "list" = none) (hg2 : Gl X "enumerate") (hm2 : X.mg "enumerate" = none) (ha : ME X x f) (hc : X.calm = true)
    (na : starEach [x] X.env = (false, eval x X.env) :: starEach [] X.env)
    (nb : starEach [.Call (.Name "enumerate" p2) [x] [] q] X.env = (false, eval (.Call (.Name "enumerate" p2) [x] [] q) X.env) :: starEach [] X.env) : MF X (.Call (.Name "list" p) [.Call (.Name "enumerate" p2) [x] [] q] [] pos) (eEnL f) := by
  refine pe_imp (pe_enuL hg hm hg2 hm2 ha hc na nb) fun σ H Q z => ?_
  obtain ⟨ω, env, n, ds, n', R, t, e, k⟩ := z
  unfold eEnL at e
  split at e
  · rename_i ds1 n1 h1
    cases e
    refine tM_run R t h1 fun v ω1 H1 k1 R1 t1 r1 => ?_
    cases r1 with
    | @tup a xs ds2 g1 l1 q1 =>
      refine ⟨a, xs, rfl, SqT.of g1, fun H' l as hs hl hlen hp hH => ?_⟩
      refine k l (as.map V.ref) ω1 H' (k1.trans (Ext.of_same hs)) (Town.of_same hs t1) (k1.noneB hl) (R1.ok.notIn hl) hH (by rw [enuD_len]; exact l1) ?_
      refine RpL.of_get (by rw [List.length_map, enuD_len, hlen, q1.length]) fun j v d hv hd => ?_
      rw [List.getElem?_map] at hv
      cases hb : as[j]? with
      | none => rw [hb] at hv; cases hv
      | some b =>
        rw [hb] at hv
        cases hv
        obtain ⟨b0, y, hy, hHb⟩ := hp j b hb
        obtain ⟨dy, hdy, ry⟩ := q1.get' hy
        rw [enuD_get 0 hdy, Nat.zero_add] at hd
        cases hd
        refine .tup hHb (by show 2 ≤ sizeLine; decide) (.cons (.int _) (.cons ?_ .nil))
        exact Rp.mv (ω := ω1) (ω' := ω1.add l) (H := H1) ⟨rfl, rfl, fun _ _ z => z, fun c ys hc => hs c _ hc, fun c o nc hc => ⟨hs c o hc, fun z => Or.elim z nc (ne_of_none hc hl)⟩⟩ ry
  · cases e
theorem kenuL {X : Cx} {x : Expr} {f : FE} {p p2 q pos : Pos} (hm : X.mg "list" = none) (hm2 : X.mg "enumerate" = none) (ha : ME X x f) (hg : X.env.kindOf "list" = some .globalImplicit := by kernel_rfl) (hg2 : X.env.kindOf "enumerate" = some .globalImplicit := by kernel_rfl) (hc : X.calm = true := by kernel_rfl)
    (na : starEach [x] X.env = (false, eval x X.env) :: starEach [] X.env := by kernel_rfl)
    (nb : starEach [.Call (.Name "enumerate" p2) [x] [] q] X.env = (false, eval (.Call (.Name "enumerate" p2) [x] [] q) X.env) :: starEach [] X.env := by kernel_rfl) : MF X (.Call (.Name "list" p) [.Call (.Name "enumerate" p2) [x] [] q] [] pos) (eEnL f) := mf_enuL hg hm hg2 hm2 ha hc na nb

/-! ### len(set(xs)), xs a list of ints -/
def metN (ns : List Int) : List Int := PyProof.Rows.firstMet (fun i => ns.getD i 0) ns.length
def tLenSet (K : PySem.W.Frag) (ta : TE) : TE := fun σ H Q => ta σ H fun x H1 => ∃ (l : Addr) (ns : List Int), x = .ref l ∧ SqL K H1 l (ns.map V.int) ∧ ns.length ≤ 4000 ∧ (metN ns).length ≤ 4000 ∧ Q (.int ((metN ns).length : Nat)) H1
theorem pe_lenSet {X : Cx} {a : Expr} {ta : TE} {p p2 q pos : Pos} (hg : Gl X "len") (hm : X.mg "len" = none) (hg2 : Gl X "set") (hm2 : X.mg "set" = none) (ha : PE X a ta) (hc : X.calm = true)
    (na : starEach [a] X.env = (false, eval a X.env) :: starEach [] X.env) (nb : starEach [.Call (.Name "set" p2) [a] [] q] X.env = (false, eval (.Call (.Name "set" p2) [a] [] q) X.env) :: starEach [] X.env) : PE X (.Call (.Name "len" p) [.Call (.Name "set" p2) [a] [] q] [] pos) (tLenSet X.K ta) := by
  refine ⟨fun pins s σ H Q I h => ?_⟩
  refine Call_ (ld_blt I hg hm boot_len ?_)
  refine PyProof.Rows.callWith_builtin1 (PyProof.Rows.args_cons ?_ nb) nb rfl
  refine Call_ (ld_blt I hg2 hm2 boot_set ?_)
  refine PyProof.Rows.callWith_type1 (PyProof.Rows.args_cons (thn (ha.run pins s σ H _ I h) fun v s1 ⟨x, H1, I1, r1, q1⟩ => PyProof.Rows.args_nil ?_) na) na rfl
  obtain ⟨l, ns, rfl, hq, hl, hl2, q1⟩ := q1
  cases r1
  obtain ⟨its, r, pl, hz⟩ := I1.list hq
  have hlen : its.toArray.size = ns.length := by rw [List.size_toArray, ← r.length, List.length_map]
  refine call_set_list (I1.ok.hd hc) pl.isList (by simpa using RZ.intsAre_vals r) (by rw [hlen]; unfold scanBound; omega) fun h' tk hS hk => ?_
  refine PyProof.Rows.args_nil ?_
  rw [hlen] at hS
  obtain ⟨o, es, ep, t, ho, hex, hd, _, _, _, hf, hn⟩ := hS
  have I2 : Inv X pins σ H1 { s1 with heap := h', toks := tk } := I1.kept fun b o e => hk b o (Heap.lt_size e) e
  have hn' : es.size = (metN ns).length := hn
  exact call_len_set ho hex hd hf (by rw [hn'] <;> omega) ⟨.int (metN ns).length, H1, I2.tok _, ⟨_, by rw [hn']⟩, q1⟩
def dLenSet (d : D) : Option D := match d with
  | .list ds => (match ints? ds with
    | some ns => if ns.length ≤ 4000 ∧ (metN ns).length ≤ 4000 then some (.int ((metN ns).length : Nat)) else none
    | none => none)
  | _ => none
theorem me_lenSet {X : Cx} {a : Expr} {f : FE} {p p2 q pos : Pos} (hg : Gl X "len") (hm : X.mg "len" = none) (hg2 : Gl X "set") (hm2 : X.mg "set" = none) (ha : ME X a f) (hc : X.calm = true)
    (na : starEach [a] X.env = (false, eval a X.env) :: starEach [] X.env) (nb : starEach [.Call (.Name "set" p2) [a] [] q] X.env = (false, eval (.Call (.Name "set" p2) [a] [] q) X.env) :: starEach [] X.env) : ME X (.Call (.Name "len" p) [.Call (.Name "set" p2) [a] [] q] [] pos) (e1 dLenSet f) := by
  refine pe_imp (pe_lenSet hg hm hg2 hm2 ha hc na nb) fun σ H Q z => ?_
  obtain ⟨ω, env, n, d, n', R, t, e, k⟩ := z
  obtain ⟨x, h1, h2⟩ := e1_inv e
  refine tM_run R t h1 fun v ω1 H1 k1 R1 t1 r1 => ?_
  unfold dLenSet at h2
  split at h2
  · rename_i ds
    cases hi : ints? ds with
    | none => rw [hi] at h2; cases h2
    | some ns =>
      rw [hi] at h2
      simp only at h2
      split at h2
      · rename_i hle
        cases h2
        cases r1 with
        | @lst a xs ds2 g1 m1 l1 q1 =>
          have ed := ints?_eq hi
          subst ed
          have ex := q1.inv_ints
          subst ex
          exact ⟨a, ns, rfl, SqL.of g1, hle.1, hle.2, k _ ω1 H1 k1 t1 (.int _)⟩
      · cases h2
  · cases h2
theorem klenSet {X : Cx} {a : Expr} {f : FE} {p p2 q pos : Pos} (hm : X.mg "len" = none) (hm2 : X.mg "set" = none) (ha : ME X a f) (hg : X.env.kindOf "len" = some .globalImplicit := by kernel_rfl) (hg2 : X.env.kindOf "set" = some .globalImplicit := by kernel_rfl) (hc : X.calm = true := by kernel_rfl)
    (na : starEach [a] X.env = (false, eval a X.env) :: starEach [] X.env := by kernel_rfl) (nb : starEach [.Call (.Name "set" p2) [a] [] q] X.env = (false, eval (.Call (.Name "set" p2) [a] [] q) X.env) :: starEach [] X.env := by kernel_rfl) : ME X (.Call (.Name "len" p) [.Call (.Name "set" p2) [a] [] q] [] pos) (e1 dLenSet f) := me_lenSet hg hm hg2 hm2 ha hc na nb


/-! ### the view: where nothing changes, cells are read as data -/
def ωV (C : Addr) : Wd := ⟨none, C, [], fun _ => none, fun _ => False, (fun _ h => nomatch h), (fun _ _ h => nomatch h)⟩
theorem nhas_V {C a : Addr} : ¬ (ωV C).has a := fun z => Or.elim z (fun q => nomatch q) (fun ⟨_, q⟩ => nomatch q)
theorem town_V {C : Addr} {H : Hp} : Town (ωV C) n0 H := ⟨⟨fun _ z => False.elim z⟩, (fun _ z => nomatch z), rfl, fun k c z => (by cases z), (fun _ _ z => nomatch z)⟩
mutual
def noC : D → Bool
  | .none | .bool _ | .int _ | .str _ => true
  | .tuple ds => noCL ds
  | .list ds => noCL ds
  | .dict [(.none, .list _)] => true
  | .dict _ => false
def noCL : List D → Bool
  | [] => true
  | d :: ds => noC d && noCL ds
end
def cellD : Cell → Option D
  | .lst ds => some (.list ds)
  | .rows dss => some (.list (dss.map .list))
  | .pln m ws kp => some (recD m ws kp)
  | .dct _ => none
def resD (n : Sn) : D → Option D
  | .dict [(.int k, .none)] => (n.c[k.toNat]?).bind cellD
  | d => if noC d then some d else none
/-- the slots that are read, as they stand -/
def resE (n : Sn) : List Bool → En → En
  | true :: ms, x :: env => x.bind (resD n) :: resE n ms env
  | false :: ms, _ :: env => none :: resE n ms env
  | [], _ :: env => none :: resE n [] env
  | _, [] => []
section
variable {K : PySem.W.Frag} {C : Addr} {ω : Wd} {H H' : Hp} {n : Sn} {env : En} {σ : L2.St}
mutual
theorem Rp.toV : ∀ {v : V} {d : D}, Rp K ω H v d → noC d = true → Rp K (ωV C) H v d
  | _, _, .non, _ => .non
  | _, _, .bl b, _ => .bl b
  | _, _, .int i, _ => .int i
  | _, _, .str x h, _ => .str x h
  | _, _, .lst h n l r, c => .lst h (fun z => z) l (RpL.toV r (by rw [noC] at c; exact c))
  | _, _, .tup h l r, c => .tup h l (RpL.toV r (by rw [noC] at c; exact c))
  | _, _, .town e, c => by simp [noC] at c
  | _, _, .scr h l, _ => .scr (h.imp_left fun z => ⟨z.1, fun q => q⟩) l
  | _, _, .cell _, c => by simp [noC] at c
  | _, _, .pln _ _ _ _ _ _ _ _ _, c => by simp [noC] at c
  | _, _, .dct _ _ _ _, c => by simp [noC] at c
theorem RpL.toV : ∀ {vs : List V} {ds : List D}, RpL K ω H vs ds → noCL ds = true → RpL K (ωV C) H vs ds
  | _, _, .nil, _ => .nil
  | _, _, .cons h r, c => by
    rw [noCL, Bool.and_eq_true] at c
    exact .cons (Rp.toV h c.1) (RpL.toV r c.2)
end
theorem RowsT.rp : ∀ {bs : List Addr} {dss : List (List D)}, RowsT H bs dss → (∀ b ∈ bs, ¬ ω.T b) → RpL K ω H (bs.map V.ref) (dss.map .list)
  | _, _, .nil, _ => .nil
  | _, _, .cons xs h l r t, hb => .cons (.lst h (hb _ List.mem_cons_self) l r.rp) (RowsT.rp t fun b hm => hb b (List.mem_cons_of_mem _ hm))
theorem Town.at {k : Nat} {a : Addr} {c : Cell} (t : Town ω n H) (hr : ω.root[k]? = some a) (hc : n.c[k]? = some c) : CellAt ω H k a c := by
  obtain ⟨a', h1, h2⟩ := t.cell k c hc
  rw [hr] at h1
  cases h1
  exact h2
theorem cell_rp {k : Nat} {a : Addr} {c : Cell} {d : D} (h : CellAt ω H k a c) (e : cellD c = some d) : Rp K (ωV ω.C) H (.ref a) d := by
  cases c with
  | lst ds =>
    cases e
    obtain ⟨_, xs, h2, l, r⟩ := h
    exact .lst h2 (fun z => z) l r.rp
  | rows dss =>
    cases e
    obtain ⟨_, bs, _, _, h3, l, r⟩ := h
    exact .lst h3 (fun z => z) (by rw [List.length_map]; exact l) (r.rp fun _ _ z => z)
  | pln m ws kp =>
    cases e
    obtain ⟨_, dx, b, fs, vm, vk, xs, _, _, h4, _, h6, h7, h12, h13, h14, h15⟩ := h
    exact .pln h4 (fun z => z) h6 (fun z => z) h7 h12.rp h13.rp h14 h15.rp
  | dct kvs => cases e
theorem res_rp {v : V} {d0 d : D} (r : Rp K ω H v d0) (t : Town ω n H) (e : resD n d0 = some d) : Rp K (ωV ω.C) H v d := by
  unfold resD at e
  split at e
  · rename_i k
    cases r with
    | @cell a k' h =>
      have e' : (n.c[k']?).bind cellD = some d := e
      cases q : n.c[k']? with
      | none => rw [q] at e'; cases e'
      | some c =>
        rw [q] at e'
        exact cell_rp (t.at h q) e'
  · split at e
    · cases e
      exact r.toV (by assumption)
    · cases e
theorem resE_length : ∀ (ms : List Bool) (env : En), (resE n ms env).length = env.length
  | true :: ms, x :: env => by unfold resE; rw [List.length_cons, List.length_cons, resE_length]
  | false :: ms, x :: env => by unfold resE; rw [List.length_cons, List.length_cons, resE_length]
  | [], x :: env => by unfold resE; rw [List.length_cons, List.length_cons, resE_length]
  | true :: ms, [] => rfl
  | false :: ms, [] => rfl
  | [], [] => rfl
theorem resE_get : ∀ {ms : List Bool} {env : En} {i : Nat} {d : D}, (resE n ms env)[i]? = some (some d) → ∃ d0, env[i]? = some (some d0) ∧ resD n d0 = some d
  | true :: ms, x :: env, 0, d, h => by
    have h' : x.bind (resD n) = some d := by simpa [resE] using h
    cases x with
    | none => cases h'
    | some d0 => exact ⟨d0, rfl, h'⟩
  | false :: ms, x :: env, 0, d, h => by simp [resE] at h
  | [], x :: env, 0, d, h => by simp [resE] at h
  | true :: ms, x :: env, i + 1, d, h => by
    obtain ⟨d0, h1, h2⟩ := resE_get (ms := ms) (env := env) (i := i) (d := d) (by simpa [resE] using h)
    exact ⟨d0, by simpa using h1, h2⟩
  | false :: ms, x :: env, i + 1, d, h => by
    obtain ⟨d0, h1, h2⟩ := resE_get (ms := ms) (env := env) (i := i) (d := d) (by simpa [resE] using h)
    exact ⟨d0, by simpa using h1, h2⟩
  | [], x :: env, i + 1, d, h => by
    obtain ⟨d0, h1, h2⟩ := resE_get (ms := []) (env := env) (i := i) (d := d) (by simpa [resE] using h)
    exact ⟨d0, by simpa using h1, h2⟩
  | true :: ms, [], i, d, h => by simp [resE] at h
  | false :: ms, [], i, d, h => by simp [resE] at h
  | [], [], i, d, h => by simp [resE] at h
theorem RE.view (R : RE K C ω env σ H) (t : Town ω n H) (ms : List Bool) : RE K C (ωV ω.C) (resE n ms env) σ H :=
  ⟨town_V.ok, R.cl, by rw [resE_length]; exact R.len, fun i d h => let ⟨d0, h1, h2⟩ := resE_get h; let ⟨v, h3, h4⟩ := R.get i d0 h1; ⟨v, h3, res_rp h4 t h2⟩⟩
theorem same_V {ω' : Wd} (e : Ext (ωV C) H ω' H') : Same H H' := fun a x h => e.keep a x nhas_V h
end
def eV (ms : List Bool) (f : FE) : FE := fun env n => match f (resE n ms env) n0 with
  | some (d, _) => if pf d then some (d, n) else none
  | none => none
def bVw (ms : List Bool) (f : Fe Bool) : Fe Bool := fun env n => match f (resE n ms env) n0 with
  | some (d, _) => some (d, n)
  | none => none
def aV (ms : List Bool) (f : Fe (List D)) : Fe (List D) := fun env n => match f (resE n ms env) n0 with
  | some (ds, _) => if pfL ds then some (ds, n) else none
  | none => none
section
variable {X : Cx} {e : Expr}
theorem me_v {f : FE} (ms : List Bool) (h : ME X e f) : ME X e (eV ms f) := by
  refine pe_imp h fun σ H Q q => ?_
  obtain ⟨ω, env, n, d, n', R, t, e, k⟩ := q
  unfold eV at e
  split at e
  · rename_i d1 n1 h1
    split at e
    · rename_i hp
      cases e
      exact ⟨_, _, n0, _, n1, R.view t ms, town_V, h1, fun v ω' H' k1 _ r1 => k v ω H' (Ext.of_same (same_V k1)) (t.of_same (same_V k1)) (r1.rt hp).rp⟩
    · cases e
  · cases e
theorem mt_v {f : Fe Bool} (ms : List Bool) (h : MT X e f) : MT X e (bVw ms f) := by
  refine pt_imp h fun σ H Q q => ?_
  obtain ⟨ω, env, n, d, n', R, t, e, k⟩ := q
  unfold bVw at e
  split at e
  · rename_i d1 n1 h1
    cases e
    exact ⟨_, _, n0, _, n1, R.view t ms, town_V, h1, fun ω' H' k1 _ => k ω H' (Ext.of_same (same_V k1)) (t.of_same (same_V k1))⟩
  · cases e
theorem mf_v {f : Fe (List D)} (ms : List Bool) (h : MF X e f) : MF X e (aV ms f) := by
  refine pe_imp h fun σ H Q q => ?_
  obtain ⟨ω, env, n, ds, n', R, t, e, k⟩ := q
  unfold aV at e
  split at e
  · rename_i d1 n1 h1
    split at e
    · rename_i hp
      cases e
      exact ⟨_, _, n0, _, n1, R.view t ms, town_V, h1, fun p xs ω' H' k1 _ hp0 _ hp' l r1 => k p xs ω H' (Ext.of_same (same_V k1)) (t.of_same (same_V k1)) hp0 (t.ok.notIn hp0) hp' l (r1.rt hp).rp⟩
    · cases e
  · cases e
end

/-! ### cells come and change -/
/-- cell k gets the addresses S -/
theorem join_hT {ω : Wd} {k : Nat} {S : Addr → Prop} [DecidablePred S] (a : Addr) (j : Nat) (h : (if S a then some k else ω.ow a) = some j) : ω.T a ∨ S a := by
  by_cases q : S a
  · exact .inr q
  · rw [if_neg q] at h
    exact .inl (ω.hT2 a j h)
def Wd.join (ω : Wd) (k : Nat) (S : Addr → Prop) [DecidablePred S] : Wd := { ω with ow := fun a => if S a then some k else ω.ow a, T := fun a => ω.T a ∨ S a, hT1 := fun a h => .inl (ω.hT1 a h), hT2 := join_hT }
/-- a new cell with the root p -/
def Wd.root1 (ω : Wd) (p : Addr) : Wd := { ω with root := ω.root ++ [p] }
section
variable {K : PySem.W.Frag} {ω ω' : Wd} {H H' H1 : Hp} {n : Sn} {k : Nat} {S : Addr → Prop} [DecidablePred S]
theorem join_in {a : Addr} (h : S a) : (ω.join k S).ow a = some k := if_pos h
theorem join_out {a : Addr} (h : ¬ S a) : (ω.join k S).ow a = ω.ow a := if_neg h
theorem Ext.joinNew (e : Ext ω H ω' H') (hn : ∀ a, S a → H a = none) : Ext ω H (ω'.join k S) H' := by
  refine ⟨e.town, e.C, e.root, fun a ha => ?_, fun a j h => ?_, e.keep, e.tup, e.al⟩
  · rw [← e.old a ha]
    exact ⟨fun z => Or.elim z id fun q => absurd (hn a q) ha, Or.inl⟩
  · by_cases q : S a
    · exact .inr (hn a q)
    · rw [join_out q] at h
      exact e.ow a j h
theorem Ext.root1 {p : Addr} (e : Ext ω H ω' H') : Ext ω H (ω'.root1 p) H' := by
  refine ⟨e.town, e.C, fun k a h => ?_, e.old, e.ow, e.keep, e.tup, e.al⟩
  have h' := e.root k a h
  show (ω'.root ++ [p])[k]? = some a
  rw [List.getElem?_append_left ?_]
  · exact h'
  · cases Nat.lt_or_ge k ω'.root.length with
    | inl z => exact z
    | inr z => rw [List.getElem?_eq_none z] at h'; cases h'
/-- new addresses for cell k -/
theorem Town.join (t : Town ω n H) (hk : k < n.c.length) (hx : ∀ a, S a → ∃ x, H a = some x ∧ noTup x) (hT : ∀ a, S a → ¬ ω.T a) : Town (ω.join k S) n H := by
  refine ⟨⟨fun a z => Or.elim z (t.ok.tin a) (hx a)⟩, fun a h => ⟨?_, (t.town a h).2⟩, t.len, fun j c h => ?_, fun a j h => ?_⟩
  · rw [join_out fun q => hT a q (ω.hT1 a h)]
    exact (t.town a h).1
  · obtain ⟨a, h1, h2⟩ := t.cell j c h
    refine ⟨a, h1, CellAt.mono (ω := ω) (ω' := ω.join k S) rfl (fun b hb => ?_) (fun _ _ _ z => z) (fun _ _ z => z) h2⟩
    rw [join_out fun q => hT b q (ω.hT2 b j hb)]
    exact hb
  · by_cases q : S a
    · rw [join_in q] at h
      cases h
      exact hk
    · rw [join_out q] at h
      exact t.owk a j h
/-- a new cell -/
theorem Town.push {p : Addr} {c : Cell} (t : Town ω n H) (hx : ∀ a, S a → ∃ x, H a = some x ∧ noTup x) (hT : ∀ a, S a → ¬ ω.T a) (hc : CellAt ((ω.root1 p).join n.c.length S) H n.c.length p c) : Town ((ω.root1 p).join n.c.length S) (n.push c) H := by
  refine ⟨⟨fun a z => Or.elim z (t.ok.tin a) (hx a)⟩, fun a h => ⟨?_, (t.town a h).2⟩, ?_, fun j c' h => ?_, fun a j h => ?_⟩
  · rw [join_out fun q => hT a q (ω.hT1 a h)]
    exact (t.town a h).1
  · show (n.c ++ [c]).length = (ω.root ++ [p]).length
    rw [List.length_append, List.length_append, t.len]
    rfl
  · have h' : (n.c ++ [c])[j]? = some c' := h
    by_cases hj : j < n.c.length
    · rw [List.getElem?_append_left hj] at h'
      obtain ⟨a, h1, h2⟩ := t.cell j c' h'
      refine ⟨a, ?_, CellAt.mono (ω := ω) (ω' := (ω.root1 p).join n.c.length S) rfl (fun b hb => ?_) (fun _ _ _ z => z) (fun _ _ z => z) h2⟩
      · show (ω.root ++ [p])[j]? = some a
        rw [List.getElem?_append_left (by rw [← t.len]; exact hj)]
        exact h1
      · rw [join_out fun q => hT b q (ω.hT2 b j hb)]
        exact hb
    · have hl : j = n.c.length := by
        have := List.getElem?_eq_some_iff.mp h'
        obtain ⟨hl, _⟩ := this
        rw [List.length_append] at hl
        simp at hl
        omega
      subst hl
      rw [List.getElem?_append_right (Nat.le_refl _), Nat.sub_self] at h'
      cases h'
      refine ⟨p, ?_, hc⟩
      show (ω.root ++ [p])[n.c.length]? = some p
      rw [t.len, List.getElem?_append_right (Nat.le_refl _), Nat.sub_self]
      rfl
  · show j < (n.c ++ [c]).length
    rw [List.length_append]
    by_cases q : S a
    · rw [join_in q] at h
      cases h
      exact Nat.lt_succ_self _
    · rw [join_out q] at h
      have := t.owk a j h
      exact Nat.lt_succ_of_lt this
omit [DecidablePred S] in
/-- cell k is told anew -/
theorem Town.put {a : Addr} {c : Cell} (t : Town ω n H) (hkeep : ∀ b x, ω.ow b ≠ some k → H b = some x → H' b = some x) (hok : ∀ b, ω.ow b = some k → ∃ x, H' b = some x ∧ noTup x) (hr : ω.root[k]? = some a) (hc : CellAt ω H' k a c) : Town ω (n.put k c) H' ∧ Ext ω H ω H' := by
  have tp : ∀ b xs, H b = some (.tup xs) → H' b = some (.tup xs) := fun b xs hb => hkeep b _ (fun z => by
    obtain ⟨x, hx, nx⟩ := t.ok.tin b (ω.hT2 b k z)
    rw [hb] at hx; cases hx; exact nx) hb
  refine ⟨⟨⟨fun b z => ?_⟩, fun b h => ⟨(t.town b h).1, hkeep b _ (by rw [(t.town b h).1]; exact fun z => nomatch z) (t.town b h).2⟩, ?_, fun j c' h => ?_, fun b j h => ?_⟩, ⟨rfl, rfl, fun _ _ h => h, fun _ _ => Iff.rfl, fun _ _ h => .inl h, fun b x nb hb => hkeep b x (fun z => nb (.inr ⟨k, z⟩)) hb, tp, fun b hb => ?_⟩⟩
  · by_cases q : ω.ow b = some k
    · exact hok b q
    · obtain ⟨x, hx, nx⟩ := t.ok.tin b z
      exact ⟨x, hkeep b x q hx, nx⟩
  · show (n.c.set k c).length = _
    rw [List.length_set]
    exact t.len
  · have h' : (n.c.set k c)[j]? = some c' := h
    by_cases q : k = j
    · subst q
      have hl : k < n.c.length := by
        rw [t.len]
        cases Nat.lt_or_ge k ω.root.length with
        | inl z => exact z
        | inr z => rw [List.getElem?_eq_none z] at hr; cases hr
      rw [List.getElem?_set_self hl] at h'
      cases h'
      exact ⟨a, hr, hc⟩
    · rw [List.getElem?_set_ne q] at h'
      obtain ⟨b, h1, h2⟩ := t.cell j c' h'
      exact ⟨b, h1, h2.mono rfl (fun _ z => z) (fun d x hd hx => hkeep d x (by rw [hd]; exact fun z => q (Option.some.inj z).symm) hx) tp⟩
  · show j < (n.c.set k c).length
    rw [List.length_set]
    exact t.owk b j h
  · by_cases q : ω.ow b = some k
    · obtain ⟨x, hx, _⟩ := hok b q
      exact sm_ne hx
    · obtain ⟨x, hx⟩ := ne_sm hb
      exact sm_ne (hkeep b x q hx)
omit [DecidablePred S] in
/-- a list cell is told anew -/
theorem Town.putL {a : Addr} {ds ds' : List D} {xs' : List V} (t : Town ω n H) (hr : ω.root[k]? = some a) (hc : n.c[k]? = some (.lst ds)) (l : ds'.length ≤ sizeLine) (r : RtL H xs' ds') : Town ω (n.put k (.lst ds')) (upd H a (.lst xs')) ∧ Ext ω H ω (upd H a (.lst xs')) := by
  obtain ⟨h1, xs, h2, _, _⟩ := t.at hr hc
  refine t.put (fun b x hb hx => ?_) (fun b hb => ?_) hr ⟨h1, xs', upd_same, l, r.mono fun b ys hb => ?_⟩
  · rw [upd_ne (fun z => hb (by rw [z]; exact h1))]; exact hx
  · by_cases e : b = a
    · rw [e]; exact ⟨_, upd_same, trivial⟩
    · rw [upd_ne e]; exact t.ok.tin b (ω.hT2 b k hb)
  · rw [upd_ne (fun z => by rw [z, h2] at hb; cases hb)]; exact hb
/-- a new list cell -/
theorem Town.pushL {p : Addr} {ds : List D} {xs : List V} (t : Town ω n H) (hp : H p = some (.lst xs)) (hT : ¬ ω.T p) (l : ds.length ≤ sizeLine) (r : RtL H xs ds) : Town ((ω.root1 p).join n.c.length fun a => a = p) (n.push (.lst ds)) H :=
  t.push (fun a z => by rw [z]; exact ⟨_, hp, trivial⟩) (fun a z => by rw [z]; exact hT) ⟨join_in rfl, xs, hp, l, r⟩
theorem root_push {p : Addr} {t : Town ω n H} : ((ω.root1 p).join n.c.length S).root[n.c.length]? = some p := by
  show (ω.root ++ [p])[n.c.length]? = some p
  rw [t.len, List.getElem?_append_right (Nat.le_refl _), Nat.sub_self]
  rfl
end
/-- a new empty list as an argument: a cell -/
def eNewC : FE := fun _ n => some (cref n.c.length, n.push (.lst []))
theorem me_newC {X : Cx} {pos : Pos} : ME X (.List [] pos) eNewC := by
  refine pe_imp (pe_lst pa_nil) fun σ H Q q => ?_
  obtain ⟨ω, env, n, d, n', R, t, e, k⟩ := q
  cases e
  refine ⟨Nat.zero_le _, fun p hp => ?_⟩
  have s : Same H (upd H p (.lst [])) := same_upd hp
  exact k _ _ _ (((Ext.of_same s).root1 (p := p)).joinNew (S := fun a => a = p) fun a z => by rw [z]; exact hp) ((t.of_same s).pushL upd_same (t.ok.notIn hp) (Nat.zero_le _) .nil) (.cell (root_push (t := t)))
/-- the cells that were made meanwhile go -/
def eCut (f : FE) : FE := fun env n => match f env n with
  | some (d, n1) => if pf d && decide (n.c.length ≤ n1.c.length) then some (d, n1.cut n.c.length) else none
  | none => none
theorem me_cut {X : Cx} {e : Expr} {f : FE} (h : ME X e f) : ME X e (eCut f) := by
  refine pe_imp h fun σ H Q q => ?_
  obtain ⟨ω, env, n, d, n', R, t, e, k⟩ := q
  unfold eCut at e
  split at e
  · rename_i d1 n1 h1
    split at e
    · rename_i hp
      rw [Bool.and_eq_true] at hp
      cases e
      exact tM_run R t h1 fun v ω1 H1 k1 R1 t1 r1 => k v _ H1 (k1.cut (by rw [t.len]; exact Nat.le_refl _)) (t1.cut (of_decide_eq_true hp.2)) (r1.rt hp.1).rp
    · cases e
  · cases e


/-! ### statements over cells -/
def cellS : Option (Option SV) → Option Nat
  | some (some (.val (.dict [(.int (.ofNat k), .none)]))) => some k
  | _ => none
def cellE : Option (Option D) → Option Nat
  | some (some (.dict [(.int (.ofNat k), .none)])) => some k
  | _ => none
theorem cellS_cref {k : Nat} : cellS (some (some (.val (cref k)))) = some k := rfl
theorem cellE_cref {k : Nat} : cellE (some (some (cref k))) = some k := rfl
theorem resD_cref {n : Sn} {k : Nat} : resD n (cref k) = (n.c[k]?).bind cellD := rfl
theorem cellS_eq {x : Option (Option SV)} {k : Nat} (h : cellS x = some k) : x = some (some (.val (cref k))) := by
  unfold cellS at h
  split at h
  · cases h; rfl
  · cases h
theorem cellE_eq {x : Option (Option D)} {k : Nat} (h : cellE x = some k) : x = some (some (cref k)) := by
  unfold cellE at h
  split at h
  · cases h; rfl
  · cases h
theorem rp_cref {K : PySem.W.Frag} {ω : Wd} {H : Hp} {v : V} {k : Nat} (r : Rp K ω H v (cref k)) : ∃ a, v = .ref a ∧ ω.root[k]? = some a := by
  have g : ∀ d, Rp K ω H v d → d = cref k → ∃ a, v = .ref a ∧ ω.root[k]? = some a := fun d r e => by
    cases r with
    | @cell a k' h =>
      have e' : k' = k := by
        have h1 := PyData.dict.inj e
        injection h1 with h2 _
        have h3 := (Prod.mk.inj h2).1
        exact Int.ofNat.inj (PyData.int.inj h3)
      subst e'
      exact ⟨a, rfl, h⟩
    | _ => cases e
  exact g _ r rfl
section
variable {K : PySem.W.Frag} {C : Addr} {ω0 : Wd} {H0 : Hp} {ω ω' ω1 : Wd} {S : Es} {n n' n1 : Sn} {σ : L2.St} {H H' H1 : Hp} {o o' o1 : Addr → Option Nat}
theorem RS.cellAt {i k : Nat} (R : RS K C ω0 H0 ω S n σ H o) (h : cellS S[i]? = some k) : ∃ a, σ[i]? = some (some (.ref a)) ∧ ω.root[k]? = some a := by
  obtain ⟨v, h1, h2⟩ := R.slot i _ (cellS_eq h)
  obtain ⟨a, rfl, h3⟩ := rp_cref (show Rp K (ω.plus o) H v (cref k) from h2)
  exact ⟨a, h1, h3⟩
theorem RE.cellAt {env : En} {i k : Nat} (R : RE K C ω env σ H) (h : cellE env[i]? = some k) : ∃ a, σ[i]? = some (some (.ref a)) ∧ ω.root[k]? = some a := by
  obtain ⟨v, h1, h2⟩ := R.get i _ (cellE_eq h)
  obtain ⟨a, rfl, h3⟩ := rp_cref h2
  exact ⟨a, h1, h3⟩
theorem Ext.root' {k : Nat} {a : Addr} (e : Ext ω H ω1 H1) (h : ω.root[k]? = some a) : ω1.root[k]? = some a := e.root k a h
end
/-- x = a new list: a cell -/
def sNewC (i : Nat) (f : Fe (List D)) : FS := fun S n => match f (frzE S) n with
  | some (ds, n1) => if pfL ds then some (.nx (S.set i (some (.val (cref n1.c.length)))), n1.push (.lst ds)) else none
  | none => none
section
variable {X : Cx} {W : WX} {st : Stmt} {e : Expr} {pos : Pos}
theorem ms_newC {i : Nat} {te : TE} {f : Fe (List D)} (h : PS X st (tAsg te (gName i))) (hf : te = tMF X.K (clsA X.mg) f) : MS X W st (sNewC i f) := by
  subst hf
  refine ps_imp h fun Dn σ H q => ?_
  obtain ⟨ω0, H0, ω, S, n, fl, n', ⟨o, R⟩, e, a⟩ := q
  unfold sNewC at e
  split at e
  · rename_i ds n1 h1
    split at e
    · rename_i hl
      cases e
      refine ⟨ω, frzE S, n, ds, _, R.frz, R.town, h1, fun p xs ω' H' k t hp np hp' l r => ?_⟩
      have R' := R.extF ((k.root1 (p := p)).joinNew (k := n1.c.length) (S := fun b => b = p) fun b z => by rw [z]; exact hp) (t.pushL hp' np l (r.rt hl))
      exact a _ _ _ _ (R'.setVal (i := i) (.cell (root_push (S := fun b => b = p) (t := t))))
    · cases e
  · cases e
/-- x.append(e), x a cell -/
def isLst : Option Cell → Bool
  | some (.lst _) => true
  | _ => false
theorem isLst_eq {c : Option Cell} (h : isLst c = true) : ∃ ds, c = some (.lst ds) := by
  unfold isLst at h
  split at h
  · exact ⟨_, rfl⟩
  · cases h
def sAppC (i : Nat) (f : FE) : FS := fun S n => match cellS S[i]? with
  | some k => (match f (frzE S) n with
    | some (d, n1) => (match n1.c[k]? with
      | some (.lst ds) => if isLst n.c[k]? && pf d && decide (ds.length < lim) then some (.nx S, n1.put k (.lst (ds ++ [d]))) else none
      | _ => none)
    | none => none)
  | none => none
theorem ms_appC {i : Nat} {fe : FE} (h : PS X st (tDrop (tBM X.K "list" rAppend (tVar i) (tCons (tM X.K (clsA X.mg) fe) tNil)))) : MS X W st (sAppC i fe) := by
  refine ps_imp h fun Dn σ H q => ?_
  obtain ⟨ω0, H0, ω, S, n, fl, n', ⟨o, R⟩, e, a⟩ := q
  unfold sAppC at e
  split at e
  · rename_i k hS
    split at e
    · rename_i d n1 h1
      split at e
      · rename_i ds hc
        split at e
        · rename_i hp
          cases e
          simp only [Bool.and_eq_true] at hp
          obtain ⟨⟨hq, hp⟩, hl⟩ := hp
          have hl := of_decide_eq_true hl
          rw [lim_eq] at hl
          obtain ⟨p, hσ, hr⟩ := R.cellAt hS
          obtain ⟨ds0, hc0⟩ := isLst_eq hq
          obtain ⟨_, xs0, hx0, _, _⟩ := R.town.at hr hc0
          refine ⟨_, hσ, .inl ⟨rfl, _, SqL.of hx0⟩, ?_⟩
          refine tM_run R.frz R.town h1 fun u ω1 H1 k1 _ t1 r1 => ?_
          have hr1 := k1.root' hr
          obtain ⟨_, xs, hx, l, r⟩ := t1.at hr1 hc
          refine ⟨p, xs, u, rfl, rfl, hx, by rw [r.length]; exact hl, ?_⟩
          obtain ⟨t2, k2⟩ := t1.putL hr1 hc (ds' := ds ++ [d]) (xs' := xs ++ [u]) (by rw [List.length_append]; simp; omega) (r.append (.cons (r1.rt hp) .nil))
          exact a _ _ _ o (R.extF (k1.trans k2) t2)
        · cases e
      · cases e
    · cases e
  · cases e
/-- x[i] = e, x a cell -/
def sPutC (i : Nat) (fi fe : FE) : FS := fun S n => match fe (frzE S) n with
  | some (d, n1) => (match cellS S[i]? with
    | some k => (match fi (frzE S) n1 with
      | some (.int j, n2) => (match n2.c[k]? with
        | some (.lst ds) => if pf d && decide (0 ≤ j) && decide (j.toNat < ds.length) then some (.nx S, n2.put k (.lst (ds.set j.toNat d))) else none
        | _ => none)
      | _ => none)
    | none => none)
  | none => none
theorem ms_putC {i : Nat} {fi fe : FE} (h : PS X st (tAsg (tM X.K (clsA X.mg) fe) (gSub (tVar i) (tM X.K (clsA X.mg) fi) rSetL))) : MS X W st (sPutC i fi fe) := by
  refine ps_imp h fun Dn σ H q => ?_
  obtain ⟨ω0, H0, ω, S, n, fl, n', ⟨o, R⟩, e, a⟩ := q
  unfold sPutC at e
  split at e
  · rename_i d n1 h1
    split at e
    · rename_i k hS
      split at e
      · rename_i j n2 h2
        split at e
        · rename_i ds hc
          split at e
          · rename_i hp
            cases e
            simp only [Bool.and_eq_true] at hp
            obtain ⟨⟨hp, hj0⟩, hj⟩ := hp
            have hj0 := of_decide_eq_true hj0
            have hj := of_decide_eq_true hj
            obtain ⟨p, hσ, hr⟩ := R.cellAt hS
            refine tM_run R.frz R.town h1 fun u ω1 H1 k1 R1 t1 r1 => ?_
            refine ⟨_, hσ, ?_⟩
            refine tM_run R1 t1 h2 fun u2 ω2 H2 k2 R2 t2 r2 => ?_
            cases r2
            have kk := k1.trans k2
            have hr2 := kk.root' hr
            obtain ⟨_, xs, hx, l, r⟩ := t2.at hr2 hc
            refine ⟨p, xs, j, j.toNat, rfl, rfl, hx, ixN_nat hj0 (by rw [r.length]; exact hj), ?_⟩
            obtain ⟨t3, k3⟩ := t2.putL hr2 hc (ds' := ds.set j.toNat d) (xs' := xs.set j.toNat u) (by rw [List.length_set]; exact l) (r.set _ ((r1.ext k2).rt hp))
            exact a _ _ _ o (R.extF (kk.trans k3) t3)
          · cases e
        · cases e
      · cases e
    · cases e
  · cases e
/-- return x, x a cell that was made here -/
def sRetC (i : Nat) : FS := fun S n => match cellS S[i]? with
  | some k => some (.rc k, n)
  | none => none
theorem ms_retC {i : Nat} (he : PE X e (tVar i)) : MS X W (.Return (some e) pos) (sRetC i) := by
  refine ps_imp (ps_ret he) fun Dn σ H q => ?_
  obtain ⟨ω0, H0, ω, S, n, fl, n', ⟨o, R⟩, e, a⟩ := q
  unfold sRetC at e
  split at e
  · rename_i k hS
    cases e
    obtain ⟨p, hσ, hr⟩ := R.cellAt hS
    exact ⟨_, hσ, a p ω H R.ext R.town hr⟩
  · cases e
/-- x.pop(), x a cell -/
def ePopC (i : Nat) : FE := fun env n => match cellE env[i]? with
  | some k => (match n.c[k]? with
    | some (.lst ds) => (match ds[ds.length - 1]? with
      | some d => some (d, n.put k (.lst ds.dropLast))
      | none => none)
    | _ => none)
  | none => none
theorem RtL.get {H : Hp} : ∀ {vs : List V} {ds : List D} {i : Nat} {d : D}, RtL H vs ds → ds[i]? = some d → ∃ v, vs[i]? = some v ∧ Rt H v d
  | _, _, _, _, .nil, e => by simp at e
  | _, _, 0, _, .cons h _, e => by simp at e; subst e; exact ⟨_, rfl, h⟩
  | _, _, i + 1, d, .cons _ r, e => by
    obtain ⟨v, h1, h2⟩ := RtL.get (i := i) (d := d) r (by simpa using e)
    exact ⟨v, by simpa using h1, h2⟩
theorem RtL.take {H : Hp} : ∀ {vs : List V} {ds : List D} (n : Nat), RtL H vs ds → RtL H (vs.take n) (ds.take n)
  | _, _, 0, _ => .nil
  | _, _, _ + 1, .nil => .nil
  | _, _, n + 1, .cons h r => .cons h (RtL.take n r)
theorem RtL.dropLast {H : Hp} {vs : List V} {ds : List D} (h : RtL H vs ds) : RtL H vs.dropLast ds.dropLast := by
  rw [List.dropLast_eq_take, List.dropLast_eq_take, h.length]
  exact h.take _
theorem me_popC {i : Nat} {x : Expr} (h : PE X x (tBM0 X.K "list" rPop (tVar i))) : ME X x (ePopC i) := by
  refine pe_imp h fun σ H Q q => ?_
  obtain ⟨ω, env, n, d, n', R, t, e, k⟩ := q
  unfold ePopC at e
  split at e
  · rename_i j hS
    split at e
    · rename_i ds hc
      split at e
      · rename_i d1 hd
        cases e
        obtain ⟨p, hσ, hr⟩ := R.cellAt hS
        obtain ⟨_, xs, hx, l, r⟩ := t.at hr hc
        obtain ⟨v, hv, rv⟩ := r.get hd
        refine ⟨_, hσ, .inl ⟨rfl, _, SqL.of hx⟩, p, xs, v, rfl, rfl, hx, by rw [r.length]; exact hv, ?_⟩
        obtain ⟨t2, k2⟩ := t.putL hr hc (ds' := ds.dropLast) (xs' := xs.dropLast) (by rw [List.length_dropLast]; omega) r.dropLast
        exact k _ _ _ k2 t2 (rv.rp.ext k2)
      · cases e
    · cases e
  · cases e
/-- y = x.pop(), x an own list -/
def sPop (i j : Nat) : FS := fun S n => match S[i]? with
  | some (some (.own ds)) => (match ds[ds.length - 1]? with
    | some d => if i = j then none else some (.nx ((S.set i (some (.own ds.dropLast))).set j (some (.val d))), n)
    | none => none)
  | _ => none
theorem ms_pop {i j : Nat} (h : PS X st (tAsg (tBM0 X.K "list" rPop (tVar i)) (gName j))) : MS X W st (sPop i j) := by
  refine ps_imp h fun Dn σ H q => ?_
  obtain ⟨ω0, H0, ω, S, n, fl, n', ⟨o, R⟩, e, a⟩ := q
  unfold sPop at e
  split at e
  · rename_i ds hS
    split at e
    · rename_i d hd
      split at e
      · cases e
      · cases e
        obtain ⟨v, hσ, p, xs, rfl, ho, hH, l, r⟩ := R.slot i _ hS
        obtain ⟨u, hu, ru⟩ := r.get hd
        refine ⟨_, hσ, .inl ⟨rfl, _, SqL.of hH⟩, p, xs, u, rfl, rfl, hH, by rw [r.length]; exact hu, ?_⟩
        have R1 := R.setCell (xs := xs.dropLast) (ds := ds.dropLast) hσ ho r.dropLast (by rw [List.length_dropLast]; omega)
        refine a _ _ _ _ (R1.setVal (i := j) (ru.mv ⟨rfl, rfl, fun _ _ z => z, fun b ys hb => ?_, fun b x nb hb => ⟨?_, nb⟩⟩))
        · rw [upd_ne (fun z => by rw [z, hH] at hb; cases hb)]; exact hb
        · rw [upd_ne (fun z => nb (.inr ⟨i, by rw [z]; exact ho⟩))]; exact hb
    · cases e
  · cases e
/-- a call as a statement, the cells made meanwhile go -/
def sCallC (m : Fn) (fs : Fe (List D)) : FS := fun S n => match fs (frzE S) n with
  | some (ds, n1) => (match m ds n1 with
    | some (.ok _, n2) => if n.c.length ≤ n2.c.length then some (.nx S, n2.cut n.c.length) else none
    | some (.ex c, n2) => some (.ex c, n2)
    | none => none)
  | none => none
theorem ms_callC {ar : Nat} {fr : Bool} {m : Fn} {fs : Fe (List D)} (hl : ∀ ds n, ds.length ≠ ar → m ds n = none) (h : PS X st (tDrop (tCallS (spX X.K X.mg ar fr m) (WE W) (tMA X.K (clsA X.mg) fs)))) : MS X W st (sCallC m fs) := by
  refine ps_imp h fun Dn σ H q => ?_
  obtain ⟨ω0, H0, ω, S, n, fl, n', ⟨o, R⟩, e, a⟩ := q
  unfold sCallC at e
  split at e
  · rename_i ds n1 h1
    refine tMA_run R.frz R.town h1 fun vs ω1 H1 k1 R1 t1 r1 => ?_
    split at e
    · rename_i d n2 h2
      split at e
      · rename_i hk
        cases e
        refine ⟨ω1, ds, n1, _, _, R1.cl, r1, m_len hl h2, t1, h2, fun v ω2 H2 k2 t2 r2 _ => ?_⟩
        exact a _ σ H2 o (R.extF ((k1.trans k2).cut (by rw [R.town.len]; exact Nat.le_refl _)) (t2.cut hk))
      · cases e
    · rename_i c n2 h2
      cases e
      refine ⟨ω1, ds, n1, _, _, R1.cl, r1, m_len hl h2, t1, h2, fun C ω2 H2 hC k2 t2 => ?_⟩
      exact a C σ ω2 H2 hC (R.ext.trans (k1.trans k2)) t2
    · cases e
  · cases e
end


/-! ### cells that are lists of lists -/
section
variable {K : PySem.W.Frag} {C : Addr} {ω0 : Wd} {H0 : Hp} {ω ω' ω1 : Wd} {S : Es} {n n' n1 : Sn} {σ : L2.St} {H H' H1 : Hp} {o o' o1 : Addr → Option Nat} {k : Nat}
theorem RS.vw (R : RS K C ω0 H0 ω S n σ H o) (ms : List Bool) : RE K C (ωV ω.C) (resE n ms (frzE S)) σ H := R.frz.view R.town ms
theorem RS.sm (R : RS K C ω0 H0 ω S n σ H o) (s : Same H H1) : RS K C ω0 H0 ω S n σ H1 o := R.extF (Ext.of_same s) (R.town.of_same s)
theorem RowsT.length : ∀ {bs : List Addr} {dss : List (List D)}, RowsT H bs dss → bs.length = dss.length
  | _, _, .nil => rfl
  | _, _, .cons _ _ _ _ t => by rw [List.length_cons, List.length_cons, RowsT.length t]
theorem RowsT.get : ∀ {bs : List Addr} {dss : List (List D)} {i : Nat} {ds : List D}, RowsT H bs dss → dss[i]? = some ds → ∃ b xs, bs[i]? = some b ∧ H b = some (.lst xs) ∧ ds.length ≤ sizeLine ∧ RtL H xs ds
  | _, _, _, _, .nil, e => by simp at e
  | _, _, 0, _, .cons xs h l r _, e => by simp at e; subst e; exact ⟨_, xs, rfl, h, l, r⟩
  | _, _, i + 1, ds, .cons _ _ _ _ t, e => by
    obtain ⟨b, xs, h1, h2⟩ := RowsT.get (i := i) (ds := ds) t (by simpa using e)
    exact ⟨b, xs, by simpa using h1, h2⟩
/-- row i is another list -/
theorem RowsT.setA : ∀ {bs : List Addr} {dss : List (List D)} {i : Nat} {p : Addr} {xs : List V} {ds : List D}, RowsT H bs dss → H p = some (.lst xs) → ds.length ≤ sizeLine → RtL H xs ds → RowsT H (bs.set i p) (dss.set i ds)
  | _, _, _, _, _, _, .nil, _, _, _ => .nil
  | _, _, 0, _, xs, _, .cons _ _ _ _ t, hp, l, r => .cons xs hp l r t
  | _, _, i + 1, _, _, _, .cons ys h l' r' t, hp, l, r => .cons ys h l' r' (RowsT.setA t hp l r)
/-- row i changes in its place -/
theorem RowsT.setB : ∀ {bs : List Addr} {dss : List (List D)} {i : Nat} {b : Addr} {xs : List V} {ds : List D}, RowsT H bs dss → bs.Nodup → bs[i]? = some b → (∀ a ys, H a = some (.tup ys) → upd H b (.lst xs) a = some (.tup ys)) → ds.length ≤ sizeLine → RtL H xs ds → RowsT (upd H b (.lst xs)) bs (dss.set i ds)
  | _, _, _, _, _, _, .nil, _, _, _, _, _ => .nil
  | b0 :: bs0, _, 0, b, xs, _, .cons ys h l' r' t, nd, e, m, l, r => by
    have e' : b0 = b := by simpa using e
    subst e'
    refine .cons xs upd_same l (r.mono m) (t.mono m fun c hc x hx => ?_)
    rw [upd_ne (fun z => (List.nodup_cons.mp nd).1 (by rw [← z]; exact hc))]
    exact hx
  | b0 :: bs0, _, i + 1, b, xs, _, .cons ys h l' r' t, nd, e, m, l, r => by
    have e' : bs0[i]? = some b := by simpa using e
    have hne : b0 ≠ b := fun z => (List.nodup_cons.mp nd).1 (by rw [z]; exact List.mem_of_getElem? e')
    exact .cons ys (by rw [upd_ne hne]; exact h) l' (r'.mono m) (RowsT.setB t (List.nodup_cons.mp nd).2 e' m l r)
theorem RowsT.mem : ∀ {bs : List Addr} {dss : List (List D)}, RowsT H bs dss → ∀ b ∈ bs, ∃ xs, H b = some (.lst xs)
  | _, _, .nil, b, hb => by cases hb
  | _, _, .cons xs h _ _ t, b, hb => by
    rcases List.mem_cons.mp hb with z | z
    · rw [z]; exact ⟨xs, h⟩
    · exact RowsT.mem t b z
/-- a row of a cell is told anew, in its place -/
theorem Town.putRow {a b : Addr} {dss : List (List D)} {i : Nat} {ds' : List D} {xs' : List V} {bs : List Addr} (t : Town ω n H) (hr : ω.root[k]? = some a) (hc : n.c[k]? = some (.rows dss)) (hH : H a = some (.lst (bs.map V.ref))) (hb : bs[i]? = some b) (l : ds'.length ≤ sizeLine) (r : RtL H xs' ds') :
    Town ω (n.put k (.rows (dss.set i ds'))) (upd H b (.lst xs')) ∧ Ext ω H ω (upd H b (.lst xs')) := by
  obtain ⟨h1, bs2, nd, h2, h3, l3, rw3⟩ := t.at hr hc
  rw [hH] at h3
  have e := refs_inj (HO.lst.inj (Option.some.inj h3))
  subst e
  have hbm := List.mem_of_getElem? hb
  obtain ⟨ys, hy⟩ := rw3.mem b hbm
  have hab : a ≠ b := fun z => (List.nodup_cons.mp nd).1 (by rw [z]; exact hbm)
  have tp : ∀ c zs, H c = some (.tup zs) → upd H b (.lst xs') c = some (.tup zs) := fun c zs hc => by
    rw [upd_ne (fun z => by rw [z, hy] at hc; cases hc)]; exact hc
  refine t.put (fun c x hcn hx => ?_) (fun c hcn => ?_) hr ⟨h1, bs, nd, h2, by rw [upd_ne hab]; exact hH, by rw [List.length_set]; exact l3, rw3.setB (List.nodup_cons.mp nd).2 hb tp l r⟩
  · rw [upd_ne (fun z => hcn (by rw [z]; exact h2 b hbm))]; exact hx
  · by_cases e : c = b
    · rw [e]; exact ⟨_, upd_same, trivial⟩
    · rw [upd_ne e]; exact t.ok.tin c (ω.hT2 c k hcn)
/-- the rows' list is told anew -/
theorem Town.putRows {a : Addr} {dss dss' : List (List D)} {bs' : List Addr} {xs0 : List V} (t : Town ω n H) (hr : ω.root[k]? = some a) (h1 : ω.ow a = some k) (hH : H a = some (.lst xs0)) (nd : (a :: bs').Nodup) (ho : ∀ b ∈ bs', ω.ow b = some k) (l : dss'.length ≤ sizeLine) (r : RowsT H bs' dss') :
    Town ω (n.put k (.rows dss')) (upd H a (.lst (bs'.map V.ref))) ∧ Ext ω H ω (upd H a (.lst (bs'.map V.ref))) := by
  have tp : ∀ c zs, H c = some (.tup zs) → upd H a (.lst (bs'.map V.ref)) c = some (.tup zs) := fun c zs hc => by
    rw [upd_ne (fun z => by rw [z, hH] at hc; cases hc)]; exact hc
  refine t.put (fun c x hcn hx => ?_) (fun c hcn => ?_) hr ⟨h1, bs', nd, ho, upd_same, l, r.mono tp fun b hb x hx => ?_⟩
  · rw [upd_ne (fun z => hcn (by rw [z]; exact h1))]; exact hx
  · by_cases e : c = a
    · rw [e]; exact ⟨_, upd_same, trivial⟩
    · rw [upd_ne e]; exact t.ok.tin c (ω.hT2 c k hcn)
  · rw [upd_ne (fun z => (List.nodup_cons.mp nd).1 (by rw [← z]; exact hb))]; exact hx
theorem nodup_set {a p : Addr} {bs : List Addr} {i : Nat} (nd : (a :: bs).Nodup) (hp : p ∉ a :: bs) : (a :: bs.set i p).Nodup := by
  rw [List.nodup_cons] at nd ⊢
  refine ⟨fun z => ?_, ?_⟩
  · rcases List.mem_or_eq_of_mem_set z with q | q
    · exact nd.1 q
    · exact hp (by rw [q]; exact List.mem_cons_self)
  · have hp' : p ∉ bs := fun z => hp (List.mem_cons_of_mem _ z)
    have nd2 := nd.2
    clear nd hp
    induction bs generalizing i with
    | nil => exact List.Pairwise.nil
    | cons b bs ih =>
      rw [List.nodup_cons] at nd2
      cases i with
      | zero =>
        show (p :: bs).Nodup
        rw [List.nodup_cons]
        exact ⟨fun z => hp' (List.mem_cons_of_mem _ z), nd2.2⟩
      | succ i =>
        show (b :: bs.set i p).Nodup
        rw [List.nodup_cons]
        refine ⟨fun z => ?_, ih (fun z => hp' (List.mem_cons_of_mem _ z)) nd2.2⟩
        rcases List.mem_or_eq_of_mem_set z with q | q
        · exact nd2.1 q
        · exact hp' (by rw [q]; exact List.mem_cons_self)
end
/-- x = a new list of new lists: a cell -/
def pfLL : List (List D) → Bool
  | [] => true
  | ds :: r => pfL ds && pfLL r
theorem Rows.toT {K : PySem.W.Frag} {ω : Wd} {H : Hp} : ∀ {bs : List Addr} {dss : List (List D)}, Rows K ω H bs dss → pfLL dss = true → RowsT H bs dss
  | _, _, .nil, _ => .nil
  | _, _, .cons xs h l r t, c => by
    rw [pfLL, Bool.and_eq_true] at c
    exact .cons xs h l (r.rt c.1) (Rows.toT t c.2)
def sNewR (i : Nat) (f : Fe (List (List D))) : FS := fun S n => match f (frzE S) n with
  | some (dss, n1) => if pfLL dss then some (.nx (S.set i (some (.val (cref n1.c.length)))), n1.push (.rows dss)) else none
  | none => none
section
variable {X : Cx} {W : WX} {st : Stmt} {e : Expr} {pos : Pos}
theorem ms_newR {i : Nat} {te : TE} {f : Fe (List (List D))} (h : PS X st (tAsg te (gName i))) (hf : te = tMF2 X.K (clsA X.mg) f) : MS X W st (sNewR i f) := by
  subst hf
  refine ps_imp h fun Dn σ H q => ?_
  obtain ⟨ω0, H0, ω, S, n, fl, n', ⟨o, R⟩, e, a⟩ := q
  unfold sNewR at e
  split at e
  · rename_i dss n1 h1
    split at e
    · rename_i hl
      cases e
      refine ⟨ω, frzE S, n, dss, _, R.frz, R.town, h1, fun p bs ω' H' k t hf nd hp' l r => ?_⟩
      have rT := r.toT hl
      have R' := R.extF ((k.root1 (p := p)).joinNew (k := n1.c.length) (S := fun b => b ∈ p :: bs) fun b z => (hf b z).1) (t.push (S := fun b => b ∈ p :: bs) (p := p) (c := .rows dss) (fun b z => by
        rcases List.mem_cons.mp z with z | z
        · rw [z]; exact ⟨_, hp', trivial⟩
        · obtain ⟨ys, hy⟩ := rT.mem b z
          exact ⟨_, hy, trivial⟩) (fun b z => (hf b z).2) ⟨join_in List.mem_cons_self, bs, nd, fun b hb => join_in (List.mem_cons_of_mem _ hb), hp', l, rT⟩)
      exact a _ _ _ _ (R'.setVal (i := i) (.cell (root_push (S := fun b => b ∈ p :: bs) (t := t))))
    · cases e
  · cases e
/-- x[i].append(e), x a cell of rows; what is read is seen in the view -/
def sRowApp (r : Nat) (ms : List Bool) (fi fe : FE) : FS := fun S n => match cellS S[r]? with
  | some k => (match n.c[k]? with
    | some (.rows dss) => (match fi (resE n ms (frzE S)) n0 with
      | some (.int i, _) => (match dss[i.toNat]? with
        | some ds => (match fe (resE n ms (frzE S)) n0 with
          | some (d, _) => if decide (0 ≤ i) && pf d && decide (ds.length < lim) then some (.nx S, n.put k (.rows (dss.set i.toNat (ds ++ [d])))) else none
          | none => none)
        | none => none)
      | _ => none)
    | _ => none)
  | none => none
theorem ms_rowApp {r : Nat} {ms : List Bool} {fi fe : FE} (h : PS X st (tDrop (tBM X.K "list" rAppend (tOp (rIxL X.K) (tVar r) (tM X.K (clsA X.mg) fi)) (tCons (tM X.K (clsA X.mg) fe) tNil)))) : MS X W st (sRowApp r ms fi fe) := by
  refine ps_imp h fun Dn σ H q => ?_
  obtain ⟨ω0, H0, ω, S, n, fl, n', ⟨o, R⟩, e, a⟩ := q
  unfold sRowApp at e
  split at e
  · rename_i k hS
    split at e
    · rename_i dss hc
      split at e
      · rename_i i n1 h1
        split at e
        · rename_i ds hd
          split at e
          · rename_i d n2 h2
            split at e
            · rename_i hp
              cases e
              simp only [Bool.and_eq_true] at hp
              obtain ⟨⟨hi0, hp⟩, hl⟩ := hp
              have hi0 := of_decide_eq_true hi0
              have hl := of_decide_eq_true hl
              rw [lim_eq] at hl
              obtain ⟨p, hσ, hr⟩ := R.cellAt hS
              refine ⟨_, hσ, ?_⟩
              refine ⟨_, _, n0, _, n1, R.vw ms, town_V, h1, fun v1 ω1 H1 k1 _ r1 => ?_⟩
              cases r1
              have s1 := same_V k1
              have R1 := R.sm s1
              obtain ⟨ho, bs, nd, hbo, hH, l, rT⟩ := R1.town.at hr hc
              obtain ⟨b, xs, hb, hx, ld, rl⟩ := rT.get hd
              have hbl : i.toNat < bs.length := (List.getElem?_eq_some_iff.mp hb).1
              refine ⟨p, bs.map V.ref, i, .ref b, rfl, rfl, SqL.of hH, ?_, ?_⟩
              · unfold atI
                rw [List.length_map, ixN_nat hi0 hbl]
                show (bs.map V.ref)[i.toNat]? = _
                rw [List.getElem?_map, hb]
                rfl
              refine ⟨.inl ⟨rfl, _, SqL.of hx⟩, ?_⟩
              have RV := (R.vw ms).ext (Ext.of_same s1) town_V
              refine ⟨_, _, n0, _, n2, RV, town_V, h2, fun v2 ω2 H2 k2 _ r2 => ?_⟩
              have s2 := same_V k2
              have R2 := R1.sm s2
              have hx2 := s2 _ _ hx
              have rl2 : RtL H2 xs ds := rl.mono fun c zs hc => s2 _ _ hc
              refine ⟨b, xs, v2, rfl, rfl, hx2, by rw [rl.length]; exact hl, ?_⟩
              obtain ⟨t3, k3⟩ := R2.town.putRow hr hc (s2 _ _ hH) hb (ds' := ds ++ [d]) (xs' := xs ++ [v2]) (by rw [List.length_append]; simp; omega) (rl2.append (.cons (r2.rt hp) .nil))
              exact a _ _ _ o (R2.extF k3 t3)
            · cases e
          · cases e
        · cases e
      · cases e
    · cases e
  · cases e
/-- x[i] = a new list, x a cell of rows -/
def sRowPut (r : Nat) (ms : List Bool) (fi : FE) (fe : Fe (List D)) : FS := fun S n => match fe (resE n ms (frzE S)) n0 with
  | some (ds, _) => (match cellS S[r]? with
    | some k => (match fi (resE n ms (frzE S)) n0 with
      | some (.int i, _) => (match n.c[k]? with
        | some (.rows dss) => if decide (0 ≤ i) && decide (i.toNat < dss.length) && pfL ds then some (.nx S, n.put k (.rows (dss.set i.toNat ds))) else none
        | _ => none)
      | _ => none)
    | none => none)
  | none => none
theorem ms_rowPut {r : Nat} {ms : List Bool} {fi : FE} {fe : Fe (List D)} (h : PS X st (tAsg (tMF X.K (clsA X.mg) fe) (gSub (tVar r) (tM X.K (clsA X.mg) fi) rSetL))) : MS X W st (sRowPut r ms fi fe) := by
  refine ps_imp h fun Dn σ H q => ?_
  obtain ⟨ω0, H0, ω, S, n, fl, n', ⟨o, R⟩, e, a⟩ := q
  unfold sRowPut at e
  split at e
  · rename_i ds n1 h1
    split at e
    · rename_i k hS
      split at e
      · rename_i i n2 h2
        split at e
        · rename_i dss hc
          split at e
          · rename_i hp
            cases e
            simp only [Bool.and_eq_true] at hp
            obtain ⟨⟨hi0, hil⟩, hp⟩ := hp
            have hi0 := of_decide_eq_true hi0
            have hil := of_decide_eq_true hil
            obtain ⟨p, hσ, hr⟩ := R.cellAt hS
            refine ⟨_, _, n0, _, n1, R.vw ms, town_V, h1, fun q xs ω1 H1 k1 _ hq _ hq' lq rq => ?_⟩
            have s1 := same_V k1
            refine ⟨_, hσ, ?_⟩
            have RV := (R.vw ms).ext (Ext.of_same s1) town_V
            refine ⟨_, _, n0, _, n2, RV, town_V, h2, fun v2 ω2 H2 k2 _ r2 => ?_⟩
            cases r2
            have s2 := same_V k2
            have s12 : Same H H2 := fun b x hb => s2 b x (s1 b x hb)
            have hk : k < n.c.length := (List.getElem?_eq_some_iff.mp hc).1
            have hq2 := s2 _ _ hq'
            have nq : ¬ ω.T q := R.town.ok.notIn hq
            have tJ := (R.town.of_same s12).join (k := k) (S := fun b => b = q) hk (fun b z => by rw [z]; exact ⟨_, hq2, trivial⟩) (fun b z => by rw [z]; exact nq)
            have eJ := (Ext.of_same (ω := ω) s12).joinNew (k := k) (S := fun b => b = q) (fun b z => by rw [z]; exact hq)
            obtain ⟨ho, bs, nd, hbo, hH, l, rT⟩ := tJ.at (a := p) hr hc
            have rq2 : RtL H2 xs ds := (rq.rt hp).mono fun c zs hc => s2 _ _ hc
            have qn : q ∉ p :: bs := fun z => by
              obtain ⟨_, bs', _, hbo', hH', _, rT'⟩ := R.town.at hr hc
              rw [s12 _ _ hH'] at hH
              have e := refs_inj (HO.lst.inj (Option.some.inj hH))
              subst e
              rcases List.mem_cons.mp z with z | z
              · rw [z, hH'] at hq; cases hq
              · obtain ⟨ys, hy⟩ := rT'.mem q z
                rw [hq] at hy; cases hy
            refine ⟨p, bs.map V.ref, i, i.toNat, rfl, rfl, hH, by rw [List.length_map]; exact ixN_nat hi0 (by rw [rT.length]; exact hil), ?_⟩
            obtain ⟨t3, k3⟩ := tJ.putRows (dss := dss) (dss' := dss.set i.toNat ds) (bs' := bs.set i.toNat q) hr ho hH (nodup_set nd qn) (fun b hb => by
              rcases List.mem_or_eq_of_mem_set hb with z | z
              · exact hbo b z
              · rw [z]; exact join_in rfl) (by rw [List.length_set]; exact l) (rT.setA hq2 lq rq2)
            rw [List.map_set] at t3 k3
            exact a _ _ _ o (R.extF (eJ.trans k3) t3)
          · cases e
        · cases e
      · cases e
    · cases e
  · cases e
end


section
variable {K : PySem.W.Frag} {C : Addr} {ω0 : Wd} {H0 : Hp} {ω ω' ω1 : Wd} {S : Es} {n n' n1 : Sn} {σ : L2.St} {H H' H1 : Hp} {o o' o1 : Addr → Option Nat} {k : Nat}
theorem Wd.eqT {a b : Wd} (h1 : a.town = b.town) (h2 : a.C = b.C) (h3 : a.root = b.root) (h4 : a.ow = b.ow) (h5 : a.T = b.T) : a = b := by
  cases a; cases b
  cases h1; cases h2; cases h3; cases h4; cases h5
  rfl
theorem diff_plus {h : ∀ a, (ω1.plus o).has a → o a = none} (hn : ∀ a j, o a = some j → ¬ ω1.T a) : (ω1.plus o).diff o h = ω1 := by
  refine Wd.eqT rfl rfl rfl rfl (funext fun a => propext ⟨fun z => ?_, fun z => ⟨Or.inl z, ?_⟩⟩)
  · obtain ⟨z, q⟩ := z
    rcases z with z | ⟨j, z⟩
    · exact z
    · rw [q] at z; cases z
  · cases q : o a with
    | none => rfl
    | some j => exact absurd z (hn a j q)
theorem RS.setOwnF {i : Nat} {p : Addr} {xs : List V} {ds : List D} (R : RS K C ω0 H0 ω S n σ H o) (e : Ext ω H ω1 H1) (t : Town ω1 n1 H1) (hp : H p = none) (np : ¬ ω1.T p) (hp' : H1 p = some (.lst xs)) (l : ds.length ≤ sizeLine) (r : RpL K (ω1.add p) H1 xs ds) (hl : lfL ds = true) :
    RS K C ω0 H0 ω1 (S.set i (some (.own ds))) n1 (σ.set i (some (.ref p))) H1 (ownL o i (fun a => a = p)) := by
  have g := R.setOwn (i := i) (R.upE e) (R.upT e t) hp (fun z => z.elim np fun ⟨j, q⟩ => by
      obtain ⟨x, hx, _⟩ := R.own p j q
      rw [hp] at hx; cases hx) hp' l (RpL.lf (ω := ω1.add p) (ω' := (ω1.plus o).add p) rfl rfl r hl)
  rw [diff_plus fun a j h => ((R.extF e t).new a j h).2] at g
  exact g
end
/-! ### x, y = data, a new list;  x, y = a new list, a new list -/
section
variable {X : Cx} {W : WX} {st : Stmt}
/-- both ways in which a pair is stored -/
def gPair (i j : Nat) (ta : TA) : TS := fun D σ H => ta σ H fun vs H1 => ∃ v w, vs = [v, w] ∧ ∀ H2, Same H1 H2 → D.nx ((σ.set i (some v)).set j (some w)) H2
/-- the wish may be weakened -/
def TaMono (ta : TA) : Prop := ∀ σ H Q Q', (∀ vs H1, Q vs H1 → Q' vs H1) → ta σ H Q → ta σ H Q'
theorem ps_pair1 {i j : Nat} {ta : TA} (hm : TaMono ta) (h : PS X st (tPar i j ta)) : PS X st (gPair i j ta) := ps_imp h fun Dn σ H q => hm _ _ _ _ (fun vs H1 ⟨v, w, e, z⟩ => ⟨v, w, e, z H1 (Same.refl _)⟩) q
theorem ps_pair2 {i j : Nat} {ta : TA} (hm : TaMono ta) (h : PS X st (tAsg (tTup ta) (gTup X.K 2 (gCons (gName i) (gCons (gName j) gNil))))) : PS X st (gPair i j ta) := ps_imp h fun Dn σ H q => hm _ _ _ _ (fun vs H1 ⟨v, w, e, z⟩ => by
  subst e
  refine ⟨by show 2 ≤ sizeLine; decide, fun p hp => ⟨p, [v, w], rfl, SqT.of upd_same, rfl, v, [w], rfl, w, [], rfl, rfl, z _ (same_upd hp)⟩⟩) q
theorem tm_mono {K : PySem.W.Frag} {C : Addr} {f : FE} {σ : L2.St} {H : Hp} {Q Q' : VK} (m : ∀ v H1, Q v H1 → Q' v H1) (h : tM K C f σ H Q) : tM K C f σ H Q' := by
  obtain ⟨ω, env, n, d, n', R, t, e, k⟩ := h
  exact ⟨ω, env, n, d, n', R, t, e, fun v ω' H' a b c => m _ _ (k v ω' H' a b c)⟩
theorem tmf_mono {K : PySem.W.Frag} {C : Addr} {f : Fe (List D)} {σ : L2.St} {H : Hp} {Q Q' : VK} (m : ∀ v H1, Q v H1 → Q' v H1) (h : tMF K C f σ H Q) : tMF K C f σ H Q' := by
  obtain ⟨ω, env, n, d, n', R, t, e, k⟩ := h
  exact ⟨ω, env, n, d, n', R, t, e, fun p xs ω' H' a b c1 c2 c3 c4 c5 => m _ _ (k p xs ω' H' a b c1 c2 c3 c4 c5)⟩
theorem mono_vo {K : PySem.W.Frag} {C : Addr} {fa : FE} {fb : Fe (List D)} : TaMono (tCons (tM K C fa) (tCons (tMF K C fb) tNil)) := fun σ H Q Q' m h => tm_mono (fun v H1 z => tmf_mono (fun u H2 z2 => m _ _ z2) z) h
theorem mono_oo {K : PySem.W.Frag} {C : Addr} {fa fb : Fe (List D)} : TaMono (tCons (tMF K C fa) (tCons (tMF K C fb) tNil)) := fun σ H Q Q' m h => tmf_mono (fun v H1 z => tmf_mono (fun u H2 z2 => m _ _ z2) z) h
def sParVO (i j : Nat) (fa : FE) (fb : Fe (List D)) : FS := fun S n => match fa (frzE S) n with
  | some (d, n1) => (match fb (frzE S) n1 with
    | some (ds, n2) => if lf d && lfL ds then some (.nx ((S.set i (some (.val d))).set j (some (.own ds))), n2) else none
    | none => none)
  | none => none
theorem ms_parVO {i j : Nat} {fa : FE} {fb : Fe (List D)} (h : PS X st (gPair i j (tCons (tM X.K (clsA X.mg) fa) (tCons (tMF X.K (clsA X.mg) fb) tNil)))) : MS X W st (sParVO i j fa fb) := by
  refine ps_imp h fun Dn σ H q => ?_
  obtain ⟨ω0, H0, ω, S, n, fl, n', ⟨o, R⟩, e, a⟩ := q
  unfold sParVO at e
  split at e
  · rename_i d n1 h1
    split at e
    · rename_i ds n2 h2
      split at e
      · rename_i hl
        rw [Bool.and_eq_true] at hl
        cases e
        refine tM_run R.frz R.town h1 fun v ω1 H1 k1 R1 t1 r1 => ?_
        refine ⟨ω1, frzE S, n1, ds, _, R1, t1, h2, fun p xs ω2 H2 k2 t2 hp np hp' l r => ⟨v, .ref p, rfl, fun H3 s => ?_⟩⟩
        have Ra := (R.extF k1 t1).setVal (i := i) (r1.lfS hl.1)
        exact a _ _ _ _ ((Ra.setOwnF (i := j) k2 t2 hp np hp' l r hl.2).sm s)
      · cases e
    · cases e
  · cases e
def sParOO (i j : Nat) (fa fb : Fe (List D)) : FS := fun S n => match fa (frzE S) n with
  | some (ds, n1) => (match fb (frzE S) n1 with
    | some (es, n2) => if lfL ds && lfL es then some (.nx ((S.set i (some (.own ds))).set j (some (.own es))), n2) else none
    | none => none)
  | none => none
theorem ms_parOO {i j : Nat} {fa fb : Fe (List D)} (h : PS X st (gPair i j (tCons (tMF X.K (clsA X.mg) fa) (tCons (tMF X.K (clsA X.mg) fb) tNil)))) : MS X W st (sParOO i j fa fb) := by
  refine ps_imp h fun Dn σ H q => ?_
  obtain ⟨ω0, H0, ω, S, n, fl, n', ⟨o, R⟩, e, a⟩ := q
  unfold sParOO at e
  split at e
  · rename_i ds n1 h1
    split at e
    · rename_i es n2 h2
      split at e
      · rename_i hl
        rw [Bool.and_eq_true] at hl
        cases e
        refine ⟨ω, frzE S, n, ds, _, R.frz, R.town, h1, fun p xs ω1 H1 k1 t1 hp np hp' l r => ?_⟩
        refine ⟨ω1, frzE S, n1, es, _, R.frz.ext k1 t1, t1, h2, fun p2 ys ω2 H2 k2 t2 hp2 np2 hp2' l2 r2 => ⟨.ref p, .ref p2, rfl, fun H3 s => ?_⟩⟩
        have Ra := R.setOwnF (i := i) k1 t1 hp np hp' l r hl.1
        exact a _ _ _ _ ((Ra.setOwnF (i := j) k2 t2 hp2 np2 hp2' l2 r2 hl.2).sm s)
      · cases e
    · cases e
  · cases e
/-- x, y = data, a new list as a cell;  both cells -/
def sParVC (i j : Nat) (fa : FE) (fb : Fe (List D)) : FS := fun S n => match fa (frzE S) n with
  | some (d, n1) => (match fb (frzE S) n1 with
    | some (ds, n2) => if lf d && pfL ds then some (.nx ((S.set i (some (.val d))).set j (some (.val (cref n2.c.length)))), n2.push (.lst ds)) else none
    | none => none)
  | none => none
theorem RS.setNewC {K : PySem.W.Frag} {C : Addr} {ω0 : Wd} {H0 : Hp} {ω ω1 : Wd} {S : Es} {n n1 : Sn} {σ : L2.St} {H H1 : Hp} {o : Addr → Option Nat} {i : Nat} {p : Addr} {xs : List V} {ds : List D} (R : RS K C ω0 H0 ω S n σ H o) (e : Ext ω H ω1 H1) (t : Town ω1 n1 H1) (hp : H p = none) (np : ¬ ω1.T p) (hp' : H1 p = some (.lst xs)) (l : ds.length ≤ sizeLine) (r : RtL H1 xs ds) :
    ∃ ω2 o2, RS K C ω0 H0 ω2 (S.set i (some (.val (cref n1.c.length)))) (n1.push (.lst ds)) (σ.set i (some (.ref p))) H1 o2 := by
  have R' := R.extF ((e.root1 (p := p)).joinNew (k := n1.c.length) (S := fun b => b = p) fun b z => by rw [z]; exact hp) (t.pushL hp' np l r)
  exact ⟨_, _, R'.setVal (i := i) (.cell (root_push (S := fun b => b = p) (t := t)))⟩
theorem ms_parVC {i j : Nat} {fa : FE} {fb : Fe (List D)} (h : PS X st (gPair i j (tCons (tM X.K (clsA X.mg) fa) (tCons (tMF X.K (clsA X.mg) fb) tNil)))) : MS X W st (sParVC i j fa fb) := by
  refine ps_imp h fun Dn σ H q => ?_
  obtain ⟨ω0, H0, ω, S, n, fl, n', ⟨o, R⟩, e, a⟩ := q
  unfold sParVC at e
  split at e
  · rename_i d n1 h1
    split at e
    · rename_i ds n2 h2
      split at e
      · rename_i hl
        rw [Bool.and_eq_true] at hl
        cases e
        refine tM_run R.frz R.town h1 fun v ω1 H1 k1 R1 t1 r1 => ?_
        refine ⟨ω1, frzE S, n1, ds, _, R1, t1, h2, fun p xs ω2 H2 k2 t2 hp np hp' l r => ⟨v, .ref p, rfl, fun H3 s => ?_⟩⟩
        have Ra := (R.extF k1 t1).setVal (i := i) (r1.lfS hl.1)
        obtain ⟨ω3, o3, Rb⟩ := Ra.setNewC (i := j) k2 t2 hp np hp' l (r.rt hl.2)
        exact a _ _ _ _ (Rb.sm s)
      · cases e
    · cases e
  · cases e
/-- x, y = an own list, a cell -/
def sParOC (i j : Nat) (fa fb : Fe (List D)) : FS := fun S n => match fa (frzE S) n with
  | some (ds, n1) => (match fb (frzE S) n1 with
    | some (es, n2) => if lfL ds && pfL es then some (.nx ((S.set i (some (.own ds))).set j (some (.val (cref n2.c.length)))), n2.push (.lst es)) else none
    | none => none)
  | none => none
theorem ms_parOC {i j : Nat} {fa fb : Fe (List D)} (h : PS X st (gPair i j (tCons (tMF X.K (clsA X.mg) fa) (tCons (tMF X.K (clsA X.mg) fb) tNil)))) : MS X W st (sParOC i j fa fb) := by
  refine ps_imp h fun Dn σ H q => ?_
  obtain ⟨ω0, H0, ω, S, n, fl, n', ⟨o, R⟩, e, a⟩ := q
  unfold sParOC at e
  split at e
  · rename_i ds n1 h1
    split at e
    · rename_i es n2 h2
      split at e
      · rename_i hl
        rw [Bool.and_eq_true] at hl
        cases e
        refine ⟨ω, frzE S, n, ds, _, R.frz, R.town, h1, fun p xs ω1 H1 k1 t1 hp np hp' l r => ?_⟩
        refine ⟨ω1, frzE S, n1, es, _, R.frz.ext k1 t1, t1, h2, fun p2 ys ω2 H2 k2 t2 hp2 np2 hp2' l2 r2 => ⟨.ref p, .ref p2, rfl, fun H3 s => ?_⟩⟩
        have Ra := R.setOwnF (i := i) k1 t1 hp np hp' l r hl.1
        obtain ⟨ω3, o3, Rb⟩ := Ra.setNewC (i := j) k2 t2 hp2 np2 hp2' l2 (r2.rt hl.2)
        exact a _ _ _ _ (Rb.sm s)
      · cases e
    · cases e
  · cases e
end
/-! ### packed rules -/
section
variable {X : Cx} {W : WX} {x y : Str} {a b e : Expr} {ta : TA} {te : TE} {px py pt pos pos' pt2 : Pos} {kt k2 : Nat}
theorem kpairP (i j : Nat) (hN : X.N.Nodup) (hm : TaMono ta) (ha : PA X [a, b] ta) (hi : X.N[i]? = some x := by kernel_rfl) (hj : X.N[j]? = some y := by kernel_rfl) (hij : Nat.beq i j = false := by kernel_rfl)
    (hx : lclB X.env.scope x = true := by kernel_rfl) (hy : lclB X.env.scope y = true := by kernel_rfl) (hc : X.calm = true := by kernel_rfl)
    (hw : swappedStores [.Tuple [.Name x px, .Name y py] kt pt] (.Tuple [a, b] k2 pt2) X.env = pure (some [x, y]) := by kernel_rfl)
    (hs : swapsWithSole [.Tuple [.Name x px, .Name y py] kt pt] (.Tuple [a, b] k2 pt2) pos.line X.env = pure false := by kernel_rfl) :
    PS X (.Assign [.Tuple [.Name x px, .Name y py] kt pt] (.Tuple [a, b] k2 pt2) pos) (gPair i j ta) := ps_pair1 hm (kparP i j hN ha hi hj hij hx hy hc hw hs)
theorem kpairT (i j : Nat) (hN : X.N.Nodup) (hm : TaMono ta) (ha : PA X [a, b] ta) (hi : X.N[i]? = some x := by kernel_rfl) (hj : X.N[j]? = some y := by kernel_rfl)
    (hx : locB X.env.scope x = true := by kernel_rfl) (hfx : (X.fn x || lclB X.env.scope x) = true := by kernel_rfl) (hy : locB X.env.scope y = true := by kernel_rfl) (hfy : (X.fn y || lclB X.env.scope y) = true := by kernel_rfl) (hc : X.calm = true := by kernel_rfl)
    (hn : (assignEach [.Name x px, .Name y py] X.env).length = 2 := by kernel_rfl) (hst : (assignEach [.Name x px, .Name y py] X.env).findIdx? (·.1) = none := by kernel_rfl)
    (hs : swapsWithSole [.Tuple [.Name x px, .Name y py] kt pt] (.Tuple [a, b] k2 pt2) pos.line X.env = pure false := by kernel_rfl) (hw : swappedStores [.Tuple [.Name x px, .Name y py] kt pt] (.Tuple [a, b] k2 pt2) X.env = pure none := by kernel_rfl)
    (h1 : (assignEach [.Tuple [.Name x px, .Name y py] kt pt] X.env).map (·.2) = [assign (.Tuple [.Name x px, .Name y py] kt pt) X.env] := by kernel_rfl) :
    PS X (.Assign [.Tuple [.Name x px, .Name y py] kt pt] (.Tuple [a, b] k2 pt2) pos) (gPair i j ta) :=
  ps_pair2 hm (ps_asg (pe_tup ha) (pg_tup hc (pgs_cons (pg_name hN hi (loc_of hx) (fn_of' hfx)) (pgs_cons (pg_name hN hj (loc_of hy) (fn_of' hfy)) pgs_nil)) hn hst) hs hw h1)
theorem kpa2 {t1 t2 : TE} (ha : PE X a t1) (hb : PE X b t2) (hs : starEach [a, b] X.env = (false, eval a X.env) :: starEach [b] X.env := by kernel_rfl) (hs2 : starEach [b] X.env = (false, eval b X.env) :: starEach [] X.env := by kernel_rfl) : PA X [a, b] (tCons t1 (tCons t2 tNil)) := pa_cons ha (pa_cons hb pa_nil hs2) hs
theorem kpset (i : Nat) (hN : X.N.Nodup) (he : PE X e te) (hi : X.N[i]? = some x := by kernel_rfl) (hx : locB X.env.scope x = true := by kernel_rfl) (hs : swapsWith e (some (.Name x pos')) pos.line X.env = pure false := by kernel_rfl) (hf : (X.fn x || lclB X.env.scope x) = true := by kernel_rfl) :
    PS X (.Assign [.Name x pos'] e pos) (tAsg te (gName i)) := ps_set hN hi (loc_of hx) he hs (fn_of' hf)
theorem kpop {o : Expr} {to : TE} {apos cpos : Pos} (ho : PE X o to) (hb : attributeBase o "pop" X.env (eval o X.env) = eval o X.env := by kernel_rfl) (hline : (apos.endLine == cpos.line) = true := by kernel_rfl) : PE X (.Call (.Attribute o "pop" apos) [] [] cpos) (tBM0 X.K "list" rPop to) :=
  pe_bm0 PySem.F.plainAttrs_list PySem.F.slot_list_pop PySem.F.type_list_pop mt_pop ho hb hline
theorem kgsub {o i : Expr} {to ti : TE} {t : TSet} {spos : Pos} (ho : PE X o to) (hi : PE X i ti) (hs : PSet X t) (ha : ∀ v, assign (.Subscript o i spos) X.env v = (do
      let ov ← holding [v] (eval o X.env)
      let iv ← holding [v, ov] (eval i X.env)
      standAt spos
      holding [v, ov, iv] (setItem ov iv v)
      release [v, ov, iv] []) := by intro _; kernel_rfl) : PG X (.Subscript o i spos) (gSub to ti t) := pg_sub ho hi hs ha
theorem kasg {tg : Expr} {g : TG} (he : PE X e te) (hg : PG X tg g) (hs : swapsWithSole [tg] e pos.line X.env = pure false := by kernel_rfl) (hw : swappedStores [tg] e X.env = pure none := by kernel_rfl)
    (h1 : (assignEach [tg] X.env).map (·.2) = [assign tg X.env] := by kernel_rfl) : PS X (.Assign [tg] e pos) (tAsg te g) := ps_asg he hg hs hw h1
theorem kpix {o i : Expr} {to ti : TE} {r : R2} {ipos : Pos} (hr : IxR X r) (ho : PE X o to) (hi : PE X i ti) (hs : ∀ o' i', subscripted i false o' i' = operate [o', i'] (getItem o' i') := by intro _ _; kernel_rfl) : PE X (.Subscript o i ipos) (tOp r to ti) := pe_ix hr ho hi hs
theorem kpappend {to : TE} {cpos apos : Pos} {te : TE} (ho : PE X e to) (he : PE X a te) (hb : attributeBase e "append" X.env (eval e X.env) = eval e X.env := by kernel_rfl)
    (hfew : ((backTo cpos (starEach [a] X.env)).all (fun x => !x.1) && (backToKw cpos (keywordEach [] X.env)).all (fun x => x.1.isSome) && decide ([a].length + ([] : List Keyword).length + (if ([] : List Keyword).isEmpty then 0 else 1) < 30)) = true := by kernel_rfl)
    (hline : (apos.endLine == cpos.line) = true := by kernel_rfl) (hs : starEach [a] X.env = (false, eval a X.env) :: starEach [] X.env := by kernel_rfl) (hpl : (backTo cpos (starEach [] X.env)).any (·.1) = false := by kernel_rfl) (hsw : swapsWith (.Call (.Attribute e "append" apos) [a] [] cpos) none pos.line X.env = pure false := by kernel_rfl) :
    PS X (.Expr (.Call (.Attribute e "append" apos) [a] [] cpos) pos) (tDrop (tBM X.K "list" rAppend to (tCons te tNil))) :=
  ps_expr (pe_bm PySem.F.plainAttrs_list PySem.F.slot_list_append PySem.F.type_list_append mt_append ho (pa_cons he pa_nil hs) hb hfew hline hs hpl) hsw
theorem kcallC {es : List Expr} {fs : Fe (List D)} {p : Pos} {j k ar : Nat} {fr : Bool} {m : Fn} (hh : Has X.prog X.w X.K X.mg X.base x k ar fr m) (hl : ∀ ds n, ds.length ≠ ar → m ds n = none) (hr : Room j X.A) (tk : Takes X W) (ha : MA X (e :: es) fs) (hk : Nat.ble k j = true := by kernel_rfl) (hg : X.env.kindOf x = some .globalImplicit := by kernel_rfl)
    (hs : swapsWith (.Call (.Name x p) (e :: es) [] pos) none pos'.line X.env = pure false := by kernel_rfl) (hdb : (x == ("__debug__" : Str)) = false := by kernel_rfl) (he : starEach (e :: es) X.env = (false, eval e X.env) :: starEach es X.env := by kernel_rfl) (hpl : (backTo pos (starEach es X.env)).any (·.1) = false := by kernel_rfl) :
    MS X W (.Expr (.Call (.Name x p) (e :: es) [] pos) pos') (sCallC m fs) := by
  obtain ⟨f, fd, ps, F, hm, hkp, hb⟩ := hh.ex
  exact ms_callC hl (ps_expr (pe_callS F (hr.mono (Nat.le_of_ble_eq_true hk)) hg hm hkp hb (fun σ => passAt tk σ) ha hdb he hpl) hs)
end
/-! ### a def that calls itself -/
theorem fn_none {P : Program} {w : World} {K : PySem.W.Frag} {mg : Str → Option Value} {base : Heap} {CX : CXT} {f : Addr} {fd : FuncData} {ps : List Str} {k ar : Nat} {fr : Bool} : FnOk P w K mg base CX k f fd ps (spX K mg ar fr fun _ _ => none) :=
  ⟨fun vs H Q E h => (by obtain ⟨_, _, _, _, _, _, _, _, _, e, _⟩ := h; cases e), fun A outer s H args us vs Q E _ _ _ _ h => by obtain ⟨_, _, _, _, _, _, _, _, _, e, _⟩ := h; cases e⟩
/-- a def's mirror by how deep it may call itself -/
def recF (g : Fn → Fn) : Nat → Fn
  | 0 => fun _ _ => none
  | d + 1 => g (recF g d)
theorem recF_len {g : Fn → Fn} {ar : Nat} (h : ∀ m ds n, ds.length ≠ ar → g m ds n = none) : ∀ d ds n, ds.length ≠ ar → recF g d ds n = none
  | 0, _, _, _ => rfl
  | d + 1, ds, n, hl => h _ ds n hl
theorem bleR {n : Nat} : Nat.ble n n = true := Nat.ble_eq.mpr (Nat.le_refl n)
theorem ps_vF {X : Cx} {st : Stmt} {g : TG} {f : Fe (List D)} (ms : List Bool) (h : PS X st (tAsg (tMF X.K (clsA X.mg) f) g)) : PS X st (tAsg (tMF X.K (clsA X.mg) (aV ms f)) g) := ps_imp h fun Dn σ H q => by
  obtain ⟨ω, env, n, ds, n', R, t, e, k⟩ := q
  unfold aV at e
  split at e
  · rename_i d1 n1 h1
    split at e
    · rename_i hp
      cases e
      exact ⟨_, _, n0, _, n1, R.view t ms, town_V, h1, fun p xs ω' H' k1 _ hp0 _ hp' l r1 => k p xs ω H' (Ext.of_same (same_V k1)) (t.of_same (same_V k1)) hp0 (t.ok.notIn hp0) hp' l (r1.rt hp).rp⟩
    · cases e
  · cases e


/-! ### list(range(n)), tuple(range(n)) -/
theorem rgV_ints (j : Int) : rgV 0 j = ((List.range j.toNat).map fun i => ((i : Nat) : Int)).map V.int := by
  unfold rgV
  rw [List.map_map, Int.sub_zero]
  exact List.map_congr_left fun i _ => by show V.int (0 + (i : Nat)) = V.int (i : Nat); rw [Int.zero_add]
def rgI (j : Int) : List D := (List.range j.toNat).map fun i => .int ((i : Nat) : Int)
theorem rgI_eq (j : Int) : rgI j = ((List.range j.toNat).map fun i => ((i : Nat) : Int)).map PyData.int := by
  unfold rgI
  rw [List.map_map]
  rfl
def aRg (f : FE) : Fe (List D) := fun env n => match f env n with
  | some (.int j, n1) => if j ≤ 16777216 ∧ -16777216 ≤ j then some (rgI j, n1) else none
  | _ => none
def eTupRg (f : FE) : FE := fun env n => match f env n with
  | some (.int j, n1) => if j ≤ 16777216 ∧ -16777216 ≤ j then some (.tuple (rgI j), n1) else none
  | _ => none
theorem rgI_len {j : Int} (h : j ≤ 16777216) : (rgI j).length ≤ sizeLine := by
  unfold rgI
  rw [List.length_map, List.length_range, sizeLine_eq]
  omega
section
variable {X : Cx} {a : Expr} {f : FE} {p p2 q pos : Pos}
theorem mf_listRg (hc : X.calm = true) (hg : Gl X "list") (hm : X.mg "list" = none) (hg2 : Gl X "range") (hm2 : X.mg "range" = none) (ha : ME X a f) (na : starEach [a] X.env = (false, eval a X.env) :: starEach [] X.env)
    (nb : starEach [.Call (.Name "range" p2) [a] [] q] X.env = (false, eval (.Call (.Name "range" p2) [a] [] q) X.env) :: starEach [] X.env) : MF X (.Call (.Name "list" p) [.Call (.Name "range" p2) [a] [] q] [] pos) (aRg f) := by
  refine pe_imp (pe_listRg hc hg hm (prg_1 hg2 hm2 ha na) nb) fun σ H Q z => ?_
  obtain ⟨ω, env, n, ds, n', R, t, e, k⟩ := z
  unfold aRg at e
  split at e
  · rename_i j n1 h1
    split at e
    · rename_i hj
      cases e
      refine tM_run R t h1 fun v ω1 H1 k1 R1 t1 r1 => ?_
      cases r1
      refine ⟨j, rfl, ⟨by omega, by omega, by omega, by omega, by omega⟩, fun q hq => ?_⟩
      rw [rgV_ints]
      exact k q _ ω1 _ (k1.trans (Ext.of_same (same_upd hq))) (t1.of_same (same_upd hq)) (k1.noneB hq) (R1.ok.notIn hq) upd_same (rgI_len hj.1) (by rw [rgI_eq]; exact RpL.ints _)
    · cases e
  · cases e
theorem me_tupRg (hc : X.calm = true) (hg : Gl X "tuple") (hm : X.mg "tuple" = none) (hg2 : Gl X "range") (hm2 : X.mg "range" = none) (ha : ME X a f) (na : starEach [a] X.env = (false, eval a X.env) :: starEach [] X.env)
    (nb : starEach [.Call (.Name "range" p2) [a] [] q] X.env = (false, eval (.Call (.Name "range" p2) [a] [] q) X.env) :: starEach [] X.env) : ME X (.Call (.Name "tuple" p) [.Call (.Name "range" p2) [a] [] q] [] pos) (eTupRg f) := by
  refine pe_imp (pe_tupRg hc hg hm (prg_1 hg2 hm2 ha na) nb) fun σ H Q z => ?_
  obtain ⟨ω, env, n, ds, n', R, t, e, k⟩ := z
  unfold eTupRg at e
  split at e
  · rename_i j n1 h1
    split at e
    · rename_i hj
      cases e
      refine tM_run R t h1 fun v ω1 H1 k1 R1 t1 r1 => ?_
      cases r1
      refine ⟨j, rfl, ⟨by omega, by omega, by omega, by omega, by omega⟩, fun q hq => ?_⟩
      rw [rgV_ints]
      exact k _ ω1 _ (k1.trans (Ext.of_same (same_upd hq))) (t1.of_same (same_upd hq)) (.tup upd_same (rgI_len hj.1) (by rw [rgI_eq]; exact RpL.ints _))
    · cases e
  · cases e
theorem klistRg (hm : X.mg "list" = none) (hm2 : X.mg "range" = none) (ha : ME X a f) (hc : X.calm = true := by kernel_rfl) (hg : X.env.kindOf "list" = some .globalImplicit := by kernel_rfl) (hg2 : X.env.kindOf "range" = some .globalImplicit := by kernel_rfl) (na : starEach [a] X.env = (false, eval a X.env) :: starEach [] X.env := by kernel_rfl)
    (nb : starEach [.Call (.Name "range" p2) [a] [] q] X.env = (false, eval (.Call (.Name "range" p2) [a] [] q) X.env) :: starEach [] X.env := by kernel_rfl) : MF X (.Call (.Name "list" p) [.Call (.Name "range" p2) [a] [] q] [] pos) (aRg f) := mf_listRg hc hg hm hg2 hm2 ha na nb
theorem ktupRg (hm : X.mg "tuple" = none) (hm2 : X.mg "range" = none) (ha : ME X a f) (hc : X.calm = true := by kernel_rfl) (hg : X.env.kindOf "tuple" = some .globalImplicit := by kernel_rfl) (hg2 : X.env.kindOf "range" = some .globalImplicit := by kernel_rfl) (na : starEach [a] X.env = (false, eval a X.env) :: starEach [] X.env := by kernel_rfl)
    (nb : starEach [.Call (.Name "range" p2) [a] [] q] X.env = (false, eval (.Call (.Name "range" p2) [a] [] q) X.env) :: starEach [] X.env := by kernel_rfl) : ME X (.Call (.Name "tuple" p) [.Call (.Name "range" p2) [a] [] q] [] pos) (eTupRg f) := me_tupRg hc hg hm hg2 hm2 ha na nb
end

/-! ### sorted(set(t)), len(set(t)): t a tuple of ints -/
def insU (x : Int) : List Int → List Int
  | [] => [x]
  | y :: r => if x < y then x :: y :: r else if x = y then y :: r else y :: insU x r
/-- ascending, each once -/
def sdup (ns : List Int) : List Int := ns.foldr insU []
theorem insU_mem {x z : Int} : ∀ {l : List Int}, z ∈ insU x l ↔ z = x ∨ z ∈ l
  | [] => by simp [insU]
  | y :: r => by
    unfold insU
    split
    · simp
    · split
      · rename_i h; subst h; simp
      · rw [List.mem_cons, insU_mem, List.mem_cons]
        constructor
        · rintro (h | h | h)
          · exact .inr (.inl h)
          · exact .inl h
          · exact .inr (.inr h)
        · rintro (h | h | h)
          · exact .inr (.inl h)
          · exact .inl h
          · exact .inr (.inr h)
theorem insU_asc {x : Int} : ∀ {l : List Int}, l.Pairwise (· < ·) → (insU x l).Pairwise (· < ·)
  | [], _ => by simp [insU]
  | y :: r, h => by
    obtain ⟨h1, h2⟩ := List.pairwise_cons.mp h
    unfold insU
    split
    · rename_i hxy
      refine List.pairwise_cons.mpr ⟨fun z hz => ?_, h⟩
      rcases List.mem_cons.mp hz with q | q
      · rw [q]; exact hxy
      · exact Int.lt_trans hxy (h1 z q)
    · split
      · exact h
      · refine List.pairwise_cons.mpr ⟨fun z hz => ?_, insU_asc h2⟩
        rcases insU_mem.mp hz with q | q
        · omega
        · exact h1 z q
theorem sdup_mem {z : Int} : ∀ {ns : List Int}, z ∈ sdup ns ↔ z ∈ ns
  | [] => by simp [sdup]
  | x :: r => by
    show z ∈ insU x (sdup r) ↔ _
    rw [insU_mem, sdup_mem, List.mem_cons]
theorem sdup_asc : ∀ {ns : List Int}, (sdup ns).Pairwise (· < ·)
  | [] => by simp [sdup]
  | x :: r => insU_asc (sdup_asc (ns := r))
/-- two ascending lists with the same members are one -/
theorem asc_eq : ∀ {l m : List Int}, l.Pairwise (· < ·) → m.Pairwise (· < ·) → (∀ z, z ∈ l ↔ z ∈ m) → l = m
  | [], [], _, _, _ => rfl
  | [], y :: r, _, _, h => absurd ((h y).mpr List.mem_cons_self) (by simp)
  | x :: l, [], _, _, h => absurd ((h x).mp List.mem_cons_self) (by simp)
  | x :: l, y :: m, hl, hm, h => by
    obtain ⟨h1, h2⟩ := List.pairwise_cons.mp hl
    obtain ⟨h3, h4⟩ := List.pairwise_cons.mp hm
    have e : x = y := by
      have a := (h x).mp List.mem_cons_self
      have b := (h y).mpr List.mem_cons_self
      rcases List.mem_cons.mp a with q | q
      · exact q
      · rcases List.mem_cons.mp b with r | r
        · exact r.symm
        · have := h1 y r
          have := h3 x q
          omega
    subst e
    rw [asc_eq h2 h4 fun z => ⟨fun hz => ?_, fun hz => ?_⟩]
    · rcases List.mem_cons.mp ((h z).mp (List.mem_cons_of_mem _ hz)) with q | q
      · have := h1 z hz; omega
      · exact q
    · rcases List.mem_cons.mp ((h z).mpr (List.mem_cons_of_mem _ hz)) with q | q
      · have := h3 z hz; omega
      · exact q
def tSortSet (K : PySem.W.Frag) (ta : TE) : TE := fun σ H Q => ta σ H fun x H1 => ∃ (l : Addr) (ns : List Int), x = .ref l ∧ SqT K H1 l (ns.map V.int) ∧ ns.length < 64 ∧ ∀ p, H1 p = none → Q (.ref p) (upd H1 p (.lst ((sdup ns).map V.int)))
def tLenSetT (K : PySem.W.Frag) (ta : TE) : TE := fun σ H Q => ta σ H fun x H1 => ∃ (l : Addr) (ns : List Int), x = .ref l ∧ SqT K H1 l (ns.map V.int) ∧ ns.length < 4000 ∧ Q (.int ((sdup ns).length : Nat)) H1
section
variable {X : Cx} {a : Expr} {ta : TE} {f : FE} {p p2 q pos : Pos}
theorem pe_sortSet (hg : Gl X "sorted") (hm : X.mg "sorted" = none) (hg2 : Gl X "set") (hm2 : X.mg "set" = none) (ha : PE X a ta) (hc : X.calm = true)
    (na : starEach [a] X.env = (false, eval a X.env) :: starEach [] X.env) (nb : starEach [.Call (.Name "set" p2) [a] [] q] X.env = (false, eval (.Call (.Name "set" p2) [a] [] q) X.env) :: starEach [] X.env) : PE X (.Call (.Name "sorted" p) [.Call (.Name "set" p2) [a] [] q] [] pos) (tSortSet X.K ta) := by
  refine ⟨fun pins s σ H Q I h => ?_⟩
  refine Call_ (ld_blt I hg hm (by decide +kernel : bootBuiltins "sorted" = some (.builtin "sorted")) ?_)
  refine PyProof.Rows.callWith_builtin1 (PyProof.Rows.args_cons ?_ nb) nb rfl
  refine Call_ (ld_blt I hg2 hm2 boot_set ?_)
  refine PyProof.Rows.callWith_type1 (PyProof.Rows.args_cons (thn (ha.run pins s σ H _ I h) fun v s1 ⟨x, H1, I1, r1, q1⟩ => PyProof.Rows.args_nil ?_) na) na rfl
  obtain ⟨l, ns, rfl, hq, hl, q1⟩ := q1
  cases r1
  obtain ⟨its, r, pl, hz⟩ := I1.tuple hq
  have hi := RZ.intsAre_vals r
  refine call_set_tupI ns (I1.ok.hd hc) (show s1.heap.IsTuple l its.toArray from pl) (by simpa using hi) (by unfold scanBound; omega) fun h' tk c R hcl hk => ?_
  refine PyProof.Rows.args_nil ?_
  have I2 : Inv X pins σ H1 { s1 with heap := h', toks := tk } := I1.kept fun b o e => hk b o e
  refine sorted_set R (I2.ok.hd hc) (by omega) fun s' p out c2 ns' k g o hp hg' hi' hs' hm' hl' => ?_
  have e0 : ns' = sdup ns := asc_eq hs' sdup_asc fun z => by rw [hm' z, sdup_mem]; simp
  subst e0
  have hlen : ((sdup ns).map V.int).length ≤ sizeLine := by rw [List.length_map, hl', sizeLine_eq]; omega
  have hn : H1 p = none := I2.hok.fresh hp
  have J : Inv X pins σ (upd H1 p (.lst ((sdup ns).map V.int))) { ({ s1 with heap := h', toks := tk } : Shared) with heap := s'.heap, gens := s'.gens, drawn := s'.drawn, toks := s'.toks } :=
    I2.call (s := { s1 with heap := h', toks := tk }) (ch := []) (Un.laid k hp hn) (I2.hok.laid k hp ⟨hlen, out.toList, c2, vals_of_ints hi', hg'⟩) (by rw [g]; exact I2.bare) (fun _ z => nomatch z)
  have e : s' = { ({ s1 with heap := h', toks := tk } : Shared) with heap := s'.heap, gens := s'.gens, drawn := s'.drawn, toks := s'.toks } := by
    cases s'
    cases s1
    cases o
    rfl
  rw [e]
  exact ⟨.ref p, _, J, rfl, q1 p hn⟩
theorem pe_lenSetT (hg : Gl X "len") (hm : X.mg "len" = none) (hg2 : Gl X "set") (hm2 : X.mg "set" = none) (ha : PE X a ta) (hc : X.calm = true)
    (na : starEach [a] X.env = (false, eval a X.env) :: starEach [] X.env) (nb : starEach [.Call (.Name "set" p2) [a] [] q] X.env = (false, eval (.Call (.Name "set" p2) [a] [] q) X.env) :: starEach [] X.env) : PE X (.Call (.Name "len" p) [.Call (.Name "set" p2) [a] [] q] [] pos) (tLenSetT X.K ta) := by
  refine ⟨fun pins s σ H Q I h => ?_⟩
  refine Call_ (ld_blt I hg hm boot_len ?_)
  refine PyProof.Rows.callWith_builtin1 (PyProof.Rows.args_cons ?_ nb) nb rfl
  refine Call_ (ld_blt I hg2 hm2 boot_set ?_)
  refine PyProof.Rows.callWith_type1 (PyProof.Rows.args_cons (thn (ha.run pins s σ H _ I h) fun v s1 ⟨x, H1, I1, r1, q1⟩ => PyProof.Rows.args_nil ?_) na) na rfl
  obtain ⟨l, ns, rfl, hq, hl, q1⟩ := q1
  cases r1
  obtain ⟨its, r, pl, hz⟩ := I1.tuple hq
  have hi := RZ.intsAre_vals r
  refine call_set_tupI ns (I1.ok.hd hc) (show s1.heap.IsTuple l its.toArray from pl) (by simpa using hi) (by unfold scanBound; omega) fun h' tk c R hcl hk => ?_
  refine PyProof.Rows.args_nil ?_
  have I2 : Inv X pins σ H1 { s1 with heap := h', toks := tk } := I1.kept fun b o e => hk b o e
  obtain ⟨o, es, ep, t, ho, hex, hd, g, nd, hm', hb, hf, hn, hr, hld⟩ := R
  have hsz : es.size = (sdup ns).length := by
    have pm : (es.toList.map keyOf).Perm (sdup ns) := (List.perm_ext_iff_of_nodup nd (sdup_asc.imp fun h => Int.ne_of_lt h)).mpr fun z => by
      rw [← hm' z, sdup_mem]
      simp
    have := pm.length_eq
    rw [List.length_map, Array.length_toList] at this
    exact this
  exact call_len_set ho hex hd hf (by rw [hn]; omega) ⟨.int (sdup ns).length, H1, I2.tok _, ⟨_, by rw [hsz]⟩, q1⟩
def aSortSet (f : FE) : Fe (List D) := fun env n => match f env n with
  | some (.tuple ds, n1) => (match ints? ds with
    | some ns => if ns.length < 64 then some ((sdup ns).map .int, n1) else none
    | none => none)
  | _ => none
theorem mf_sortSet (hg : Gl X "sorted") (hm : X.mg "sorted" = none) (hg2 : Gl X "set") (hm2 : X.mg "set" = none) (ha : ME X a f) (hc : X.calm = true)
    (na : starEach [a] X.env = (false, eval a X.env) :: starEach [] X.env) (nb : starEach [.Call (.Name "set" p2) [a] [] q] X.env = (false, eval (.Call (.Name "set" p2) [a] [] q) X.env) :: starEach [] X.env) : MF X (.Call (.Name "sorted" p) [.Call (.Name "set" p2) [a] [] q] [] pos) (aSortSet f) := by
  refine pe_imp (pe_sortSet hg hm hg2 hm2 ha hc na nb) fun σ H Q z => ?_
  obtain ⟨ω, env, n, d, n', R, t, e, k⟩ := z
  unfold aSortSet at e
  split at e
  · rename_i ds n1 h1
    cases hi : ints? ds with
    | none => rw [hi] at e; cases e
    | some ns =>
      rw [hi] at e
      simp only at e
      split at e
      · rename_i hl
        cases e
        refine tM_run R t h1 fun v ω1 H1 k1 R1 t1 r1 => ?_
        cases r1 with
        | @tup l xs ds2 g1 l1 q1 =>
          have ed := ints?_eq hi
          subst ed
          have ex := q1.inv_ints
          subst ex
          refine ⟨l, ns, rfl, SqT.of g1, hl, fun p hp => ?_⟩
          exact k p _ ω1 _ (k1.trans (Ext.of_same (same_upd hp))) (t1.of_same (same_upd hp)) (k1.noneB hp) (R1.ok.notIn hp) upd_same (by
            have : (sdup ns).length ≤ ns.length := by
              clear h1 k q1 g1 l1 hl hi
              induction ns with
              | nil => exact Nat.le_refl _
              | cons x r ih =>
                have hins : ∀ (l : List Int), (insU x l).length ≤ l.length + 1 := fun l => by
                  induction l with
                  | nil => exact Nat.le_refl _
                  | cons y l ih =>
                    unfold insU
                    split
                    · simp
                    · split
                      · simp
                      · simp only [List.length_cons]; omega
                have := hins (sdup r)
                show (insU x (sdup r)).length ≤ r.length + 1
                omega
            rw [List.length_map, sizeLine_eq]
            omega) (RpL.ints _)
      · cases e
  · cases e
def dLenSetT (d : D) : Option D := match d with
  | .tuple ds => (match ints? ds with
    | some ns => if ns.length < 4000 then some (.int ((sdup ns).length : Nat)) else none
    | none => none)
  | _ => none
theorem me_lenSetT (hg : Gl X "len") (hm : X.mg "len" = none) (hg2 : Gl X "set") (hm2 : X.mg "set" = none) (ha : ME X a f) (hc : X.calm = true)
    (na : starEach [a] X.env = (false, eval a X.env) :: starEach [] X.env) (nb : starEach [.Call (.Name "set" p2) [a] [] q] X.env = (false, eval (.Call (.Name "set" p2) [a] [] q) X.env) :: starEach [] X.env) : ME X (.Call (.Name "len" p) [.Call (.Name "set" p2) [a] [] q] [] pos) (e1 dLenSetT f) := by
  refine pe_imp (pe_lenSetT hg hm hg2 hm2 ha hc na nb) fun σ H Q z => ?_
  obtain ⟨ω, env, n, d, n', R, t, e, k⟩ := z
  obtain ⟨x, h1, h2⟩ := e1_inv e
  refine tM_run R t h1 fun v ω1 H1 k1 R1 t1 r1 => ?_
  unfold dLenSetT at h2
  split at h2
  · rename_i ds
    cases hi : ints? ds with
    | none => rw [hi] at h2; cases h2
    | some ns =>
      rw [hi] at h2
      simp only at h2
      split at h2
      · rename_i hle
        cases h2
        cases r1 with
        | @tup l xs ds2 g1 l1 q1 =>
          have ed := ints?_eq hi
          subst ed
          have ex := q1.inv_ints
          subst ex
          exact ⟨l, ns, rfl, SqT.of g1, hle, k _ ω1 H1 k1 t1 (.int _)⟩
      · cases h2
  · cases h2
theorem ksortSet (hm : X.mg "sorted" = none) (hm2 : X.mg "set" = none) (ha : ME X a f) (hg : X.env.kindOf "sorted" = some .globalImplicit := by kernel_rfl) (hg2 : X.env.kindOf "set" = some .globalImplicit := by kernel_rfl) (hc : X.calm = true := by kernel_rfl)
    (na : starEach [a] X.env = (false, eval a X.env) :: starEach [] X.env := by kernel_rfl) (nb : starEach [.Call (.Name "set" p2) [a] [] q] X.env = (false, eval (.Call (.Name "set" p2) [a] [] q) X.env) :: starEach [] X.env := by kernel_rfl) : MF X (.Call (.Name "sorted" p) [.Call (.Name "set" p2) [a] [] q] [] pos) (aSortSet f) := mf_sortSet hg hm hg2 hm2 ha hc na nb
theorem klenSetT (hm : X.mg "len" = none) (hm2 : X.mg "set" = none) (ha : ME X a f) (hg : X.env.kindOf "len" = some .globalImplicit := by kernel_rfl) (hg2 : X.env.kindOf "set" = some .globalImplicit := by kernel_rfl) (hc : X.calm = true := by kernel_rfl)
    (na : starEach [a] X.env = (false, eval a X.env) :: starEach [] X.env := by kernel_rfl) (nb : starEach [.Call (.Name "set" p2) [a] [] q] X.env = (false, eval (.Call (.Name "set" p2) [a] [] q) X.env) :: starEach [] X.env := by kernel_rfl) : ME X (.Call (.Name "len" p) [.Call (.Name "set" p2) [a] [] q] [] pos) (e1 dLenSetT f) := me_lenSetT hg hm hg2 hm2 ha hc na nb
end


/-! ### xs.index(y), xs.count(y): flat items -/
section
variable {X : Cx}
def rCntF (K : PySem.W.Frag) : V → List V → Hp → VK → Prop := fun x xs H Q => ∃ (p : Addr) (ys : List V) (y : V), x = .ref p ∧ xs = [y] ∧ SqL K H p ys ∧ flatV y = true ∧ ys.all flatV = true ∧ Q (.int ((ys.countP fun z => eqV z y : Nat) : Int)) H
theorem countP_eqU {y : V} : ∀ {ys : List V} {us : List Value}, Vals ys us → ys.all flatV = true → us.countP (eqU y) = ys.countP fun z => eqV z y
  | _, _, .nil, _ => rfl
  | _, _, .cons r t, f => by
    rw [List.all_cons, Bool.and_eq_true] at f
    rw [List.countP_cons, List.countP_cons, countP_eqU t f.2, eqU_of r f.1]
theorem mt_countF : MtR X "list.count" (rCntF X.K) := by
  intro pins s σ H x xs v us Q I rx rxs h
  obtain ⟨p, ys, y, rfl, rfl, hs, fy, fys, q⟩ := h
  cases rx
  obtain ⟨u, rfl, ru⟩ := rxs.one
  obtain ⟨its, rv, ⟨⟨cls, dd, data, sl⟩, n, ho, hc, hdn, hd⟩, hlen⟩ := I.list hs
  simp only at hc hd
  subst hc hd
  have ec : its.toArray.toList.countP (eqU y) = ys.countP fun z => eqV z y := countP_eqU (by simpa using rv) fys
  refine call_meets PySem.F.slot_list_count ⟨_, ho, rfl⟩ PySem.F.entry_list_count (PySem.F.args_list_count_2 _ _)
    (SeqAt.list_countAt p its.toArray n dd sl u (eqU y)) ⟨ho, fun u' hu' => mem_eqAt ru fy rv fys u' (by simpa using hu'), ?_⟩
  refine ⟨.int ((ys.countP fun z => eqV z y : Nat) : Int), H, I.tok _, ⟨s.toks, ?_⟩, q⟩
  show Value.int ((its.toArray.toList.countP (eqU y) : Nat) : Int) s.toks = Value.int _ s.toks
  rw [ec]
def dIndex : D → D → Option D
  | .list ds, d => if flatD d && ds.all flatD then (ds.findIdx? fun z => PyData.eqv z d).map fun j => .int ((j : Nat) : Int) else none
  | _, _ => none
def dCount : D → D → Option D
  | .list ds, d => if flatD d && ds.all flatD then some (.int ((ds.countP fun z => PyData.eqv z d : Nat) : Int)) else none
  | _, _ => none
theorem countP_rp {K : PySem.W.Frag} {ω : Wd} {H : Hp} {y : V} {d : D} (ry : Rp K ω H y d) (fd : flatD d = true) : ∀ {ys : List V} {ds : List D}, RpL K ω H ys ds → ds.all flatD = true → (ys.countP fun z => eqV z y) = ds.countP fun z => PyData.eqv z d
  | _, _, .nil, _ => rfl
  | _, _, .cons r t, f => by
    rw [List.all_cons, Bool.and_eq_true] at f
    rw [List.countP_cons, List.countP_cons, countP_rp ry fd t f.2, eqV_rp r f.1 ry fd]
theorem me_index {f g : FE} {e : Expr} (h : PE X e (tBM X.K "list" (rIndex X.K) (tM X.K (clsA X.mg) f) (tCons (tM X.K (clsA X.mg) g) tNil))) : ME X e (e2 dIndex f g) := by
  refine pe_imp h fun σ H Q q => ?_
  obtain ⟨ω, env, n, d, n', R, t, e, k⟩ := q
  obtain ⟨x, y, n1, h1, h2, h3⟩ := e2_inv e
  refine tM_run R t h1 fun v ω1 H1 k1 R1 t1 r1 => ?_
  unfold dIndex at h3
  split at h3
  · rename_i ds
    split at h3
    · rename_i hf
      rw [Bool.and_eq_true] at hf
      cases hj : ds.findIdx? fun z => PyData.eqv z y with
      | none => rw [hj] at h3; cases h3
      | some j =>
        rw [hj] at h3
        cases h3
        cases r1 with
        | @lst a xs ds' g1 m1 l1 q1 =>
          refine ⟨.inl ⟨rfl, _, SqL.of g1⟩, ?_⟩
          refine tM_run R1 t1 h2 fun u ω2 H2 k2 R2 t2 r2 => ?_
          have q2 := q1.ext k2
          have g2 : H2 a = some (.lst xs) := (k2.mv.mv a _ m1 g1).1
          rw [List.findIdx?_eq_some_iff_getElem] at hj
          obtain ⟨hjl, hjt, hjn⟩ := hj
          obtain ⟨z, hz, rz⟩ := q2.get (List.getElem?_eq_getElem hjl)
          have fz : flatD ds[j] = true := List.all_eq_true.mp hf.2 _ (List.getElem_mem hjl)
          refine ⟨a, xs, u, j, z, rfl, rfl, SqL.of g2, flat_rp r2 hf.1, flatL_rp q2 hf.2, hz, by rw [eqV_rp rz fz r2 hf.1]; exact hjt, fun m z' hm hz' => ?_, k _ ω2 H2 (k1.trans k2) t2 (.int _)⟩
          have hml : m < ds.length := Nat.lt_trans hm hjl
          obtain ⟨dm, hdm, rm⟩ := q2.get' hz'
          have hdm' : dm = ds[m] := by rw [List.getElem?_eq_getElem hml] at hdm; exact (Option.some.inj hdm).symm
          subst hdm'
          rw [eqV_rp rm (List.all_eq_true.mp hf.2 _ (List.getElem_mem hml)) r2 hf.1]
          have := hjn m hm
          simpa using this
    · cases h3
  · cases h3
theorem me_count {f g : FE} {e : Expr} (h : PE X e (tBM X.K "list" (rCntF X.K) (tM X.K (clsA X.mg) f) (tCons (tM X.K (clsA X.mg) g) tNil))) : ME X e (e2 dCount f g) := by
  refine pe_imp h fun σ H Q q => ?_
  obtain ⟨ω, env, n, d, n', R, t, e, k⟩ := q
  obtain ⟨x, y, n1, h1, h2, h3⟩ := e2_inv e
  refine tM_run R t h1 fun v ω1 H1 k1 R1 t1 r1 => ?_
  unfold dCount at h3
  split at h3
  · rename_i ds
    split at h3
    · rename_i hf
      rw [Bool.and_eq_true] at hf
      cases h3
      cases r1 with
      | @lst a xs ds' g1 m1 l1 q1 =>
        refine ⟨.inl ⟨rfl, _, SqL.of g1⟩, ?_⟩
        refine tM_run R1 t1 h2 fun u ω2 H2 k2 R2 t2 r2 => ?_
        have q2 := q1.ext k2
        have g2 : H2 a = some (.lst xs) := (k2.mv.mv a _ m1 g1).1
        refine ⟨a, xs, u, rfl, rfl, SqL.of g2, flat_rp r2 hf.1, flatL_rp q2 hf.2, ?_⟩
        rw [countP_rp r2 hf.1 q2 hf.2]
        exact k _ ω2 H2 (k1.trans k2) t2 (.int _)
    · cases h3
  · cases h3
/-- x.m(a), a method of a built-in list with one argument -/
theorem kbm1 {o a : Expr} {to ta : TE} {name : Str} {id : String} {r : V → List V → Hp → VK → Prop} {apos cpos : Pos} (slot : Slot "list" name id) (hty : typeOf (.builtin id) = pure (.type "method_descriptor")) (hm : MtR X id r) (ho : PE X o to) (he : PE X a ta) (hb : attributeBase o name X.env (eval o X.env) = eval o X.env := by kernel_rfl)
    (hfew : ((backTo cpos (starEach [a] X.env)).all (fun x => !x.1) && (backToKw cpos (keywordEach [] X.env)).all (fun x => x.1.isSome) && decide ([a].length + ([] : List Keyword).length + (if ([] : List Keyword).isEmpty then 0 else 1) < 30)) = true := by kernel_rfl)
    (hline : (apos.endLine == cpos.line) = true := by kernel_rfl) (hs : starEach [a] X.env = (false, eval a X.env) :: starEach [] X.env := by kernel_rfl) (hpl : (backTo cpos (starEach [] X.env)).any (·.1) = false := by kernel_rfl) :
    PE X (.Call (.Attribute o name apos) [a] [] cpos) (tBM X.K "list" r to (tCons ta tNil)) :=
  pe_bm PySem.F.plainAttrs_list slot hty hm ho (pa_cons he pa_nil hs) hb hfew hline hs hpl
end


/-! ### a def that is called with the exception that is being handled -/
structure FnE (P : Program) (w : World) (K : PySem.W.Frag) (mg : Str → Option Value) (base : Heap) (k : Nat) (f : Addr) (fd : FuncData) (ps : List Str) (sp : Addr → Value → Sp) : Prop where
  len : ∀ a cls vs H Q E, sp a cls vs H Q E → vs.length = ps.length
  run : ∀ (A : Around) (outer : List Env) (s : Shared) (H : Hp) (us : List Value) (vs : List V) (Q : VK) (p : Addr × Obj) (cls : Value), L2H.RoomH k A → L2H.PinOk outer H s p → Zc cls none p.2 → (∃ z, p.2.data = .fields z) →
    Env0 P w K mg base A outer s H → BindsTo s fd ⟨us, []⟩ (ps.zip us) → Vals vs us → sp p.1 cls vs H Q E0 → codeAny (model P w) A (.call (.ref f) ⟨us, []⟩) (CR CX0 outer P w H s Q E0) s
theorem fnE_mk {P : Program} {w : World} {K : PySem.W.Frag} {mg : Str → Option Value} {base : Heap} {x qual : Str} {params : Arguments} {body : List Stmt} {scope : Scope} {f : Addr} {fd : FuncData} {N ps : List Str} {k : Nat} {sp : Addr → Value → Sp} (F : FunD K x qual params body scope [] [] f fd) (S : FnScope N ps scope)
    (len : ∀ a cls vs H Q E, sp a cls vs H Q E → vs.length = ps.length)
    (hbody : ∀ (cdv : Value) (A : Around) (outer : List Env) (s : Shared) (H : Hp) (vs : List V) (Q : VK) (p : Addr × Obj) (cls : Value), L2H.RoomH k (A.deeper (envOfC qual scope s.heap.objs.size f cdv)) → Zc cls none p.2 → (∃ z, p.2.data = .fields z) → sp p.1 cls vs H Q E0 →
      ∃ t, PSs (L2H.cxH CX0 P w K mg base N qual scope f cdv A outer s H E0 p) body t ∧ t { nx := fun _ H' => Q .non H', rt := Q } (L2.start N vs) H) : FnE P w K mg base (k + 1) f fd ps sp := by
  obtain ⟨_, _, dV, kV, doc, pm, an, cdv, ct, _, rfl, lk, hcd, _, _⟩ := F.ex
  refine ⟨len, fun A outer s H us vs Q p cls hr hpin hz hf en hb rv hsp => ?_⟩
  have inK : K.In s.heap := en.mod.kin.keeps fun b u h => (en.bs b u h).1
  have noL : s.heap.NoLimit := en.mod.nolimit.keeps fun b u h => (en.bs b u h).1
  refine codeAny_call_function hr.depth (inK _ _ lk) rfl S.co S.gen rfl (PySem.W.codeRec_of inK hcd) (hb _ _ _ _ ?_)
  refine wpAny_newFunctionEnv_cells S.kind (fun ⟨y, u⟩ hy => (S.par y (List.of_mem_zip hy).1).imp id fun q => ⟨q, PySem.W.cellsFrom_some _ _ _ (.inl q)⟩) fun ev hev s1 ic => ?_
  subst hev
  refine ⟨noL.keeps ic.toInCall.keep, codeAny_func ?_⟩
  obtain ⟨t, ht, hq⟩ := hbody cdv A outer s H vs Q p cls (hr.deeper _) hz hf hsp
  have J0 := L2H.inv_startH (CX := CX0) (E := E0) S hpin en (len _ _ _ _ _ _ hsp) rv ic
  refine wpAny_mono (ht.run [] s1 (L2.start N vs) H _ J0 hq) (fun fl s' hs => ?_) fun e s' hs => hs
  cases fl with
  | ret u =>
    obtain ⟨v, σ', H', J, r, q⟩ := hs
    exact ⟨v, H', J.os, J.bare, J.base, J.hok, r, q⟩
  | next =>
    obtain ⟨σ', H', J, q⟩ := hs
    exact ⟨V.non, H', J.os, J.bare, J.base, J.hok, rfl, q⟩
  | brk => exact hs.elim fun _ z => z.elim fun _ y => y.2.elim
  | cont => exact hs.elim fun _ z => z.elim fun _ y => y.2.elim
/-- f(e) in an except suite, e the exception -/
theorem pe_callE {X : Cx} {k j : Nat} {f : Addr} {fd : FuncData} {ps : List Str} {sp : Addr → Value → Sp} {x : Str} {e : Expr} {t : TA} {q pos : Pos} {a : Addr} {oe : Obj} {cls : Value} {pn : List (Addr × Obj)} (F : FnE X.prog X.w X.K X.mg X.base k f fd ps sp) (hr : Room j X.A) (hk : k ≤ j) (hz : Zc cls none oe) (hf : ∃ z, oe.data = .fields z)
    (hg : Gl X x) (hm : X.mg x = some (.ref f)) (hkp : PySem.W.keepIn X.K (.ref f) = true) (hb : Binds X.K fd ps []) (ha : PA (X.suite a ((a, oe) :: pn)) [e] t) (hdb : (x == ("__debug__" : Str)) = false) (he : starEach [e] X.env = (false, eval e X.env) :: starEach [] X.env) (hpl : (backTo pos (starEach [] X.env)).any (·.1) = false) :
    PE (X.suite a ((a, oe) :: pn)) (.Call (.Name x q) [e] [] pos) (fun σ H Q => t σ H fun vs H1 => sp a cls vs H1 Q E0) := by
  refine ⟨fun pins s σ H Q I h => ?_⟩
  refine wpAny_Call_Name_kw (ld_glob I hg hm ?_ hdb)
  refine PySem.W.callWith_K (h₀ := X.base) I.ok.mod.kin hkp (thn (ha.run pos pins s σ H _ I h) fun us s1 ⟨vs, H1, I1, rv, q1⟩ => ⟨I1.kIn, ?_⟩) he hpl
  have hl : us.length = ps.length := by rw [← rv.length]; exact F.len _ _ _ _ _ _ q1
  have bb := hb s1 us I1.kIn (by rw [List.append_nil]; exact hl)
  rw [List.append_nil] at bb
  have pin := I1.pin (a, oe) (List.mem_append_left _ List.mem_cons_self)
  have rr : L2H.RoomH k (X.suite a ((a, oe) :: pn)).A := ⟨(hr.mono hk).dp, (hr.mono hk).un⟩
  refine wpAny_call (codeAny_mono (F.run _ _ s1 H1 us vs Q (a, oe) cls rr ⟨pin.1, pin.2.1, fun hm => (List.mem_cons.mp (I1.stkSub a hm)).elim pin.2.2.1 pin.2.2.2.1, pin.2.2.2.2⟩ hz hf I1.env0 bb rv q1) fun r s' hq => ?_)
  cases r with
  | error e => exact False.elim hq
  | ok fl =>
    cases fl with
    | ret u => exact I1.after hq
    | next => exact False.elim hq
    | brk => exact False.elim hq
    | cont => exact False.elim hq


/-! ### _law_which(e) -/
def exIdx (c : Str) : Option Nat := EXN.findIdx? (· == c)
/-- what the exceptions' classes say -/
structure ExAll (K : PySem.W.Frag) (mg : Str → Option Value) : Prop where
  glo : ∀ c ∈ EXN, mg c = some (.ref (He.ga K c))
  exc : ∀ c ∈ EXN, ExcC K (He.ga K c)
  kit : ∀ c ∈ EXN, ∀ d ∈ EXN, PySem.W.kitOne K (.ref (He.ga K c)) (.ref (He.ga K d)) = some (c == d)
  ve : ∀ c ∈ EXN, PySem.W.kitOne K (.ref (He.ga K c)) (.type "ValueError") = some true
  exm : ∀ c ∈ EXN, PySem.W.exmOne K (.ref (He.ga K c)) (.ref (He.ga K "SplitError")) = some true
  gs : mg "SplitError" = some (.ref (He.ga K "SplitError"))
section
variable {X : Cx}
theorem call_isG {a D : Addr} {oe : Obj} (hp : (a, oe) ∈ X.pn) (C : ExcC X.K D) (hz : Zc (.ref D) none oe) (hf : ∃ vs, oe.data = .fields vs) : CallR X (.builtin "isinstance") (rIsE X.K D a) := by
  intro pins s σ H xs us Q I r h
  obtain ⟨c, cv, b, rfl, hcv, e, q⟩ := h
  obtain ⟨u1, u2, rfl, rx, rt⟩ : ∃ u1 u2, us = [u1, u2] ∧ RelV (.ref a) u1 ∧ RelV c u2 := by
    cases r with
    | cons r1 rr =>
      cases rr with
      | cons r2 r3 => cases r3; exact ⟨_, _, rfl, r1, r2⟩
  cases rx
  have ec := hcv _ rt
  subst ec
  obtain ⟨hget, _⟩ := I.pin (a, oe) (List.mem_append.mpr (.inl hp))
  obtain ⟨vs, hv⟩ := hf
  have J : PySem.W.InstAt s.heap a oe D none := by
    cases oe
    obtain ⟨h1, h2⟩ := hz
    simp only at h1 h2 hv
    subst h1 h2 hv
    exact ⟨hget, rfl, rfl, trivial⟩
  exact PySem.W.kia_one (PySem.W.handS_kitx_exc C.hg C.hk C.hs C.hd C.ha C.hn C.ht C.hm) I.kIn J e (fun z => nomatch z) fun tk => ⟨.bl b, H, I.kept (t' := tk) fun _ _ z => z, rfl, q⟩
/-- isinstance(e, c) for the exception at a -/
def tIs (a : Addr) (b : Bool) : TE := fun σ H Q => σ[0]? = some (some (.ref a)) ∧ Q (.bl b) H
theorem kIsE {a : Addr} {oe : Obj} {c0 c : Str} {en : Expr} {p pc pos : Pos} (hp : (a, oe) ∈ X.pn) (EA : ExAll X.K X.mg) (h0 : c0 ∈ EXN) (hc : c ∈ EXN) (hz : Zc (.ref (He.ga X.K c0)) none oe) (hf : ∃ vs, oe.data = .fields vs) (hm : X.mg "isinstance" = none) (he : PE X en (tVar 0))
    (hg : X.env.kindOf "isinstance" = some .globalImplicit := by kernel_rfl) (hgc : X.env.kindOf c = some .globalImplicit := by kernel_rfl) (hdc : (c == ("__debug__" : Str)) = false := by kernel_rfl)
    (hs : starEach [en, .Name c pc] X.env = (false, eval en X.env) :: starEach [.Name c pc] X.env := by kernel_rfl) (hs2 : starEach [.Name c pc] X.env = (false, eval (.Name c pc) X.env) :: starEach [] X.env := by kernel_rfl) (hpl : (backTo pos (starEach [.Name c pc] X.env)).any (·.1) = false := by kernel_rfl) :
    PE X (.Call (.Name "isinstance" p) [en, .Name c pc] [] pos) (tIs a (c0 == c)) := by
  refine pe_imp (pe_callB (call_isG hp (EA.exc c0 h0) hz hf) hg hm (by decide +kernel) (pa_cons he (pa_cons (pe_glob hgc (EA.glo c hc) (v := .ref (He.ga X.K c)) rfl hdc) pa_nil hs2) hs) (by decide) (by decide) hs hpl) fun σ H Q q => ?_
  exact ⟨_, q.1, .ref (He.ga X.K c), .ref (He.ga X.K c), c0 == c, rfl, fun u z => z, EA.kit c0 h0 c hc, q.2⟩
theorem kIsVE {a : Addr} {oe : Obj} {c0 : Str} {en : Expr} {p pc pos : Pos} (hp : (a, oe) ∈ X.pn) (EA : ExAll X.K X.mg) (h0 : c0 ∈ EXN) (hz : Zc (.ref (He.ga X.K c0)) none oe) (hf : ∃ vs, oe.data = .fields vs) (hm : X.mg "isinstance" = none) (hve : X.mg "ValueError" = none) (he : PE X en (tVar 0))
    (hg : X.env.kindOf "isinstance" = some .globalImplicit := by kernel_rfl) (hgc : X.env.kindOf "ValueError" = some .globalImplicit := by kernel_rfl)
    (hs : starEach [en, .Name "ValueError" pc] X.env = (false, eval en X.env) :: starEach [.Name "ValueError" pc] X.env := by kernel_rfl) (hs2 : starEach [.Name "ValueError" pc] X.env = (false, eval (.Name "ValueError" pc) X.env) :: starEach [] X.env := by kernel_rfl) (hpl : (backTo pos (starEach [.Name "ValueError" pc] X.env)).any (·.1) = false := by kernel_rfl) :
    PE X (.Call (.Name "isinstance" p) [en, .Name "ValueError" pc] [] pos) (tIs a true) := by
  refine pe_imp (pe_callB (call_isG hp (EA.exc c0 h0) hz hf) hg hm (by decide +kernel) (pa_cons he (pa_cons (pe_bltn hgc hve (by decide +kernel : bootBuiltins "ValueError" = some (.type "ValueError")) (v := .ty "ValueError") rfl) pa_nil hs2) hs) (by decide) (by decide) hs hpl) fun σ H Q q => ?_
  exact ⟨_, q.1, .ty "ValueError", .type "ValueError", true, rfl, fun u z => z, EA.ve c0 h0, q.2⟩
theorem kpacons {e : Expr} {es : List Expr} {t1 : TE} {t : TA} (ha : PE X e t1) (hr : PA X es t) (hs : starEach (e :: es) X.env = (false, eval e X.env) :: starEach es X.env := by kernel_rfl) : PA X (e :: es) (tCons t1 t) := pa_cons ha hr hs
theorem kpextend {e a : Expr} {to te : TE} {cpos apos pos : Pos} (ho : PE X e to) (he : PE X a te) (hb : attributeBase e "extend" X.env (eval e X.env) = eval e X.env := by kernel_rfl)
    (hfew : ((backTo cpos (starEach [a] X.env)).all (fun x => !x.1) && (backToKw cpos (keywordEach [] X.env)).all (fun x => x.1.isSome) && decide ([a].length + ([] : List Keyword).length + (if ([] : List Keyword).isEmpty then 0 else 1) < 30)) = true := by kernel_rfl)
    (hline : (apos.endLine == cpos.line) = true := by kernel_rfl) (hs : starEach [a] X.env = (false, eval a X.env) :: starEach [] X.env := by kernel_rfl) (hpl : (backTo cpos (starEach [] X.env)).any (·.1) = false := by kernel_rfl) (hsw : swapsWith (.Call (.Attribute e "extend" apos) [a] [] cpos) none pos.line X.env = pure false := by kernel_rfl) :
    PS X (.Expr (.Call (.Attribute e "extend" apos) [a] [] cpos) pos) (tDrop (tBM X.K "list" rExtend to (tCons te tNil))) :=
  ps_expr (pe_bm PySem.F.plainAttrs_list PySem.F.slot_list_extend PySem.F.type_list_extend mt_extend ho (pa_cons he pa_nil hs) hb hfew hline hs hpl) hsw
theorem kptcmp {a b : Expr} {op : CmpOp} {r : R2} {ta tb : TE} {pos : Pos} (ho : OpR X (compareOp op) r) (ha : PE X a ta) (hb : PE X b tb) (hm : behindInMarks op b = false := by kernel_rfl) : PT X (.Compare a [op] [b] pos) (tTest (tOp r ta tb)) := pt_cmpR ho ha hb hm
theorem kptval {e : Expr} {t : TE} (he : PE X e t) (hp : ∀ whole, isTrue e X.env whole = (do let v ← whole; standAt e.pos; holding [v] (truthy v)) := by intro _; kernel_rfl) : PT X e (tB t) := pt_val he hp
end
/-- the promise -/
def spW (K : PySem.W.Frag) : Addr → Value → Sp := fun a cls vs H Q _ => ∃ (c : Str) (j : Nat), c ∈ EXN ∧ exIdx c = some j ∧ cls = .ref (He.ga K c) ∧ vs = [.ref a] ∧ ∀ H' t, Same H H' → H t = none → H' t = some (.tup [.str "raised", .int (j : Nat)]) → Q (.ref t) H'
section
variable {K : PySem.W.Frag} {a : Addr}
/-- a list of tests -/
def tIss (a : Addr) : List Bool → TA
  | [] => tNil
  | b :: bs => tCons (tIs a b) (tIss a bs)
theorem tIss_run : ∀ {bs : List Bool} {σ : L2.St} {H : Hp} {Q : List V → Hp → Prop}, σ[0]? = some (some (.ref a)) → Q (bs.map V.bl) H → tIss a bs σ H Q
  | [], _, _, _, _, h => h
  | b :: bs, _, _, _, h0, h => ⟨h0, tIss_run h0 h⟩
def tExt (K : PySem.W.Frag) (a : Addr) (bs : List Bool) : TS := tDrop (tBM K "list" rExtend (tVar 1) (tCons (tLst (tIss a bs)) tNil))
theorem tExt_run {bs cs : List Bool} {p : Addr} {D : Ends} {H : Hp} (h1 : H p = some (.lst (cs.map V.bl))) (hl : cs.length + bs.length ≤ 100) (h : ∀ H', (∀ b x, b ≠ p → H b = some x → H' b = some x) → (∀ b, H' b = none → H b = none) → H' p = some (.lst ((cs ++ bs).map V.bl)) → D.nx [some (.ref a), some (.ref p)] H') :
    tExt K a bs D [some (.ref a), some (.ref p)] H := by
  refine ⟨_, rfl, .inl ⟨rfl, _, SqL.of h1⟩, tIss_run rfl ⟨by rw [List.length_map, sizeLine_eq]; omega, fun q hq => ?_⟩⟩
  have hpq : p ≠ q := ne_of_none h1 hq
  refine ⟨p, q, _, _, rfl, rfl, by rw [upd_ne hpq]; exact h1, upd_same, by rw [List.length_map, List.length_map, sizeLine_eq]; omega, ?_⟩
  refine h _ (fun b x hb hx => ?_) (fun b hb => ?_) (by rw [upd_same, List.map_append])
  · rw [upd_ne hb, upd_ne (ne_of_none hx hq)]; exact hx
  · by_cases e : b = p
    · rw [e, upd_same] at hb; cases hb
    · rw [upd_ne e] at hb
      by_cases e2 : b = q
      · rw [e2]; exact hq
      · rw [upd_ne e2] at hb; exact hb
theorem EXN_len : EXN.length = 14 := rfl
theorem which_count {c : Str} (h : c ∈ EXN) : (EXN.map fun d => c == d).countP (fun b => b) = 1 ∧ (EXN.map fun d => c == d).findIdx? (fun b => b) = exIdx c := by
  have all : ∀ c ∈ EXN, (EXN.map fun d => c == d).countP (fun b => b) = 1 ∧ (EXN.map fun d => c == d).findIdx? (fun b => b) = exIdx c := by decide +kernel
  exact all c h
theorem eqV_bl (b : Bool) : eqV (.bl b) (.bl true) = b := by cases b <;> rfl
theorem countP_bl : ∀ bs : List Bool, ((bs.map V.bl).countP fun z => eqV z (.bl true)) = bs.countP fun b => b
  | [] => rfl
  | b :: r => by rw [List.map_cons, List.countP_cons, List.countP_cons, countP_bl r, eqV_bl]
theorem flat_bl : ∀ bs : List Bool, (bs.map V.bl).all flatV = true
  | [] => rfl
  | b :: r => by rw [List.map_cons, List.all_cons, flat_bl r]; rfl
/-- the body's reading -/
theorem which_read {c0 : Str} {j : Nat} {Q : VK} {H : Hp} {tr1 : TS} (h0 : c0 ∈ EXN) (hj : exIdx c0 = some j) (hQ : ∀ H' t, Same H H' → H t = none → H' t = some (.tup [.str "raised", .int (j : Nat)]) → Q (.ref t) H') :
    tSeq (tAsg (tLst (tIss a [c0 == "InvalidMatrix", c0 == "InvalidPermutation", c0 == "InvalidRooms"])) (gName 1))
      (tSeq (tExt K a [c0 == "InvalidSize", c0 == "InvalidRectangle", c0 == "InvalidPhase"])
      (tSeq (tExt K a [c0 == "NotEven", c0 == "NoPermutation", c0 == "HasPermutation"])
      (tSeq (tExt K a [c0 == "NotExtendable", c0 == "TooLarge", c0 == "Finished"])
      (tSeq (tExt K a [c0 == "NothingToUndo", c0 == "ParseError"])
      (tSeq (tIfS (tOr (tTest (tOp (rNeD K) (tBM K "list" (rCntF K) (tVar 1) (tCons (tC (.bl true)) tNil)) (tC (.int 1)))) (tNot (tB (tIs a true)))) tr1 tNext)
      (tRet (tTup (tCons (tC (.str "raised")) (tCons (tBM K "list" (rIndex K) (tVar 1) (tCons (tC (.bl true)) tNil)) tNil)))))))))
      { nx := fun _ H' => Q .non H', rt := Q } [some (.ref a), none] H := by
  refine tIss_run rfl ⟨by show 3 ≤ sizeLine; decide, fun p hp => ?_⟩
  have n1 : ∀ b x, b ≠ p → H b = some x → upd H p (.lst ([c0 == "InvalidMatrix", c0 == "InvalidPermutation", c0 == "InvalidRooms"].map V.bl)) b = some x := fun b x hb hx => by rw [upd_ne hb]; exact hx
  refine tExt_run (cs := [c0 == "InvalidMatrix", c0 == "InvalidPermutation", c0 == "InvalidRooms"]) upd_same (by simp) fun H2 k2 z2 h2 => ?_
  refine tExt_run h2 (by simp) fun H3 k3 z3 h3 => ?_
  refine tExt_run h3 (by simp) fun H4 k4 z4 h4 => ?_
  refine tExt_run h4 (by simp) fun H5 k5 z5 h5 => ?_
  have h5' : H5 p = some (.lst ((EXN.map fun d => c0 == d).map V.bl)) := h5
  obtain ⟨hcnt, hidx⟩ := which_count h0
  rw [hj] at hidx
  refine ⟨_, rfl, .inl ⟨rfl, _, SqL.of h5'⟩, p, _, _, rfl, rfl, SqL.of h5', rfl, flat_bl _, .int ((((EXN.map fun d => c0 == d).map V.bl).countP fun z => eqV z (.bl true) : Nat) : Int), .int 1, .int _, .int 1, rfl, rfl, _, rfl, ?_⟩
  rw [countP_bl, hcnt]
  refine ⟨rfl, true, rfl, ?_⟩
  rw [List.findIdx?_eq_some_iff_getElem] at hidx
  obtain ⟨jl, jt, jn⟩ := hidx
  have jl' : j < ((EXN.map fun d => c0 == d).map V.bl).length := by rw [List.length_map]; exact jl
  refine ⟨_, rfl, .inl ⟨rfl, _, SqL.of h5'⟩, p, _, _, j, .bl (EXN.map fun d => c0 == d)[j], rfl, rfl, SqL.of h5', rfl, flat_bl _, ?_, by rw [eqV_bl]; exact jt, fun m z' hm hz' => ?_, by show 2 ≤ sizeLine; decide, fun t ht => ?_⟩
  · rw [List.getElem?_map, List.getElem?_eq_getElem jl]; rfl
  · have hml : m < (EXN.map fun d => c0 == d).length := Nat.lt_trans hm jl
    rw [List.getElem?_map, List.getElem?_eq_getElem hml] at hz'
    cases hz'
    rw [eqV_bl]
    have := jn m hm
    simpa using this
  · have tp : H t = none := by
      have t4 := z5 t ht
      have t3 := z4 t t4
      have t2 := z3 t t3
      have t1 := z2 t t2
      by_cases e : t = p
      · rw [e, h5'] at ht; cases ht
      · rw [upd_ne e] at t1; exact t1
    refine hQ _ t (fun b x hx => ?_) tp upd_same
    have hbp : b ≠ p := ne_of_none hx hp
    rw [upd_ne (ne_of_none hx tp)]
    exact k5 b x hbp (k4 b x hbp (k3 b x hbp (k2 b x hbp (n1 b x hbp hx))))
end


/-! ### try: .. except SplitError as e: return _law_which(e) -/
theorem exIdx_mem {c : Str} {j : Nat} (h : exIdx c = some j) : c ∈ EXN := by
  unfold exIdx at h
  rw [List.findIdx?_eq_some_iff_getElem] at h
  obtain ⟨hl, ht, _⟩ := h
  have e := eq_of_beq ht
  rw [← e]
  exact List.getElem_mem hl
def exD (j : Nat) : D := .tuple [.str "raised", .int ((j : Nat) : Int)]
def sTryW (f : FS) : FS := fun S n => match f S n with
  | some (.ex c, n') => (match exIdx c with
    | some j => some (.rt (exD j), n')
    | none => none)
  | r => r
/-- what _law_which is known by -/
structure HasW (P : Program) (w : World) (K : PySem.W.Frag) (mg : Str → Option Value) (base : Heap) (k : Nat) : Prop where
  ea : ExAll K mg
  ex : ∃ (f : Addr) (fd : FuncData), FnE P w K mg base k f fd ["e"] (spW K) ∧ mg "_law_which" = some (.ref f) ∧ PySem.W.keepIn K (.ref f) = true ∧ Binds K fd ["e"] []
section
variable {X : Cx} {W : WX} {body : List Stmt} {i j k : Nat} {n : Str} {f : FS} {np p1 p2 p3 p4 pos pos' : Pos}
theorem ms_tryW (hw : HasW X.prog X.w X.K X.mg X.base k) (hr : Room j X.A) (hk : k ≤ j) (hs : X.stack = X.env :: X.outer) (hf : X.env.frame = some X.env.locals) (hN : X.N.Nodup) (hi : X.N[i]? = some n) (hln : X.env.kindOf n = some .local) (tk : Takes X W) (hgs : Gl X "SplitError") (hgw : Gl X "_law_which")
    (he : starEach [.Name n p2] X.env = (false, eval (.Name n p2) X.env) :: starEach [] X.env) (hpl : (backTo p3 (starEach [] X.env)).any (·.1) = false) (hv : ∀ a pn, PE (X.suite a pn) (.Name n p2) (tVar i))
    (hb : ∀ (W' : WX) (pn : List (Addr × Obj)) (xe : Value → Shared → Prop), Takes (X.tr pn xe) W' → PassesOwn (model X.prog X.w) X.A X.env xe → MSs (X.tr pn xe) W' body f) :
    MS X W (.Try body [.ExceptHandler (some (.Name "SplitError" np)) (some n) [.Return (some (.Call (.Name "_law_which" p1) [.Name n p2] [] p3)) p4] pos'] [] [] pos) (sTryW f) := by
  obtain ⟨fa, fd, FW, hm, hkp, hbd⟩ := hw.ex
  refine ps_imp (ps_try_as (X := X) (i := i) (n := n) (x := "SplitError") (c := .ref (He.ga X.K "SplitError")) (Wout := W) (tb := fun W' => tS X.K X.mg W' f) (ts := fun a cls d D σ H => d = none ∧ (i < σ.length → tRet (fun σ H Q => tCons (tVar i) tNil σ H fun vs H1 => spW X.K a cls vs H1 Q E0) D σ H)) hs hf hN hi hln ⟨hgs, by decide, .inl hw.ea.gs⟩ tk hb ?_) fun D σ H q => ?_
  · intro a oe cls d pn hz hfl
    refine ⟨fun pins s σ H D I h => ?_⟩
    obtain ⟨rfl, h⟩ := h
    have hl : i < σ.length := by
      rw [I.len]
      exact (List.getElem?_eq_some_iff.mp hi).1
    exact (pss_one (ps_ret (pe_callE (a := a) (oe := oe) (cls := cls) (pn := pn) FW hr hk hz hfl hgw hm hkp hbd (pa_cons (hv a _) pa_nil he) (by decide) he hpl))).run pins s σ H D I (h hl)
  · obtain ⟨ω0, H0, ω, S, n, fl, n', R, e, af⟩ := q
    unfold sTryW at e
    split at e
    · rename_i c n1 h1
      split at e
      · rename_i jj hj
        cases e
        refine ⟨ω0, H0, ω, S, n, .ex c, _, R, h1, fun C σ' ω' H' hC kk tt => ?_⟩
        have hc := exIdx_mem hj
        have eC : C = He.ga X.K c := by
          have := hw.ea.glo c hc
          rw [hC] at this
          exact Value.ref.inj (Option.some.inj this)
        subst eC
        refine ⟨true, hw.ea.exm c hc, fun _ a ha => ⟨rfl, fun hl => ?_⟩, fun z => nomatch z⟩
        have hl' : i < σ'.length := by rw [List.length_set] at hl; exact hl
        refine ⟨.ref a, List.getElem?_set_self hl', c, jj, hc, hj, rfl, rfl, fun H'' t s1 ht h't => ?_⟩
        exact af (.ref t) ω' H'' (kk.trans (Ext.of_same s1)) (tt.of_same s1) (.tup h't (by show 2 ≤ sizeLine; decide) (.cons (.str _ (by decide)) (.cons (.int _) .nil)))
      · cases e
    · rename_i hne
      refine ⟨ω0, H0, ω, S, n, fl, n', R, e, ?_⟩
      cases fl with
      | ex c => exact absurd e (hne c n')
      | _ => exact af
end


/-! ### expressions that may raise -/
abbrev FX := En → Sn → Option (Rs × Sn)
def RsK (K : PySem.W.Frag) (mg : Str → Option Value) (W : WX) (ω : Wd) (H : Hp) (σ : L2.St) (n' : Sn) (Q : VK) : Rs → Prop
  | .ok d => ∀ v ω' H', Ext ω H ω' H' → Town ω' n' H' → Rp K ω' H' v d → Q v H'
  | .ex c => ∀ C ω' H', mg c = some (.ref C) → Ext ω H ω' H' → Town ω' n' H' → W (.ref C) none σ H'
def tX (K : PySem.W.Frag) (mg : Str → Option Value) (W : WX) (g : FX) : TE := fun σ H Q => ∃ (ω : Wd) (env : En) (n : Sn) (r : Rs) (n' : Sn),
  RE K (clsA mg) ω env σ H ∧ Town ω n H ∧ g env n = some (r, n') ∧ RsK K mg W ω H σ n' Q r
abbrev MX (X : Cx) (W : WX) (e : Expr) (g : FX) : Prop := PE X e (tX X.K X.mg W g)
section
variable {X : Cx} {W : WX} {e a b c : Expr} {es : List Expr} {pos p : Pos} {f : FE} {g g' : FX} {fs : Fe (List D)} {x : Str} {j k ar : Nat} {fr : Bool} {m : Fn}
def xE (f : FE) : FX := fun env n => match f env n with
  | some (d, n1) => some (.ok d, n1)
  | none => none
theorem mx_e (h : ME X e f) : MX X W e (xE f) := by
  refine pe_imp h fun σ H Q q => ?_
  obtain ⟨ω, env, n, r, n', R, t, e, k⟩ := q
  unfold xE at e
  split at e
  · rename_i d n1 h1
    cases e
    exact ⟨ω, env, n, d, _, R, t, h1, k⟩
  · cases e
def xIf (fc : Fe Bool) (g g' : FX) : FX := fun env n => match fc env n with
  | some (true, n1) => g env n1
  | some (false, n1) => g' env n1
  | none => none
theorem tX_run {K : PySem.W.Frag} {mg : Str → Option Value} {ω : Wd} {env : En} {σ : L2.St} {H H1 : Hp} {ω1 : Wd} {n1 n' : Sn} {r : Rs} {Q : VK} (R1 : RE K (clsA mg) ω1 env σ H1) (t1 : Town ω1 n1 H1) (e : g env n1 = some (r, n')) (k1 : Ext ω H ω1 H1)
    (k : RsK K mg W ω H σ n' Q r) : tX K mg W g σ H1 Q := by
  refine ⟨ω1, env, n1, r, n', R1, t1, e, ?_⟩
  cases r with
  | ok d => exact fun v ω' H' a b c => k v ω' H' (k1.trans a) b c
  | ex c => exact fun C ω' H' hC a b => k C ω' H' hC (k1.trans a) b
theorem mx_if {fc : Fe Bool} (hc : MT X c fc) (ha : MX X W a g) (hb : MX X W b g') : MX X W (.IfExp c a b pos) (xIf fc g g') := by
  refine pe_imp (pe_ifExp hc ha hb) fun σ H Q q => ?_
  obtain ⟨ω, env, n, r, n', R, t, e, k⟩ := q
  unfold xIf at e
  split at e
  · rename_i n1 h1
    refine tMT_run R t h1 fun ω1 H1 k1 R1 t1 => ?_
    rw [if_pos rfl]
    exact tX_run R1 t1 e k1 k
  · rename_i n1 h1
    refine tMT_run R t h1 fun ω1 H1 k1 R1 t1 => ?_
    rw [if_neg Bool.false_ne_true]
    exact tX_run R1 t1 e k1 k
  · cases e
def xCall (m : Fn) (fs : Fe (List D)) : FX := fun env n => match fs env n with
  | some (ds, n1) => m ds n1
  | none => none
theorem sp_run {K : PySem.W.Frag} {mg : Str → Option Value} {ω ω1 : Wd} {σ : L2.St} {H H1 : Hp} {n1 n' : Sn} {r : Rs} {Q : VK} {ds : List D} {vs : List V} (hl : ∀ ds n, ds.length ≠ ar → m ds n = none) (hC : ω1.C = clsA mg) (t1 : Town ω1 n1 H1) (r1 : RpL K ω1 H1 vs ds) (e : m ds n1 = some (r, n')) (k1 : Ext ω H ω1 H1)
    (k : RsK K mg W ω H σ n' Q r) : spX K mg ar fr m vs H1 Q (WE W σ) := by
  refine ⟨ω1, ds, n1, r, n', hC, r1, m_len hl e, t1, e, ?_⟩
  cases r with
  | ok d => exact fun v ω' H' a b c _ => k v ω' H' (k1.trans a) b c
  | ex c => exact fun C ω' H' hC a b => k C ω' H' hC (k1.trans a) b
theorem tCallX_of (hl : ∀ ds n, ds.length ≠ ar → m ds n = none) : ∀ σ H Q, tX X.K X.mg W (xCall m fs) σ H Q → tCallS (spX X.K X.mg ar fr m) (WE W) (tMA X.K (clsA X.mg) fs) σ H Q := by
  intro σ H Q q
  obtain ⟨ω, env, n, r, n', R, t, e, k⟩ := q
  unfold xCall at e
  split at e
  · rename_i ds n1 h1
    refine tMA_run R t h1 fun vs ω1 H1 k1 R1 t1 r1 => ?_
    exact sp_run hl R1.cl t1 r1 e k1 k
  · cases e
theorem mx_call (hh : Has X.prog X.w X.K X.mg X.base x k ar fr m) (hl : ∀ ds n, ds.length ≠ ar → m ds n = none) (hr : Room j X.A) (tk : Takes X W) (ha : MA X (e :: es) fs) (hk : Nat.ble k j = true := by kernel_rfl) (hg : X.env.kindOf x = some .globalImplicit := by kernel_rfl)
    (hdb : (x == ("__debug__" : Str)) = false := by kernel_rfl) (he : starEach (e :: es) X.env = (false, eval e X.env) :: starEach es X.env := by kernel_rfl) (hpl : (backTo pos (starEach es X.env)).any (·.1) = false := by kernel_rfl) :
    MX X W (.Call (.Name x p) (e :: es) [] pos) (xCall m fs) := by
  obtain ⟨f, fd, ps, F, hm, hkp, hb⟩ := hh.ex
  exact pe_imp (pe_callS F (hr.mono (Nat.le_of_ble_eq_true hk)) hg hm hkp hb (fun σ => passAt tk σ) ha hdb he hpl) (tCallX_of hl)
/-! a call of one of several defs: [f, g][i](..) -/
/-- the defs by their addresses -/
inductive Hass (P : Program) (w : World) (K : PySem.W.Frag) (mg : Str → Option Value) (base : Heap) (k ar : Nat) : List Str → List Addr → List Fn → Prop where
  | nil : Hass P w K mg base k ar [] [] []
  | cons {x : Str} {f : Addr} {m : Fn} {xs : List Str} {as : List Addr} {ms : List Fn} {fd : FuncData} {ps : List Str} {fr : Bool} : FnOk P w K mg base (L2.CX P w) k f fd ps (spX K mg ar fr m) → mg x = some (.ref f) → PySem.W.keepIn K (.ref f) = true → Binds K fd ps [] → (∀ ds n, ds.length ≠ ar → m ds n = none) →
    Hass P w K mg base k ar xs as ms → Hass P w K mg base k ar (x :: xs) (f :: as) (m :: ms)
theorem Hass.get {P : Program} {w : World} {K : PySem.W.Frag} {mg : Str → Option Value} {base : Heap} : ∀ {xs : List Str} {as : List Addr} {ms : List Fn}, Hass P w K mg base k ar xs as ms → ∀ {i : Nat} {m : Fn}, ms[i]? = some m → ∃ (f : Addr) (fd : FuncData) (ps : List Str) (fr : Bool), as[i]? = some f ∧ FnOk P w K mg base (L2.CX P w) k f fd ps (spX K mg ar fr m) ∧ PySem.W.keepIn K (.ref f) = true ∧ Binds K fd ps [] ∧ (∀ ds n, ds.length ≠ ar → m ds n = none) ∧ as.length = ms.length
  | _, _, _, .nil, i, m, h => by simp at h
  | _, _, _, .cons F hm hk hb hl t, 0, m, h => by
    simp at h
    subst h
    refine ⟨_, _, _, _, rfl, F, hk, hb, hl, ?_⟩
    have : ∀ {xs : List Str} {as : List Addr} {ms : List Fn}, Hass P w K mg base k ar xs as ms → as.length = ms.length := fun q => by
      induction q with
      | nil => rfl
      | cons _ _ _ _ _ _ ih => rw [List.length_cons, List.length_cons, ih]
    rw [List.length_cons, List.length_cons, this t]
  | _, _, _, .cons F hm hk hb hl t, i + 1, m, h => by
    obtain ⟨f, fd, ps, fr, h1, h2, h3, h4, h5, h6⟩ := Hass.get t (i := i) (m := m) (by simpa using h)
    exact ⟨f, fd, ps, fr, by simpa using h1, h2, h3, h4, h5, by rw [List.length_cons, List.length_cons, h6]⟩
/-- a list of defs is shown -/
inductive NamesE : List Str → List Expr → Prop where
  | nil : NamesE [] []
  | cons {x : Str} {q : Pos} {xs : List Str} {es : List Expr} : NamesE xs es → NamesE (x :: xs) (.Name x q :: es)
def tRefs : List Addr → TA
  | [] => tNil
  | a :: as => tCons (tC (.ref a)) (tRefs as)
theorem tRefs_run : ∀ {as : List Addr} {σ : L2.St} {H : Hp} {Q : List V → Hp → Prop}, Q (as.map V.ref) H → tRefs as σ H Q
  | [], _, _, _, h => h
  | _ :: as, _, _, _, h => tRefs_run (as := as) h
def gNames (X : Cx) : List Expr → Bool
  | [] => true
  | .Name x _ :: es => (match X.env.kindOf x with
    | some .globalImplicit => true
    | _ => false) && !(x == ("__debug__" : Str)) && gNames X es
  | _ => false
theorem pa_refs {P : Program} {w : World} : ∀ {xs : List Str} {as : List Addr} {ms : List Fn} {ns : List Expr}, Hass X.prog X.w X.K X.mg X.base k ar xs as ms → NamesE xs ns → gNames X ns = true → PA X ns (tRefs as)
  | _, _, _, _, .nil, .nil, _ => pa_nil
  | _, _, _, _, .cons (x := x) F hm hk hb hl t, .cons (q := q) nt, hg => by
    unfold gNames at hg
    simp only [Bool.and_eq_true, Bool.not_eq_true'] at hg
    obtain ⟨⟨h1, h2⟩, h3⟩ := hg
    refine pa_cons (pe_glob ?_ hm (v := .ref _) rfl h2) (pa_refs (P := P) (w := w) t nt h3) ?_
    · show X.env.kindOf x = some .globalImplicit
      split at h1
      · assumption
      · cases h1
    · conv => lhs; unfold starEach
def xCallAt (ms : List Fn) (fi : FE) (fs : Fe (List D)) : FX := fun env n => match fi env n with
  | some (.int i, n1) => (match ms[i.toNat]? with
    | some m => if 0 ≤ i then (match fs env n1 with
      | some (ds, n2) => m ds n2
      | none => none) else none
    | none => none)
  | _ => none
theorem mx_callAt {xs : List Str} {as : List Addr} {ms : List Fn} {ns : List Expr} {ix : Expr} {fi : FE} {lp sp' pos : Pos} (hh : Hass X.prog X.w X.K X.mg X.base k ar xs as ms) (nn : NamesE xs ns) (hr : Room j X.A) (tk : Takes X W) (hi : ME X ix fi) (ha : MA X (e :: es) fs) (hgn : gNames X ns = true := by kernel_rfl) (hsz : as.length ≤ sizeLine) (hk : Nat.ble k j = true := by kernel_rfl)
    (hs : ∀ o i, subscripted ix false o i = operate [o, i] (getItem o i) := by intro _ _; kernel_rfl) (he : starEach (e :: es) X.env = (false, eval e X.env) :: starEach es X.env := by kernel_rfl) (hpl : (backTo pos (starEach es X.env)).any (·.1) = false := by kernel_rfl)
    (hev : eval (.Call (.Subscript (.List ns lp) ix sp') (e :: es) [] pos) X.env = (do callWith pos (← eval (.Subscript (.List ns lp) ix sp') X.env) [] (backTo pos (starEach (e :: es) X.env)) (backToKw pos (keywordEach [] X.env))) := by kernel_rfl) :
    MX X W (.Call (.Subscript (.List ns lp) ix sp') (e :: es) [] pos) (xCallAt ms fi fs) := by
  have hf : PE X (.Subscript (.List ns lp) ix sp') (tOp (rIxL X.K) (tLst (tRefs as)) (tM X.K (clsA X.mg) fi)) := pe_ix ix_list (pe_lst (pa_refs (P := X.prog) (w := X.w) hh nn hgn)) hi hs
  refine ⟨fun pins s σ H Q I q => ?_⟩
  obtain ⟨ω, env, n, r, n', R, t, e, k⟩ := q
  unfold xCallAt at e
  split at e
  · rename_i i n1 h1
    split at e
    · rename_i m hm
      split at e
      · rename_i hi0
        split at e
        · rename_i ds n2 h2
          obtain ⟨f, fd, ps, fr, ha1, F, hkp, hb, hl, hlen⟩ := hh.get hm
          have hlm : i.toNat < ms.length := (List.getElem?_eq_some_iff.mp hm).1
          refine Call_ (thn (hf.run pins s σ H (fun v H1 => v = .ref f ∧ ∃ ω1, Ext ω H ω1 H1 ∧ Town ω1 n1 H1) I ?_) fun v s1 ⟨x, H1, I1, r1, hx, ω1, k1, t1⟩ => ?_) hev
          · refine tRefs_run ⟨by rw [List.length_map]; exact hsz, fun q hq => ?_⟩
            have sm := same_upd (o := .lst (as.map V.ref)) hq
            refine tM_run (R.ext (Ext.of_same sm) (t.of_same sm)) (t.of_same sm) h1 fun u ω1 H1 k1 R1 t1 r1 => ?_
            cases r1
            have hq1 : H1 q = some (.lst (as.map V.ref)) := (k1.mv.mv q _ (R.ok.notIn hq) upd_same).1
            refine ⟨q, as.map V.ref, i, .ref f, rfl, rfl, SqL.of hq1, ?_, rfl, ω1, (Ext.of_same sm).trans k1, t1⟩
            unfold atI
            rw [List.length_map, ixN_nat hi0 (by rw [hlen]; exact hlm)]
            show (as.map V.ref)[i.toNat]? = _
            rw [List.getElem?_map, ha1]
            rfl
          · subst hx
            cases r1
            refine PySem.W.callWith_K (h₀ := X.base) I1.ok.mod.kin hkp (thn (ha.run pos pins s1 σ H1 _ I1 (tMA_run (R.ext k1 t1) t1 h2 fun vs ω2 H2 k2 R2 t2 r2 => (⟨ω2, R2.cl, t2, r2, k1.trans k2⟩ : (fun (vs : List V) (H2 : Hp) => ∃ ω2 : Wd, ω2.C = clsA X.mg ∧ Town ω2 n2 H2 ∧ RpL X.K ω2 H2 vs ds ∧ Ext ω H ω2 H2) vs H2))) fun us s2 ⟨vs, H2, I2, r2, q2⟩ => ⟨I2.kIn, ?_⟩) he hpl
            obtain ⟨ω2, hC, t2, rl, k2⟩ := q2
            exact run_fnS F (hr.mono (Nat.le_of_ble_eq_true hk)) hb (passAt tk σ) I2 r2 (sp_run hl hC t2 rl e k2 k)
        · cases e
      · cases e
    · cases e
  · cases e
/-! statements -/
def sRetX2 (g : FX) : FS := fun S n => match g (frzE S) n with
  | some (.ok d, n1) => some (.rt d, n1)
  | some (.ex c, n1) => some (.ex c, n1)
  | none => none
theorem ms_retX2 (he : MX X W e g) : MS X W (.Return (some e) pos) (sRetX2 g) := by
  refine ps_imp (ps_ret he) fun Dn σ H q => ?_
  obtain ⟨ω0, H0, ω, S, n, fl, n', ⟨o, R⟩, e, a⟩ := q
  unfold sRetX2 at e
  split at e
  · rename_i d n1 h1
    cases e
    exact ⟨ω, frzE S, n, _, _, R.frz, R.town, h1, fun v ω' H' k t r => a v ω' H' (R.ext.trans k) t r⟩
  · rename_i c n1 h1
    cases e
    exact ⟨ω, frzE S, n, _, _, R.frz, R.town, h1, fun C ω' H' hC k t => a C σ ω' H' hC (R.ext.trans k) t⟩
  · cases e
end


/-! ### lists of defs, packed -/
theorem hass_nil {P : Program} {w : World} {K : PySem.W.Frag} {mg : Str → Option Value} {base : Heap} {k ar : Nat} : ∃ as, Hass P w K mg base k ar [] as [] := ⟨[], .nil⟩
theorem hass_cons {P : Program} {w : World} {K : PySem.W.Frag} {mg : Str → Option Value} {base : Heap} {k k' ar : Nat} {fr : Bool} {x : Str} {m : Fn} {xs : List Str} {ms : List Fn} (h : Has P w K mg base x k' ar fr m) (hl : ∀ ds n, ds.length ≠ ar → m ds n = none) (t : ∃ as, Hass P w K mg base k ar xs as ms) (hk : Nat.ble k' k = true := by kernel_rfl) : ∃ as, Hass P w K mg base k ar (x :: xs) as (m :: ms) := by
  obtain ⟨f, fd, ps, F, hm, hkp, hb⟩ := h.ex
  obtain ⟨as, q⟩ := t
  exact ⟨f :: as, .cons (F.mono (Nat.le_of_ble_eq_true hk)) hm hkp hb hl q⟩
theorem Hass.len {P : Program} {w : World} {K : PySem.W.Frag} {mg : Str → Option Value} {base : Heap} {k ar : Nat} {xs : List Str} {as : List Addr} {ms : List Fn} (h : Hass P w K mg base k ar xs as ms) : as.length = ms.length := by
  induction h with
  | nil => rfl
  | cons _ _ _ _ _ _ ih => rw [List.length_cons, List.length_cons, ih]
section
variable {X : Cx} {W : WX} {e : Expr} {es : List Expr} {fs : Fe (List D)} {j k ar : Nat}
theorem kcallAt {xs : List Str} {ms : List Fn} {ns : List Expr} {ix : Expr} {fi : FE} {lp sp' pos : Pos} (hh : ∃ as, Hass X.prog X.w X.K X.mg X.base k ar xs as ms) (nn : NamesE xs ns) (hr : Room j X.A) (tk : Takes X W) (hi : ME X ix fi) (ha : MA X (e :: es) fs) (hlen : Nat.ble ms.length 1000 = true := by kernel_rfl) (hgn : gNames X ns = true := by kernel_rfl) (hk : Nat.ble k j = true := by kernel_rfl)
    (hs : ∀ o i, subscripted ix false o i = operate [o, i] (getItem o i) := by intro _ _; kernel_rfl) (he : starEach (e :: es) X.env = (false, eval e X.env) :: starEach es X.env := by kernel_rfl) (hpl : (backTo pos (starEach es X.env)).any (·.1) = false := by kernel_rfl)
    (hev : eval (.Call (.Subscript (.List ns lp) ix sp') (e :: es) [] pos) X.env = (do callWith pos (← eval (.Subscript (.List ns lp) ix sp') X.env) [] (backTo pos (starEach (e :: es) X.env)) (backToKw pos (keywordEach [] X.env))) := by kernel_rfl) :
    MX X W (.Call (.Subscript (.List ns lp) ix sp') (e :: es) [] pos) (xCallAt ms fi fs) := by
  obtain ⟨as, q⟩ := hh
  have hl := Nat.le_of_ble_eq_true hlen
  exact mx_callAt q nn hr tk hi ha hgn (by rw [q.len, sizeLine_eq]; omega) hk hs he hpl hev
end
/-! ### the try, packed -/
section
variable {X : Cx} {W : WX} {body : List Stmt} {j k : Nat} {n : Str} {f : FS} {np p1 p2 p3 p4 pos pos' : Pos}
theorem ktryW (i : Nat) (hw : HasW X.prog X.w X.K X.mg X.base k) (hr : Room j X.A) (hN : X.N.Nodup) (tk : Takes X W)
    (hb : ∀ (W' : WX) (pn : List (Addr × Obj)) (xe : Value → Shared → Prop), Takes (X.tr pn xe) W' → PassesOwn (model X.prog X.w) X.A X.env xe → MSs (X.tr pn xe) W' body f) (hk : Nat.ble k j = true := by kernel_rfl)
    (hs : X.stack = X.env :: X.outer := by rfl) (hf : X.env.frame = some X.env.locals := by rfl) (hi : X.N[i]? = some n := by kernel_rfl) (hln : lclB X.env.scope n = true := by kernel_rfl) (hgs : X.env.kindOf "SplitError" = some .globalImplicit := by kernel_rfl) (hgw : X.env.kindOf "_law_which" = some .globalImplicit := by kernel_rfl)
    (he : starEach [.Name n p2] X.env = (false, eval (.Name n p2) X.env) :: starEach [] X.env := by kernel_rfl) (hpl : (backTo p3 (starEach [] X.env)).any (·.1) = false := by kernel_rfl) (hd : (n == ("__debug__" : Str)) = false := by kernel_rfl) (hcd : (n == ("__classdict__" : Str)) = false := by kernel_rfl) :
    MS X W (.Try body [.ExceptHandler (some (.Name "SplitError" np)) (some n) [.Return (some (.Call (.Name "_law_which" p1) [.Name n p2] [] p3)) p4] pos'] [] [] pos) (sTryW f) :=
  ms_tryW hw hr (Nat.le_of_ble_eq_true hk) hs hf hN hi (lcl_of hln) tk hgs hgw he hpl (fun a pn => pe_var (X := X.suite a pn) hi (.inl (lcl_of hln)) hd hcd) hb
end
/-! ### the head's facts -/
theorem excCB_ok {K : PySem.W.Frag} {E : Addr} (h : excCB K E = true) : ExcC K E := by
  unfold excCB at h
  simp only [Bool.and_eq_true] at h
  obtain ⟨h1, h2, h3, h4, h5, h6, h7, h8⟩ := h
  exact ⟨He.eqO_ok h1, He.eqO_ok h2, of_decide_eq_true h3, h4, He.eqO_ok h5, He.eqO_ok h6, of_decide_eq_true h7, of_decide_eq_true h8⟩
theorem exB_ok {K : PySem.W.Frag} {mg : Str → Option Value} (h : exB K = true) (g : ∀ c ∈ EXN, mg c = some (.ref (He.ga K c))) (gs : mg "SplitError" = some (.ref (He.ga K "SplitError"))) : ExAll K mg := by
  unfold exB at h
  rw [List.all_eq_true] at h
  refine ⟨g, fun c hc => ?_, fun c hc d hd => ?_, fun c hc => ?_, fun c hc => ?_, gs⟩
  all_goals
    have q := h c hc
    simp only [Bool.and_eq_true] at q
    obtain ⟨q1, q2, q3, q4⟩ := q
  · exact excCB_ok q1
  · exact of_decide_eq_true (List.all_eq_true.mp q2 d hd)
  · exact of_decide_eq_true q3
  · exact of_decide_eq_true q4
theorem exn_all {p : Str → Prop} (h0 : p "InvalidMatrix") (h1 : p "InvalidPermutation") (h2 : p "InvalidRooms") (h3 : p "InvalidSize") (h4 : p "InvalidRectangle") (h5 : p "InvalidPhase") (h6 : p "NotEven") (h7 : p "NoPermutation") (h8 : p "HasPermutation") (h9 : p "NotExtendable") (h10 : p "TooLarge") (h11 : p "Finished") (h12 : p "NothingToUndo") (h13 : p "ParseError") : ∀ c ∈ EXN, p c := by
  intro c hc
  simp only [EXN, List.mem_cons, List.not_mem_nil, or_false] at hc
  rcases hc with rfl | rfl | rfl | rfl | rfl | rfl | rfl | rfl | rfl | rfl | rfl | rfl | rfl | rfl <;> assumption
theorem unH {k : Nat} {A : Around} (hr : L2H.RoomH k A) : A.units + 64 < cLine := by have := hr.un; omega


/-! ### len(set(xs)), xs a list of tuples of ints -/
def tups? : List D → Option (List (List Int))
  | [] => some []
  | .tuple ds :: r => (match ints? ds, tups? r with
    | some ns, some q => some (ns :: q)
    | _, _ => none)
  | _ => none
theorem tups?_eq : ∀ {ds : List D} {q : List (List Int)}, tups? ds = some q → ds = q.map fun ns => .tuple (ns.map .int)
  | [], q, h => by cases h; rfl
  | .tuple d :: r, q, h => by
    unfold tups? at h
    split at h
    · rename_i ns q' h1 h2
      cases h
      rw [List.map_cons, ← tups?_eq h2, ← ints?_eq h1]
    · cases h
  | .none :: _, _, h => nomatch h
  | .bool _ :: _, _, h => nomatch h
  | .int _ :: _, _, h => nomatch h
  | .str _ :: _, _, h => nomatch h
  | .list _ :: _, _, h => nomatch h
  | .dict _ :: _, _, h => nomatch h
theorem tups?_map : ∀ q : List (List Int), tups? (q.map fun ns => .tuple (ns.map .int)) = some q
  | [] => rfl
  | ns :: r => by
    rw [List.map_cons, tups?, ints?_map, tups?_map r]
/-- each once -/
def nubT : List (List Int) → List (List Int)
  | [] => []
  | x :: r => if r.contains x then nubT r else x :: nubT r
theorem nubT_mem {z : List Int} : ∀ {l : List (List Int)}, z ∈ nubT l ↔ z ∈ l
  | [] => by simp [nubT]
  | x :: r => by
    unfold nubT
    split
    · rename_i h
      have hx : x ∈ r := by simpa using h
      rw [nubT_mem, List.mem_cons]
      exact ⟨.inr, fun q => q.elim (fun e => by rw [e]; exact hx) id⟩
    · rw [List.mem_cons, nubT_mem, List.mem_cons]
theorem nubT_nodup : ∀ {l : List (List Int)}, (nubT l).Nodup
  | [] => by simp [nubT]
  | x :: r => by
    unfold nubT
    split
    · exact nubT_nodup
    · rename_i h
      rw [List.nodup_cons]
      exact ⟨fun q => h (by simpa using nubT_mem.mp q), nubT_nodup⟩
def tLenSetL (K : PySem.W.Frag) (ta : TE) : TE := fun σ H Q => ta σ H fun x H1 => ∃ (l : Addr) (ks : List (Addr × List Int)), x = .ref l ∧ SqL K H1 l (ks.map fun p => V.ref p.1) ∧ (∀ p ∈ ks, SqT K H1 p.1 (p.2.map V.int)) ∧ ks.length < 64 ∧ Q (.int ((nubT (ks.map (·.2))).length : Nat)) H1
section
variable {X : Cx} {a : Expr} {ta : TE} {f : FE} {p p2 q pos : Pos}
theorem pe_lenSetL (hg : Gl X "len") (hm : X.mg "len" = none) (hg2 : Gl X "set") (hm2 : X.mg "set" = none) (ha : PE X a ta) (hc : X.calm = true) (hu : X.A.units + 64 < cLine)
    (na : starEach [a] X.env = (false, eval a X.env) :: starEach [] X.env) (nb : starEach [.Call (.Name "set" p2) [a] [] q] X.env = (false, eval (.Call (.Name "set" p2) [a] [] q) X.env) :: starEach [] X.env) : PE X (.Call (.Name "len" p) [.Call (.Name "set" p2) [a] [] q] [] pos) (tLenSetL X.K ta) := by
  refine ⟨fun pins s σ H Q I h => ?_⟩
  refine Call_ (ld_blt I hg hm boot_len ?_)
  refine PyProof.Rows.callWith_builtin1 (PyProof.Rows.args_cons ?_ nb) nb rfl
  refine Call_ (ld_blt I hg2 hm2 boot_set ?_)
  refine PyProof.Rows.callWith_type1 (PyProof.Rows.args_cons (thn (ha.run pins s σ H _ I h) fun v s1 ⟨x, H1, I1, r1, q1⟩ => PyProof.Rows.args_nil ?_) na) na rfl
  obtain ⟨l, ks, rfl, hq, hk, hl, q1⟩ := q1
  cases r1
  obtain ⟨its, rv, pl, hz⟩ := I1.list hq
  refine call_set_tups (P := X.prog) (w := X.w) ks (I1.ok.hd hc) pl.isList (by simpa using refs_of_vals rv) (fun p hp => I1.isT (hk p hp)) hl (by omega) fun h' tk L es ep t R g k => ?_
  refine PyProof.Rows.args_nil ?_
  have I2 : Inv X pins σ H1 { s1 with heap := h', toks := tk } := I1.kept fun b o e => k b o e
  obtain ⟨o, ho, hex, hd⟩ := R.ob
  have hsz : es.size = L.length := SetTR.size (s := { s1 with heap := h', toks := tk }) R
  have hfit : t.fits es.size = true := SetTR.fits (s := { s1 with heap := h', toks := tk }) R
  have hlen : L.length = (nubT (ks.map (·.2))).length := by
    have pm : (L.map (·.2)).Perm (nubT (ks.map (·.2))) := (List.perm_ext_iff_of_nodup R.nd nubT_nodup).mpr fun z => by
      rw [nubT_mem]
      constructor
      · intro hz
        obtain ⟨p, hp, rfl⟩ := List.mem_map.mp hz
        exact List.mem_map.mpr ⟨p, List.mem_of_mem_take (g.sub p hp), rfl⟩
      · intro hz
        obtain ⟨p, hp, rfl⟩ := List.mem_map.mp hz
        exact g.all p (by rw [List.take_length]; exact hp)
    have := pm.length_eq
    rw [List.length_map] at this
    exact this
  have few := R.few
  exact call_len_set ho hex hd hfit (by rw [hsz]; omega) ⟨.int (nubT (ks.map (·.2))).length, H1, I2.tok _, ⟨_, by rw [hsz, hlen]⟩, q1⟩
def dLenSetL (d : D) : Option D := match d with
  | .list ds => (match tups? ds with
    | some q => if q.length < 64 then some (.int ((nubT q).length : Nat)) else none
    | none => none)
  | _ => none
theorem RpL.tups {K : PySem.W.Frag} {ω : Wd} {H : Hp} : ∀ {q : List (List Int)} {vs : List V}, RpL K ω H vs (q.map fun ns => .tuple (ns.map .int)) → ∃ ks : List (Addr × List Int), vs = ks.map (fun p => V.ref p.1) ∧ ks.map (·.2) = q ∧ ∀ p ∈ ks, SqT K H p.1 (p.2.map V.int)
  | [], _, .nil => ⟨[], rfl, rfl, fun p hp => by cases hp⟩
  | ns :: r, _, .cons h t => by
    obtain ⟨ks, rfl, e2, e3⟩ := RpL.tups (q := r) t
    cases h with
    | @tup a xs ds h1 l1 q1 =>
      have ex := q1.inv_ints
      subst ex
      refine ⟨(a, ns) :: ks, rfl, by rw [List.map_cons, e2], fun p hp => ?_⟩
      rcases List.mem_cons.mp hp with z | z
      · rw [z]; exact SqT.of h1
      · exact e3 p z
theorem me_lenSetL (hg : Gl X "len") (hm : X.mg "len" = none) (hg2 : Gl X "set") (hm2 : X.mg "set" = none) (ha : ME X a f) (hc : X.calm = true) (hu : X.A.units + 64 < cLine)
    (na : starEach [a] X.env = (false, eval a X.env) :: starEach [] X.env) (nb : starEach [.Call (.Name "set" p2) [a] [] q] X.env = (false, eval (.Call (.Name "set" p2) [a] [] q) X.env) :: starEach [] X.env) : ME X (.Call (.Name "len" p) [.Call (.Name "set" p2) [a] [] q] [] pos) (e1 dLenSetL f) := by
  refine pe_imp (pe_lenSetL hg hm hg2 hm2 ha hc hu na nb) fun σ H Q z => ?_
  obtain ⟨ω, env, n, d, n', R, t, e, k⟩ := z
  obtain ⟨x, h1, h2⟩ := e1_inv e
  refine tM_run R t h1 fun v ω1 H1 k1 R1 t1 r1 => ?_
  unfold dLenSetL at h2
  split at h2
  · rename_i ds
    cases hi : tups? ds with
    | none => rw [hi] at h2; cases h2
    | some q =>
      rw [hi] at h2
      simp only at h2
      split at h2
      · rename_i hle
        cases h2
        cases r1 with
        | @lst l xs ds2 g1 m1 l1 q1 =>
          have ed := tups?_eq hi
          subst ed
          obtain ⟨ks, rfl, e2, e3⟩ := q1.tups
          have hkl : ks.length < 64 := by
            rw [← e2, List.length_map] at hle
            exact hle
          refine ⟨l, ks, rfl, SqL.of g1, e3, hkl, ?_⟩
          rw [e2]
          exact k _ ω1 H1 k1 t1 (.int _)
      · cases h2
  · cases h2
theorem klenSetL (hm : X.mg "len" = none) (hm2 : X.mg "set" = none) (hu : X.A.units + 64 < cLine) (ha : ME X a f) (hg : X.env.kindOf "len" = some .globalImplicit := by kernel_rfl) (hg2 : X.env.kindOf "set" = some .globalImplicit := by kernel_rfl) (hc : X.calm = true := by kernel_rfl)
    (na : starEach [a] X.env = (false, eval a X.env) :: starEach [] X.env := by kernel_rfl) (nb : starEach [.Call (.Name "set" p2) [a] [] q] X.env = (false, eval (.Call (.Name "set" p2) [a] [] q) X.env) :: starEach [] X.env := by kernel_rfl) : ME X (.Call (.Name "len" p) [.Call (.Name "set" p2) [a] [] q] [] pos) (e1 dLenSetL f) := me_lenSetL hg hm hg2 hm2 ha hc hu na nb
end
/-! ### x[i], x[j] = y: rows of one's own go into a cell -/
section
variable {K : PySem.W.Frag} {C : Addr} {ω0 : Wd} {H0 : Hp} {ω ω' ω1 : Wd} {S : Es} {n n' n1 : Sn} {σ : L2.St} {H H' H1 : Hp} {o o' o1 : Addr → Option Nat} {k : Nat}
/-- two of slot b's cells go to cell k -/
theorem RS.give {b : Nat} {p1 p2 : Addr} (R : RS K C ω0 H0 ω S n σ H o) (h1 : o p1 = some b) (h2 : o p2 = some b) (hk : k < n.c.length) : RS K C ω0 H0 (ω.join k fun a => a = p1 ∨ a = p2) (S.set b none) n σ H (drop1 o b) := by
  have hS : ∀ a, (a = p1 ∨ a = p2) → o a = some b := fun a z => z.elim (fun e => by rw [e]; exact h1) fun e => by rw [e]; exact h2
  refine ⟨R.ext.joinNew fun a z => (R.new a b (hS a z)).1, R.cl, R.town.join hk (fun a z => R.own a b (hS a z)) fun a z => (R.new a b (hS a z)).2, fun a j h => ?_, fun a j h => R.own a j (drop1_sub h), by rw [List.length_set]; exact R.len, fun i sv h => ?_⟩
  · refine ⟨(R.new a j (drop1_sub h)).1, fun z => ?_⟩
    rcases z with z | z
    · exact (R.new a j (drop1_sub h)).2 z
    · have e := drop1_sub h
      rw [hS a z] at e
      cases e
      exact drop1_eq h
  · by_cases hb : b = i
    · subst hb
      by_cases hl : b < S.length
      · rw [List.getElem?_set_self hl] at h; cases h
      · rw [List.getElem?_eq_none (by rw [List.length_set]; omega)] at h; cases h
    · rw [List.getElem?_set_ne hb] at h
      obtain ⟨v, q1, q2⟩ := R.slot i sv h
      refine ⟨v, q1, q2.mv (Mv.less (ω := ω.plus o) (ω' := (ω.join k fun a => a = p1 ∨ a = p2).plus (drop1 o b)) rfl rfl fun a z => ?_) (fun a x _ hx => hx) fun a ha => (drop1_ne (Ne.symm hb)).mpr ha⟩
      rcases z with (z | z) | ⟨j, z⟩
      · exact .inl z
      · exact .inr ⟨b, hS a z⟩
      · exact .inr ⟨j, drop1_sub z⟩
end
def intS : Option (Option SV) → Option Int
  | some (some (.val (.int i))) => some i
  | _ => none
theorem intS_eq {x : Option (Option SV)} {i : Int} (h : intS x = some i) : x = some (some (.val (.int i))) := by
  unfold intS at h
  split at h
  · cases h; rfl
  · cases h
theorem RS.intAt {K : PySem.W.Frag} {C : Addr} {ω0 : Wd} {H0 : Hp} {ω : Wd} {S : Es} {n : Sn} {σ : L2.St} {H : Hp} {o : Addr → Option Nat} {j : Nat} {i : Int} (R : RS K C ω0 H0 ω S n σ H o) (h : intS S[j]? = some i) : σ[j]? = some (some (.int i)) := by
  obtain ⟨v, h1, h2⟩ := R.slot j _ (intS_eq h)
  cases (show Rp K (ω.plus o) H v (.int i) from h2)
  exact h1
/-- x[i], x[j] = y -/
def sRow2 (r b ii jj : Nat) : FS := fun S n => match S[b]? with
  | some (some (.own2 [d1, d2])) => (match cellS S[r]? with
    | some k => (match intS S[ii]? with
      | some i => (match intS S[jj]? with
        | some j => (match n.c[k]? with
          | some (.rows dss) => if decide (0 ≤ i) && decide (i.toNat < dss.length) && decide (0 ≤ j) && decide (j.toNat < dss.length) && pfL d1 && pfL d2 then some (.nx (S.set b none), n.put k (.rows ((dss.set i.toNat d1).set j.toNat d2))) else none
          | _ => none)
        | none => none)
      | none => none)
    | none => none)
  | _ => none
section
variable {X : Cx} {W : WX} {st : Stmt}
theorem ms_row2 {r b ii jj : Nat} (h : PS X st (tAsg (tVar b) (gLst X.K 2 (gCons (gSub (tVar r) (tVar ii) rSetL) (gCons (gSub (tVar r) (tVar jj) rSetL) gNil))))) : MS X W st (sRow2 r b ii jj) := by
  refine ps_imp h fun Dn σ H q => ?_
  obtain ⟨ω0, H0, ω, S, n, fl, n', ⟨o, R⟩, e, a⟩ := q
  unfold sRow2 at e
  split at e
  · rename_i d1 d2 hB
    split at e
    · rename_i k hS
      split at e
      · rename_i i h1
        split at e
        · rename_i j h2
          split at e
          · rename_i dss hc
            split at e
            · rename_i hp
              cases e
              simp only [Bool.and_eq_true] at hp
              obtain ⟨⟨⟨⟨⟨hi0, hil⟩, hj0⟩, hjl⟩, hp1⟩, hp2⟩ := hp
              have hi0 := of_decide_eq_true hi0
              have hil := of_decide_eq_true hil
              have hj0 := of_decide_eq_true hj0
              have hjl := of_decide_eq_true hjl
              obtain ⟨v, hσb, q, qs, rfl, hoq, ndq, hbo, hHq, lq, rq⟩ := R.slot b _ hB
              obtain ⟨p1, p2, rfl⟩ : ∃ p1 p2, qs = [p1, p2] := by
                have := rq.length
                match qs, this with
                | [x, y], _ => exact ⟨x, y, rfl⟩
              obtain ⟨pr, hσr, hr⟩ := R.cellAt hS
              have o1 := hbo p1 (by simp)
              have o2 := hbo p2 (by simp)
              have hp12 : p1 ≠ p2 := fun e => by
                rw [e] at ndq
                simp at ndq
              have hk : k < n.c.length := (List.getElem?_eq_some_iff.mp hc).1
              have RG := R.give (k := k) o1 o2 hk
              have rT0 : RowsT H [p1, p2] [d1, d2] := rq.toT (by simp [pfLL, hp1, hp2])
              obtain ⟨_, xs1, e1, hx1, l1, rx1⟩ := rT0.get (i := 0) rfl
              obtain ⟨_, xs2, e2, hx2, l2, rx2⟩ := rT0.get (i := 1) rfl
              cases e1
              cases e2
              obtain ⟨ho, bs, nd, hbw, hHr, lr, rT⟩ := RG.town.at (a := pr) hr hc
              have nin : ∀ z, o z = some b → z ∉ pr :: bs := fun z hz hm => by
                obtain ⟨ho0, bs', _, hbw0, hH0', _, _⟩ := R.town.at hr hc
                have e : bs' = bs := by
                  rw [hH0'] at hHr
                  exact refs_inj (HO.lst.inj (Option.some.inj hHr))
                subst e
                rcases List.mem_cons.mp hm with e | e
                · rw [e] at hz
                  exact (R.new pr b hz).2 (ω.hT2 pr k ho0)
                · exact (R.new z b hz).2 (ω.hT2 z k (hbw0 z e))
              refine ⟨_, hσb, q, _, rfl, SqL.of hHq, rfl, .ref p1, [.ref p2], rfl, ?_⟩
              refine ⟨_, hσr, _, R.intAt h1, pr, bs.map V.ref, i, i.toNat, rfl, rfl, hHr, by rw [List.length_map]; exact ixN_nat hi0 (by rw [rT.length]; exact hil), ?_⟩
              have nd1 := nodup_set (i := i.toNat) nd (nin p1 o1)
              have rTA := rT.setA (i := i.toNat) hx1 l1 rx1
              obtain ⟨tA, eA⟩ := RG.town.putRows (dss := dss) (dss' := dss.set i.toNat d1) (bs' := bs.set i.toNat p1) hr ho hHr nd1 (fun z hz => by
                rcases List.mem_or_eq_of_mem_set hz with y | y
                · exact hbw z y
                · rw [y]; exact join_in (.inl rfl)) (by rw [List.length_set]; exact lr) rTA
              have hcA : (n.put k (.rows (dss.set i.toNat d1))).c[k]? = some (.rows (dss.set i.toNat d1)) := by
                show (n.c.set k _)[k]? = _
                rw [List.getElem?_set_self hk]
              obtain ⟨hoA, bsA, ndA, hbwA, hHA, lA, rTA'⟩ := tA.at (a := pr) hr hcA
              rw [upd_same] at hHA
              have eb := refs_inj (HO.lst.inj (Option.some.inj hHA))
              subst eb
              have np2 : p2 ∉ pr :: bs.set i.toNat p1 := fun hm => by
                rcases List.mem_cons.mp hm with e | e
                · exact nin p2 o2 (by rw [e]; exact List.mem_cons_self)
                · rcases List.mem_or_eq_of_mem_set e with y | y
                  · exact nin p2 o2 (List.mem_cons_of_mem _ y)
                  · exact hp12 y.symm
              have h2p : p2 ≠ pr := fun e => nin p2 o2 (by rw [e]; exact List.mem_cons_self)
              have hx2A : upd H pr (.lst ((bs.set i.toNat p1).map V.ref)) p2 = some (.lst xs2) := by rw [upd_ne h2p]; exact hx2
              have rx2A : RtL (upd H pr (.lst ((bs.set i.toNat p1).map V.ref))) xs2 d2 := rx2.mono fun c zs hc => by
                rw [upd_ne (fun z => by rw [z, hHr] at hc; cases hc)]; exact hc
              refine ⟨.ref p2, [], rfl, ?_⟩
              show gSub (tVar r) (tVar jj) rSetL (.ref p2) σ (upd H pr (.lst ((bs.map V.ref).set i.toNat (.ref p1)))) _
              rw [show (bs.map V.ref).set i.toNat (.ref p1) = (bs.set i.toNat p1).map V.ref by rw [List.map_set]]
              refine ⟨_, hσr, _, R.intAt h2, pr, (bs.set i.toNat p1).map V.ref, j, j.toNat, rfl, rfl, upd_same, by rw [List.length_map, List.length_set]; exact ixN_nat hj0 (by rw [rT.length]; exact hjl), ?_⟩
              obtain ⟨tB, eB⟩ := tA.putRows (dss := dss.set i.toNat d1) (dss' := (dss.set i.toNat d1).set j.toNat d2) (bs' := (bs.set i.toNat p1).set j.toNat p2) hr hoA upd_same (nodup_set ndA np2) (fun z hz => by
                rcases List.mem_or_eq_of_mem_set hz with y | y
                · exact hbwA z y
                · rw [y]; exact join_in (.inr rfl)) (by rw [List.length_set, List.length_set]; exact lr) (rTA'.setA hx2A l2 rx2A)
              rw [show ((bs.set i.toNat p1).set j.toNat p2).map V.ref = ((bs.set i.toNat p1).map V.ref).set j.toNat (.ref p2) from List.map_set] at tB eB
              have hn : (n.put k (.rows (dss.set i.toNat d1))).put k (.rows ((dss.set i.toNat d1).set j.toNat d2)) = n.put k (.rows ((dss.set i.toNat d1).set j.toNat d2)) := by
                show (⟨n.t, (n.c.set k _).set k _⟩ : Sn) = ⟨n.t, n.c.set k _⟩
                rw [List.set_set]
              rw [hn] at tB
              exact ⟨rfl, a _ _ _ _ (RG.extF (eA.trans eB) tB)⟩
            · cases e
          · cases e
        · cases e
      · cases e
    · cases e
  · cases e
end
/-- a list of two new lists -/
def a2L (f g : Fe (List D)) : Fe (List (List D)) := fun env n => match f env n with
  | some (ds, n1) => (match g env n1 with
    | some (es, n2) => some ([ds, es], n2)
    | none => none)
  | none => none
theorem mf2_two {X : Cx} {a b : Expr} {f g : Fe (List D)} {pos : Pos} (ha : MF X a f) (hb : MF X b g) (hs : starEach [a, b] X.env = (false, eval a X.env) :: starEach [b] X.env := by kernel_rfl) (hs2 : starEach [b] X.env = (false, eval b X.env) :: starEach [] X.env := by kernel_rfl) (hpf : True := trivial) : PE X (.List [a, b] pos) (tLst (tCons (tMF X.K (clsA X.mg) f) (tCons (tMF X.K (clsA X.mg) g) tNil))) := pe_lst (pa_cons ha (pa_cons hb pa_nil hs2) hs)
/-- y = [list(..), list(..)] seen in the view -/
def sOwnV2 (i : Nat) (ms : List Bool) (f g : Fe (List D)) : FS := fun S n => match f (resE n ms (frzE S)) n0 with
  | some (ds, _) => (match g (resE n ms (frzE S)) n0 with
    | some (es, _) => if pfL ds && pfL es then some (.nx (S.set i (some (.own2 [ds, es]))), n) else none
    | none => none)
  | none => none
theorem ms_ownV2 {X : Cx} {W : WX} {st : Stmt} {i : Nat} {ms : List Bool} {f g : Fe (List D)} (h : PS X st (tAsg (tLst (tCons (tMF X.K (clsA X.mg) f) (tCons (tMF X.K (clsA X.mg) g) tNil))) (gName i))) : MS X W st (sOwnV2 i ms f g) := by
  refine ps_imp h fun Dn σ H q => ?_
  obtain ⟨ω0, H0, ω, S, n, fl, n', ⟨o, R⟩, e, a⟩ := q
  unfold sOwnV2 at e
  split at e
  · rename_i ds n1 h1
    split at e
    · rename_i es n2 h2
      split at e
      · rename_i hp
        rw [Bool.and_eq_true] at hp
        cases e
        refine ⟨_, _, n0, _, n1, R.vw ms, town_V, h1, fun p1 xs ω1 H1 k1 _ hp1 _ hp1' l1 r1 => ?_⟩
        have s1 := same_V k1
        have RV := (R.vw ms).ext (Ext.of_same s1) town_V
        refine ⟨_, _, n0, _, n2, RV, town_V, h2, fun p2 ys ω2 H2 k2 _ hp2 _ hp2' l2 r2 => ?_⟩
        have s2 := same_V k2
        refine ⟨by show 2 ≤ sizeLine; decide, fun q hq => ?_⟩
        have s3 : Same H (upd H2 q (.lst [.ref p1, .ref p2])) := fun b x hb => same_upd hq b x (s2 b x (s1 b x hb))
        have h1q : upd H2 q (.lst [.ref p1, .ref p2]) p1 = some (.lst xs) := same_upd hq _ _ (s2 _ _ hp1')
        have h2q : upd H2 q (.lst [.ref p1, .ref p2]) p2 = some (.lst ys) := same_upd hq _ _ hp2'
        have hp2H : H p2 = none := by
          cases z : H p2 with
          | none => rfl
          | some x => rw [s1 _ _ z] at hp2; cases hp2
        have hqH : H q = none := by
          cases z : H q with
          | none => rfl
          | some x => rw [s2 _ _ (s1 _ _ z)] at hq; cases hq
        have n12 : p1 ≠ p2 := fun z => by rw [z, hp2] at hp1'; cases hp1'
        have n1q : p1 ≠ q := fun z => by rw [← z, s2 _ _ hp1'] at hq; cases hq
        have n2q : p2 ≠ q := fun z => by rw [← z, hp2'] at hq; cases hq
        have ex : Ext (ω.plus o) H (ω.plus o) (upd H2 q (.lst [.ref p1, .ref p2])) := Ext.of_same s3
        have hnT : ∀ z, H z = none → ¬ (ω.plus o).T z := fun z hz => R.townP.ok.notIn hz
        have tup2 : ∀ c zs, H1 c = some (.tup zs) → upd H2 q (.lst [.ref p1, .ref p2]) c = some (.tup zs) := fun c zs hc => same_upd hq _ _ (s2 _ _ hc)
        have tup3 : ∀ c zs, H2 c = some (.tup zs) → upd H2 q (.lst [.ref p1, .ref p2]) c = some (.tup zs) := fun c zs hc => same_upd hq _ _ hc
        exact a _ _ _ _ (R.setOwn2 (i := i) (p := q) (bs := [p1, p2]) (dss := [ds, es]) ex (R.townP.of_same s3) (fun z hz => by
          simp only [List.mem_cons, List.not_mem_nil, or_false] at hz
          rcases hz with e | e | e <;> subst e
          · exact ⟨hqH, hnT _ hqH⟩
          · exact ⟨hp1, hnT _ hp1⟩
          · exact ⟨hp2H, hnT _ hp2H⟩) (by simp [n12, Ne.symm n1q, Ne.symm n2q]) upd_same (by show 2 ≤ sizeLine; decide) (.cons xs h1q l1 ((r1.rt hp.1).mono tup2).rp (.cons ys h2q l2 ((r2.rt hp.2).mono tup3).rp .nil)))
      · cases e
    · cases e
  · cases e


/-! ### t[::-1], t a tuple -/
section
variable {prog : Program} {w : World} {A : Around} {E : Value → Shared → Prop} {s : Shared}
theorem sliceApplied_rev {sl : Addr} {vl vu vs : Value} {n : Nat} {Q : Int × Int × Nat → Shared → Prop} (hs : s.heap.IsSliceOf sl vl vu vs) (pl : IsPart vl none) (pu : IsPart vu none) (ps : IsPart vs (some (-1)))
    (h : Q ((n : Int) - 1, -1, n) s) : wpAny (model prog w) A (Builtin.Slice.sliceApplied (.ref sl) (pure (n : Int))) Q E s := by
  obtain ⟨os, hos, hcs, hds⟩ := id hs
  unfold Builtin.Slice.sliceApplied Builtin.Slice.sliceFields
  refine wpAny_bind (wpAny_bind (wpAny_field hos hds (x := vl) rfl (wpAny_bind (wpAny_field hos hds (x := vu) rfl (wpAny_bind (wpAny_field hos hds (x := vs) rfl (wpAny_pure ?_)))))))
  refine wpAny_bind (HT.slicePart_ ps ?_)
  show wpAny _ _ (if ((-1 : Int) == 0) = true then _ else _) _ _ s
  rw [if_neg (by decide)]
  refine wpAny_bind (HT.slicePart_ pl (wpAny_bind (HT.slicePart_ pu (wpAny_bind (wpAny_pure ?_)))))
  show wpAny _ _ (pure ((n : Int) - 1, (-1 : Int), Builtin.Slice.slicePlaces ((n : Int) - 1) (-1) (-1))) _ _ s
  have e : Builtin.Slice.slicePlaces ((n : Int) - 1) (-1) (-1) = n := by
    unfold Builtin.Slice.slicePlaces
    have h1 : ¬ ((-1 : Int) > 0) := by omega
    rw [if_neg h1]
    by_cases hn : (n : Int) - 1 > -1
    · rw [if_pos hn, show (- -1 : Int) = 1 by decide, Int.ediv_one]
      omega
    · rw [if_neg hn]
      omega
  rw [e]
  exact wpAny_pure h
theorem fm_congr {α β : Type} {f g : α → Option β} : ∀ {l : List α}, (∀ x ∈ l, f x = g x) → l.filterMap f = l.filterMap g
  | [], _ => rfl
  | x :: r, h => by
    rw [List.filterMap_cons, List.filterMap_cons, h x List.mem_cons_self, fm_congr fun y hy => h y (List.mem_cons_of_mem _ hy)]
theorem pick_rev (xs : Array Value) : ((List.range xs.size).filterMap fun (m : Nat) => xs[((xs.size : Int) - 1 + (m : Int) * (-1)).toNat]?).toArray = xs.toList.reverse.toArray := by
  have e : ((List.range xs.size).filterMap fun (m : Nat) => xs[((xs.size : Int) - 1 + (m : Int) * (-1)).toNat]?) = ((List.range xs.size).map fun k => xs.size - 1 - k).filterMap (xs[·]?) := by
    rw [List.filterMap_map]
    apply fm_congr
    intro m hm
    have := List.mem_range.mp hm
    have e : ((xs.size : Int) - 1 + (m : Int) * (-1)).toNat = xs.size - 1 - m := by omega
    rw [e]
    rfl
  rw [e, PySem.W.krv_range, List.filterMap_reverse, PySem.W.krv_all]
theorem getItem_tuple_rev {t sl : Addr} {items : Array Value} {vl vu vs : Value} {Q : Value → Shared → Prop} (ht : IsTup s.heap t items) (hs : s.heap.IsSliceOf sl vl vu vs) (pl : IsPart vl none) (pu : IsPart vu none) (ps : IsPart vs (some (-1)))
    (h : Q (.ref s.heap.objs.size) { s with heap := s.heap.push { cls := .type "tuple", data := .seq items.toList.reverse.toArray } })
    (hsz : items.size ≤ sizeLine) : wpAny (model prog w) A (getItem (.ref t) (.ref sl)) Q E s := by
  have htake : sizeOk (.seq items.toList.reverse.toArray) := by
    show items.toList.reverse.toArray.size ≤ sizeLine
    rw [List.size_toArray, List.length_reverse, Array.length_toList]
    omega
  obtain ⟨os, hos, hcs, hds⟩ := id hs
  have hTs : s.TypeIs (.ref sl) "slice" := ⟨os, hos, hcs⟩
  unfold getItem
  try with_reducible refine wpAny_holding ?_
  first | refine wpAny_bind (wpAny_pure ?_) | skip
  refine wpAny_bind (wpAny_sequenceKey ht.typeIs (by decide) ?_)
  refine wpAny_bind (wpAny_callSpecial?_slot (name := Str.ofString "__getitem__") ht.typeIs PyProof.Rows.slot_tuple_getitem
    (wpAny_call_entry PyProof.Rows.slot_tuple_getitem ht.typeIs entry_tuple_getitem ?_ (args_tuple_getitem _ _)))
  show wpAny _ _ (Builtin.Tuple.tupleItemsOf (.ref t) >>= _) _ _ s
  refine wpAny_bind (tupleItemsOf_ ht ?_)
  refine wpAny_bind (wpAny_typeOf hTs ?_)
  rw [if_pos (by decide)]
  refine wpAny_bind (sliceApplied_rev hs pl pu ps ?_)
  show wpAny _ _ (if (((items.size : Int) - 1) == 0 && (-1 : Int) == 1 && items.size == items.size) = true then _ else _) _ _ s
  rw [if_neg (by simp), pick_rev]
  first
    | exact wpAny_bind (m := Builtin.Tuple.tupleExact _) (wpAny_newObj_type (wpAny_pure ⟨_, rfl, wpAny_pure h⟩) htake)
    | exact wpAny_bind (m := Builtin.Tuple.tupleExact _) (wpAny_newObj_type (wpAny_bind (wpAny_pure (wpAny_pure ⟨_, rfl, wpAny_pure h⟩))) htake)
    | exact wpAny_bind (wpAny_bind (m := Builtin.Tuple.tupleExact _) (wpAny_newObj_type (wpAny_pure (wpAny_pure ⟨_, rfl, wpAny_pure h⟩)) htake))
    | exact wpAny_bind (wpAny_bind (m := Builtin.Tuple.tupleExact _) (wpAny_newObj_type (wpAny_pure ⟨_, rfl, wpAny_pure h⟩) htake))
end
section
variable {X : Cx}
def tRevT (K : PySem.W.Frag) (te : TE) : TE := fun σ H Q => te σ H fun x H1 => ∃ a xs, x = .ref a ∧ SqT K H1 a xs ∧ ∀ p, H1 p = none → Q (.ref p) (upd H1 p (.tup xs.reverse))
theorem pe_revT {e : Expr} {te : TE} {k : Nat} {p1 p2 p3 pos : Pos} (he : PE X e te) : PE X (.Subscript e (.Slice none none (some (.UnaryOp .USub (.Constant (.int 1) k p1) p2)) p3) pos) (tRevT X.K te) := by
  refine ⟨fun pins s σ H Q I h => ?_⟩
  refine Subscript_ (thn (he.run pins s σ H _ I h) fun v s1 ⟨x, H1, I1, r1, q1⟩ => ?_)
  obtain ⟨a, xs, ex, hx, q⟩ := q1
  subst ex
  cases r1
  have hst : PO X (some (.UnaryOp .USub (.Constant (.int 1) k p1) p2)) (tPart (tUn (rU fun i => .int (-i)) (tC (.int 1)))) := po_some (pe_un un_neg pe_int)
  refine wpAny_Slice (thn (po_none.run pins s1 σ H1 (fun o H2 => o = none ∧ H2 = H1) I1 ⟨rfl, rfl⟩) fun vl s2 ⟨l, H2, I2, pl, el, e2⟩ => ?_)
  subst el e2
  refine thn (po_none.run pins s2 σ H2 (fun o H3 => o = none ∧ H3 = H2) I2 ⟨rfl, rfl⟩) fun vu s3 ⟨u, H3, I3, pu, eu, e3⟩ => ?_
  subst eu e3
  refine thn (hst.run pins s3 σ H3 (fun o H4 => o = some (-1) ∧ H4 = H3) I3 ⟨1, rfl, -1, rfl, rfl, rfl⟩) fun vs s4 ⟨o, H4, I4, ps, eo, e4⟩ => ?_
  subst eo e4
  have I5 : Inv X pins σ H4 { s4 with heap := s4.heap.push { cls := .type "slice", data := .fields #[vl, vu, vs] } } := I4.kept (t' := s4.toks) fun b ob q => Heap.get?_push_of_some _ q
  obtain ⟨its, r, ht, hz⟩ := I5.tuple hx
  have hlen := r.length
  show wpAny (model X.prog X.w) X.A (subscriptTail e (.Slice none none (some (.UnaryOp .USub (.Constant (.int 1) k p1) p2)) p3) (.ref a) (.ref s4.heap.objs.size)) (EP X pins σ Q) X.xe { s4 with heap := s4.heap.push { cls := .type "slice", data := .fields #[vl, vu, vs] } }
  refine tail_any (ops := [.ref a, .ref s4.heap.objs.size]) ht.typeIs (PyProof.Rows.slot_tuple_getitem.lookup) ?_ (by with_unfolding_all rfl)
  refine getItem_tuple_rev ht (Heap.IsSliceOf.new _ vl vu vs) pl pu ps ?_ (by rw [List.size_toArray]; omega)
  refine ⟨.ref _, _, I5.laid (t' := s4.toks) (o := .tup xs.reverse) (fun b ob q => Heap.get?_push_of_some _ q) (Nat.le_refl _) ?_, rfl, q _ (I5.hok.fresh (Nat.le_refl _))⟩
  exact ⟨by rw [List.length_reverse]; exact hz, _, r.reverse, IsTup.new _ _⟩
end
def dRevT : D → Option D
  | .tuple ds => some (.tuple ds.reverse)
  | _ => none
theorem me_revT {X : Cx} {e : Expr} {f : FE} {k : Nat} {p1 p2 p3 pos : Pos} (he : ME X e f) : ME X (.Subscript e (.Slice none none (some (.UnaryOp .USub (.Constant (.int 1) k p1) p2)) p3) pos) (e1 dRevT f) := by
  refine pe_imp (pe_revT he) fun σ H Q q => ?_
  obtain ⟨ω, env, n, d, n', R, t, e, k⟩ := q
  obtain ⟨x, h1, h3⟩ := e1_inv e
  refine tM_run R t h1 fun v ω1 H1 k1 R1 t1 r1 => ?_
  unfold dRevT at h3
  split at h3
  · cases h3
    cases r1 with
    | tup g1 l1 q1 =>
      refine ⟨_, _, rfl, SqT.of g1, new_tup R1.ok q1.reverse (by rw [List.length_reverse]; exact l1) fun v' H' s r' => k v' ω1 H' (k1.trans (Ext.of_same s)) (t1.of_same s) r'⟩
  · cases h3


/-! ### x[i], x[j] = y -/
section
variable {X : Cx} {W : WX}
theorem kpgs {e : Expr} {es : List Expr} {t : TG} {u : TGs} (h1 : PG X e t) (h2 : PGs X es u) (hs : (assignEach (e :: es) X.env).map (·.2) = assign e X.env :: (assignEach es X.env).map (·.2) := by kernel_rfl) : PGs X (e :: es) (gCons t u) := pgs_cons h1 h2 hs
theorem krow2 {r b ii jj : Nat} {e : Expr} {es : List Expr} {kk : Nat} {pos tpos : Pos} (he : PE X e (tVar b)) (hg : PGs X es (gCons (gSub (tVar r) (tVar ii) rSetL) (gCons (gSub (tVar r) (tVar jj) rSetL) gNil))) (hc : X.calm = true := by kernel_rfl)
    (hn : (assignEach es X.env).length = 2 := by kernel_rfl) (hst : (assignEach es X.env).findIdx? (·.1) = none := by kernel_rfl)
    (hs : swapsWithSole [.Tuple es kk tpos] e pos.line X.env = pure false := by kernel_rfl) (hw : swappedStores [.Tuple es kk tpos] e X.env = pure none := by kernel_rfl)
    (h1 : (assignEach [.Tuple es kk tpos] X.env).map (·.2) = [assign (.Tuple es kk tpos) X.env] := by kernel_rfl) : MS X W (.Assign [.Tuple es kk tpos] e pos) (sRow2 r b ii jj) :=
  ms_row2 (ps_asg he (pg_lst hc hg hn hst) hs hw h1)
end


/-! ### planners: attributes, methods -/
structure PlC (K : PySem.W.Frag) (mg : Str → Option Value) : Prop where
  cls : Cls K (clsA mg)
  n1 : NoAttr K (clsA mg) "matrix"
  n2 : NoAttr K (clsA mg) "worked"
  n3 : NoAttr K (clsA mg) "kept"
def dFld (f : Str) : D → Option D
  | .dict [(_, m), (_, .list ws), (_, k)] => if f = "matrix" then some m else if f = "worked" then some (.list ws) else if f = "kept" then some k else none
  | _ => none
def isPl (n : Sn) : D → Bool
  | .dict [(.int k, .none)] => (match n.c[k.toNat]? with
    | some (.pln _ _ _) => true
    | _ => false)
  | .dict [(_, _), (_, .list _), (_, _)] => true
  | _ => false
def mthN (f : Str) : Bool := !(f == "matrix") && (!(f == "worked") && !(f == "kept"))
section
variable {K : PySem.W.Frag} {ω : Wd} {H : Hp} {n : Sn} {v : V} {d : D}
theorem rp_rec {a1 a2 a3 m kp : D} {ws : List D} (r : Rp K ω H v (.dict [(a1, m), (a2, .list ws), (a3, kp)])) : ∃ (a dx b : Addr) (fs : List (Str × V)) (vm vk : V) (xs : List V), v = .ref a ∧ H a = some (.ins ω.C dx fs) ∧ ¬ ω.T a ∧ H b = some (.lst xs) ∧ ¬ ω.T b ∧ PlnF fs vm b vk ∧ Rp K ω H vm m ∧ Rp K ω H vk kp ∧ ws.length ≤ sizeLine ∧ RpL K ω H xs ws := by
  cases r with
  | pln h1 n1 h2 n2 F r1 r2 l r3 => exact ⟨_, _, _, _, _, _, _, rfl, h1, n1, h2, n2, F, r1, r2, l, r3⟩
theorem isPl_ins (r : Rp K ω H v d) (t : Town ω n H) (h : isPl n d = true) : ∃ (a dx : Addr) (fs : List (Str × V)), v = .ref a ∧ H a = some (.ins ω.C dx fs) ∧ ∀ f : Str, mthN f = true → fs.lookup f = none := by
  have no : ∀ {fs : List (Str × V)} {vm vk : V} {b : Addr}, PlnF fs vm b vk → ∀ f : Str, mthN f = true → fs.lookup f = none := fun F f hf => by
    unfold mthN at hf
    simp only [Bool.and_eq_true, Bool.not_eq_true', beq_eq_false_iff_ne] at hf
    exact F.no f hf.1 hf.2.1 hf.2.2
  unfold isPl at h
  split at h
  · rename_i k
    cases r with
    | @cell a k' hr =>
      split at h
      · rename_i m ws kp hc
        obtain ⟨_, dx, b, fs, vm, vk, xs, _, _, h4, _, _, h7, _⟩ := t.at hr hc
        exact ⟨a, dx, fs, rfl, h4, no h7⟩
      · cases h
  · obtain ⟨a, dx, b, fs, vm, vk, xs, e1, e2, _, _, _, F, _⟩ := rp_rec r
    exact ⟨a, dx, fs, e1, e2, no F⟩
  · cases h
end
structure HasM (P : Program) (w : World) (K : PySem.W.Frag) (mg : Str → Option Value) (base : Heap) (x : Str) (k ar : Nat) (fr : Bool) (m : Fn) : Prop where
  cls : Cls K (clsA mg)
  ex : ∃ (f : Addr) (fd : FuncData) (ps : List Str), FnOk P w K mg base (L2.CX P w) k f fd ps (spX K mg ar fr m) ∧ Meth K (clsA mg) x f ∧ Binds K fd ps []
def eMeth (m : Fn) (fo : FE) (fs : Fe (List D)) : FE := fun env n => match fo env n with
  | some (d, n1) => if isPl n1 d then (match fs env n1 with
    | some (ds, n2) => (match m (d :: ds) n2 with
      | some (.ok d', n3) => some (d', n3)
      | _ => none)
    | none => none) else none
  | none => none
def eMethL (m : Fn) (fo : FE) (fs : Fe (List D)) : Fe (List D) := fun env n => match fo env n with
  | some (d, n1) => if isPl n1 d then (match fs env n1 with
    | some (ds, n2) => (match m (d :: ds) n2 with
      | some (.ok (.list d'), n3) => some (d', n3)
      | _ => none)
    | none => none) else none
  | none => none
def xMeth (m : Fn) (fo : FE) (fs : Fe (List D)) : FX := fun env n => match fo env n with
  | some (d, n1) => if isPl n1 d then (match fs env n1 with
    | some (ds, n2) => m (d :: ds) n2
    | none => none) else none
  | none => none
section
variable {X : Cx} {W : WX} {o e : Expr} {es : List Expr} {apos pos p : Pos} {fo : FE} {fs : Fe (List D)} {x : Str} {j k ar : Nat} {fr : Bool} {m : Fn}
theorem me_fld {f : Str} (pc : PlC X.K X.mg) (he : ME X e fo) (hb : attributeBase e f X.env (eval e X.env) = eval e X.env := by kernel_rfl) : ME X (.Attribute e f pos) (e1 (dFld f) fo) := by
  refine pe_imp (pe_fld he hb) fun σ H Q q => ?_
  obtain ⟨ω, env, n, d, n', R, t, ee, k⟩ := q
  unfold e1 at ee
  split at ee
  · rename_i d0 n1 h1
    unfold dFld at ee
    split at ee
    · rename_i a1 m a2 ws a3 kp
      refine tM_run R t h1 fun v ω1 H1 k1 R1 t1 r1 => ?_
      obtain ⟨a, dx, b, fs, vm, vk, xs, rfl, h2, h3, h4, h5, F, r2, r3, l, r4⟩ := rp_rec r1
      have hC : ω1.C = clsA X.mg := R1.cl
      rw [hC] at h2
      split at ee
      · rename_i hf
        subst hf
        cases ee
        exact ⟨a, _, dx, fs, vm, rfl, h2, pc.cls, pc.n1, F.mx, k _ _ _ k1 t1 r2⟩
      · split at ee
        · rename_i hf
          subst hf
          cases ee
          exact ⟨a, _, dx, fs, .ref b, rfl, h2, pc.cls, pc.n2, F.wk, k _ _ _ k1 t1 (.lst h4 h5 l r4)⟩
        · split at ee
          · rename_i hf
            subst hf
            cases ee
            exact ⟨a, _, dx, fs, vk, rfl, h2, pc.cls, pc.n3, F.kp, k _ _ _ k1 t1 r3⟩
          · cases ee
    · cases ee
  · cases ee
def tMethX (C : Addr) (x : Str) (sp : Sp) (E : L2.St → XK) (ta : TE) (t : TA) : TE := fun σ H Q => ta σ H fun v H1 => ∃ a dx fs, v = .ref a ∧ H1 a = some (.ins C dx fs) ∧ fs.lookup x = none ∧ t σ H1 fun vs H2 => sp (v :: vs) H2 Q (E σ)
section
variable {CX : CXT} {f C : Addr} {fd : FuncData} {ps : List Str} {sp : Sp} {E : L2.St → XK} {ta : TE} {t : TA}
theorem pe_methX {pl : Sem Bool} (he : PE X o ta) (c : Cls X.K C) (hm : Meth X.K C x f) (F : FnOk X.prog X.w X.K X.mg X.base CX k f fd ps sp) (hr : Room k X.A) (hb : Binds X.K fd ps []) (hx : ∀ σ, PassesAt CX X σ (E σ)) (ha : PA X (e :: es) t)
    (hst : starEach (e :: es) X.env = (false, eval e X.env) :: starEach es X.env) (hpl : (backTo pos (starEach es X.env)).any (·.1) = false)
    (ht : eval (.Call (.Attribute o x apos) (e :: es) [] pos) X.env = (do
      let ov ← eval o X.env
      standAt apos.atName
      let (f, first) ← holding [ov] (getMethod ov x pl)
      callWith pos f first (backTo pos (starEach (e :: es) X.env)) (backToKw pos (keywordEach [] X.env)))) :
    PE X (.Call (.Attribute o x apos) (e :: es) [] pos) (tMethX C x sp E ta t) := by
  refine ⟨fun pins s σ H Q I h => ?_⟩
  refine PySem.W.methodCall_KW (pl := pl) (thn (he.run pins s σ H _ I h) fun u s1 ⟨v, H1, I1, rx, a, dx, fs, ex, ea, l, q⟩ => ?_) ht
  subst ex
  obtain rfl : u = Value.ref a := rx
  refine getmeth_ok I1 ea c hm l ?_
  refine PySem.W.callWith_K (first := [.ref a]) (h₀ := X.base) I.ok.mod.kin hm.kp (thn (ha.run pos pins s1 σ H1 _ I1 q) fun us s2 ⟨vs, H2, I2, r, q2⟩ => ⟨I2.kIn, ?_⟩) hst hpl
  exact run_fnS (us := .ref a :: us) (vs := .ref a :: vs) F hr hb (hx σ) I2 (.cons rfl r) q2
theorem pe_methX0 {pl : Sem Bool} (he : PE X o ta) (c : Cls X.K C) (hm : Meth X.K C x f) (F : FnOk X.prog X.w X.K X.mg X.base CX k f fd ps sp) (hr : Room k X.A) (hb : Binds X.K fd ps []) (hx : ∀ σ, PassesAt CX X σ (E σ))
    (ht : eval (.Call (.Attribute o x apos) [] [] pos) X.env = (do
      let ov ← eval o X.env
      standAt apos.atName
      let (f, first) ← holding [ov] (getMethod ov x pl)
      callWith pos f first (backTo pos (starEach [] X.env)) (backToKw pos (keywordEach [] X.env)))) :
    PE X (.Call (.Attribute o x apos) [] [] pos) (tMethX C x sp E ta tNil) := by
  refine ⟨fun pins s σ H Q I h => ?_⟩
  refine PySem.W.methodCall_KW (pl := pl) (thn (he.run pins s σ H _ I h) fun u s1 ⟨v, H1, I1, rx, a, dx, fs, ex, ea, l, q⟩ => ?_) ht
  subst ex
  obtain rfl : u = Value.ref a := rx
  refine getmeth_ok I1 ea c hm l ?_
  exact PySem.W.callWith_K0 (first := [.ref a]) I1.kIn hm.kp (run_fnS (us := [.ref a]) (vs := [.ref a]) F hr hb (hx σ) I1 (.cons rfl .nil) q)
end
/-- from a mirror's run to the reading of a method's call -/
theorem tMethX_of (hl : ∀ ds n, ds.length ≠ ar → m ds n = none) (hx : mthN x = true) : ∀ σ H Q, tX X.K X.mg W (xMeth m fo fs) σ H Q → tMethX (clsA X.mg) x (spX X.K X.mg ar fr m) (WE W) (tM X.K (clsA X.mg) fo) (tMA X.K (clsA X.mg) fs) σ H Q := by
  intro σ H Q q
  obtain ⟨ω, env, n, r, n', R, t, ee, k⟩ := q
  unfold xMeth at ee
  split at ee
  · rename_i d n1 h1
    split at ee
    · rename_i hp
      split at ee
      · rename_i ds n2 h2
        refine tM_run R t h1 fun v ω1 H1 k1 R1 t1 r1 => ?_
        obtain ⟨a, dx, fs', rfl, h3, h4⟩ := isPl_ins r1 t1 hp
        have hC : ω1.C = clsA X.mg := R1.cl
        rw [hC] at h3
        refine ⟨a, dx, fs', rfl, h3, h4 x hx, tMA_run R1 t1 h2 fun vs ω2 H2 k2 R2 t2 r2 => ?_⟩
        exact sp_run hl R2.cl t2 (.cons (r1.ext k2) r2) ee (k1.trans k2) k
      · cases ee
    · cases ee
  · cases ee
theorem tNil_of : ∀ σ H Q, tMA X.K (clsA X.mg) aNil σ H Q → tNil σ H Q := by
  intro σ H Q q
  obtain ⟨ω, env, n, ds, n', R, t, ee, k⟩ := q
  cases ee
  exact k [] ω H Ext.refl t .nil
theorem mx_meth (hh : HasM X.prog X.w X.K X.mg X.base x k ar fr m) (hl : ∀ ds n, ds.length ≠ ar → m ds n = none) (hr : Room j X.A) (tk : Takes X W) (ho : ME X o fo) (ha : MA X (e :: es) fs) (hk : Nat.ble k j = true := by kernel_rfl) (hx : mthN x = true := by kernel_rfl)
    (he : starEach (e :: es) X.env = (false, eval e X.env) :: starEach es X.env := by kernel_rfl) (hpl : (backTo pos (starEach es X.env)).any (·.1) = false := by kernel_rfl)
    (ht : eval (.Call (.Attribute o x apos) (e :: es) [] pos) X.env = (do
      let ov ← eval o X.env
      standAt apos.atName
      let (f, first) ← holding [ov] (getMethod ov x (do return (← importBound o X.env).getD true))
      callWith pos f first (backTo pos (starEach (e :: es) X.env)) (backToKw pos (keywordEach [] X.env))) := by kernel_rfl) :
    MX X W (.Call (.Attribute o x apos) (e :: es) [] pos) (xMeth m fo fs) := by
  obtain ⟨f, fd, ps, F, hm, hb⟩ := hh.ex
  exact pe_imp (pe_methX ho hh.cls hm F (hr.mono (Nat.le_of_ble_eq_true hk)) hb (fun σ => passAt tk σ) ha he hpl ht) (tMethX_of hl hx)
theorem mx_meth0 (hh : HasM X.prog X.w X.K X.mg X.base x k ar fr m) (hl : ∀ ds n, ds.length ≠ ar → m ds n = none) (hr : Room j X.A) (tk : Takes X W) (ho : ME X o fo) (hk : Nat.ble k j = true := by kernel_rfl) (hx : mthN x = true := by kernel_rfl)
    (ht : eval (.Call (.Attribute o x apos) [] [] pos) X.env = (do
      let ov ← eval o X.env
      standAt apos.atName
      let (f, first) ← holding [ov] (getMethod ov x (do return (← importBound o X.env).getD true))
      callWith pos f first (backTo pos (starEach [] X.env)) (backToKw pos (keywordEach [] X.env))) := by kernel_rfl) :
    MX X W (.Call (.Attribute o x apos) [] [] pos) (xMeth m fo aNil) := by
  obtain ⟨f, fd, ps, F, hm, hb⟩ := hh.ex
  refine pe_imp (pe_methX0 ho hh.cls hm F (hr.mono (Nat.le_of_ble_eq_true hk)) hb (fun σ => passAt tk σ) ht) fun σ H Q q => ?_
  obtain ⟨ω, env, n, d, n', R, t, h1, k⟩ := tMethX_of (fr := fr) hl hx σ H Q q
  exact ⟨ω, env, n, d, n', R, t, h1, fun v ω' H' k1 t1 r1 => let ⟨a, dx, fs, h2, h3, h4, h5⟩ := k v ω' H' k1 t1 r1; ⟨a, dx, fs, h2, h3, h4, tNil_of _ _ _ h5⟩⟩
end


section
variable {X : Cx} {W : WX} {o e : Expr} {es : List Expr} {apos pos p : Pos} {fo : FE} {fs : Fe (List D)} {x : Str} {j k ar : Nat} {fr : Bool} {m : Fn}
theorem tMeth_of (hl : ∀ ds n, ds.length ≠ ar → m ds n = none) (hx : mthN x = true) : ∀ σ H Q, tM X.K (clsA X.mg) (eMeth m fo fs) σ H Q → tMeth (clsA X.mg) x (spX X.K X.mg ar fr m) [] E0 (tM X.K (clsA X.mg) fo) (tMA X.K (clsA X.mg) fs) σ H Q := by
  intro σ H Q q
  obtain ⟨ω, env, n, r, n', R, t, ee, k⟩ := q
  unfold eMeth at ee
  split at ee
  · rename_i d n1 h1
    split at ee
    · rename_i hp
      split at ee
      · rename_i ds n2 h2
        split at ee
        · rename_i d' n3 h5
          cases ee
          refine tM_run R t h1 fun v ω1 H1 k1 R1 t1 r1 => ?_
          obtain ⟨a, dx, fs', rfl, h3, h4⟩ := isPl_ins r1 t1 hp
          have hC : ω1.C = clsA X.mg := R1.cl
          rw [hC] at h3
          refine ⟨a, dx, fs', rfl, h3, h4 x hx, tMA_run R1 t1 h2 fun vs ω2 H2 k2 R2 t2 r2 => ?_⟩
          refine ⟨ω2, d :: ds, n2, _, _, R2.cl, by rw [List.append_nil]; exact .cons (r1.ext k2) r2, m_len hl h5, t2, h5, fun v' ω' H' k3 t3 r3 _ => k v' ω' H' ((k1.trans k2).trans k3) t3 r3⟩
        · cases ee
      · cases ee
    · cases ee
  · cases ee
theorem tMethL_of (hl : ∀ ds n, ds.length ≠ ar → m ds n = none) (hx : mthN x = true) : ∀ σ H Q, tMF X.K (clsA X.mg) (eMethL m fo fs) σ H Q → tMeth (clsA X.mg) x (spX X.K X.mg ar true m) [] E0 (tM X.K (clsA X.mg) fo) (tMA X.K (clsA X.mg) fs) σ H Q := by
  intro σ H Q q
  obtain ⟨ω, env, n, r, n', R, t, ee, k⟩ := q
  unfold eMethL at ee
  split at ee
  · rename_i d n1 h1
    split at ee
    · rename_i hp
      split at ee
      · rename_i ds n2 h2
        split at ee
        · rename_i d' n3 h5
          cases ee
          refine tM_run R t h1 fun v ω1 H1 k1 R1 t1 r1 => ?_
          obtain ⟨a, dx, fs', rfl, h3, h4⟩ := isPl_ins r1 t1 hp
          have hC : ω1.C = clsA X.mg := R1.cl
          rw [hC] at h3
          refine ⟨a, dx, fs', rfl, h3, h4 x hx, tMA_run R1 t1 h2 fun vs ω2 H2 k2 R2 t2 r2 => ?_⟩
          refine ⟨ω2, d :: ds, n2, _, _, R2.cl, by rw [List.append_nil]; exact .cons (r1.ext k2) r2, m_len hl h5, t2, h5, fun v' ω' H' k3 t3 r3 hf => ?_⟩
          obtain ⟨q, xs, ds', rfl, e', hp, hp', np, l, rl⟩ := hf rfl
          cases e'
          exact k q xs ω' H' ((k1.trans k2).trans k3) t3 ((k1.trans k2).noneB hp) np hp' l rl
        · cases ee
      · cases ee
    · cases ee
  · cases ee
theorem kmeth (hh : HasM X.prog X.w X.K X.mg X.base x k ar fr m) (hl : ∀ ds n, ds.length ≠ ar → m ds n = none) (hr : Room j X.A) (ho : ME X o fo) (ha : MA X (e :: es) fs) (hk : Nat.ble k j = true := by kernel_rfl) (hx : mthN x = true := by kernel_rfl)
    (he : starEach (e :: es) X.env = (false, eval e X.env) :: starEach es X.env := by kernel_rfl) (hpl : (backTo pos (starEach es X.env)).any (·.1) = false := by kernel_rfl)
    (ht : eval (.Call (.Attribute o x apos) (e :: es) [] pos) X.env = (do
      let ov ← eval o X.env
      standAt apos.atName
      let (f, first) ← holding [ov] (getMethod ov x (do return (← importBound o X.env).getD true))
      callWith pos f first (backTo pos (starEach (e :: es) X.env)) (backToKw pos (keywordEach [] X.env))) := by kernel_rfl) :
    ME X (.Call (.Attribute o x apos) (e :: es) [] pos) (eMeth m fo fs) := by
  obtain ⟨f, fd, ps, F, hm, hb⟩ := hh.ex
  exact pe_imp (pe_meth ho hh.cls hm F (hr.mono (Nat.le_of_ble_eq_true hk)) hb .nil passL ha he hpl ht) (tMeth_of hl hx)
theorem kmeth0 (hh : HasM X.prog X.w X.K X.mg X.base x k ar fr m) (hl : ∀ ds n, ds.length ≠ ar → m ds n = none) (hr : Room j X.A) (ho : ME X o fo) (hk : Nat.ble k j = true := by kernel_rfl) (hx : mthN x = true := by kernel_rfl)
    (ht : eval (.Call (.Attribute o x apos) [] [] pos) X.env = (do
      let ov ← eval o X.env
      standAt apos.atName
      let (f, first) ← holding [ov] (getMethod ov x (do return (← importBound o X.env).getD true))
      callWith pos f first (backTo pos (starEach [] X.env)) (backToKw pos (keywordEach [] X.env))) := by kernel_rfl) :
    ME X (.Call (.Attribute o x apos) [] [] pos) (eMeth m fo aNil) := by
  obtain ⟨f, fd, ps, F, hm, hb⟩ := hh.ex
  refine pe_imp (pe_meth0 ho hh.cls hm F (hr.mono (Nat.le_of_ble_eq_true hk)) hb .nil passL ht) fun σ H Q q => ?_
  obtain ⟨ω, env, n, d, n', R, t, h1, k⟩ := tMeth_of (fr := fr) hl hx σ H Q q
  exact ⟨ω, env, n, d, n', R, t, h1, fun v ω' H' k1 t1 r1 => let ⟨a, dx, fs, h2, h3, h4, h5⟩ := k v ω' H' k1 t1 r1; ⟨a, dx, fs, h2, h3, h4, tNil_of _ _ _ h5⟩⟩
theorem kmethL0 (hh : HasM X.prog X.w X.K X.mg X.base x k ar true m) (hl : ∀ ds n, ds.length ≠ ar → m ds n = none) (hr : Room j X.A) (ho : ME X o fo) (hk : Nat.ble k j = true := by kernel_rfl) (hx : mthN x = true := by kernel_rfl)
    (ht : eval (.Call (.Attribute o x apos) [] [] pos) X.env = (do
      let ov ← eval o X.env
      standAt apos.atName
      let (f, first) ← holding [ov] (getMethod ov x (do return (← importBound o X.env).getD true))
      callWith pos f first (backTo pos (starEach [] X.env)) (backToKw pos (keywordEach [] X.env))) := by kernel_rfl) :
    MF X (.Call (.Attribute o x apos) [] [] pos) (eMethL m fo aNil) := by
  obtain ⟨f, fd, ps, F, hm, hb⟩ := hh.ex
  refine pe_imp (pe_meth0 ho hh.cls hm F (hr.mono (Nat.le_of_ble_eq_true hk)) hb .nil passL ht) fun σ H Q q => ?_
  obtain ⟨ω, env, n, d, n', R, t, h1, k⟩ := tMethL_of hl hx σ H Q q
  exact ⟨ω, env, n, d, n', R, t, h1, fun v ω' H' k1 t1 r1 => let ⟨a, dx, fs, h2, h3, h4, h5⟩ := k v ω' H' k1 t1 r1; ⟨a, dx, fs, h2, h3, h4, tNil_of _ _ _ h5⟩⟩

/-! len(p) by an own __len__ -/
structure HasLen (P : Program) (w : World) (K : PySem.W.Frag) (mg : Str → Option Value) (base : Heap) (k : Nat) (m : Fn) : Prop where
  ex : ∃ (f : Addr) (fd : FuncData) (ps : List Str), FnOk P w K mg base (L2.CX P w) k f fd ps (spX K mg 1 false m) ∧ Meth K (clsA mg) "__len__" f ∧ Binds K fd ps []
def rLenP (C : Addr) (sp : Sp) : List V → Hp → VK → Prop := fun xs H Q => ∃ (a dx : Addr) (fs : List (Str × V)), xs = [.ref a] ∧ H a = some (.ins C dx fs) ∧ sp [.ref a] H (fun v H' => ∃ i : Int, v = .int i ∧ 0 ≤ i ∧ i < 2 ^ 63 ∧ Q (.int i) H') E0
end


section
open PySem.W PySem.Calls
variable {prog : Program} {w : World} {A : Around} {E : Value → Shared → Prop} {s : Shared} {K : PySem.W.Frag} {x C f : Addr} {ox : Obj} {od : Option Obj}
theorem len_own {Q : Value → Shared → Prop} (Y : K.In s.heap) (I : InstAt s.heap x ox C od) (hs : findIn K (.ref C) "__len__" = some (some (.ref f))) (hf : isFn K (.ref f) = true)
    (h : wpAny (model prog w) A.in1 (call (.ref f) [.ref x]) (PySem.W.LenBack Q) E s) : wpAny (model prog w) A (call (.builtin "len") [.ref x]) Q E s := by
  refine Calls.call_function_entry kind_len plain_len entry_len (args_len1 _) ?_
  unfold Builtin.«len»
  refine wpAny_bind (m := oneArg "len" _) (wpAny_pure ?_)
  refine wpAny_bind (m := callSpecial? (.ref x) (Str.ofString "__len__")) (special_fn Y I hs (beq_iff_eq.mp hf) (wpAny_mono h (fun r s' hr => ?_) fun _ _ y => y))
  cases r <;> first | exact hr.elim | skip
  rename_i n u
  obtain ⟨⟨h0, h1⟩, hq⟩ := hr
  refine wpAny_bind (wpAny_holding (wpAny_pure ?_))
  refine wpAny_bind (wpAny_letGo ?_)
  show wpAny _ _ (if n < 0 then _ else _) _ _ _
  rw [if_neg (by omega)]
  show wpAny _ _ (if n ≥ 2 ^ 63 then _ else _) _ _ _
  rw [if_neg (by omega)]
  exact wpAny_bind (wpAny_mkInt (wpAny_pure ⟨_, rfl, hq⟩))
end
section
variable {X : Cx} {k : Nat} {f C : Addr} {fd : FuncData} {ps : List Str} {sp : Sp}
/-- a def called one deeper -/
theorem run_fn1 {CX : CXT} {E : XK} {pins : List (Addr × Obj)} {σ : L2.St} {H : Hp} {s : Shared} {Q : VK} {us : List Value} {vs : List V} (F : FnOk X.prog X.w X.K X.mg X.base CX k f fd ps sp) (hr : Room (k + 1) X.A) (hb : Binds X.K fd ps []) (hx : Passes CX X E)
    (I : Inv X pins σ H s) (r : Vals vs us) (h : sp vs H Q E) : wpAny (model X.prog X.w) X.A.in1 (call (.ref f) us) (EP X pins σ Q) X.xe s := by
  have hl : us.length = ps.length := by rw [← r.length]; exact F.len _ _ _ _ h
  have b := hb s us I.kIn (by rw [List.append_nil]; exact hl)
  rw [List.append_nil] at b
  refine wpAny_call (codeAny_mono (F.run X.A.in1 X.stack s H ⟨us, []⟩ us vs Q E hr.in1 I.env0.in1 b r h) fun r s' hq => ?_)
  cases r with
  | error e => exact hx pins σ H s e s' I hq
  | ok fl =>
    cases fl with
    | ret u => exact I.after hq
    | next => exact False.elim hq
    | brk => exact False.elim hq
    | cont => exact False.elim hq
theorem call_lenP (F : FnOk X.prog X.w X.K X.mg X.base (L2.CX X.prog X.w) k f fd ps sp) (hm : Meth X.K C "__len__" f) (hr : Room (k + 1) X.A) (hb : Binds X.K fd ps []) : CallR X (.builtin "len") (rLenP C sp) := by
  intro pins s σ H xs us Q I r h
  obtain ⟨a, dx, fs, rfl, ha, q⟩ := h
  obtain ⟨u, rfl, ru⟩ : ∃ u, us = [u] ∧ RelV (.ref a) u := by
    cases r with
    | cons r1 rr => cases rr; exact ⟨_, rfl, r1⟩
  obtain rfl : u = Value.ref a := ru
  obtain ⟨mA, O, _⟩ := ins_get I.hok ha
  obtain ⟨od, J, _⟩ := O.look
  refine len_own I.kIn J hm.at_ hm.fn (wpAny_mono (run_fn1 (us := [.ref a]) (vs := [.ref a]) F hr hb passL I (.cons rfl .nil) q) (fun v s' z => ?_) fun _ _ y => y)
  obtain ⟨y, H', I', ry, i, rfl, h0, h1, hq⟩ := z
  obtain ⟨t, rfl⟩ := (show ∃ t, v = Value.int i t from ry)
  exact ⟨⟨h0, h1⟩, .int i, H', I'.tok _, ⟨_, rfl⟩, hq⟩
end
section
variable {X : Cx} {e : Expr} {pos p : Pos} {fo : FE} {j k : Nat} {m : Fn}
def eLenP (m : Fn) (fo : FE) : FE := fun env n => match fo env n with
  | some (d, n1) => if isPl n1 d then (match m [d] n1 with
    | some (.ok (.int i), n2) => if 0 ≤ i ∧ i < 2 ^ 63 then some (.int i, n2) else none
    | _ => none) else none
  | none => none
theorem klenP (hh : HasLen X.prog X.w X.K X.mg X.base k m) (hl : ∀ ds n, ds.length ≠ 1 → m ds n = none) (hr : Room j X.A) (hm : X.mg "len" = none) (he : ME X e fo) (hk : Nat.ble (k + 1) j = true := by kernel_rfl) (hg : X.env.kindOf "len" = some .globalImplicit := by kernel_rfl)
    (hs : starEach [e] X.env = (false, eval e X.env) :: starEach [] X.env := by kernel_rfl) (hpl : (backTo pos (starEach [] X.env)).any (·.1) = false := by kernel_rfl) :
    ME X (.Call (.Name "len" p) [e] [] pos) (eLenP m fo) := by
  obtain ⟨f, fd, ps, F, hM, hb⟩ := hh.ex
  refine pe_imp (pe_callB (call_lenP F hM (hr.mono (Nat.le_of_ble_eq_true hk)) hb) hg hm (by decide +kernel) (pa_cons he pa_nil hs) (by decide) (by decide) hs hpl) fun σ H Q q => ?_
  obtain ⟨ω, env, n, d, n', R, t, ee, k⟩ := q
  unfold eLenP at ee
  split at ee
  · rename_i d0 n1 h1
    split at ee
    · rename_i hp
      split at ee
      · rename_i i n2 h2
        split at ee
        · rename_i hi
          cases ee
          refine tM_run R t h1 fun v ω1 H1 k1 R1 t1 r1 => ?_
          obtain ⟨a, dx, fs', rfl, h3, h4⟩ := isPl_ins r1 t1 hp
          have hC : ω1.C = clsA X.mg := R1.cl
          rw [hC] at h3
          refine ⟨a, dx, fs', rfl, h3, ω1, [d0], n1, _, _, R1.cl, .cons r1 .nil, m_len hl h2, t1, h2, fun v' ω' H' k3 t3 r3 _ => ?_⟩
          cases r3
          exact ⟨i, rfl, hi.1, hi.2, k _ ω' H' (k1.trans k3) t3 (.int i)⟩
        · cases ee
      · cases ee
    · cases ee
  · cases ee
end


/-! ### a new planner -/
/-- the promise of __init__ (m: the mirror of check_matrix) -/
def spI (K : PySem.W.Frag) (mg : Str → Option Value) (m : Fn) : Sp := fun vs H Q E => ∃ (ω : Wd) (d : D) (n : Sn) (r : Rs) (n' : Sn) (x dx : Addr) (v : V),
  vs = [.ref x, v] ∧ ω.C = clsA mg ∧ H x = some (.ins (clsA mg) dx []) ∧ ¬ ω.T x ∧ Rp K ω H v d ∧ Town ω n H ∧ m [d] n = some (r, n') ∧ match r with
    | .ok _ => ∀ (ω1 : Wd) (H1 H4 : Hp) (b : Addr) (fs : List (Str × V)), Ext ω H ω1 H1 → Town ω1 n' H1 → H1 b = none → H4 x = some (.ins (clsA mg) dx fs) → PlnF fs v b (.int 0) → H4 b = some (.lst []) → (∀ a, a ≠ x → a ≠ b → H4 a = H1 a) → Q .non H4
    | .ex c => ∀ C ω' H', mg c = some (.ref C) → Ext ω H ω' H' → Town ω' n' H' → E (.ref C) none H'
def tInit (K : PySem.W.Frag) (mg : Str → Option Value) (E : XK) (fr : Bool) (m : Fn) : TS :=
  tSeq (tDrop (tCallS (spX K mg 1 fr m) (WE fun cls d _ H => E cls d H) (tCons (tVar 1) tNil)))
    (tSeq (sFld K (tVar 0) (tVar 1) "matrix") (tSeq (sFld K (tVar 0) (tLst tNil) "worked") (sFld K (tVar 0) (tC (.int 0)) "kept")))
theorem putF_len (f : Str) (v : V) : ∀ fs : List (Str × V), (putF f v fs).length ≤ fs.length + 1
  | [] => Nat.le_refl _
  | (g, y) :: r => by
    unfold putF
    split
    · exact Nat.le_succ _
    · exact Nat.succ_le_succ (putF_len f v r)
theorem putF_few1 {f : Str} {v : V} : (putF f v []).length < 1000 := Nat.lt_of_le_of_lt (putF_len f v []) (by decide)
theorem putF_few2 {f g : Str} {v u : V} : (putF f v (putF g u [])).length < 1000 := Nat.lt_of_le_of_lt (Nat.le_trans (putF_len f v _) (Nat.succ_le_succ (putF_len g u []))) (by decide)
theorem plnF_new {v : V} {b : Addr} : PlnF (putF "kept" (.int 0) (putF "worked" (.ref b) (putF "matrix" v []))) v b (.int 0) := by
  refine ⟨Nat.le_trans (putF_len _ _ _) (Nat.le_trans (Nat.succ_le_succ (Nat.le_of_lt_succ (Nat.lt_of_lt_of_le (Nat.lt_succ_of_le (Nat.le_trans (putF_len _ _ _) (Nat.succ_le_succ (putF_len _ _ [])))) (Nat.le_refl _)))) (by decide)), ?_, ?_, ?_, fun f h1 h2 h3 => ?_⟩
  · rw [lookup_putF, lookup_putF, lookup_putF, if_neg (by decide), if_neg (by decide), if_pos rfl]
  · rw [lookup_putF, lookup_putF, if_neg (by decide), if_pos rfl]
  · rw [lookup_putF, if_pos rfl]
  · rw [lookup_putF, lookup_putF, lookup_putF, if_neg h3, if_neg h2, if_neg h1]
    rfl
section
variable {P : Program} {w : World} {K : PySem.W.Frag} {mg : Str → Option Value} {base : Heap} {x qual : Str} {params : Arguments} {body : List Stmt} {scope : Scope} {f : Addr} {fd : FuncData} {k : Nat} {fr : Bool} {m : Fn}
theorem init_read {vs : List V} {H : Hp} {Q : VK} {E : XK} (pc : PlC K mg) (h : spI K mg m vs H Q E) : tInit K mg E fr m { nx := fun _ H' => Q .non H', rt := Q } (L2.start ["self", "matrix"] vs) H := by
  obtain ⟨ω, d, n, r, n', x, dx, v, rfl, hC, hx, hT, rv, t, hm, q⟩ := h
  refine ⟨v, rfl, ω, [d], n, r, n', hC, .cons rv .nil, rfl, t, hm, ?_⟩
  cases r with
  | ex c => exact fun C ω' H' a b c => q C ω' H' a b c
  | ok d' =>
    intro _ ω1 H1 k1 t1 _ _
    have hx1 : H1 x = some (.ins (clsA mg) dx []) := k1.keep x _ (fun z => hT (Wd.hasT z)) hx
    refine ⟨v, rfl, .ref x, rfl, x, _, dx, [], rfl, hx1, pc.cls, pc.n1, by decide, ?_⟩
    refine ⟨Nat.zero_le _, fun b hb => ?_⟩
    have hbx : b ≠ x := fun e => by rw [e, upd_same] at hb; cases hb
    rw [upd_ne hbx] at hb
    refine ⟨.ref x, rfl, x, _, dx, _, rfl, by rw [upd_ne (fun e => hbx e.symm), upd_same], pc.cls, pc.n2, putF_few1, ?_⟩
    refine ⟨.ref x, rfl, x, _, dx, _, rfl, upd_same, pc.cls, pc.n3, putF_few2, ?_⟩
    refine q ω1 H1 _ b _ k1 t1 hb upd_same plnF_new ?_ fun a h1 h2 => ?_
    · rw [upd_ne hbx, upd_ne hbx, upd_same]
    · rw [upd_ne h1, upd_ne h1, upd_ne h2, upd_ne h1]
theorem kfnI (F : FunD K x qual params body scope [] [] f fd) (S : FnScope ["self", "matrix"] ["self", "matrix"] scope) (pc : PlC K mg)
    (hbody : ∀ (cdv : Value) (A : Around) (outer : List Env) (s : Shared) (H : Hp) (E : XK), Room k (A.deeper (envOfC qual scope s.heap.objs.size f cdv)) →
      Takes (cxOf (L2.CX P w) P w K mg base ["self", "matrix"] qual scope f cdv A outer s H E) (fun cls d _ H => E cls d H) →
      PSs (cxOf (L2.CX P w) P w K mg base ["self", "matrix"] qual scope f cdv A outer s H E) body (tInit K mg E fr m)) : FnOk P w K mg base (L2.CX P w) (k + 1) f fd ["self", "matrix"] (spI K mg m) :=
  F.ok S (fun vs H Q E h => by obtain ⟨_, _, _, _, _, _, _, _, rfl, _⟩ := h; rfl) fun cdv A outer s H vs Q E hr h => ⟨_, hbody cdv A outer s H E hr (takes_of rfl rfl rfl rfl), init_read pc h⟩
end
section
variable {X : Cx} {W : WX} {o e : Expr} {f : Str} {pos pos' p : Pos} {x : Str} {j k ar : Nat} {fr : Bool} {m : Fn} {ta tv : TE} {t : TA}
theorem kpfld (ha : PE X o ta) (hv : PE X e tv) (hs : swapsWith e (some (.Attribute o f pos')) pos.line X.env = pure false := by kernel_rfl) : PS X (.Assign [.Attribute o f pos'] e pos) (sFld X.K ta tv f) := ps_fld ha hv hs
theorem kpcallX {es : List Expr} {pos1 : Pos} (hh : Has X.prog X.w X.K X.mg X.base x k ar fr m) (hr : Room j X.A) (tk : Takes X W) (ha : PA X (e :: es) t) (hk : Nat.ble k j = true := by kernel_rfl) (hg : X.env.kindOf x = some .globalImplicit := by kernel_rfl)
    (hdb : (x == ("__debug__" : Str)) = false := by kernel_rfl) (he : starEach (e :: es) X.env = (false, eval e X.env) :: starEach es X.env := by kernel_rfl) (hpl : (backTo pos (starEach es X.env)).any (·.1) = false := by kernel_rfl) (hsw : swapsWith (.Call (.Name x p) (e :: es) [] pos) none pos1.line X.env = pure false := by kernel_rfl) :
    PS X (.Expr (.Call (.Name x p) (e :: es) [] pos) pos1) (tDrop (tCallS (spX X.K X.mg ar fr m) (WE W) t)) := by
  obtain ⟨f, fd, ps, F, hm, hkp, hb⟩ := hh.ex
  exact ps_expr (pe_callS F (hr.mono (Nat.le_of_ble_eq_true hk)) hg hm hkp hb (fun σ => passAt tk σ) ha hdb he hpl) hsw
end
structure HasI (P : Program) (w : World) (K : PySem.W.Frag) (mg : Str → Option Value) (base : Heap) (k : Nat) (m : Fn) : Prop where
  ex : ∃ (f : Addr) (fd : FuncData) (ps : List Str), FnOk P w K mg base (L2.CX P w) k f fd ps (spI K mg m) ∧ Mk K (clsA mg) f ∧ Binds K fd ps []
  gl : mg "Planner" = some (.ref (clsA mg))
section
variable {ω ω1 : Wd} {H H1 H4 : Hp} {n : Sn}
theorem Ext.alter (e : Ext ω H ω1 H1) (h : ∀ a, H a ≠ none → H4 a = H1 a) : Ext ω H ω1 H4 :=
  ⟨e.town, e.C, e.root, e.old, e.ow, fun a x na ha => by rw [h a (sm_ne ha)]; exact e.keep a x na ha, fun a xs ha => by rw [h a (sm_ne ha)]; exact e.tup a xs ha, fun a ha => by rw [h a ha]; exact e.al a ha⟩
theorem Town.alter (t : Town ω n H) (h : ∀ a, ω.T a → H4 a = H a) (ht : ∀ a xs, H a = some (.tup xs) → H4 a = some (.tup xs)) : Town ω n H4 :=
  ⟨⟨fun a z => by rw [h a z]; exact t.ok.tin a z⟩, fun a z => ⟨(t.town a z).1, by rw [h a (ω.hT1 a z)]; exact (t.town a z).2⟩, t.len, fun k c z => let ⟨a, h1, h2⟩ := t.cell k c z; ⟨a, h1, h2.mono rfl (fun _ q => q) (fun b x hb hx => by rw [h b (ω.hT2 b k hb)]; exact hx) ht⟩, t.owk⟩
end
def eMake (m : Fn) (fs : Fe (List D)) : FE := fun env n => match fs env n with
  | some ([d], n1) => (match m [d] n1 with
    | some (.ok _, n2) => if pf d then some (cref n2.c.length, n2.push (.pln d [] (.int 0))) else none
    | _ => none)
  | _ => none
section
variable {X : Cx} {e : Expr} {pos p : Pos} {fs : Fe (List D)} {j k : Nat} {m : Fn}
theorem kmake (hh : HasI X.prog X.w X.K X.mg X.base k m) (hr : Room j X.A) (ha : MA X [e] fs) (hk : Nat.ble (k + 1) j = true := by kernel_rfl) (hg : X.env.kindOf "Planner" = some .globalImplicit := by kernel_rfl)
    (he : starEach [e] X.env = (false, eval e X.env) :: starEach [] X.env := by kernel_rfl) (hpl : (backTo pos (starEach [] X.env)).any (·.1) = false := by kernel_rfl) :
    ME X (.Call (.Name "Planner" p) [e] [] pos) (eMake m fs) := by
  obtain ⟨f, fd, ps, F, hM, hb⟩ := hh.ex
  refine pe_imp (pe_make (E := E0) hM F (hr.mono (Nat.le_of_ble_eq_true hk)) hg hh.gl hb .nil passL ha (by decide) he hpl) fun σ H Q q => ?_
  obtain ⟨ω, env, n, d, n', R, t, ee, k⟩ := q
  unfold eMake at ee
  split at ee
  · rename_i d0 n1 h1
    split at ee
    · rename_i d2 n2 h2
      split at ee
      · rename_i hp
        cases ee
        refine tMA_run R t h1 fun vs ω1 H1 k1 R1 t1 r1 => ?_
        intro x dx hx hdx hne
        obtain ⟨v, rfl, rv⟩ : ∃ v, vs = [v] ∧ Rp X.K ω1 H1 v d0 := by
          cases r1 with
          | cons a b => cases b; exact ⟨_, rfl, a⟩
        have sm : Same H1 (upd (upd H1 dx (.own x)) x (.ins (clsA X.mg) dx [])) := fun b o hb => by
          rw [upd_ne (ne_of_none hb hx), upd_ne (ne_of_none hb hdx)]
          exact hb
        have hTx : ¬ ω1.T x := t1.ok.notIn hx
        have hTd : ¬ ω1.T dx := t1.ok.notIn hdx
        have hdx2 : (upd (upd H1 dx (.own x)) x (.ins (clsA X.mg) dx [])) dx = some (.own x) := by rw [upd_ne hne, upd_same]
        refine ⟨ω1, d0, n1, _, n2, x, dx, v, rfl, R1.cl, upd_same, hTx, rv.same sm, t1.of_same sm, h2, ?_⟩
        intro ω2 H2 H4 b fs k2 t2 hb h4x hF h4b hel
        refine ⟨rfl, ?_⟩
        have hx2 : H2 x ≠ none := k2.al x (by rw [upd_same]; exact fun z => nomatch z)
        have hd2 : H2 dx = some (.own x) := k2.keep dx _ (fun z => hTd (Wd.hasT z)) hdx2
        have hbx : b ≠ x := fun z => by rw [z] at hb; exact hx2 hb
        have hbd : b ≠ dx := fun z => by rw [z, hd2] at hb; cases hb
        have h4d : H4 dx = some (.own x) := by rw [hel dx hne (fun z => hbd z.symm)]; exact hd2
        have hT2x : ¬ ω2.T x := fun z => hTx ((k2.old x (by rw [upd_same]; exact fun z => nomatch z)).mp z)
        have hT2d : ¬ ω2.T dx := fun z => hTd ((k2.old dx (by rw [hdx2]; exact fun z => nomatch z)).mp z)
        have hT2b : ¬ ω2.T b := t2.ok.notIn hb
        have hx2' : H2 x = some (.ins (clsA X.mg) dx []) := k2.keep x _ (fun z => hTx (Wd.hasT z)) upd_same
        have tp : ∀ a xs, H2 a = some (.tup xs) → H4 a = some (.tup xs) := fun a xs ha => by
          rw [hel a (fun z => by rw [z, hx2'] at ha; cases ha) (ne_of_none ha hb)]
          exact ha
        have t4 : Town ω2 n2 H4 := t2.alter (fun a z => hel a (fun q => hT2x (by rw [← q]; exact z)) fun q => hT2b (by rw [← q]; exact z)) tp
        have k12 : Ext ω1 H1 ω2 H4 := ((Ext.of_same sm).trans k2).alter fun a ha => hel a (fun z => by rw [z] at ha; exact ha hx) fun z => by
          rw [z] at ha
          exact ((Ext.of_same sm).trans k2).al b ha hb
        have k3 : Ext ω H ω2 H4 := k1.trans k12
        have rt : Rt H4 v d0 := ((rv.same sm).ext k2 |>.rt hp).mono tp
        have hC2 : ω2.C = clsA X.mg := (k2.C.trans R1.cl)
        refine k _ ((ω2.root1 x).join n2.c.length fun a => a = x ∨ a = dx ∨ a = b) H4 ?_ (t4.push (S := fun a => a = x ∨ a = dx ∨ a = b) (p := x) ?_ ?_ ?_) (.cell (root_push (t := t4)))
        · exact (k3.root1 (p := x)).joinNew (S := fun a => a = x ∨ a = dx ∨ a = b) fun a z => by
            rcases z with z | z | z
            · rw [z]; exact k1.noneB hx
            · rw [z]; exact k1.noneB hdx
            · rw [z]
              exact ((k1.trans (Ext.of_same sm)).trans k2).noneB hb
        · intro a z
          rcases z with z | z | z
          · rw [z]; exact ⟨_, h4x, trivial⟩
          · rw [z]; exact ⟨_, h4d, trivial⟩
          · rw [z]; exact ⟨_, h4b, trivial⟩
        · intro a z
          rcases z with z | z | z
          · rw [z]; exact hT2x
          · rw [z]; exact hT2d
          · rw [z]; exact hT2b
        · refine ⟨join_in (.inl rfl), dx, b, fs, v, .int 0, [], join_in (.inr (.inl rfl)), join_in (.inr (.inr rfl)), ?_, h4d, h4b, hF, rt, .int 0, Nat.zero_le _, .nil⟩
          show H4 x = some (.ins ω2.C dx fs)
          rw [hC2]
          exact h4x
      · cases ee
    · cases ee
  · cases ee
end


section
variable {K : PySem.W.Frag} {ω : Wd} {H : Hp} {n : Sn} {k : Nat}
/-- a planner's list is told anew, where it stands -/
theorem Town.putW {a : Addr} {m kp : D} {ws : List D} (t : Town ω n H) (hr : ω.root[k]? = some a) (hc : n.c[k]? = some (.pln m ws kp)) : ∃ (dx b : Addr) (fs : List (Str × V)) (vm vk : V) (xs : List V), H a = some (.ins ω.C dx fs) ∧ H b = some (.lst xs) ∧ PlnF fs vm b vk ∧ ws.length ≤ sizeLine ∧ RtL H xs ws ∧
    ∀ (H1 : Hp) (ws' : List D) (xs' : List V), Same H H1 → ws'.length ≤ sizeLine → RtL H1 xs' ws' → Town ω (n.put k (.pln m ws' kp)) (upd H1 b (.lst xs')) ∧ Ext ω H ω (upd H1 b (.lst xs')) := by
  obtain ⟨h1, dx, b, fs, vm, vk, xs, h2, h3, h4, h5, h6, h7, h12, h13, h14, h15⟩ := t.at hr hc
  refine ⟨dx, b, fs, vm, vk, xs, h4, h6, h7, h14, h15, fun H1 ws' xs' sm l r => ?_⟩
  have hab : a ≠ b := ne_of h4 h6 (fun z => nomatch z)
  have hdb : dx ≠ b := ne_of h5 h6 (fun z => nomatch z)
  have tp : ∀ c ys, H1 c = some (.tup ys) → upd H1 b (.lst xs') c = some (.tup ys) := fun c ys hc => by
    rw [upd_ne (fun z => by rw [z, sm b _ h6] at hc; cases hc)]; exact hc
  have t1 := t.of_same sm
  have g := t1.put (H' := upd H1 b (.lst xs')) (k := k) (a := a) (c := .pln m ws' kp) (fun c x hc hx => by
    rw [upd_ne (fun z => hc (by rw [z]; exact h3))]; exact hx) (fun c hc => by
    by_cases e : c = b
    · rw [e]; exact ⟨_, upd_same, trivial⟩
    · rw [upd_ne e]; exact t1.ok.tin c (ω.hT2 c k hc)) hr ⟨h1, dx, b, fs, vm, vk, xs', h2, h3, by rw [upd_ne hab]; exact sm a _ h4, by rw [upd_ne hdb]; exact sm dx _ h5, upd_same, h7, (h12.mono fun c ys z => sm c _ z).mono tp, (h13.mono fun c ys z => sm c _ z).mono tp, l, r.mono tp⟩
  exact ⟨g.1, (Ext.of_same sm).trans g.2⟩
end
section
variable {X : Cx} {W : WX} {st : Stmt}
/-- self.worked.append((x, y)) -/
def sAppW (i a b : Nat) : FS := fun S n => match cellS S[i]? with
  | some k => (match S[a]? with
    | some (some (.val da)) => (match S[b]? with
      | some (some (.val db)) => (match n.c[k]? with
        | some (.pln m ws kp) => if pf da && pf db && decide (ws.length < lim) then some (.nx S, n.put k (.pln m (ws ++ [.tuple [da, db]]) kp)) else none
        | _ => none)
      | _ => none)
    | _ => none)
  | none => none
theorem ms_appW {i a b : Nat} (pc : PlC X.K X.mg) (h : PS X st (tDrop (tBM X.K "list" rAppend (tFld X.K (tVar i) "worked") (tCons (tTup (tCons (tVar a) (tCons (tVar b) tNil))) tNil)))) : MS X W st (sAppW i a b) := by
  refine ps_imp h fun Dn σ H q => ?_
  obtain ⟨ω0, H0, ω, S, n, fl, n', ⟨o, R⟩, e, aft⟩ := q
  unfold sAppW at e
  split at e
  · rename_i k hS
    split at e
    · rename_i da ha
      split at e
      · rename_i db hb
        split at e
        · rename_i m ws kp hc
          split at e
          · rename_i hp
            cases e
            simp only [Bool.and_eq_true] at hp
            obtain ⟨⟨hpa, hpb⟩, hl⟩ := hp
            have hl := of_decide_eq_true hl
            rw [lim_eq] at hl
            obtain ⟨p, hσ, hr⟩ := R.cellAt hS
            obtain ⟨va, hσa, ra⟩ := R.slot a _ ha
            obtain ⟨vb, hσb, rb⟩ := R.slot b _ hb
            obtain ⟨dx, bb, fs, vm, vk, xs, h4, h6, h7, l, r, put⟩ := R.town.putW hr hc
            have hC : ω.C = clsA X.mg := R.cl
            rw [hC] at h4
            refine ⟨_, hσ, p, _, dx, fs, .ref bb, rfl, h4, pc.cls, pc.n2, h7.wk, .inl ⟨rfl, _, SqL.of h6⟩, va, hσa, vb, hσb, by show 2 ≤ sizeLine; decide, fun q hq => ?_⟩
            have sm := same_upd (o := .tup [va, vb]) hq
            have tpm : ∀ c ys, H c = some (.tup ys) → upd H q (.tup [va, vb]) c = some (.tup ys) := fun c ys z => sm c _ z
            refine ⟨bb, xs, .ref q, rfl, rfl, sm bb _ h6, by rw [r.length]; exact hl, ?_⟩
            have ra' : Rt H va da := Rp.rt (ω := ω.plus o) (K := X.K) ra hpa
            have rb' : Rt H vb db := Rp.rt (ω := ω.plus o) (K := X.K) rb hpb
            obtain ⟨t2, k2⟩ := put _ (ws ++ [.tuple [da, db]]) (xs ++ [.ref q]) sm (by rw [List.length_append]; simp; omega) ((r.mono tpm).append (.cons (.tup upd_same (by show 2 ≤ sizeLine; decide) (.cons (ra'.mono tpm) (.cons (rb'.mono tpm) .nil))) .nil))
            exact aft _ _ _ o (R.extF k2 t2)
          · cases e
        · cases e
      · cases e
    · cases e
  · cases e
theorem kpapp {to te : TE} {e a : Expr} {cpos apos pos : Pos} (ho : PE X e to) (he : PE X a te) (hb : attributeBase e "append" X.env (eval e X.env) = eval e X.env := by kernel_rfl)
    (hfew : ((backTo cpos (starEach [a] X.env)).all (fun x => !x.1) && (backToKw cpos (keywordEach [] X.env)).all (fun x => x.1.isSome) && decide ([a].length + ([] : List Keyword).length + (if ([] : List Keyword).isEmpty then 0 else 1) < 30)) = true := by kernel_rfl)
    (hline : (apos.endLine == cpos.line) = true := by kernel_rfl) (hs : starEach [a] X.env = (false, eval a X.env) :: starEach [] X.env := by kernel_rfl) (hpl : (backTo cpos (starEach [] X.env)).any (·.1) = false := by kernel_rfl) (hsw : swapsWith (.Call (.Attribute e "append" apos) [a] [] cpos) none pos.line X.env = pure false := by kernel_rfl) :
    PS X (.Expr (.Call (.Attribute e "append" apos) [a] [] cpos) pos) (tDrop (tBM X.K "list" rAppend to (tCons te tNil))) :=
  ps_expr (pe_bm PySem.F.plainAttrs_list PySem.F.slot_list_append PySem.F.type_list_append mt_append ho (pa_cons he pa_nil hs) hb hfew hline hs hpl) hsw
theorem kpfldv {t : TE} {e : Expr} {f : Str} {pos : Pos} (he : PE X e t) (hb : attributeBase e f X.env (eval e X.env) = eval e X.env := by kernel_rfl) : PE X (.Attribute e f pos) (tFld X.K t f) := pe_fld he hb
end


/-! ### planners: attributes stored; defs that hand back a new planner -/
theorem putF_same (f : Str) (v u : V) : ∀ fs : List (Str × V), fs.lookup f = some u → (putF f v fs).length = fs.length
  | [], h => nomatch h
  | (g, y) :: r, h => by
    unfold putF
    split
    · rfl
    · rename_i hg
      rw [List.length_cons, List.length_cons]
      refine congrArg (· + 1) (putF_same f v u r ?_)
      have : (f == g) = false := by
        rw [beq_eq_false_iff_ne]
        exact fun z => hg z.symm
      rw [List.lookup_cons, this] at h
      exact h
section
variable {K : PySem.W.Frag} {ω : Wd} {H : Hp} {n : Sn} {k : Nat}
/-- a planner's attributes are told anew -/
theorem Town.putP {a dx b b' : Addr} {m kp kp' : D} {ws ws' : List D} {fs fs' : List (Str × V)} {vm vk' : V} {xs' : List V} (t : Town ω n H) (hr : ω.root[k]? = some a) (ha : ω.ow a = some k) (hd : ω.ow dx = some k) (hb : ω.ow b' = some k) (h4 : H a = some (.ins ω.C dx fs)) (h5 : H dx = some (.own a)) (h6 : H b' = some (.lst xs')) (h7 : PlnF fs' vm b' vk')
    (h12 : Rt H vm m) (h13 : Rt H vk' kp') (l : ws'.length ≤ sizeLine) (r : RtL H xs' ws') : Town ω (n.put k (.pln m ws' kp')) (upd H a (.ins ω.C dx fs')) ∧ Ext ω H ω (upd H a (.ins ω.C dx fs')) := by
  have had : dx ≠ a := ne_of h5 h4 (fun z => nomatch z)
  have hab : b' ≠ a := ne_of h6 h4 (fun z => nomatch z)
  have tp : ∀ c ys, H c = some (.tup ys) → upd H a (.ins ω.C dx fs') c = some (.tup ys) := fun c ys hc => by
    rw [upd_ne (fun z => by rw [z, h4] at hc; cases hc)]; exact hc
  exact t.put (H' := upd H a (.ins ω.C dx fs')) (k := k) (a := a) (c := .pln m ws' kp') (fun c x hc hx => by
    rw [upd_ne (fun z => hc (by rw [z]; exact ha))]; exact hx) (fun c hc => by
    by_cases e : c = a
    · rw [e]; exact ⟨_, upd_same, trivial⟩
    · rw [upd_ne e]; exact t.ok.tin c (ω.hT2 c k hc)) hr ⟨ha, dx, b', fs', vm, vk', xs', hd, hb, upd_same, by rw [upd_ne had]; exact h5, by rw [upd_ne hab]; exact h6, h7, h12.mono tp, h13.mono tp, l, r.mono tp⟩
end
theorem PlnF.putW {fs : List (Str × V)} {vm vk : V} {b b' : Addr} (F : PlnF fs vm b vk) : PlnF (putF "worked" (.ref b') fs) vm b' vk := by
  refine ⟨by rw [putF_same _ _ _ fs F.wk]; exact F.few, ?_, ?_, ?_, fun f h1 h2 h3 => ?_⟩
  · rw [lookup_putF, if_neg (by decide)]; exact F.mx
  · rw [lookup_putF, if_pos rfl]
  · rw [lookup_putF, if_neg (by decide)]; exact F.kp
  · rw [lookup_putF, if_neg h2]; exact F.no f h1 h2 h3
theorem PlnF.putK {fs : List (Str × V)} {vm vk vk' : V} {b : Addr} (F : PlnF fs vm b vk) : PlnF (putF "kept" vk' fs) vm b vk' := by
  refine ⟨by rw [putF_same _ _ _ fs F.kp]; exact F.few, ?_, ?_, ?_, fun f h1 h2 h3 => ?_⟩
  · rw [lookup_putF, if_neg (by decide)]; exact F.mx
  · rw [lookup_putF, if_neg (by decide)]; exact F.wk
  · rw [lookup_putF, if_pos rfl]
  · rw [lookup_putF, if_neg h3]; exact F.no f h1 h2 h3
section
variable {X : Cx} {W : WX} {st : Stmt}
def sFldK (i : Nat) (f : FE) : FS := fun S n => match f (frzE S) n with
  | some (d, n1) => (match cellS S[i]? with
    | some k => (match n1.c[k]? with
      | some (.pln m ws kp) => if pf d then some (.nx S, n1.put k (.pln m ws d)) else none
      | _ => none)
    | none => none)
  | none => none
theorem ms_fldK {i : Nat} {f : FE} (pc : PlC X.K X.mg) (h : PS X st (sFld X.K (tVar i) (tM X.K (clsA X.mg) f) "kept")) : MS X W st (sFldK i f) := by
  refine ps_imp h fun Dn σ H q => ?_
  obtain ⟨ω0, H0, ω, S, n, fl, n', ⟨o, R⟩, e, aft⟩ := q
  unfold sFldK at e
  split at e
  · rename_i d n1 h1
    split at e
    · rename_i k hS
      split at e
      · rename_i m ws kp hc
        split at e
        · rename_i hp
          cases e
          refine tM_run R.frz R.town h1 fun v ω1 H1 k1 R1 t1 r1 => ?_
          obtain ⟨p, hσ, hr⟩ := R.cellAt hS
          have hr1 := k1.root' hr
          obtain ⟨ha, dx, b, fs, vm, vk, xs, h2, h3, h4, h5, h6, h7, h12, h13, h14, h15⟩ := t1.at hr1 hc
          obtain ⟨t2, k2⟩ := t1.putP (kp' := d) (vk' := v) (ws' := ws) hr1 ha h2 h3 h4 h5 h6 h7.putK h12 (r1.rt hp) h14 h15 (b := b) (kp := kp) (ws := ws)
          have hC : ω1.C = clsA X.mg := R1.cl
          rw [hC] at h4 t2 k2
          exact ⟨_, hσ, p, _, dx, fs, rfl, h4, pc.cls, pc.n3, Nat.lt_of_le_of_lt h7.few (by decide), aft _ _ _ o (R.extF (k1.trans k2) t2)⟩
        · cases e
      · cases e
    · cases e
  · cases e
def sFldW (i : Nat) (f : Fe (List D)) : FS := fun S n => match f (frzE S) n with
  | some (ds, n1) => (match cellS S[i]? with
    | some k => (match n1.c[k]? with
      | some (.pln m ws kp) => if pfL ds then some (.nx S, n1.put k (.pln m ds kp)) else none
      | _ => none)
    | none => none)
  | none => none
theorem ms_fldW {i : Nat} {f : Fe (List D)} (pc : PlC X.K X.mg) (h : PS X st (sFld X.K (tVar i) (tMF X.K (clsA X.mg) f) "worked")) : MS X W st (sFldW i f) := by
  refine ps_imp h fun Dn σ H q => ?_
  obtain ⟨ω0, H0, ω, S, n, fl, n', ⟨o, R⟩, e, aft⟩ := q
  unfold sFldW at e
  split at e
  · rename_i ds n1 h1
    split at e
    · rename_i k hS
      split at e
      · rename_i m ws kp hc
        split at e
        · rename_i hp
          cases e
          refine ⟨ω, frzE S, n, ds, n1, R.frz, R.town, h1, fun q ys ω1 H1 k1 t1 hq nT hq1 l r => ?_⟩
          obtain ⟨p, hσ, hr⟩ := R.cellAt hS
          have hr1 := k1.root' hr
          have hk : k < n1.c.length := (List.getElem?_eq_some_iff.mp hc).1
          have t2 : Town (ω1.join k fun a => a = q) n1 H1 := t1.join hk (fun a z => by rw [z]; exact ⟨_, hq1, trivial⟩) (fun a z => by rw [z]; exact nT)
          have k2 : Ext ω H (ω1.join k fun a => a = q) H1 := k1.joinNew fun a z => by rw [z]; exact hq
          have hr2 : (ω1.join k fun a => a = q).root[k]? = some p := hr1
          obtain ⟨ha, dx, b, fs, vm, vk, xs, h2, h3, h4, h5, h6, h7, h12, h13, h14, h15⟩ := t2.at hr2 hc
          obtain ⟨t3, k3⟩ := t2.putP (kp' := kp) (vk' := vk) (ws' := ds) hr2 ha h2 (join_in rfl) h4 h5 hq1 h7.putW h12 h13 l (r.rt hp) (b := b) (kp := kp) (ws := ws)
          have hC : (ω1.join k fun a => a = q).C = clsA X.mg := k1.C.trans R.cl
          rw [hC] at h4 t3 k3
          exact ⟨_, hσ, p, _, dx, fs, rfl, h4, pc.cls, pc.n2, Nat.lt_of_le_of_lt h7.few (by decide), aft _ _ _ o (R.extF (k2.trans k3) t3)⟩
        · cases e
      · cases e
    · cases e
  · cases e
end
/-- a def whose new cells stay -/
def mkG (ar nl : Nat) (f : FS) : Fn := fun ds n => if ds.length = ar then (match f (start0 nl ds) n with
    | some (.rt d, n') => some (.ok d, n')
    | _ => none) else none
theorem mkG_len {ar nl : Nat} {f : FS} : ∀ ds n, ds.length ≠ ar → mkG ar nl f ds n = none := fun ds n h => by unfold mkG; rw [if_neg h]
section
variable {P : Program} {w : World} {K : PySem.W.Frag} {mg : Str → Option Value} {base : Heap} {x qual : Str} {params : Arguments} {body : List Stmt} {scope : Scope} {f : Addr} {fd : FuncData} {k ar : Nat} {N ps : List Str} {fb : FS} {m : Fn}
theorem kfnG (F : FunD K x qual params body scope [] [] f fd) (S : FnScope N ps scope)
    (hbody : ∀ (cdv : Value) (A : Around) (outer : List Env) (s : Shared) (H : Hp) (E : XK), Room k (A.deeper (envOfC qual scope s.heap.objs.size f cdv)) →
      Takes (cxOf (L2.CX P w) P w K mg base N qual scope f cdv A outer s H E) (fun cls d _ H => E cls d H) → PassesOwn (model P w) (A.deeper (envOfC qual scope s.heap.objs.size f cdv)) (envOfC qual scope s.heap.objs.size f cdv) (cxOf (L2.CX P w) P w K mg base N qual scope f cdv A outer s H E).xe →
      MSs (cxOf (L2.CX P w) P w K mg base N qual scope f cdv A outer s H E) (fun cls d _ H => E cls d H) body fb) (ha : ps.length = ar := by kernel_rfl) (hN : Nat.ble ar N.length = true := by kernel_rfl) (hm : m = mkG ar (N.length - ar) fb := by kernel_rfl) : FnOk P w K mg base (L2.CX P w) (k + 1) f fd ps (spX K mg ar false m) := by
  subst hm
  refine F.ok S (fun vs H Q E h => ?_) fun cdv A outer s H vs Q E hr h => ⟨_, hbody cdv A outer s H E hr (takes_of rfl rfl rfl rfl) (passes_of rfl), ?_⟩
  · obtain ⟨ω, ds, n, r, n', c, rp, l, _⟩ := h
    rw [rp.length, l, ha]
  · obtain ⟨ω, ds, n, r, n', c, rp, l, t, e, q⟩ := h
    have hvl : vs.length = ar := by rw [rp.length, l]
    unfold mkG at e
    rw [if_pos l] at e
    have R0 : RS K (clsA mg) ω H ω (start0 (N.length - ar) ds) n (start N vs) H (fun _ => none) := by
      have := rs_start (N := N) c rp t (by rw [hvl]; exact Nat.le_of_ble_eq_true hN)
      rw [hvl] at this
      exact this
    split at e
    · rename_i d n1 h1
      cases e
      exact ⟨ω, H, ω, _, n, _, _, ⟨_, R0⟩, h1, fun v ω1 H1 kk tt rr => q v ω1 H1 kk tt rr (fun z => nomatch z)⟩
    · cases e
end


/-- a list's slice: a new list -/
def aSl (f : FE) (lo hi : Fe (Option Int)) : Fe (List D) := fun env n => match f env n with
  | some (.list ds, n1) => (match lo env n1 with
    | some (l, n2) => (match hi env n2 with
      | some (h, n3) => some (cutD ds l h, n3)
      | none => none)
    | none => none)
  | _ => none
theorem mf_sl {X : Cx} {e : Expr} {lo hi : Option Expr} {f : FE} {fl fh : Fe (Option Int)} {p2 pos : Pos} (he : ME X e f) (hl : MO X lo fl) (hh : MO X hi fh) : MF X (.Subscript e (.Slice lo hi none p2) pos) (aSl f fl fh) := by
  refine pe_imp (pe_slice sl_list he hl hh) fun σ H Q q => ?_
  obtain ⟨ω, env, n, d, n', R, t, ee, k⟩ := q
  unfold aSl at ee
  split at ee
  · rename_i ds n1 h1
    split at ee
    · rename_i l n2 h2
      split at ee
      · rename_i h n3 h3
        cases ee
        refine tM_run R t h1 fun v ω1 H1 k1 R1 t1 r1 => ?_
        refine tMO_run R1 t1 h2 fun ω2 H2 k2 R2 t2 => ?_
        refine tMO_run R2 t2 h3 fun ω3 H3 k3 R3 t3 => ?_
        have r' := (r1.ext k2).ext k3
        cases r' with
        | lst g1 m1 l1 q1 =>
          refine ⟨_, _, rfl, SqL.of g1, fun p hp => ?_⟩
          have kk := (k1.trans k2).trans k3
          exact k p _ ω3 _ (kk.trans (Ext.of_same (same_upd hp))) (t3.of_same (same_upd hp)) (kk.noneB hp) (R3.ok.notIn hp) upd_same (Nat.le_trans (cutD_len _ _ _) l1) (tMF_new (cut_rp q1) hp)
      · cases ee
    · cases ee
  · cases ee


/-! ### planners compared -/
structure PlI (K : PySem.W.Frag) (mg : Str → Option Value) : Prop where
  gl : mg "Planner" = some (.ref (clsA mg))
  ins : C8.InsC K (clsA mg)
  nl : PySem.W.kitOne K (.type "list") (.ref (clsA mg)) = some false
  nn : PySem.W.kitOne K (.type "NoneType") (.ref (clsA mg)) = some false
def dIsiP : D → Option D
  | .dict [(_, _), (_, .list _), (_, _)] => some (.bool true)
  | .list _ => some (.bool false)
  | .none => some (.bool false)
  | _ => none
section
variable {X : Cx} {e : Expr} {f : FE} {p pc pos : Pos}
theorem kisiP (pi : PlI X.K X.mg) (hm : X.mg "isinstance" = none) (he : ME X e f) (hg : X.env.kindOf "isinstance" = some .globalImplicit := by kernel_rfl) (hgc : X.env.kindOf "Planner" = some .globalImplicit := by kernel_rfl)
    (hs : starEach [e, .Name "Planner" pc] X.env = (false, eval e X.env) :: starEach [.Name "Planner" pc] X.env := by kernel_rfl) (hs2 : starEach [.Name "Planner" pc] X.env = (false, eval (.Name "Planner" pc) X.env) :: starEach [] X.env := by kernel_rfl) (hpl : (backTo pos (starEach [.Name "Planner" pc] X.env)).any (·.1) = false := by kernel_rfl) :
    ME X (.Call (.Name "isinstance" p) [e, .Name "Planner" pc] [] pos) (e1 dIsiP f) := by
  refine pe_imp (pe_callB call_isi hg hm (by decide +kernel) (pa_cons he (pa_cons (pe_glob hgc pi.gl (v := .ref (clsA X.mg)) rfl (by decide)) pa_nil hs2) hs) (by decide) (by decide) hs hpl) fun σ H Q q => ?_
  obtain ⟨ω, env, n, d, n', R, t, ee, k⟩ := q
  unfold e1 at ee
  split at ee
  · rename_i d0 n1 h1
    refine tM_run R t h1 fun v ω1 H1 k1 R1 t1 r1 => ?_
    have hC : ω1.C = clsA X.mg := R1.cl
    unfold dIsiP at ee
    split at ee
    · cases ee
      obtain ⟨a, dx, b, fs, vm, vk, xs, rfl, h2, h3⟩ := rp_rec r1
      rw [hC] at h2
      exact ⟨_, .ref (clsA X.mg), _, .ref (clsA X.mg), true, rfl, .own _, .base (.ins h2 pi.ins.cl pi.ins.ha pi.ins.hn pi.ins.htk pi.ins.hm), pi.ins.me, k _ _ _ k1 t1 (.bl true)⟩
    · cases ee
      cases r1 with
      | lst g1 _ _ _ => exact ⟨_, .ref (clsA X.mg), _, .ref (clsA X.mg), false, rfl, .own _, .base (.lst g1), pi.nl, k _ _ _ k1 t1 (.bl false)⟩
    · cases ee
      cases r1
      exact ⟨_, .ref (clsA X.mg), _, .ref (clsA X.mg), false, rfl, .own _, .base .non, pi.nn, k _ _ _ k1 t1 (.bl false)⟩
    · cases ee
  · cases ee
end
structure HasEq (P : Program) (w : World) (K : PySem.W.Frag) (mg : Str → Option Value) (base : Heap) (k : Nat) (m : Fn) : Prop where
  ex : ∃ (f : Addr) (fd : FuncData) (ps : List Str), FnOk P w K mg base (L2.CX P w) k f fd ps (spX K mg 2 false m) ∧ Meth K (clsA mg) "__eq__" f ∧ Binds K fd ps []
  nf : PySem.W.notFirst K (clsA mg) (.ref (clsA mg)) = true
def rEqP (C : Addr) (sp : Sp) : R2 := fun x y H Q => ∃ (a dx : Addr) (fs : List (Str × V)) (b dy : Addr) (gs : List (Str × V)), x = .ref a ∧ y = .ref b ∧ H a = some (.ins C dx fs) ∧ H b = some (.ins C dy gs) ∧ sp [.ref a, .ref b] H Q E0
theorem op_eqP {X : Cx} {k : Nat} {f C : Addr} {fd : FuncData} {ps : List Str} {sp : Sp} (F : FnOk X.prog X.w X.K X.mg X.base (L2.CX X.prog X.w) k f fd ps sp) (hm : Meth X.K C "__eq__" f) (hn : PySem.W.notFirst X.K C (.ref C) = true) (hr : Room k X.A) (hb : Binds X.K fd ps []) : OpR X (compareOp .Eq) (rEqP C sp) := by
  intro pins s σ H x y v u Q I rx ry h
  obtain ⟨a, dx, fs, b, dy, gs, rfl, rfl, ha, hbb, q⟩ := h
  obtain rfl : v = Value.ref a := rx
  obtain rfl : u = Value.ref b := ry
  obtain ⟨mA, O, _⟩ := ins_get I.hok ha
  obtain ⟨od, J, _⟩ := O.look
  obtain ⟨mB, O2, _⟩ := ins_get I.hok hbb
  obtain ⟨od2, J2, _⟩ := O2.look
  obtain ⟨m, hF⟩ := I.fr
  show wpAny (model X.prog X.w) X.A (richCompare .Eq (.ref a) (.ref b)) (EP X pins σ Q) X.xe s
  refine PySem.W.cmp_K (op := .Eq) (tb := .ref C) hr.units0 hF I.ok.mod.kin J J2.type hn hm.at_ hm.fn ?_
  have hv : Vals [V.ref a, V.ref b] [Value.ref a, Value.ref b] := .cons rfl (.cons rfl .nil)
  refine wpAny_mono (run_fn (us := [.ref a, .ref b]) (vs := [.ref a, .ref b]) F hr hb .nil passL I hv (by rw [List.append_nil]; exact q)) (fun w s' z => ?_) fun _ _ x => x
  obtain ⟨z', H', I', rz, qz⟩ := z
  exact SlX.cmpback rz ⟨z', H', I', rz, qz⟩
def eEqP (m : Fn) (fa fb : FE) : FE := fun env n => match fa env n with
  | some (x, n1) => (match fb env n1 with
    | some (y, n2) => if isPl n2 x && isPl n2 y then (match m [x, y] n2 with
      | some (.ok d, n3) => some (d, n3)
      | _ => none) else none
    | none => none)
  | none => none
section
variable {X : Cx} {a b : Expr} {fa fb : FE} {m : Fn} {j k : Nat} {pos : Pos}
theorem tEqP_of (hl : ∀ ds n, ds.length ≠ 2 → m ds n = none) : ∀ σ H Q, tM X.K (clsA X.mg) (eEqP m fa fb) σ H Q → tOp (rEqP (clsA X.mg) (spX X.K X.mg 2 false m)) (tM X.K (clsA X.mg) fa) (tM X.K (clsA X.mg) fb) σ H Q := by
  intro σ H Q q
  obtain ⟨ω, env, n, d, n', R, t, ee, k⟩ := q
  unfold eEqP at ee
  split at ee
  · rename_i x n1 h1
    split at ee
    · rename_i y n2 h2
      split at ee
      · rename_i hp
        rw [Bool.and_eq_true] at hp
        split at ee
        · rename_i d' n3 h3
          cases ee
          refine tM_run R t h1 fun v ω1 H1 k1 R1 t1 r1 => ?_
          refine tM_run R1 t1 h2 fun u ω2 H2 k2 R2 t2 r2 => ?_
          have r1' := r1.ext k2
          obtain ⟨a, dx, fs, rfl, g1, _⟩ := isPl_ins r1' t2 hp.1
          obtain ⟨b, dy, gs, rfl, g2, _⟩ := isPl_ins r2 t2 hp.2
          have hC : ω2.C = clsA X.mg := R2.cl
          rw [hC] at g1 g2
          exact ⟨a, dx, fs, b, dy, gs, rfl, rfl, g1, g2, ω2, [x, y], n2, _, _, R2.cl, .cons r1' (.cons r2 .nil), m_len hl h3, t2, h3, fun v' ω' H' k3 t3 r3 _ => k v' ω' H' ((k1.trans k2).trans k3) t3 r3⟩
        · cases ee
      · cases ee
    · cases ee
  · cases ee
theorem keqP (hh : HasEq X.prog X.w X.K X.mg X.base k m) (hl : ∀ ds n, ds.length ≠ 2 → m ds n = none) (hr : Room j X.A) (ha : ME X a fa) (hb : ME X b fb) (hk : Nat.ble k j = true := by kernel_rfl) (hm : behindInMarks .Eq b = false := by kernel_rfl) : ME X (.Compare a [.Eq] [b] pos) (eEqP m fa fb) := by
  obtain ⟨f, fd, ps, F, hM, hB⟩ := hh.ex
  exact pe_imp (pe_cmpR (op_eqP F hM hh.nf (hr.mono (Nat.le_of_ble_eq_true hk)) hB) ha hb hm) (tEqP_of hl)
theorem kteqP (hh : HasEq X.prog X.w X.K X.mg X.base k m) (hl : ∀ ds n, ds.length ≠ 2 → m ds n = none) (hr : Room j X.A) (ha : ME X a fa) (hb : ME X b fb) (hk : Nat.ble k j = true := by kernel_rfl) (hm : behindInMarks .Eq b = false := by kernel_rfl) : MT X (.Compare a [.Eq] [b] pos) (bV (eEqP m fa fb)) := by
  obtain ⟨f, fd, ps, F, hM, hB⟩ := hh.ex
  refine pt_imp (pt_cmpR (op_eqP F hM hh.nf (hr.mono (Nat.le_of_ble_eq_true hk)) hB) ha hb hm) fun σ H Q q => ?_
  obtain ⟨ω, env, n, d, n', R, t, e, k⟩ := q
  unfold bV at e
  split at e
  · rename_i b n1 h1
    cases e
    refine tEqP_of hl σ H _ (tM_run R t h1 fun v ω1 H1 k1 R1 t1 r1 => ?_)
    cases r1
    exact ⟨_, rfl, k ω1 H1 k1 t1⟩
  · cases e
end


/-- what the head says of the planners' class -/
def plB (K : PySem.W.Frag) : Bool :=
  He.eqO (PySem.W.findIn K (.ref (He.ga K "Planner")) "__class__") (some (some (.builtin "object.__class__"))) && (He.eqO (PySem.W.specialIn K (.builtin "object.__class__") "__get__") (some (some (.builtin "getset_descriptor.__get__"))) &&
  (decide (PySem.W.takesIn K (.builtin "object.__class__") = some true) && (decide (PySem.W.mroIn K (He.ga K "Planner") (.type "object") = some true) && (decide (PySem.W.kitOne K (.ref (He.ga K "Planner")) (.ref (He.ga K "Planner")) = some true) &&
  (decide (PySem.W.kitOne K (.type "list") (.ref (He.ga K "Planner")) = some false) && (decide (PySem.W.kitOne K (.type "NoneType") (.ref (He.ga K "Planner")) = some false) && PySem.W.notFirst K (He.ga K "Planner") (.ref (He.ga K "Planner"))))))))
theorem plB_ok {K : PySem.W.Frag} {mg : Str → Option Value} (h : plB K = true) (gP : mg "Planner" = some (.ref (He.ga K "Planner"))) (eC : clsA mg = He.ga K "Planner") (pc : PlC K mg) : PlI K mg ∧ PySem.W.notFirst K (He.ga K "Planner") (.ref (He.ga K "Planner")) = true := by
  unfold plB at h
  simp only [Bool.and_eq_true, decide_eq_true_eq] at h
  obtain ⟨h1, h2, h3, h4, h5, h6, h7, h8⟩ := h
  refine ⟨⟨by rw [eC]; exact gP, ⟨pc.cls, ?_, He.eqO_ok h2, h3, ?_, ?_⟩, ?_, ?_⟩, h8⟩
  · rw [eC]; exact He.eqO_ok h1
  · rw [eC]; exact h4
  · rw [eC]; exact h5
  · rw [eC]; exact h6
  · rw [eC]; exact h7
theorem and_l {a b : Bool} (h : (a && b) = true) : a = true := (Bool.and_eq_true_iff.mp h).1
theorem and_r {a b : Bool} (h : (a && b) = true) : b = true := (Bool.and_eq_true_iff.mp h).2


/-! ### for some in E: some.append(None), where all of E is new -/
def lf1 : Option D → Option D
  | some d => if lf d then some d else none
  | none => none
def lfEn (E : En) : En := E.map lf1
def lstOk (k : Nat) : D → Bool
  | .list es => lfL es && decide (es.length + k + 1 ≤ lim)
  | _ => false
def sForNone (f : FE) (i : Nat) : FS := fun S n => match f (lfEn (hidE S)) n with
  | some (.list ds, n1) => if ds.all (lstOk ds.length) && decide (i < S.length) then some (.nx (S.set i none), n1) else none
  | _ => none
/-- the same world, other things may change -/
def Wd.wth (ω : Wd) (T : Addr → Prop) (h1 : ∀ a, ω.town = some a → T a) (h2 : ∀ a k, ω.ow a = some k → T a) : Wd := { ω with T := T, hT1 := h1, hT2 := h2 }
theorem Town.wth {ω : Wd} {n : Sn} {H : Hp} {T : Addr → Prop} {h1 : ∀ a, ω.town = some a → T a} {h2 : ∀ a k, ω.ow a = some k → T a} (t : Town ω n H) (h : ∀ a, T a → ω.T a) : Town (ω.wth T h1 h2) n H :=
  ⟨⟨fun a z => t.ok.tin a (h a z)⟩, t.town, t.len, fun k c z => let ⟨a, q1, q2⟩ := t.cell k c z; ⟨a, q1, q2.mono rfl (fun _ z => z) (fun _ _ _ z => z) fun _ _ z => z⟩, t.owk⟩
section
variable {K : PySem.W.Frag} {C : Addr} {ω0 ω ω1 : Wd} {H0 : Hp} {S : Es} {n n1 : Sn} {σ : L2.St} {H H1 : Hp} {o : Addr → Option Nat}
theorem lfEn_get {E : En} {i : Nat} {d : D} (h : (lfEn E)[i]? = some (some d)) : E[i]? = some (some d) ∧ lf d = true := by
  unfold lfEn at h
  rw [List.getElem?_map] at h
  cases q : E[i]? with
  | none => rw [q] at h; cases h
  | some x =>
    rw [q] at h
    cases x with
    | none => cases h
    | some e =>
      have h' : some (if lf e then some e else none) = some (some d) := h
      split at h'
      · cases h'; exact ⟨rfl, by assumption⟩
      · cases h'
/-- all that stands may change -/
abbrev Wd.all (ω : Wd) (o : Addr → Option Nat) (H : Hp) : Wd := (ω.plus o).or (fun a => ∃ x, H a = some x ∧ noTup x)
theorem RS.allE (R : RS K C ω0 H0 ω S n σ H o) : RE K C (ω.all o H) (lfEn (hidE S)) σ H := by
  refine ⟨(R.townP.or fun a h => h).ok, R.cl, by unfold lfEn hidE; rw [List.length_map, List.length_map]; exact R.len, fun i d h => ?_⟩
  obtain ⟨h1, h2⟩ := lfEn_get h
  obtain ⟨v, h3, h4⟩ := R.slot i _ (hid_get h1)
  exact ⟨v, h3, Rp.lfS h4 h2⟩
theorem RS.allT (R : RS K C ω0 H0 ω S n σ H o) : Town (ω.all o H) n H := R.townP.or fun a h => h
/-- a new list, in a world where all that stood may change -/
theorem all_new (e : Ext (ω.all o H) H ω1 H1) {a : Addr} {xs : List V} (h : H1 a = some (.lst xs)) (n : ¬ ω1.T a) : H a = none := by
  cases q : H a with
  | none => rfl
  | some x =>
    refine absurd ((e.old a (sm_ne q)).mpr (.inr ⟨x, q, ?_⟩)) n
    cases x with
    | tup ys => have := e.tup a ys q; rw [h] at this; cases this
    | _ => trivial
/-- back in the world that was -/
theorem all_back (e : Ext (ω.all o H) H ω1 H1) (t : Town ω1 n1 H1) : ∃ ω2 : Wd, Ext (ω.plus o) H ω2 H1 ∧ Town ω2 n1 H1 ∧ (∀ a, ω2.T a → ω1.T a) := by
  have g1 : ∀ a, ω1.town = some a → (H a ≠ none ∧ (ω.plus o).T a) ∨ (H a = none ∧ ω1.T a) := fun a h => by
    cases q : H a with
    | none => exact .inr ⟨rfl, ω1.hT1 a h⟩
    | some x => exact .inl ⟨fun z => (nomatch z), .inl (ω.hT1 a (by rw [e.town] at h; exact h))⟩
  have g2 : ∀ a k, ω1.ow a = some k → (H a ≠ none ∧ (ω.plus o).T a) ∨ (H a = none ∧ ω1.T a) := fun a k h => by
    cases q : H a with
    | none => exact .inr ⟨rfl, ω1.hT2 a k h⟩
    | some x =>
      rcases e.ow a k h with z | z
      · exact .inl ⟨fun z => (nomatch z), .inl (ω.hT2 a k z)⟩
      · rw [q] at z; cases z
  have hs : ∀ a, ((H a ≠ none ∧ (ω.plus o).T a) ∨ (H a = none ∧ ω1.T a)) → ω1.T a := fun a z => z.elim (fun ⟨q1, q2⟩ => (e.old a q1).mpr (.inl q2)) fun q => q.2
  refine ⟨ω1.wth (fun a => (H a ≠ none ∧ (ω.plus o).T a) ∨ (H a = none ∧ ω1.T a)) g1 g2, ⟨e.town, e.C, e.root, fun a h => ?_, e.ow, e.keep, e.tup, e.al⟩, t.wth hs, hs⟩
  exact ⟨fun z => z.elim (fun q => q.2) fun q => absurd q.1 h, fun z => .inl ⟨h, z⟩⟩
theorem RS.wipe {i : Nat} {x : Option V} (R : RS K C ω0 H0 ω S n σ H o) : RS K C ω0 H0 ω (S.set i none) n (σ.set i x) H o := by
  refine ⟨R.ext, R.cl, R.town, R.new, R.own, by rw [List.length_set, List.length_set]; exact R.len, fun j sv h => ?_⟩
  by_cases e : i = j
  · subst e
    by_cases hl : i < S.length
    · rw [List.getElem?_set_self hl] at h; cases h
    · rw [List.getElem?_eq_none (by rw [List.length_set]; omega)] at h; cases h
  · rw [List.getElem?_set_ne e] at h ⊢
    exact R.slot j sv h
theorem RpL.getD {vs : List V} {ds : List D} {i : Nat} (r : RpL K ω H vs ds) (h : i < ds.length) : ∃ v, vs[i]? = some v ∧ Rp K ω H v ds[i] := r.get (List.getElem?_eq_getElem h)
/-- a list of lists of plain things is not one of its own items -/
theorem no_self {a b : Addr} {xs : List V} {es : List D} (t : Town ω n H) (h : H a = some (.lst xs)) (na : ¬ ω.T a) (hb : V.ref b ∈ xs) (r : Rp K ω H (.ref b) (.list es)) (l : lfL es = true) : b ≠ a := by
  intro e
  subst e
  cases r with
  | lst g1 m1 l1 q1 =>
    rw [h] at g1
    cases g1
    obtain ⟨i, hi, hx⟩ := List.mem_iff_getElem.mp hb
    have hx' : xs[i]? = some (.ref b) := by rw [List.getElem?_eq_getElem hi, hx]
    obtain ⟨d, hd, rd⟩ := q1.get' hx'
    have hlf : lf d = true := by
      have := List.mem_of_getElem? hd
      clear rd hd q1 l1
      induction es with
      | nil => cases this
      | cons y ys ih =>
        rw [lfL, Bool.and_eq_true] at l
        rcases List.mem_cons.mp this with z | z
        · rw [z]; exact l.1
        · exact ih l.2 z
    cases rd with
    | lst _ _ _ _ => simp [lf] at hlf
    | tup g _ _ => rw [h] at g; cases g
    | town g => exact na (ω.hT1 _ g)
    | scr _ _ => simp [lf] at hlf
    | @cell _ k g =>
      have hk : k < n.c.length := by
        rw [t.len]
        exact (List.getElem?_eq_some_iff.mp g).1
      obtain ⟨a', h1, h2⟩ := t.cell k _ (List.getElem?_eq_getElem hk)
      rw [g] at h1
      cases h1
      refine na (ω.hT2 b k ?_)
      cases q : n.c[k] with
      | lst _ => rw [q] at h2; exact h2.1
      | rows _ => rw [q] at h2; exact h2.1
      | pln _ _ _ => rw [q] at h2; exact h2.1
      | dct _ => rw [q] at h2; exact h2.1
    | pln _ _ _ _ _ _ _ _ _ => simp [lf] at hlf
    | dct _ _ _ _ => simp [lf] at hlf
end
section
variable {X : Cx} {W : WX} {st : Stmt} {body : List Stmt} {iter tg : Expr} {pos : Pos} {f : FE} {i : Nat}
theorem ms_forNone (hp : PassesOwn (model X.prog X.w) X.A X.env X.xe) (hc : X.calm = true) (he : ME X iter f) (hg : MG X tg (.nm i)) (hb : PS X st (tDrop (tBM X.K "list" rAppend (tVar i) (tCons (tC .non) tNil)))) (hs : ∀ x, foldedSetIterable iter X.env x = pure x := by intro _; rfl) :
    MS X W (.For tg iter [st] [] pos) (sForNone f i) := by
  refine ps_imp (ps_for hp hc (pi_seq he) hg (pss_one hb) hs) fun Dn σ H q => ?_
  obtain ⟨ω0, H0, ω, S, n, fl, n', ⟨o, R⟩, e, af⟩ := q
  unfold sForNone at e
  split at e
  · rename_i ds n1 h1
    split at e
    · rename_i hds
      cases e
      rw [Bool.and_eq_true] at hds
      have hil := of_decide_eq_true hds.2
      rw [R.len] at hil
      replace hds := hds.1
      refine tM_run R.allE R.allT h1 fun v ω1 H1 k1 R1 t1 r1 => ?_
      cases r1 with
      | @lst a xs _ g1 m1 l1 q1 =>
        obtain ⟨ω2, k2, t2, hT⟩ := all_back k1 t1
        have hitem : ∀ (j : Nat), j < ds.length → ∃ (b : Addr) (es : List D) (ys : List V), xs[j]? = some (.ref b) ∧ H1 b = some (.lst ys) ∧ ys.length + ds.length + 1 ≤ lim ∧ H b = none ∧ b ≠ a ∧ ¬ ω1.T b := fun j hj => by
          obtain ⟨v, hv, rv⟩ := q1.getD hj
          have hk := List.all_eq_true.mp hds _ (List.getElem_mem hj)
          unfold lstOk at hk
          split at hk
          · rename_i es hes
            rw [Bool.and_eq_true] at hk
            rw [hes] at rv
            cases rv with
            | @lst b ys _ g2 m2 l2 q2 =>
              have hkl := of_decide_eq_true hk.2
              refine ⟨b, es, ys, hv, g2, by rw [q2.length]; exact hkl, all_new k1 g2 m2, no_self t1 g1 m1 (List.mem_of_getElem? hv) (.lst g2 m2 l2 q2) hk.1, m2⟩
          · cases hk
        refine ⟨a, rfl, .inl ⟨⟨_, SqL.of g1⟩, fun k m σi Hi => m = ds.length - k ∧ k ≤ ds.length ∧ (∃ x, σi = σ.set i x) ∧ Ext (ω.plus o) H ω2 Hi ∧ Town ω2 n' Hi ∧ Hi a = some (.lst xs) ∧ (∀ b ys, H1 b = some (.lst ys) → H b = none → b ≠ a → (∃ j : Nat, xs[j]? = some (.ref b)) → ∃ zs, Hi b = some (.lst zs) ∧ zs.length ≤ ys.length + k), ⟨_, rfl, Nat.zero_le _, ?_, k2, t2, g1, fun b ys h _ _ _ => ⟨ys, h, Nat.le_refl _⟩⟩, ?_⟩⟩
        · cases hx : σ[i]? with
          | none => exact ⟨none, by rw [List.set_eq_of_length_le (List.getElem?_eq_none_iff.mp hx)]⟩
          | some x => exact ⟨x, by
              obtain ⟨hj, ee⟩ := List.getElem?_eq_some_iff.mp hx
              rw [← ee, List.set_getElem_self hj]⟩
        rintro k m σi Hi ⟨rfl, hk, ⟨x0, rfl⟩, ki, ti, gi, hal⟩
        by_cases hlt : k < ds.length
        · obtain ⟨b, es, ys, hx, hb1, hbl, hbn, hba, hbT⟩ := hitem k hlt
          refine .inr ⟨⟨xs, _, SqL.of gi, hx⟩, fun σn Hn => (∃ x, σn = σ.set i x) ∧ Ext (ω.plus o) H ω2 Hn ∧ Town ω2 n' Hn ∧ Hn a = some (.lst xs) ∧ (∀ b ys, H1 b = some (.lst ys) → H b = none → b ≠ a → (∃ j : Nat, xs[j]? = some (.ref b)) → ∃ zs, Hn b = some (.lst zs) ∧ zs.length ≤ ys.length + (k + 1)), fun σn Hn q => ⟨ds.length - (k + 1), by omega, rfl, hlt, q⟩, fun x H' hy => ?_⟩
          obtain ⟨rfl, hy⟩ := hy
          have ex := hy xs (SqL.of gi)
          rw [hx] at ex
          cases ex
          obtain ⟨zs, hz, hzl⟩ := hal b ys hb1 hbn hba ⟨k, hx⟩
          show tBM X.K "list" rAppend (tVar i) (tCons (tC .non) tNil) ((σ.set i x0).set i (some (.ref b))) H' _
          rw [List.set_set]
          refine ⟨_, List.getElem?_set_self hil, .inl ⟨rfl, _, SqL.of hz⟩, ?_⟩
          refine ⟨b, zs, .non, rfl, rfl, hz, by rw [← lim_eq]; omega, ?_⟩
          have hnh : ¬ ω2.has b := fun z => hbT (hT b (Wd.hasT z))
          refine ⟨⟨_, rfl⟩, ki.updNew hbn, ti.updN hnh hz, by rw [upd_ne (Ne.symm hba)]; exact gi, fun c ys' h1' h2' h3' h4' => ?_⟩
          by_cases ec : c = b
          · subst ec
            rw [hb1] at h1'
            cases h1'
            exact ⟨_, upd_same, by rw [List.length_append]; simp; omega⟩
          · obtain ⟨zs', q1', q2'⟩ := hal c ys' h1' h2' h3' h4'
            exact ⟨zs', by rw [upd_ne ec]; exact q1', by omega⟩
        · have hke : k = ds.length := by omega
          subst hke
          refine .inl ⟨⟨xs, SqL.of gi, by rw [q1.length]; exact Nat.le_refl _⟩, ?_⟩
          exact af _ _ _ o ((R.extH ki ti).wipe (i := i) (x := x0))
    · cases e
  · cases e
theorem kforNone (hp : PassesOwn (model X.prog X.w) X.A X.env X.xe) (he : ME X iter f) (hg : MG X tg (.nm i)) (hb : PS X st (tDrop (tBM X.K "list" rAppend (tVar i) (tCons (tC .non) tNil)))) (hc : X.calm = true := by kernel_rfl) (hs : ∀ x, foldedSetIterable iter X.env x = pure x := by intro _; kernel_rfl) :
    MS X W (.For tg iter [st] [] pos) (sForNone f i) := ms_forNone hp hc he hg hb hs
end


/-! ### the view of expressions that may raise -/
def xV (ms : List Bool) (g : FX) : FX := fun env n => match g (resE n ms env) n0 with
  | some (.ok d, _) => if pf d then some (.ok d, n) else none
  | some (.ex c, _) => some (.ex c, n)
  | none => none
theorem mx_v {X : Cx} {W : WX} {e : Expr} {g : FX} (ms : List Bool) (h : MX X W e g) : MX X W e (xV ms g) := by
  refine pe_imp h fun σ H Q q => ?_
  obtain ⟨ω, env, n, r, n', R, t, e, k⟩ := q
  unfold xV at e
  split at e
  · rename_i d1 n1 h1
    split at e
    · rename_i hp
      cases e
      exact ⟨_, _, n0, _, n1, R.view t ms, town_V, h1, fun v ω' H' k1 _ r1 => k v ω H' (Ext.of_same (same_V k1)) (t.of_same (same_V k1)) (r1.rt hp).rp⟩
    · cases e
  · rename_i c n1 h1
    cases e
    exact ⟨_, _, n0, _, n1, R.view t ms, town_V, h1, fun C ω' H' hC k1 _ => k C ω H' hC (Ext.of_same (same_V k1)) (t.of_same (same_V k1))⟩
  · cases e


/-! ### a new list of new lists of data without lists, one's own lists read meanwhile -/
theorem Rows.lf {K : PySem.W.Frag} {ω ω' : Wd} {H : Hp} (h1 : ω'.town = ω.town) (h2 : ω'.root = ω.root) {bs : List Addr} {dss : List (List D)} (h : Rows K ω H bs dss) (hl : dss.all lfL = true) : Rows K ω' H bs dss := by
  induction h with
  | nil => exact .nil
  | cons xs a l r _ ih =>
    rw [List.all_cons, Bool.and_eq_true] at hl
    exact .cons xs a l (RpL.lf h1 h2 r hl.1) (ih hl.2)
def sOwn2F (i : Nat) (f : Fe (List (List D))) : FS := fun S n => match f (frzE S) n with
  | some (dss, n1) => if dss.all lfL then some (.nx (S.set i (some (.own2 dss))), n1) else none
  | none => none
theorem ms_own2F {X : Cx} {W : WX} {st : Stmt} {i : Nat} {f : Fe (List (List D))} (h : PS X st (tAsg (tMF2 X.K (clsA X.mg) f) (gName i))) : MS X W st (sOwn2F i f) := by
  refine ps_imp h fun Dn σ H q => ?_
  obtain ⟨ω0, H0, ω, S, n, fl, n', ⟨o, R⟩, e, a⟩ := q
  unfold sOwn2F at e
  split at e
  · rename_i dss n1 h1
    split at e
    · rename_i hl
      cases e
      refine ⟨ω, frzE S, n, dss, _, R.frz, R.town, h1, fun p bs ω' H' k t hf nd hp' l r => ?_⟩
      refine a _ _ _ _ (R.setOwn2 (i := i) (R.upE k) (R.upT k t) (fun b hb => ⟨(hf b hb).1, fun z => z.elim (hf b hb).2 fun ⟨j, q⟩ => ?_⟩) nd hp' l (Rows.lf (ω := ω'.or fun a => a ∈ p :: bs) (ω' := (ω'.plus o).or fun a => a ∈ p :: bs) rfl rfl r hl))
      obtain ⟨x, hx, _⟩ := R.own b j q
      rw [(hf b hb).1] at hx; cases hx
    · cases e
  · cases e


/-! ### p != q by the own __eq__ -/
section
open PySem.W PySem.Calls
variable {prog : Program} {w : World} {A A₀ : Around} {E : Value → Shared → Prop} {s : Shared} {K : PySem.W.Frag} {x C L f : Addr} {h₀ : Heap} {m : Str → Option Value} {ox : Obj} {od : Option Obj} {b tb : Value}
theorem check_ne {Q : Unit → Shared → Prop} (X : K.In s.heap) (I : InstAt s.heap x ox C od) (hm : mroIn K C (.type "object") = some true) (h : Q () s) : wpAny (model prog w) A (checkBuiltinCall "object.__ne__" ⟨[.ref x, b], []⟩) Q E s := by
  simp only [checkBuiltinCall, PySem.F.cmpKind_ne, PySem.F.cmpSplit_ne]
  refine wpAny_bind ?_
  unfold isInstance
  refine wpAny_bind (I.type.here ((looks_mroIn X hm).here ?_))
  have ha := PySem.F.cmpArgs_ne (.ref x) b
  cases hsig : Manifest.signature? "object.__ne__" with
  | none => exact wpAny_pure h
  | some sig =>
    simp only [argsOk, hsig] at ha
    have h2 : Bind.checkArgs "object.__ne__" sig ⟨[.ref x, b], []⟩ = pure () := ha
    show wpAny _ A (Bind.checkArgs "object.__ne__" sig ⟨[.ref x, b], []⟩) Q E _
    rw [h2]; exact wpAny_pure h
theorem body_ne {Q : Fin → Shared → Prop} (hu : A.units < cLine) (X : K.In s.heap) (I : InstAt s.heap x ox C od) (hs : findIn K (.ref C) "__eq__" = some (some (.ref f))) (hf : isFn K (.ref f) = true)
    (h : wpAny (model prog w) A (call (.ref f) [.ref x, b]) (fun v s' => ∃ c, v = .bool c ∧ Q (.done (.ret (.bool (!c)))) s') E s) : wpAny (model prog w) A (Builtin.«object.__ne__» ⟨[.ref x, b], []⟩) Q E s := by
  unfold Builtin.«object.__ne__»
  repeat (first
    | with_reducible refine wpAny_cRoomFor hu ?_
    | (refine wpAny_bind (m := callSpecialIfBound? (.ref x) (Str.ofString "__eq__") [b])
        (ifBound_K X I hs hf (wpAny_mono h (fun r s' hr => by
          obtain ⟨c, rfl, hq⟩ := hr
          repeat (first | exact hq | exact wpAny_pure hq | exact wpAny_truthy_bool hq | (refine wpAny_bind (m := truthy (.bool _)) (wpAny_truthy_bool ?_)) | wp_step)) fun _ _ e => e)))
    | wp_step)
theorem cmp_neK {Q : Value → Shared → Prop} (hu : A.units + 1 < cLine) (F : Fr h₀ L s.heap m) (X₀ : K.In h₀) (I : InstAt s.heap x ox C od) (hb : Looks (model prog w) s.heap (typeOf b) tb) (hn : notFirst K C tb = true)
    (hne : findIn K (.ref C) "__ne__" = some (some (.builtin "object.__ne__"))) (hm : mroIn K C (.type "object") = some true) (hs : findIn K (.ref C) "__eq__" = some (some (.ref f))) (hf : isFn K (.ref f) = true)
    (h : wpAny (model prog w) A.in1 (call (.ref f) [.ref x, b]) (fun v s' => ∃ c, v = .bool c ∧ Q (.bool (!c)) s') E s) : wpAny (model prog w) A (richCompare .NotEq (.ref x) b) Q E s := by
  have X := X₀.keeps F.keep
  have one : wpAny (model prog w) A (tryCompare (.ref x) (cmpInfo .NotEq).2.1 b) (fun r s' => ∃ v, r = some v ∧ Q v s') E s := by
    unfold tryCompare
    refine wpAny_bind ?_
    show wpAny (model prog w) A (callSpecialIfBound? (.ref x) "__ne__" [b]) _ E s
    simp only [callSpecialIfBound?, bindSpecialIfBound?]
    refine wpAny_holding (wpAny_bind (wpAny_bind (wpAny_bind (I.type.here ((looks_findIn X hne).here ?_)))))
    simp only [PySem.F.cmp_object.ne.bind]
    refine wpAny_bind (wpAny_askSetting (wpAny_ite ?_))
    have cl : wpAny (model prog w) A (call (.builtin "object.__ne__") ([.ref x] ++ [b])) (fun v s' => ∃ c, v = .bool c ∧ Q v s') E s := by
      refine wpAny_call (codeAny_call_builtin PySem.F.cmp_object.ne.plain PySem.F.cmpEntry_ne (check_ne X I hm ?_))
      refine body_ne (A := A.in1) hu X I hs hf (wpAny_mono h (fun v s' hv => ?_) fun _ _ e => e)
      obtain ⟨c, rfl, hq⟩ := hv
      exact ⟨c, rfl, _, rfl, hq⟩
    have fin : wpAny (model prog w) A (call (.builtin "object.__ne__") ([.ref x] ++ [b]) >>= fun v => pure (some v)) (fun r s' => ∃ c, r = some (.bool c) ∧ Q (.bool c) s') E s := wpAny_bind (wpAny_mono cl (fun v s' h' => by obtain ⟨c, rfl, hq⟩ := h'; exact wpAny_pure ⟨c, rfl, hq⟩) fun _ _ h' => h')
    have fin2 := wpAny_mono fin (Q' := fun r s' => wpAny (model prog w) A (match r with | some .notImplemented | none => pure none | some v => pure (some v)) (fun r s' => ∃ v, r = some v ∧ Q v s') E s') (fun r s' h' => by obtain ⟨c, rfl, hq⟩ := h'; exact wpAny_pure ⟨_, rfl, hq⟩) fun _ _ e => e
    split
    · exact wpAny_bind (wpAny_pure (wpAny_pure fin2))
    · exact wpAny_tryCatch (wpAny_bind (wpAny_pure (wpAny_pure fin2)))
  unfold richCompare
  simp only [oneThing_ref]
  refine wpAny_holding (wpAny_bind (wpAny_cRoomFor (Nat.lt_of_succ_lt hu) ?_))
  refine wpAny_bind (I.type.here (wpAny_bind (hb.here ?_)))
  split
  · rename_i q
    have e : subIn K tb (.ref C) = some false := by
      rcases Bool.or_eq_true_iff.mp hn with e | e
      · rw [beq_iff_eq.mp e] at q; simp at q
      · exact beq_iff_eq.mp e
    refine wpAny_bind ((looks_subIn X e).here ?_)
    simp only [Bool.false_eq_true, if_false]
    refine wpAny_bind (wpAny_mono one (fun r s' z => ?_) fun _ _ e => e)
    obtain ⟨v, rfl, hq⟩ := z
    exact wpAny_pure hq
  · refine wpAny_bind (wpAny_pure ?_)
    simp only [Bool.false_eq_true, if_false]
    refine wpAny_bind (wpAny_mono one (fun r s' z => ?_) fun _ _ e => e)
    obtain ⟨v, rfl, hq⟩ := z
    exact wpAny_pure hq
end


/-! ### planners compared with what is known, == and != -/
structure HasEq2 (P : Program) (w : World) (K : PySem.W.Frag) (mg : Str → Option Value) (base : Heap) (k : Nat) (m : Fn) : Prop where
  ex : ∃ (f : Addr) (fd : FuncData) (ps : List Str), FnOk P w K mg base (L2.CX P w) k f fd ps (spX K mg 2 false m) ∧ Meth K (clsA mg) "__eq__" f ∧ Binds K fd ps []
  nf : PySem.W.notFirst K (clsA mg) (.ref (clsA mg)) = true
  nl : PySem.W.notFirst K (clsA mg) (.type "list") = true
  nn : PySem.W.notFirst K (clsA mg) (.type "NoneType") = true
  ne : PySem.W.findIn K (.ref (clsA mg)) "__ne__" = some (some (.builtin "object.__ne__"))
  ob : PySem.W.mroIn K (clsA mg) (.type "object") = some true
def TyP (C : Addr) (H : Hp) : V → Prop
  | .ref b => (∃ dy gs, H b = some (.ins C dy gs)) ∨ ∃ xs, H b = some (.lst xs)
  | .non => True
  | _ => False
theorem TyP.look {X : Cx} {pins : List (Addr × Obj)} {σ : L2.St} {H : Hp} {s : Shared} {C : Addr} {y : V} {u : Value} (I : Inv X pins σ H s) (r : RelV y u) (h : TyP C H y) (nf : PySem.W.notFirst X.K C (.ref C) = true) (nl : PySem.W.notFirst X.K C (.type "list") = true) (nn : PySem.W.notFirst X.K C (.type "NoneType") = true) :
    ∃ tb, PySem.W.Looks (model X.prog X.w) s.heap (typeOf u) tb ∧ PySem.W.notFirst X.K C tb = true := by
  cases y with
  | ref b =>
    obtain rfl : u = Value.ref b := r
    rcases h with ⟨dy, gs, hb⟩ | ⟨xs, hb⟩
    · obtain ⟨mB, O2, _⟩ := ins_get I.hok hb
      obtain ⟨od2, J2, _⟩ := O2.look
      exact ⟨_, J2.type, nf⟩
    · obtain ⟨z, its, n, r, e⟩ := I.hok _ _ hb
      exact ⟨.type "list", (PySem.W.Looks.ld e).andThen .now, nl⟩
  | non =>
    obtain rfl : u = Value.none := r
    exact ⟨_, PySem.W.Looks.of_pure rfl, nn⟩
  | _ => exact h.elim
def rEqQ (C : Addr) (sp : Sp) : R2 := fun x y H Q => ∃ (a dx : Addr) (fs : List (Str × V)), x = .ref a ∧ H a = some (.ins C dx fs) ∧ TyP C H y ∧ sp [.ref a, y] H Q E0
def rNeQ (C : Addr) (sp : Sp) : R2 := fun x y H Q => ∃ (a dx : Addr) (fs : List (Str × V)), x = .ref a ∧ H a = some (.ins C dx fs) ∧ TyP C H y ∧ sp [.ref a, y] H (fun v H' => ∃ c, v = .bl c ∧ Q (.bl (!c)) H') E0
theorem op_eqQ {X : Cx} {k : Nat} {f C : Addr} {fd : FuncData} {ps : List Str} {sp : Sp} (F : FnOk X.prog X.w X.K X.mg X.base (L2.CX X.prog X.w) k f fd ps sp) (hm : Meth X.K C "__eq__" f) (nf : PySem.W.notFirst X.K C (.ref C) = true) (nl : PySem.W.notFirst X.K C (.type "list") = true) (nn : PySem.W.notFirst X.K C (.type "NoneType") = true) (hr : Room k X.A) (hb : Binds X.K fd ps []) : OpR X (compareOp .Eq) (rEqQ C sp) := by
  intro pins s σ H x y v u Q I rx ry h
  obtain ⟨a, dx, fs, rfl, ha, hy, q⟩ := h
  obtain rfl : v = Value.ref a := rx
  obtain ⟨tb, L, hn⟩ := hy.look I ry nf nl nn
  obtain ⟨mA, O, _⟩ := ins_get I.hok ha
  obtain ⟨od, J, _⟩ := O.look
  obtain ⟨m, hF⟩ := I.fr
  have hv : Vals [V.ref a, y] [Value.ref a, u] := .cons rfl (.cons ry .nil)
  have main : wpAny (model X.prog X.w) X.A (richCompare .Eq (.ref a) u) (EP X pins σ Q) X.xe s := by
    refine PySem.W.cmp_K (op := .Eq) (tb := tb) hr.units0 hF I.ok.mod.kin J L hn hm.at_ hm.fn ?_
    refine wpAny_mono (run_fn (us := [.ref a, u]) (vs := [.ref a, y]) F hr hb .nil passL I hv (by rw [List.append_nil]; exact q)) (fun w s' z => ?_) fun _ _ x => x
    obtain ⟨z', H', I', rz, qz⟩ := z
    exact SlX.cmpback rz ⟨z', H', I', rz, qz⟩
  exact main
theorem op_neQ {X : Cx} {k : Nat} {f C : Addr} {fd : FuncData} {ps : List Str} {sp : Sp} (F : FnOk X.prog X.w X.K X.mg X.base (L2.CX X.prog X.w) k f fd ps sp) (hm : Meth X.K C "__eq__" f) (nf : PySem.W.notFirst X.K C (.ref C) = true) (nl : PySem.W.notFirst X.K C (.type "list") = true) (nn : PySem.W.notFirst X.K C (.type "NoneType") = true)
    (ne : PySem.W.findIn X.K (.ref C) "__ne__" = some (some (.builtin "object.__ne__"))) (ob : PySem.W.mroIn X.K C (.type "object") = some true) (hr : Room (k + 1) X.A) (hb : Binds X.K fd ps []) : OpR X (compareOp .NotEq) (rNeQ C sp) := by
  intro pins s σ H x y v u Q I rx ry h
  obtain ⟨a, dx, fs, rfl, ha, hy, q⟩ := h
  obtain rfl : v = Value.ref a := rx
  obtain ⟨tb, L, hn⟩ := hy.look I ry nf nl nn
  obtain ⟨mA, O, _⟩ := ins_get I.hok ha
  obtain ⟨od, J, _⟩ := O.look
  obtain ⟨m, hF⟩ := I.fr
  have hv : Vals [V.ref a, y] [Value.ref a, u] := .cons rfl (.cons ry .nil)
  have main : wpAny (model X.prog X.w) X.A (richCompare .NotEq (.ref a) u) (EP X pins σ Q) X.xe s := by
    refine cmp_neK (tb := tb) (by have := hr.units; omega) hF I.ok.mod.kin J L hn ne ob hm.at_ hm.fn ?_
    refine wpAny_mono (run_fn1 (us := [.ref a, u]) (vs := [.ref a, y]) F hr hb passL I hv q) (fun w s' z => ?_) fun _ _ x => x
    obtain ⟨z', H', I', rz, c, rfl, qz⟩ := z
    obtain rfl : w = Value.bool c := rz
    exact ⟨c, rfl, .bl (!c), H', I', rfl, qz⟩
  exact main
def isPLN : D → Bool
  | .list _ => true
  | .none => true
  | d => isPl n0 d
def eEqG (neg : Bool) (m : Fn) (fa fb : FE) : FE := fun env n => match fa env n with
  | some (x, n1) => (match fb env n1 with
    | some (y, n2) => (match resD n2 x, resD n2 y with
      | some x', some y' => if isPl n0 x' && isPLN y' then (match m [x', y'] n0 with
        | some (.ok (.bool c), _) => some (.bool (if neg then !c else c), n2)
        | _ => none) else none
      | _, _ => none)
    | none => none)
  | none => none
theorem isPLN_ty {K : PySem.W.Frag} {C : Addr} {H : Hp} {v : V} {d : D} (r : Rp K (ωV C) H v d) (h : isPLN d = true) : TyP C H v := by
  unfold isPLN at h
  split at h
  · cases r with
    | lst g _ _ _ => exact .inr ⟨_, g⟩
  · cases r; trivial
  · obtain ⟨a, dx, fs, rfl, g, _⟩ := isPl_ins r town_V h
    exact .inl ⟨dx, fs, g⟩
section
variable {X : Cx} {a b : Expr} {fa fb : FE} {m : Fn} {j k : Nat} {pos : Pos}
theorem tEqG_of (hl : ∀ ds n, ds.length ≠ 2 → m ds n = none) : ∀ σ H Q, tM X.K (clsA X.mg) (eEqG false m fa fb) σ H Q → tOp (rEqQ (clsA X.mg) (spX X.K X.mg 2 false m)) (tM X.K (clsA X.mg) fa) (tM X.K (clsA X.mg) fb) σ H Q := by
  intro σ H Q q
  obtain ⟨ω, env, n, d, n', R, t, ee, k⟩ := q
  unfold eEqG at ee
  split at ee
  · rename_i x n1 h1
    split at ee
    · rename_i y n2 h2
      split at ee
      · rename_i x' y' hx hy
        split at ee
        · rename_i hp
          rw [Bool.and_eq_true] at hp
          split at ee
          · rename_i c n3 h3
            cases ee
            refine tM_run R t h1 fun v ω1 H1 k1 R1 t1 r1 => ?_
            refine tM_run R1 t1 h2 fun u ω2 H2 k2 R2 t2 r2 => ?_
            have hC : ω2.C = clsA X.mg := R2.cl
            have q1 := res_rp (r1.ext k2) t2 hx
            have q2 := res_rp r2 t2 hy
            rw [hC] at q1 q2
            obtain ⟨a, dx, fs, rfl, g1, _⟩ := isPl_ins q1 town_V hp.1
            exact ⟨a, dx, fs, rfl, g1, isPLN_ty q2 hp.2, ωV (clsA X.mg), [x', y'], n0, _, _, rfl, .cons q1 (.cons q2 .nil), rfl, town_V, h3, fun v' ω' H' k3 t3 r3 _ => by
              cases r3
              exact k _ ω2 H' ((k1.trans k2).trans (Ext.of_same (same_V k3))) (t2.of_same (same_V k3)) (.bl _)⟩
          · cases ee
        · cases ee
      · cases ee
    · cases ee
  · cases ee
theorem tNeG_of (hl : ∀ ds n, ds.length ≠ 2 → m ds n = none) : ∀ σ H Q, tM X.K (clsA X.mg) (eEqG true m fa fb) σ H Q → tOp (rNeQ (clsA X.mg) (spX X.K X.mg 2 false m)) (tM X.K (clsA X.mg) fa) (tM X.K (clsA X.mg) fb) σ H Q := by
  intro σ H Q q
  obtain ⟨ω, env, n, d, n', R, t, ee, k⟩ := q
  unfold eEqG at ee
  split at ee
  · rename_i x n1 h1
    split at ee
    · rename_i y n2 h2
      split at ee
      · rename_i x' y' hx hy
        split at ee
        · rename_i hp
          rw [Bool.and_eq_true] at hp
          split at ee
          · rename_i c n3 h3
            cases ee
            refine tM_run R t h1 fun v ω1 H1 k1 R1 t1 r1 => ?_
            refine tM_run R1 t1 h2 fun u ω2 H2 k2 R2 t2 r2 => ?_
            have hC : ω2.C = clsA X.mg := R2.cl
            have q1 := res_rp (r1.ext k2) t2 hx
            have q2 := res_rp r2 t2 hy
            rw [hC] at q1 q2
            obtain ⟨a, dx, fs, rfl, g1, _⟩ := isPl_ins q1 town_V hp.1
            exact ⟨a, dx, fs, rfl, g1, isPLN_ty q2 hp.2, ωV (clsA X.mg), [x', y'], n0, _, _, rfl, .cons q1 (.cons q2 .nil), rfl, town_V, h3, fun v' ω' H' k3 t3 r3 _ => by
              cases r3
              exact ⟨c, rfl, k _ ω2 H' ((k1.trans k2).trans (Ext.of_same (same_V k3))) (t2.of_same (same_V k3)) (.bl _)⟩⟩
          · cases ee
        · cases ee
      · cases ee
    · cases ee
  · cases ee
theorem keqG (hh : HasEq2 X.prog X.w X.K X.mg X.base k m) (hl : ∀ ds n, ds.length ≠ 2 → m ds n = none) (hr : Room j X.A) (ha : ME X a fa) (hb : ME X b fb) (hk : Nat.ble k j = true := by kernel_rfl) (hm : behindInMarks .Eq b = false := by kernel_rfl) : ME X (.Compare a [.Eq] [b] pos) (eEqG false m fa fb) := by
  obtain ⟨f, fd, ps, F, hM, hB⟩ := hh.ex
  exact pe_imp (pe_cmpR (op_eqQ F hM hh.nf hh.nl hh.nn (hr.mono (Nat.le_of_ble_eq_true hk)) hB) ha hb hm) (tEqG_of hl)
theorem kneG (hh : HasEq2 X.prog X.w X.K X.mg X.base k m) (hl : ∀ ds n, ds.length ≠ 2 → m ds n = none) (hr : Room j X.A) (ha : ME X a fa) (hb : ME X b fb) (hk : Nat.ble (k + 1) j = true := by kernel_rfl) (hm : behindInMarks .NotEq b = false := by kernel_rfl) : ME X (.Compare a [.NotEq] [b] pos) (eEqG true m fa fb) := by
  obtain ⟨f, fd, ps, F, hM, hB⟩ := hh.ex
  exact pe_imp (pe_cmpR (op_neQ F hM hh.nf hh.nl hh.nn hh.ne hh.ob (hr.mono (Nat.le_of_ble_eq_true hk)) hB) ha hb hm) (tNeG_of hl)
theorem kteqG (hh : HasEq2 X.prog X.w X.K X.mg X.base k m) (hl : ∀ ds n, ds.length ≠ 2 → m ds n = none) (hr : Room j X.A) (ha : ME X a fa) (hb : ME X b fb) (hk : Nat.ble k j = true := by kernel_rfl) (hm : behindInMarks .Eq b = false := by kernel_rfl) : MT X (.Compare a [.Eq] [b] pos) (bV (eEqG false m fa fb)) := by
  obtain ⟨f, fd, ps, F, hM, hB⟩ := hh.ex
  refine pt_imp (pt_cmpR (op_eqQ F hM hh.nf hh.nl hh.nn (hr.mono (Nat.le_of_ble_eq_true hk)) hB) ha hb hm) fun σ H Q q => ?_
  obtain ⟨ω, env, n, d, n', R, t, e, k⟩ := q
  unfold bV at e
  split at e
  · rename_i b n1 h1
    cases e
    refine tEqG_of hl σ H _ (tM_run R t h1 fun v ω1 H1 k1 R1 t1 r1 => ?_)
    cases r1
    exact ⟨_, rfl, k ω1 H1 k1 t1⟩
  · cases e
theorem ktneG (hh : HasEq2 X.prog X.w X.K X.mg X.base k m) (hl : ∀ ds n, ds.length ≠ 2 → m ds n = none) (hr : Room j X.A) (ha : ME X a fa) (hb : ME X b fb) (hk : Nat.ble (k + 1) j = true := by kernel_rfl) (hm : behindInMarks .NotEq b = false := by kernel_rfl) : MT X (.Compare a [.NotEq] [b] pos) (bV (eEqG true m fa fb)) := by
  obtain ⟨f, fd, ps, F, hM, hB⟩ := hh.ex
  refine pt_imp (pt_cmpR (op_neQ F hM hh.nf hh.nl hh.nn hh.ne hh.ob (hr.mono (Nat.le_of_ble_eq_true hk)) hB) ha hb hm) fun σ H Q q => ?_
  obtain ⟨ω, env, n, d, n', R, t, e, k⟩ := q
  unfold bV at e
  split at e
  · rename_i b n1 h1
    cases e
    refine tNeG_of hl σ H _ (tM_run R t h1 fun v ω1 H1 k1 R1 t1 r1 => ?_)
    cases r1
    exact ⟨_, rfl, k ω1 H1 k1 t1⟩
  · cases e
end
/-! ### str(p) by the own __str__ -/
structure HasStr (P : Program) (w : World) (K : PySem.W.Frag) (mg : Str → Option Value) (base : Heap) (k : Nat) (m : Fn) : Prop where
  ex : ∃ (f : Addr) (fd : FuncData) (ps : List Str), FnOk P w K mg base (L2.CX P w) k f fd ps (spX K mg 1 false m) ∧ Meth K (clsA mg) "__str__" f ∧ Binds K fd ps []
def rStrP (C : Addr) (sp : Sp) : List V → Hp → VK → Prop := fun xs H Q => ∃ (a dx : Addr) (fs : List (Str × V)), xs = [.ref a] ∧ H a = some (.ins C dx fs) ∧ sp [.ref a] H (fun v H' => ∃ z, v = .str z ∧ Q (.str z) H') E0
section
variable {X : Cx} {k : Nat} {f C : Addr} {fd : FuncData} {ps : List Str} {sp : Sp}
theorem run_fn2 {CX : CXT} {E : XK} {pins : List (Addr × Obj)} {σ : L2.St} {H : Hp} {s : Shared} {Q : VK} {us : List Value} {vs : List V} (F : FnOk X.prog X.w X.K X.mg X.base CX k f fd ps sp) (hr : Room (k + 2) X.A) (hb : Binds X.K fd ps []) (hx : Passes CX X E)
    (I : Inv X pins σ H s) (r : Vals vs us) (h : sp vs H Q E) : wpAny (model X.prog X.w) X.A.in1.in1 (call (.ref f) us) (EP X pins σ Q) X.xe s := by
  have hl : us.length = ps.length := by rw [← r.length]; exact F.len _ _ _ _ h
  have b := hb s us I.kIn (by rw [List.append_nil]; exact hl)
  rw [List.append_nil] at b
  refine wpAny_call (codeAny_mono (F.run X.A.in1.in1 X.stack s H ⟨us, []⟩ us vs Q E hr.in1.in1 I.env0.in1.in1 b r h) fun r s' hq => ?_)
  cases r with
  | error e => exact hx pins σ H s e s' I hq
  | ok fl =>
    cases fl with
    | ret u => exact I.after hq
    | next => exact False.elim hq
    | brk => exact False.elim hq
    | cont => exact False.elim hq
theorem call_strP (F : FnOk X.prog X.w X.K X.mg X.base (L2.CX X.prog X.w) k f fd ps sp) (hm : Meth X.K C "__str__" f) (hr : Room (k + 2) X.A) (hb : Binds X.K fd ps []) : CallR X (.type "str") (rStrP C sp) := by
  intro pins s σ H xs us Q I r h
  obtain ⟨a, dx, fs, rfl, ha, q⟩ := h
  obtain ⟨u, rfl, ru⟩ : ∃ u, us = [u] ∧ RelV (.ref a) u := by
    cases r with
    | cons r1 rr => cases rr; exact ⟨_, rfl, r1⟩
  obtain rfl : u = Value.ref a := ru
  obtain ⟨mA, O, _⟩ := ins_get I.hok ha
  obtain ⟨od, J, _⟩ := O.look
  refine PySem.W.kso_call hr.in1.in1.units0 I.kIn J hm.at_ hm.fn (wpAny_mono (run_fn2 (us := [.ref a]) (vs := [.ref a]) F hr hb passL I (.cons rfl .nil) q) (fun v s' z => ?_) fun _ _ y => y)
  obtain ⟨y, H', I', ry, i, rfl, hq⟩ := z
  obtain ⟨t, rfl⟩ := (show ∃ t, v = Value.str i t from ry)
  exact ⟨.str i, H', I', ⟨_, rfl⟩, hq⟩
end
section
variable {X : Cx} {e : Expr} {pos p : Pos} {fo : FE} {j k : Nat} {m : Fn}
def eStrP (m : Fn) (fo : FE) : FE := fun env n => match fo env n with
  | some (d, n1) => if isPl n1 d then (match m [d] n1 with
    | some (.ok (.str z), n2) => some (.str z, n2)
    | _ => none) else none
  | none => none
theorem kstrP (hh : HasStr X.prog X.w X.K X.mg X.base k m) (hl : ∀ ds n, ds.length ≠ 1 → m ds n = none) (hr : Room j X.A) (hm : X.mg "str" = none) (he : ME X e fo) (hk : Nat.ble (k + 2) j = true := by kernel_rfl) (hg : X.env.kindOf "str" = some .globalImplicit := by kernel_rfl)
    (hs : starEach [e] X.env = (false, eval e X.env) :: starEach [] X.env := by kernel_rfl) (hpl : (backTo pos (starEach [] X.env)).any (·.1) = false := by kernel_rfl) :
    ME X (.Call (.Name "str" p) [e] [] pos) (eStrP m fo) := by
  obtain ⟨f, fd, ps, F, hM, hb⟩ := hh.ex
  refine pe_imp (pe_callTy (call_strP F hM (hr.mono (Nat.le_of_ble_eq_true hk)) hb) hg hm (by decide +kernel) (pa_cons he pa_nil hs) (by decide) (by decide) hs hpl) fun σ H Q q => ?_
  obtain ⟨ω, env, n, d, n', R, t, ee, k⟩ := q
  unfold eStrP at ee
  split at ee
  · rename_i d0 n1 h1
    split at ee
    · rename_i hp
      split at ee
      · rename_i z n2 h2
        cases ee
        refine tM_run R t h1 fun v ω1 H1 k1 R1 t1 r1 => ?_
        obtain ⟨a, dx, fs', rfl, h3, h4⟩ := isPl_ins r1 t1 hp
        have hC : ω1.C = clsA X.mg := R1.cl
        rw [hC] at h3
        refine ⟨a, dx, fs', rfl, h3, ω1, [d0], n1, _, _, R1.cl, .cons r1 .nil, m_len hl h2, t1, h2, fun v' ω' H' k3 t3 r3 _ => ?_⟩
        cases r3 with
        | str _ hz => exact ⟨z, rfl, k _ ω' H' (k1.trans k3) t3 (.str z hz)⟩
      · cases ee
    · cases ee
  · cases ee
end
/-! ### str(i), str(text), sep.join(list of texts) -/
def dStr : D → Option D
  | .int i => if i.natAbs.log2 < 1920 ∧ (toString i : Str).length ≤ lim then some (.str (toString i)) else none
  | .str x => some (.str x)
  | _ => none
theorem cr_str {X : Cx} : CallR X (.type "str") (fun xs H Q => (∃ i, xs = [.int i] ∧ i.natAbs.log2 < 1920 ∧ Q (.str (toString i)) H) ∨ ∃ a, xs = [.str a] ∧ Q (.str a) H) := CallR.or call_str_int SkE.call_str_str
theorem ok_str (K : PySem.W.Frag) : OkL K (fun xs H Q => (∃ i, xs = [.int i] ∧ i.natAbs.log2 < 1920 ∧ Q (.str (toString i)) H) ∨ ∃ a, xs = [.str a] ∧ Q (.str a) H) (c1 dStr) := by
  intro ω H xs ds d Q c r e k
  unfold c1 at e
  split at e
  · obtain ⟨v, rfl, h⟩ := rpl1 r
    unfold dStr at e
    split at e
    · split at e
      · rename_i hz
        cases e
        cases h
        exact .inl ⟨_, rfl, hz.1, k _ H (fun _ _ z => z) (.str _ (by rw [← lim_eq]; exact hz.2))⟩
      · cases e
    · cases e
      cases h with
      | str _ hz => exact .inr ⟨_, rfl, k _ H (fun _ _ z => z) (.str _ hz)⟩
    · cases e
  · cases e
def strs? : List D → Option (List Str)
  | [] => some []
  | .str x :: r => (strs? r).map (x :: ·)
  | _ :: _ => none
theorem strs_rp {K : PySem.W.Frag} {ω : Wd} {H : Hp} : ∀ {ds : List D} {vs : List V} {ys : List Str}, RpL K ω H vs ds → strs? ds = some ys → vs = ys.map V.str
  | _, _, _, .nil, e => by cases e; rfl
  | _, _, _, .cons (d := d) h r, e => by
    unfold strs? at e
    split at e
    · rename_i heq; cases heq
    · rename_i x q heq
      cases heq
      rw [Option.map_eq_some_iff] at e
      obtain ⟨zs, e1, rfl⟩ := e
      cases h
      rw [strs_rp r e1]
      rfl
    · cases e
def dJoin : D → D → Option D
  | .str a, .list ds => (match strs? ds with
    | some ys => if (ys.map (·.length)).sum + ys.length * a.length ≤ 16777216 ∧ (Str.join a ys).length ≤ lim then some (.str (Str.join a ys)) else none
    | none => none)
  | _, _ => none
theorem kjoin {X : Cx} {o e : Expr} {f g : FE} {apos pos : Pos} (ho : ME X o f) (he : ME X e g) (hs : starEach [e] X.env = [(false, eval e X.env)] := by kernel_rfl) (hbase : attributeBase o "join" X.env (eval o X.env) = eval o X.env := by kernel_rfl) (hline : (apos.endLine == pos.line) = true := by kernel_rfl) :
    ME X (.Call (.Attribute o "join" apos) [e] [] pos) (e2 dJoin f g) := by
  refine pe_imp (pe_join ho he hs hbase hline) fun σ H Q q => ?_
  obtain ⟨ω, env, n, d, n', R, t, ee, k⟩ := q
  obtain ⟨x, y, n1, h1, h2, h3⟩ := e2_inv ee
  refine tM_run R t h1 fun v ω1 H1 k1 R1 t1 r1 => ?_
  unfold dJoin at h3
  split at h3
  · rename_i a ds
    split at h3
    · rename_i ys hy
      split at h3
      · rename_i hz
        cases h3
        cases r1
        refine ⟨⟨_, rfl⟩, tM_run R1 t1 h2 fun u ω2 H2 k2 R2 t2 r2 => ?_⟩
        cases r2 with
        | lst g1 _ _ rl =>
          have e := strs_rp rl hy
          subst e
          exact ⟨_, _, ys, rfl, rfl, .inl (SqL.of g1), hz.1, by
            rw [TL.join_eq] <;> exact k _ ω2 H2 (k1.trans k2) t2 (.str _ (by rw [← lim_eq]; exact hz.2))⟩
      · cases h3
    · cases h3
  · cases h3


/-! ### an expression that may raise, as a statement -/
def sEx (g : FX) : FS := fun S n => match g (frzE S) n with
  | some (.ok _, n1) => some (.nx S, n1)
  | some (.ex c, n1) => some (.ex c, n1)
  | none => none
theorem ms_ex {X : Cx} {W : WX} {e : Expr} {pos : Pos} {g : FX} (h : MX X W e g) (hs : swapsWith e none pos.line X.env = pure false := by kernel_rfl) : MS X W (.Expr e pos) (sEx g) := by
  refine ps_imp (ps_expr h hs) fun Dn σ H q => ?_
  obtain ⟨ω0, H0, ω, S, n, fl, n', ⟨o, R⟩, e, a⟩ := q
  unfold sEx at e
  split at e
  · rename_i d n1 h1
    cases e
    exact ⟨ω, frzE S, n, _, _, R.frz, R.town, h1, fun v ω' H' k1 t1 r1 => a _ σ H' o (R.extF k1 t1)⟩
  · rename_i c n1 h1
    cases e
    exact ⟨ω, frzE S, n, _, _, R.frz, R.town, h1, fun C ω' H' hC k1 t1 => a C σ ω' H' hC (R.ext.trans k1) t1⟩
  · cases e
/-! ### E.append(None), E a new list -/
def sAppTmp (f : Fe (List D)) : FS := fun S n => match f (frzE S) n with
  | some (ds, n1) => if ds.length < lim then some (.nx S, n1) else none
  | none => none
theorem ms_appTmp {X : Cx} {W : WX} {st : Stmt} {f : Fe (List D)} (h : PS X st (tDrop (tBM X.K "list" rAppend (tMF X.K (clsA X.mg) f) (tCons (tC .non) tNil)))) : MS X W st (sAppTmp f) := by
  refine ps_imp h fun Dn σ H q => ?_
  obtain ⟨ω0, H0, ω, S, n, fl, n', ⟨o, R⟩, e, a⟩ := q
  unfold sAppTmp at e
  split at e
  · rename_i ds n1 h1
    split at e
    · rename_i hl
      cases e
      refine ⟨ω, frzE S, n, ds, _, R.frz, R.town, h1, fun p xs ω' H' k t hp np hp' l r => ?_⟩
      refine ⟨.inl ⟨rfl, _, SqL.of hp'⟩, p, xs, .non, rfl, rfl, hp', by rw [← lim_eq, r.length]; exact hl, ?_⟩
      exact a _ σ _ o (R.extF (k.updNew hp) (t.updN (fun z => np (Wd.hasT z)) hp'))
    · cases e
  · cases e
/-- what the head says of the planners' class, for == and != -/
def plB2 (K : PySem.W.Frag) : Bool :=
  plB K && (PySem.W.notFirst K (He.ga K "Planner") (.type "list") && (PySem.W.notFirst K (He.ga K "Planner") (.type "NoneType") && (He.eqO (PySem.W.findIn K (.ref (He.ga K "Planner")) "__ne__") (some (some (.builtin "object.__ne__"))) && decide (PySem.W.mroIn K (He.ga K "Planner") (.type "object") = some true))))
structure PlE (K : PySem.W.Frag) : Prop where
  nl : PySem.W.notFirst K (He.ga K "Planner") (.type "list") = true
  nn : PySem.W.notFirst K (He.ga K "Planner") (.type "NoneType") = true
  ne : PySem.W.findIn K (.ref (He.ga K "Planner")) "__ne__" = some (some (.builtin "object.__ne__"))
  ob : PySem.W.mroIn K (He.ga K "Planner") (.type "object") = some true
theorem plB2_ok {K : PySem.W.Frag} (h : plB2 K = true) : plB K = true ∧ PlE K := by
  unfold plB2 at h
  simp only [Bool.and_eq_true, decide_eq_true_eq] at h
  obtain ⟨h1, h2, h3, h4, h5⟩ := h
  exact ⟨h1, h2, h3, He.eqO_ok h4, h5⟩


/-! ### texts: split, int, one sign in a text, slices, replace -/
theorem strs_new {K : PySem.W.Frag} {ω : Wd} {H : Hp} : ∀ {ys : List Str}, (ys.all fun y => decide (y.length ≤ lim)) = true → RpL K ω H (ys.map V.str) (ys.map PyData.str)
  | [], _ => .nil
  | y :: ys, h => by
    rw [List.all_cons, Bool.and_eq_true] at h
    exact .cons (.str y (by rw [← lim_eq]; exact of_decide_eq_true h.1)) (strs_new h.2)
def dSplit : D → D → Option D
  | .str a, .str b => if (b.length == 0) = false ∧ a.length + 2 ≤ lim ∧ (Txt.split a b).length ≤ lim ∧ ((Txt.split a b).all fun y => decide (y.length ≤ lim)) = true then some (.list ((Txt.split a b).map .str)) else none
  | _, _ => none
theorem ksplit {X : Cx} {o e : Expr} {f g : FE} {apos pos : Pos} (ho : ME X o f) (he : ME X e g) (hs : starEach [e] X.env = [(false, eval e X.env)] := by kernel_rfl) (hbase : attributeBase o "split" X.env (eval o X.env) = eval o X.env := by kernel_rfl) (hline : (apos.endLine == pos.line) = true := by kernel_rfl) :
    ME X (.Call (.Attribute o "split" apos) [e] [] pos) (e2 dSplit f g) := by
  refine pe_imp (pe_split ho he hs hbase hline) fun σ H Q q => ?_
  obtain ⟨ω, env, n, d, n', R, t, ee, k⟩ := q
  obtain ⟨x, y, n1, h1, h2, h3⟩ := e2_inv ee
  refine tM_run R t h1 fun v ω1 H1 k1 R1 t1 r1 => ?_
  unfold dSplit at h3
  split at h3
  · rename_i a b
    split at h3
    · rename_i hz
      cases h3
      cases r1
      refine ⟨⟨_, rfl⟩, tM_run R1 t1 h2 fun u ω2 H2 k2 R2 t2 r2 => ?_⟩
      cases r2
      refine ⟨_, _, rfl, rfl, hz.1, by rw [← lim_eq]; exact hz.2.1, fun p hp => ?_⟩
      have s : Same H2 (upd H2 p (.lst ((Txt.split a b).map V.str))) := same_upd hp
      exact k _ ω2 _ ((k1.trans k2).trans (Ext.of_same s)) (t2.of_same s) (.lst upd_same (t2.ok.notIn hp) (by rw [List.length_map, ← lim_eq]; exact hz.2.2.1) (strs_new hz.2.2.2))
    · cases h3
  · cases h3
def dInt : D → Option D
  | .str a => (match PySem.intText? a with
    | some n => if a.length ≤ 640 then some (.int n) else none
    | none => none)
  | _ => none
theorem ok_int (K : PySem.W.Frag) : OkL K (fun xs H Q => ∃ a n, xs = [.str a] ∧ PySem.intText? a = some n ∧ a.length ≤ 640 ∧ Q (.int n) H) (c1 dInt) := by
  intro ω H xs ds d Q c r e k
  unfold c1 at e
  split at e
  · obtain ⟨v, rfl, h⟩ := rpl1 r
    unfold dInt at e
    split at e
    · split at e
      · rename_i hn
        split at e
        · rename_i hl
          cases e
          cases h
          exact ⟨_, _, rfl, hn, hl, k _ H (fun _ _ z => z) (.int _)⟩
        · cases e
      · cases e
    · cases e
  · cases e
def one? (x : Str) : Option Nat := match x.cps.toList with
  | [c] => some c
  | _ => none
theorem one_eq {x : Str} {c : Nat} (h : one? x = some c) : x = ⟨#[c]⟩ := by
  unfold one? at h
  split at h
  · rename_i d e
    cases h
    exact TL.ext_tl e
  · cases h
def dInS : D → D → Option D
  | .str w, .str z => (one? w).map fun c => .bool (decide (c ∈ z.cps.toList))
  | _, _ => none
def rInSg : R2 := fun x y H Q => ∃ (c : Nat) (z : Str), x = .str ⟨#[c]⟩ ∧ y = .str z ∧ Q (.bl (decide (c ∈ z.cps.toList))) H
theorem ok_inS (K : PySem.W.Frag) : Ok2 K rInSg dInS := by
  intro ω H x y d1 d2 d Q c r1 r2 e k
  unfold dInS at e
  split at e
  · rename_i w z
    rw [Option.map_eq_some_iff] at e
    obtain ⟨ch, h1, rfl⟩ := e
    cases r1
    cases r2
    exact ⟨ch, z, by rw [one_eq h1], rfl, k _ H (fun _ _ z => z) (.bl _)⟩
  · cases e
theorem op_inSg {X : Cx} : OpR X (compareOp .In) rInSg := op_in_sign
def dSlS : D → Option Int → Option Int → Option D
  | .str z, lo, hi => if z.length ≤ lim then some (.str (cutS z lo hi)) else none
  | _, _, _ => none
theorem ok_slS (K : PySem.W.Frag) : OkS K rSlS dSlS := by
  intro ω H x d d' lo hi Q c r e k
  unfold dSlS at e
  split at e
  · split at e
    · rename_i z _ _ hz
      cases e
      cases r with
      | str _ hl => exact ⟨_, rfl, hl, k _ H (fun _ _ z => z) (.str _ (Nat.le_trans (cutS_length _ _ _) hl))⟩
    · cases e
  · cases e
/-! a token is out -/
def PEK (X : Cx) (e : Expr) (t : TE) : Prop :=
  ∀ (pins : List (Addr × Obj)) (s : Shared) (σ : L2.St) (H : Hp) (Q : VK), Inv X pins σ H s → t σ H Q → wpAny (model X.prog X.w) X.A (eval e X.env) (fun v s1 => 1 ≤ s1.toks ∧ EP X pins σ Q v s1) X.xe s
section
variable {X : Cx} {a b e : Expr} {es : List Expr} {f g : FE} {fs : Fe (List D)} {pos p : Pos} {c : Str} {j : Nat}
theorem mek_opS {op : Operator} {r : R2} {F : D → D → Option D} (ho : OpR X (binaryOp op) r) (hF : Ok2 X.K r F) (ha : ME X a f) (hx : Nat.ble c.length sizeLine = true := by kernel_rfl) : PEK X (.BinOp a op (.Constant (.str c) j p) pos) (tM X.K (clsA X.mg) (e2 F f (eC (.str c)))) := by
  intro pins s σ H Q I h
  have h' := tOp_of (g := eC (.str c)) hF σ H Q h
  refine wpAny_BinOp (thn (ha.run pins s σ H _ I h') fun v s1 ⟨x, H1, I1, r1, q1⟩ => ?_)
  refine Calls.Constant_str ?_
  obtain ⟨ω, env, n, d, n', R, t, ee, k⟩ := q1
  cases ee
  have q2 := k (.str c) ω H1 Ext.refl t (.str c (Nat.le_of_ble_eq_true hx))
  refine wpAny_mono (PySem.wpAny_toks (ho pins { s1 with toks := s1.toks + 1 } σ H1 x (.str c) v (.str c s1.toks) Q (I1.tok _) r1 ⟨_, rfl⟩ q2)) (fun w s2 q => ?_) fun _ _ z => z.2
  have hk : s1.toks + 1 ≤ s2.toks := q.1
  exact ⟨by omega, q.2⟩
abbrev MET (X : Cx) (e : Expr) (f : FE) : Prop := PET X e (tM X.K (clsA X.mg) f)
abbrev MAT (X : Cx) (es : List Expr) (fs : Fe (List D)) : Prop := PAT X es (tMA X.K (clsA X.mg) fs)
theorem tA_of : ∀ σ H Q, tMA X.K (clsA X.mg) (aCons f fs) σ H Q → tCons (tM X.K (clsA X.mg) f) (tMA X.K (clsA X.mg) fs) σ H Q := by
  intro σ H Q q
  obtain ⟨ω, env, n, d, n', R, t, e, k⟩ := q
  unfold aCons at e
  split at e
  · rename_i x n1 h1
    split at e
    · rename_i y n2 h2
      cases e
      refine tM_run R t h1 fun v ω1 H1 k1 R1 t1 r1 => ?_
      refine tMA_run R1 t1 h2 fun u ω2 H2 k2 R2 t2 r2 => ?_
      exact k _ ω2 H2 (k1.trans k2) t2 (.cons (r1.ext k2) r2)
    · cases e
  · cases e
theorem mat_nil : MAT X [] aNil := fun pos pins s σ H Q _ I h => (ma_nil (X := X)).run pos pins s σ H Q I h
theorem met_of (h : ME X e f) : MET X e f := CwR.PET.of h
theorem kaconsT (ha : MET X e f) (hr : MAT X es fs) (hs : starEach (e :: es) X.env = (false, eval e X.env) :: starEach es X.env := by kernel_rfl) : MAT X (e :: es) (aCons f fs) := fun pos pins s σ H Q h0 I h => pat_cons ha hr hs pos pins s σ H Q h0 I (tA_of σ H Q h)
/-- behind this item a token is out -/
theorem kaconsK (ha : PEK X e (tM X.K (clsA X.mg) f)) (hr : MAT X es fs) (hs : starEach (e :: es) X.env = (false, eval e X.env) :: starEach es X.env := by kernel_rfl) : MA X (e :: es) (aCons f fs) := by
  refine pa_imp (t := tCons (tM X.K (clsA X.mg) f) (tMA X.K (clsA X.mg) fs)) ⟨fun pos pins s σ H Q I h => ?_⟩ tA_of
  rw [hs]
  show wpAny _ _ (spliced ((false, eval e X.env) :: backTo pos (starEach es X.env))) _ _ s
  refine Calls.spliced_cons (thn (ha pins s σ H _ I h) fun u s1 ⟨h1, x, H1, I1, r1, q1⟩ => ?_)
  exact thn (hr pos pins s1 σ H1 _ h1 I1 q1) fun us s2 ⟨xs, H2, I2, r2, q2⟩ => ⟨x :: xs, H2, I2, .cons r1 r2, q2⟩
theorem met_op {op : Operator} {r : R2} {F : D → D → Option D} (ho : OpR X (binaryOp op) r) (hF : Ok2 X.K r F) (ha : MET X a f) (hb : MET X b g) : MET X (.BinOp a op b pos) (e2 F f g) := fun pins s σ H Q h0 I h => CwR.pet_op ho ha hb pins s σ H Q h0 I (tOp_of hF σ H Q h)
def dRepl (y z : Str) : D → Option D
  | .str x => if x.length + (x.length + 1) * z.length ≤ 16777216 ∧ (Txt.replace x y z).length ≤ lim then some (.str (Txt.replace x y z)) else none
  | _ => none
theorem krepl {o : Expr} {y z : Str} {k : Nat} {c0 c1 apos : Pos} (ho : ME X o f) (hyz : (y == z) = false := by kernel_rfl)
    (hst : starEach [.Constant (.str y) j c0, .Constant (.str z) k c1] X.env = [(false, eval (.Constant (.str y) j c0) X.env), (false, eval (.Constant (.str z) k c1) X.env)] := by kernel_rfl)
    (hbase : attributeBase o "replace" X.env (eval o X.env) = eval o X.env := by kernel_rfl) (hline : (apos.endLine == pos.line) = true := by kernel_rfl) :
    MET X (.Call (.Attribute o "replace" apos) [.Constant (.str y) j c0, .Constant (.str z) k c1] [] pos) (e1 (dRepl y z) f) := fun pins s σ H Q h0 I h => by
  refine CwR.pet_replC ho hyz hst hbase hline pins s σ H Q h0 I ?_
  obtain ⟨ω, env, n, d, n', R, t, ee, kk⟩ := h
  unfold e1 at ee
  split at ee
  · rename_i x n1 h1
    refine tM_run R t h1 fun v ω1 H1 k1 R1 t1 r1 => ?_
    unfold dRepl at ee
    split at ee
    · split at ee
      · rename_i hz
        cases ee
        cases r1
        exact ⟨_, rfl, hz.1, kk _ ω1 H1 k1 t1 (.str _ (by rw [← lim_eq]; exact hz.2))⟩
      · cases ee
    · cases ee
  · cases ee
end


/-! ### dicts as cells: keys are tuples of ints and of such tuples -/
def dGet (kvs : List (D × D)) (k : D) : Option D := (kvs.find? fun p => decide (nk p.1 = nk k)).map (·.2)
def dPut (kvs : List (D × D)) (k v : D) : List (D × D) := if (dGet kvs k).isSome then kvs.map (fun p => if nk p.1 = nk k then (p.1, v) else p) else kvs ++ [(k, v)]
section
variable {P : Program} {w : World} {H H' : Hp} {h : Heap}
mutual
theorem key_is (ok : HOk P w H h) : ∀ {v : V} {d : D} {u : Value}, Rt H v d → isKey d = true → RelV v u → NestedIs h (nk d) u
  | _, _, u, .int i, _, r => by
    obtain ⟨t, rfl⟩ := r
    rw [nk]
    exact .int i t
  | _, _, u, .tup (a := a) (xs := xs) (ds := ds) e _ rl, c, r => by
    obtain rfl : u = Value.ref a := r
    obtain ⟨_, its, rv, o, h1, h2, n, h3⟩ := (show ObjOk P w H h a (.tup xs) from ok a _ e)
    rw [nk]
    exact .tup h1 h2 h3 (by simpa using keys_are ok rl (by rw [isKey] at c; exact c) rv)
  | _, _, _, .non, c, _ => by simp [isKey] at c
  | _, _, _, .bl _, c, _ => by simp [isKey] at c
  | _, _, _, .str _ _, c, _ => by simp [isKey] at c
theorem keys_are (ok : HOk P w H h) : ∀ {vs : List V} {ds : List D} {us : List Value}, RtL H vs ds → isKeyL ds = true → Vals vs us → NestedAll h (nkL ds) us
  | _, _, _, .nil, _, r => by cases r; rw [nkL]; exact .nil
  | _, _, _, .cons a b, c, r => by
    rw [isKeyL, Bool.and_eq_true] at c
    cases r with
    | cons r1 r2 =>
      rw [nkL]
      exact .cons (key_is ok a c.1 r1) (keys_are ok b c.2 r2)
end
mutual
theorem hash_any (w w' : World) : ∀ (d : D), isKey d = true → (nk d).hash w = (nk d).hash w'
  | .int i, _ => by rw [nk, NestedKey.hash, NestedKey.hash]
  | .tuple ds, c => by
    rw [isKey] at c
    rw [nk, NestedKey.hash, NestedKey.hash, hashes_any w w' ds c]
  | .none, c => by simp [isKey] at c
  | .bool _, c => by simp [isKey] at c
  | .str _, c => by simp [isKey] at c
  | .list _, c => by simp [isKey] at c
  | .dict _, c => by simp [isKey] at c
theorem hashes_any (w w' : World) : ∀ (ds : List D), isKeyL ds = true → NestedKey.hashes w (nkL ds) = NestedKey.hashes w' (nkL ds)
  | [], _ => by rw [nkL, NestedKey.hashes, NestedKey.hashes]
  | d :: ds, c => by
    rw [isKeyL, Bool.and_eq_true] at c
    rw [nkL, NestedKey.hashes, NestedKey.hashes, hash_any w w' d c.1, hashes_any w w' ds c.2]
end
theorem keyOk_key {d : D} (h : keyOk d = true) : isKey d = true ∧ (nk d).depth ≤ 8 := by
  unfold keyOk at h
  split at h
  · rw [Bool.and_eq_true] at h
    exact ⟨by rw [isKey]; exact h.1, of_decide_eq_true h.2⟩
  · cases h
theorem keyN (ok : HOk P w H h) {b : Addr} {k : D} (r : Rt H (.ref b) k) (hk : keyOk k = true) : (nestedKind P w).is h (nk k) b := ⟨key_is ok r (keyOk_key hk).1 rfl, (keyOk_key hk).2⟩
/-- the entries, with their keys' addresses -/
inductive XR (H : Hp) : List (NestedKey × Addr × Value) → List (D × D) → Prop where
  | nil : XR H [] []
  | cons {b : Addr} {u : Value} {v : V} {k d : D} {xs : List (NestedKey × Addr × Value)} {kvs : List (D × D)} : Rt H (.ref b) k → keyOk k = true → RelV v u → Rt H v d → XR H xs kvs → XR H ((nk k, b, u) :: xs) ((k, d) :: kvs)
theorem EntR.xr : ∀ {L : List DictEntry} {kvs : List (D × D)}, EntR H L kvs → ∃ xs, XR H xs kvs ∧ L = xs.map (entryOfKey (nestedKind P w))
  | _, _, .nil => ⟨[], .nil, rfl⟩
  | _, _, .cons (b := b) (u := u) (k := k) a r c rv rd t => by
    obtain ⟨xs, h1, h2⟩ := EntR.xr t
    refine ⟨(nk k, b, u) :: xs, .cons r c rv rd h1, ?_⟩
    rw [List.map_cons, ← h2, a w]
    rfl
theorem XR.ent : ∀ {xs : List (NestedKey × Addr × Value)} {kvs : List (D × D)}, XR H xs kvs → EntR H (xs.map (entryOfKey (nestedKind P w))) kvs
  | _, _, .nil => .nil
  | _, _, .cons (k := k) r c rv rd t => .cons (fun w' => hash_any w w' k (keyOk_key c).1) r c rv rd (XR.ent t)
theorem XR.keys : ∀ {xs : List (NestedKey × Addr × Value)} {kvs : List (D × D)}, XR H xs kvs → xs.map (·.1) = kvs.map fun p => nk p.1
  | _, _, .nil => rfl
  | _, _, .cons _ _ _ _ t => by rw [List.map_cons, List.map_cons, XR.keys t]
theorem XR.length {xs : List (NestedKey × Addr × Value)} {kvs : List (D × D)} (h : XR H xs kvs) : xs.length = kvs.length := by
  have := congrArg List.length h.keys
  simpa using this
theorem XR.is (ok : HOk P w H h) : ∀ {xs : List (NestedKey × Addr × Value)} {kvs : List (D × D)}, XR H xs kvs → ∀ x ∈ xs, (nestedKind P w).is h x.1 x.2.1
  | _, _, .nil, x, hx => by cases hx
  | _, _, .cons r c _ _ t, x, hx => by
    rcases List.mem_cons.mp hx with e | e
    · rw [e]; exact keyN ok r c
    · exact XR.is ok t x e
theorem XR.get {k : D} : ∀ {xs : List (NestedKey × Addr × Value)} {kvs : List (D × D)}, XR H xs kvs → (atKey xs (nk k) = none ∧ dGet kvs k = none) ∨ ∃ p d v, atKey xs (nk k) = some p ∧ dGet kvs k = some d ∧ RelV v p.2 ∧ Rt H v d
  | _, _, .nil => .inl ⟨rfl, rfl⟩
  | _, _, .cons (b := b) (u := u) (v := v) (k := k0) (d := d) (xs := xs) (kvs := kvs) r c rv rd t => by
    by_cases e : nk k0 = nk k
    · refine .inr ⟨(b, u), d, v, ?_, ?_, rv, rd⟩
      · simp [atKey, List.find?_cons, e]
      · simp [dGet, List.find?_cons, e]
    · have h1 : atKey ((nk k0, b, u) :: xs) (nk k) = atKey xs (nk k) := by simp [atKey, List.find?_cons, e]
      have h2 : dGet ((k0, d) :: kvs) k = dGet kvs k := by simp [dGet, List.find?_cons, e]
      rw [h1, h2]
      exact XR.get t
theorem XR.repl {k d : D} {v : V} {u : Value} (rv : RelV v u) (rd : Rt H v d) : ∀ {xs : List (NestedKey × Addr × Value)} {kvs : List (D × D)}, XR H xs kvs → XR H (xs.map (putAt (nk k) u)) (kvs.map fun p => if nk p.1 = nk k then (p.1, d) else p)
  | _, _, .nil => .nil
  | _, _, .cons (b := b) (u := u0) (k := k0) (d := d0) (xs := xs) (kvs := kvs) r c rv0 rd0 t => by
    have ih := XR.repl (k := k) rv rd t
    by_cases e : nk k0 = nk k
    · have e1 : putAt (nk k) u (nk k0, b, u0) = (nk k0, b, u) := by unfold putAt; rw [if_pos e]
      have e2 : (if nk k0 = nk k then (k0, d) else (k0, d0)) = (k0, d) := if_pos e
      rw [List.map_cons, List.map_cons, e1]
      show XR H _ ((if nk k0 = nk k then (k0, d) else (k0, d0)) :: _)
      rw [e2]
      exact .cons r c rv rd ih
    · have e1 : putAt (nk k) u (nk k0, b, u0) = (nk k0, b, u0) := by unfold putAt; rw [if_neg e]
      have e2 : (if nk k0 = nk k then (k0, d) else (k0, d0)) = (k0, d0) := if_neg e
      rw [List.map_cons, List.map_cons, e1]
      show XR H _ ((if nk k0 = nk k then (k0, d) else (k0, d0)) :: _)
      rw [e2]
      exact .cons r c rv0 rd0 ih
theorem XR.snoc {b : Addr} {k d : D} {v : V} {u : Value} (r : Rt H (.ref b) k) (c : keyOk k = true) (rv : RelV v u) (rd : Rt H v d) : ∀ {xs : List (NestedKey × Addr × Value)} {kvs : List (D × D)}, XR H xs kvs → XR H (xs ++ [(nk k, b, u)]) (kvs ++ [(k, d)])
  | _, _, .nil => .cons r c rv rd .nil
  | _, _, .cons a1 a2 a3 a4 t => .cons a1 a2 a3 a4 (XR.snoc r c rv rd t)
theorem XR.put {b : Addr} {k d : D} {v : V} {u : Value} {xs : List (NestedKey × Addr × Value)} {kvs : List (D × D)} (h : XR H xs kvs) (r : Rt H (.ref b) k) (c : keyOk k = true) (rv : RelV v u) (rd : Rt H v d) : XR H (storedH xs (nk k) b u) (dPut kvs k d) := by
  unfold storedH dPut
  rcases h.get (k := k) with ⟨h1, h2⟩ | ⟨p, d', v', h1, h2, _, _⟩
  · rw [h1, h2]
    simp only [Option.isSome_none, Bool.false_eq_true, if_false]
    exact h.snoc r c rv rd
  · rw [h1, h2]
    simp only [Option.isSome_some, if_true]
    exact h.repl rv rd
theorem XR.mono (m : ∀ a xs, H a = some (.tup xs) → H' a = some (.tup xs)) : ∀ {xs : List (NestedKey × Addr × Value)} {kvs : List (D × D)}, XR H xs kvs → XR H' xs kvs
  | _, _, .nil => .nil
  | _, _, .cons a b c d t => .cons (a.mono m) b c (d.mono m) (XR.mono m t)
theorem dPut_len (kvs : List (D × D)) (k d : D) : (dPut kvs k d).length ≤ kvs.length + 1 := by
  unfold dPut
  split
  · rw [List.length_map]; omega
  · rw [List.length_append]; exact Nat.le_refl _
/-- a dict in the heap -/
def DctAt (H : Hp) (a : Addr) (kvs : List (D × D)) : Prop := ∃ L, H a = some (dN a L) ∧ kvs.length ≤ sizeLine ∧ (a == sysModules) = false ∧ EntR H L kvs ∧ (kvs.map fun p => nk p.1).Nodup
theorem DctAt.of (ok : HOk P w H h) {a : Addr} {kvs : List (D × D)} (hd : DctAt H a kvs) : ∃ xs, XR H xs kvs ∧ h.DictOfH (nestedKind P w) a xs := by
  obtain ⟨L, e, _, _, r, nd⟩ := hd
  obtain ⟨xs, x1, x2⟩ := r.xr (P := P) (w := w)
  obtain ⟨⟨o, es, ep, q1, q2, q3, q4⟩, _, _⟩ := (show ObjOk P w H h a (dN a L) from ok a _ e)
  exact ⟨xs, x1, o, es, ep, q1, q2, q3, by rw [q4, x2], x1.is ok, by rw [x1.keys]; exact nd⟩
theorem dN_ok {a : Addr} {L : List DictEntry} {o : Obj} {es : Array DictEntry} {ep : Nat} (h1 : h.get? a = some o) (h2 : o.ExactDict) (h3 : o.data = .dict es ep) (h4 : es.toList = L) : ObjOk P w H h a (dN a L) :=
  ⟨⟨o, es, ep, h1, h2, h3, h4⟩, ⟨o, h1⟩, fun h1 h2 ⟨o, es, ep, q1, q2, q3, q4⟩ k => ⟨o, es, ep, k o q1, q2, q3, q4⟩⟩
end
section
variable {X : Cx}
theorem room_n {A : Around} (hu : A.units + 64 < cLine) : (nestedKind X.prog X.w).room A.in1 := by
  show A.in1.units + 8 < cLine
  have : A.in1.units = A.units + 1 := rfl
  omega
def rIxDN : R2 := fun x y H Q => ∃ (a b : Addr) (kvs : List (D × D)) (k d : D), x = .ref a ∧ y = .ref b ∧ DctAt H a kvs ∧ Rt H (.ref b) k ∧ keyOk k = true ∧ dGet kvs k = some d ∧ ∀ v, Rt H v d → Q v H
theorem ix_dN (hu : X.A.units + 64 < cLine) : IxR X rIxDN := by
  intro value slice pins s σ H x y v u Q I rx ry h hs
  obtain ⟨a, b, kvs, k, d, rfl, rfl, hd, rk, ck, hg, q⟩ := h
  cases rx
  cases ry
  obtain ⟨xs, x1, dd⟩ := hd.of I.hok
  rcases x1.get (k := k) with ⟨_, h2⟩ | ⟨p, d', v', h1, h2, rv, rd⟩
  · rw [h2] at hg; cases hg
  · rw [h2] at hg
    cases hg
    exact subscriptTail_builtinR (x := p.2) dd.typeIs slot_dict_getitem.lookup (wpAny_getItem_heap (Q := fun r s' => r = p.2 ∧ EP X pins σ Q r s') (room_n hu) (keyN I.hok rk ck) dd h1 ⟨rfl, v', H, I.tok _, rv, q v' rd⟩) hs
def rInN (neg : Bool) : R2 := fun x y H Q => ∃ (a b : Addr) (kvs : List (D × D)) (k : D), y = .ref a ∧ x = .ref b ∧ DctAt H a kvs ∧ Rt H (.ref b) k ∧ keyOk k = true ∧ Q (.bl (if neg then !(dGet kvs k).isSome else (dGet kvs k).isSome)) H
theorem get_isSome {H : Hp} {xs : List (NestedKey × Addr × Value)} {kvs : List (D × D)} {k : D} (x : XR H xs kvs) : (atKey xs (nk k)).isSome = (dGet kvs k).isSome := by
  rcases x.get (k := k) with ⟨h1, h2⟩ | ⟨p, d', v', h1, h2, _, _⟩ <;> rw [h1, h2] <;> rfl
theorem op_inN (hu : X.A.units + 64 < cLine) : OpR X (compareOp .In) (rInN false) := by
  intro pins s σ H x y v u Q I rx ry h
  obtain ⟨a, b, kvs, k, rfl, rfl, hd, rk, ck, q⟩ := h
  cases rx
  cases ry
  have hsys := hd
  obtain ⟨L, _, _, hsm, _, _⟩ := hsys
  obtain ⟨xs, x1, dd⟩ := hd.of I.hok
  refine wpAny_in_heap (room_n hu) (keyN I.hok rk ck) hsm dd ?_
  rw [get_isSome x1]
  exact ⟨.bl _, H, I.tok _, rfl, q⟩
theorem op_notInN (hu : X.A.units + 64 < cLine) : OpR X (compareOp .NotIn) (rInN true) := by
  intro pins s σ H x y v u Q I rx ry h
  obtain ⟨a, b, kvs, k, rfl, rfl, hd, rk, ck, q⟩ := h
  cases rx
  cases ry
  have hsys := hd
  obtain ⟨L, _, _, hsm, _, _⟩ := hsys
  obtain ⟨xs, x1, dd⟩ := hd.of I.hok
  refine wpAny_notIn_heap (room_n hu) (keyN I.hok rk ck) hsm dd ?_
  rw [get_isSome x1]
  exact ⟨.bl _, H, I.tok _, rfl, q⟩
end


mutual
theorem isKey_pf : ∀ (d : D), isKey d = true → pf d = true
  | .int _, _ => rfl
  | .tuple ds, c => by rw [isKey] at c; rw [pf]; exact isKeyL_pf ds c
  | .none, _ => rfl
  | .bool _, _ => rfl
  | .str _, _ => rfl
  | .list _, c => by simp [isKey] at c
  | .dict _, c => by simp [isKey] at c
theorem isKeyL_pf : ∀ (ds : List D), isKeyL ds = true → pfL ds = true
  | [], _ => rfl
  | d :: ds, c => by
    rw [isKeyL, Bool.and_eq_true] at c
    rw [pfL, isKey_pf d c.1, isKeyL_pf ds c.2]
    rfl
end
theorem keyOk_pf {d : D} (h : keyOk d = true) : pf d = true := isKey_pf d (keyOk_key h).1
theorem keyOk_ref {H : Hp} {v : V} {d : D} (r : Rt H v d) (h : keyOk d = true) : ∃ b, v = .ref b := by
  cases r with
  | tup _ _ _ => exact ⟨_, rfl⟩
  | _ => simp [keyOk] at h
theorem CellAt.dct {ω : Wd} {H : Hp} {k : Nat} {a : Addr} {kvs : List (D × D)} (h : CellAt ω H k a (.dct kvs)) : DctAt H a kvs := h.2
section
variable {X : Cx}
/-- {}: a new dict -/
def tDNewN : TE := fun _ H Q => ∀ p, H p = none → (p == sysModules) = false → Q (.ref p) (upd H p (dN p []))
theorem pe_dnewN {pos : Pos} : PE X (.Dict [] [] pos) tDNewN := ⟨fun pins s σ H Q I h =>
  wpAny_Dict_empty ⟨.ref s.heap.objs.size, _, I.laid (a := s.heap.objs.size) (o := dN s.heap.objs.size []) (t' := s.toks) (fun _ _ q => Heap.get?_push_of_some _ q) (Nat.le_refl _) (dN_ok (Heap.get?_push_size _ rfl) ⟨rfl, rfl, rfl⟩ rfl rfl), rfl, h _ (I.hok.fresh (Nat.le_refl _)) (beq_eq_false_iff_ne.mpr (Ne.symm (Nat.ne_of_lt I.big)))⟩⟩
def eNewD : FE := fun _ n => some (cref n.c.length, n.push (.dct []))
theorem me_newD {pos : Pos} : ME X (.Dict [] [] pos) eNewD := by
  refine pe_imp pe_dnewN fun σ H Q q => ?_
  obtain ⟨ω, env, n, d, n', R, t, e, k⟩ := q
  cases e
  intro p hp hs
  have s : Same H (upd H p (dN p [])) := same_upd hp
  refine k _ _ _ (((Ext.of_same s).root1 (p := p)).joinNew (S := fun a => a = p) fun a z => by rw [z]; exact hp) ?_ (.cell (root_push (t := t)))
  exact (t.of_same s).push (fun a z => by rw [z]; exact ⟨_, upd_same, trivial⟩) (fun a z => by rw [z]; exact t.ok.notIn hp) ⟨join_in rfl, [], upd_same, Nat.zero_le _, hs, .nil, List.nodup_nil⟩
/-! reading -/
def dctOf (n : Sn) : D → Option (List (D × D))
  | .dict [(.int k, .none)] => (match n.c[k.toNat]? with
    | some (.dct kvs) => some kvs
    | _ => none)
  | _ => none
theorem dctOf_at {K : PySem.W.Frag} {ω : Wd} {H : Hp} {n : Sn} {v : V} {d : D} {kvs : List (D × D)} (r : Rp K ω H v d) (t : Town ω n H) (h : dctOf n d = some kvs) : ∃ a, v = .ref a ∧ DctAt H a kvs := by
  unfold dctOf at h
  split at h
  · rename_i k
    cases r with
    | @cell a k' hr =>
      split at h
      · rename_i kvs' hc
        cases h
        exact ⟨a, rfl, (t.at hr hc).dct⟩
      · cases h
  · cases h
def eDGet (fr fk : FE) : FE := fun env n => match fr env n with
  | some (r, n1) => (match fk env n1 with
    | some (key, n2) => (match dctOf n2 r with
      | some kvs => if keyOk key then (dGet kvs key).map (fun d => (d, n2)) else none
      | none => none)
    | none => none)
  | none => none
theorem kdget {o i : Expr} {fr fk : FE} {pos : Pos} {j : Nat} (hr : Room j X.A) (ho : ME X o fr) (hi : ME X i fk) (hs : ∀ o' i', subscripted i false o' i' = operate [o', i'] (getItem o' i') := by intro _ _; kernel_rfl) : ME X (.Subscript o i pos) (eDGet fr fk) := by
  refine pe_imp (pe_ix (ix_dN hr.units) ho hi hs) fun σ H Q q => ?_
  obtain ⟨ω, env, n, d, n', R, t, ee, k⟩ := q
  unfold eDGet at ee
  split at ee
  · rename_i r n1 h1
    split at ee
    · rename_i key n2 h2
      split at ee
      · rename_i kvs h3
        split at ee
        · rename_i hk
          rw [Option.map_eq_some_iff] at ee
          obtain ⟨d', h4, e5⟩ := ee
          cases e5
          refine tM_run R t h1 fun v ω1 H1 k1 R1 t1 r1 => ?_
          refine tM_run R1 t1 h2 fun u ω2 H2 k2 R2 t2 r2 => ?_
          obtain ⟨a, rfl, hd⟩ := dctOf_at (r1.ext k2) t2 h3
          have rt := r2.rt (keyOk_pf hk)
          obtain ⟨b, rfl⟩ := keyOk_ref rt hk
          exact ⟨a, b, kvs, key, _, rfl, rfl, hd, rt, hk, h4, fun v' rv => k v' ω2 H2 (k1.trans k2) t2 rv.rp⟩
        · cases ee
      · cases ee
    · cases ee
  · cases ee
def eDIn (neg : Bool) (fk fr : FE) : FE := fun env n => match fk env n with
  | some (key, n1) => (match fr env n1 with
    | some (r, n2) => (match dctOf n2 r with
      | some kvs => if keyOk key then some (.bool (if neg then !(dGet kvs key).isSome else (dGet kvs key).isSome), n2) else none
      | none => none)
    | none => none)
  | none => none
theorem tDIn_of {neg : Bool} {fk fr : FE} : ∀ σ H Q, tM X.K (clsA X.mg) (eDIn neg fk fr) σ H Q → tOp (rInN neg) (tM X.K (clsA X.mg) fk) (tM X.K (clsA X.mg) fr) σ H Q := by
  intro σ H Q q
  obtain ⟨ω, env, n, d, n', R, t, ee, k⟩ := q
  unfold eDIn at ee
  split at ee
  · rename_i key n1 h1
    split at ee
    · rename_i r n2 h2
      split at ee
      · rename_i kvs h3
        split at ee
        · rename_i hk
          cases ee
          refine tM_run R t h1 fun v ω1 H1 k1 R1 t1 r1 => ?_
          refine tM_run R1 t1 h2 fun u ω2 H2 k2 R2 t2 r2 => ?_
          obtain ⟨a, rfl, hd⟩ := dctOf_at r2 t2 h3
          have rt := (r1.ext k2).rt (keyOk_pf hk)
          obtain ⟨b, rfl⟩ := keyOk_ref rt hk
          exact ⟨a, b, kvs, key, rfl, rfl, hd, rt, hk, k _ ω2 H2 (k1.trans k2) t2 (.bl _)⟩
        · cases ee
      · cases ee
    · cases ee
  · cases ee
theorem kdin {a b : Expr} {fk fr : FE} {pos : Pos} {j : Nat} (hr : Room j X.A) (ha : ME X a fk) (hb : ME X b fr) (hm : behindInMarks .In b = false := by kernel_rfl) : ME X (.Compare a [.In] [b] pos) (eDIn false fk fr) := pe_imp (pe_cmpR (op_inN hr.units) ha hb hm) tDIn_of
theorem kdnotin {a b : Expr} {fk fr : FE} {pos : Pos} {j : Nat} (hr : Room j X.A) (ha : ME X a fk) (hb : ME X b fr) (hm : behindInMarks .NotIn b = false := by kernel_rfl) : ME X (.Compare a [.NotIn] [b] pos) (eDIn true fk fr) := pe_imp (pe_cmpR (op_notInN hr.units) ha hb hm) tDIn_of
theorem ktdin {a b : Expr} {fk fr : FE} {pos : Pos} {j : Nat} (hr : Room j X.A) (ha : ME X a fk) (hb : ME X b fr) (hm : behindInMarks .In b = false := by kernel_rfl) : MT X (.Compare a [.In] [b] pos) (bV (eDIn false fk fr)) := by
  refine pt_imp (pt_cmpR (op_inN hr.units) ha hb hm) fun σ H Q q => ?_
  obtain ⟨ω, env, n, d, n', R, t, e, k⟩ := q
  unfold bV at e
  split at e
  · rename_i b n1 h1
    cases e
    refine tDIn_of σ H _ (tM_run R t h1 fun v ω1 H1 k1 R1 t1 r1 => ?_)
    cases r1
    exact ⟨_, rfl, k ω1 H1 k1 t1⟩
  · cases e
theorem ktdnotin {a b : Expr} {fk fr : FE} {pos : Pos} {j : Nat} (hr : Room j X.A) (ha : ME X a fk) (hb : ME X b fr) (hm : behindInMarks .NotIn b = false := by kernel_rfl) : MT X (.Compare a [.NotIn] [b] pos) (bV (eDIn true fk fr)) := by
  refine pt_imp (pt_cmpR (op_notInN hr.units) ha hb hm) fun σ H Q q => ?_
  obtain ⟨ω, env, n, d, n', R, t, e, k⟩ := q
  unfold bV at e
  split at e
  · rename_i b n1 h1
    cases e
    refine tDIn_of σ H _ (tM_run R t h1 fun v ω1 H1 k1 R1 t1 r1 => ?_)
    cases r1
    exact ⟨_, rfl, k ω1 H1 k1 t1⟩
  · cases e
/-! storing -/
def rSetDN : TSet := fun o i v H Q => ∃ (a b : Addr) (kvs : List (D × D)) (k d : D), o = .ref a ∧ i = .ref b ∧ DctAt H a kvs ∧ Rt H (.ref b) k ∧ keyOk k = true ∧ Rt H v d ∧ kvs.length < sizeLine ∧ ∀ L, DctAt (upd H a (dN a L)) a (dPut kvs k d) → Q (upd H a (dN a L))
theorem dPut_nd {kvs : List (D × D)} {k d : D} (h : (kvs.map fun p => nk p.1).Nodup) : ((dPut kvs k d).map fun p => nk p.1).Nodup := by
  unfold dPut
  split
  · rw [List.map_map]
    have e : (kvs.map ((fun p => nk p.1) ∘ fun p => if nk p.1 = nk k then (p.1, d) else p)) = kvs.map fun p => nk p.1 := List.map_congr_left fun p _ => by
      show nk (if nk p.1 = nk k then (p.1, d) else p).1 = nk p.1
      split <;> rfl
    rw [e]
    exact h
  · rename_i hn
    rw [List.map_append, List.nodup_append]
    refine ⟨h, by simp, fun x hx y hy e => ?_⟩
    have hy' : y = nk k := by simpa using hy
    subst hy'
    subst e
    obtain ⟨p, hp, e⟩ := List.mem_map.mp hx
    apply hn
    unfold dGet
    rw [Option.isSome_map, List.find?_isSome]
    exact ⟨p, hp, decide_eq_true e⟩
theorem set_dN (hu : X.A.units + 64 < cLine) : PSet X rSetDN := by
  intro pins s σ H o i v ov iv u Q I ro ri rv h
  obtain ⟨a, b, kvs, k, d, rfl, rfl, hd, rk, ck, rd, hl, q⟩ := h
  cases ro
  cases ri
  obtain ⟨L, e, hz, hsm, _, nd⟩ := id hd
  obtain ⟨xs, x1, dd⟩ := hd.of I.hok
  refine wpAny_setItem_heap (hsz := by rw [x1.length]; exact hz) (room_n hu) (keyN I.hok rk ck) dd fun h' dd' hs => ?_
  obtain ⟨ob, es, ep, hq, h2, h3, h4, _, h5⟩ := dd'
  have I' := d_write (t' := s.toks + (nestedKind X.prog X.w).draws (nk k)) (ob := dN a ((storedH xs (nk k) b u).map (entryOfKey (nestedKind X.prog X.w)))) I (by rw [e]; exact True.intro) hs ⟨ob, hq⟩ (dN_ok hq h2 h3 h4)
  have x2 : XR (upd H a (dN a ((storedH xs (nk k) b u).map (entryOfKey (nestedKind X.prog X.w))))) (storedH xs (nk k) b u) (dPut kvs k d) := (x1.put rk ck rv rd).mono fun c ys ec => by
    rw [upd_ne (ne_of ec e (fun z => nomatch z))]
    exact ec
  exact ⟨_, I', q _ ⟨_, upd_same, by have := dPut_len kvs k d; omega, hsm, x2.ent, dPut_nd nd⟩⟩
def sDPut (i : Nat) (fi fe : FE) : FS := fun S n => match fe (frzE S) n with
  | some (d, n1) => (match cellS S[i]? with
    | some k => (match fi (frzE S) n1 with
      | some (key, n2) => (match n2.c[k]? with
        | some (.dct kvs) => if pf d && keyOk key && decide (kvs.length < lim) then some (.nx S, n2.put k (.dct (dPut kvs key d))) else none
        | _ => none)
      | none => none)
    | none => none)
  | none => none
theorem ms_dput {W : WX} {st : Stmt} {i : Nat} {fi fe : FE} (h : PS X st (tAsg (tM X.K (clsA X.mg) fe) (gSub (tVar i) (tM X.K (clsA X.mg) fi) rSetDN))) : MS X W st (sDPut i fi fe) := by
  refine ps_imp h fun Dn σ H q => ?_
  obtain ⟨ω0, H0, ω, S, n, fl, n', ⟨o, R⟩, e, a⟩ := q
  unfold sDPut at e
  split at e
  · rename_i d n1 h1
    split at e
    · rename_i k hS
      split at e
      · rename_i key n2 h2
        split at e
        · rename_i kvs hc
          split at e
          · rename_i hp
            cases e
            simp only [Bool.and_eq_true] at hp
            obtain ⟨⟨hp, hk⟩, hl⟩ := hp
            have hl := of_decide_eq_true hl
            obtain ⟨p, hσ, hr⟩ := R.cellAt hS
            refine tM_run R.frz R.town h1 fun u ω1 H1 k1 R1 t1 r1 => ?_
            refine ⟨_, hσ, ?_⟩
            refine tM_run R1 t1 h2 fun u2 ω2 H2 k2 R2 t2 r2 => ?_
            have kk := k1.trans k2
            have hr2 := kk.root' hr
            have hcell := t2.at hr2 hc
            have hown : ω2.ow p = some k := hcell.1
            obtain ⟨L0, e0, _⟩ := hcell.dct
            have rt := r2.rt (keyOk_pf hk)
            obtain ⟨b, rfl⟩ := keyOk_ref rt hk
            refine ⟨p, b, kvs, key, d, rfl, rfl, hcell.dct, rt, hk, (r1.ext k2).rt hp, by rw [← lim_eq]; exact hl, fun L hD => ?_⟩
            obtain ⟨t3, k3⟩ := t2.put (k := k) (H' := upd H2 p (dN p L)) (fun b x hb hx => by rw [upd_ne (fun z => hb (by rw [z]; exact hown))]; exact hx) (fun b hb => by
              by_cases eb : b = p
              · rw [eb]; exact ⟨_, upd_same, trivial⟩
              · rw [upd_ne eb]; exact t2.ok.tin b (ω2.hT2 b k hb)) hr2 (c := .dct (dPut kvs key d)) ⟨hown, hD⟩
            exact a _ _ _ o (R.extF (kk.trans k3) t3)
          · cases e
        · cases e
      · cases e
    · cases e
  · cases e
/-! range(i, j, -1) -/
def dnD (i : Int) (n : Nat) : List D := (List.range n).map fun (k : Nat) => .int (i + (k : Int) * (-1))
def iR3 (fs : Fe (List D)) : Fe (List D) := fun env n => match fs env n with
  | some ([.int i, .int j, .int (-1)], n1) => if -(lim : Int) ≤ i ∧ i ≤ (lim : Int) ∧ -(lim : Int) ≤ j ∧ j ≤ (lim : Int) ∧ (i - j).toNat ≤ lim then some (dnD i (i - j).toNat, n1) else none
  | _ => none
theorem wk_down {K : PySem.W.Frag} {ω : Wd} {H1 : Hp} {i : Int} {n : Nat} (h : n ≤ sizeLine) : Wk K ω (Itc i (-1) n) (dnD i n) H1 := by
  have hlen : (dnD i n).length = n := by simp [dnD]
  refine ⟨by rw [hlen]; exact h, fun ω' H m c => ⟨fun k hk => ?_, ?_⟩⟩
  · rw [hlen] at hk
    refine ⟨hk, fun x H' y => ?_⟩
    obtain ⟨e, y⟩ := y
    subst e y
    exact ⟨fun _ _ z => z, _, by unfold dnD; rw [List.getElem?_map, List.getElem?_range hk]; rfl, .int _⟩
  · rw [hlen]
    exact Nat.le_refl _
theorem krange3 {tg e e2 e3 : Expr} {fs : Fe (List D)} {p pos : Pos} (hm : X.mg "range" = none) (ha : MA X [e, e2, e3] fs) (hg : X.env.kindOf "range" = some .globalImplicit := by kernel_rfl) (hs : starEach [e, e2, e3] X.env = (false, eval e X.env) :: starEach [e2, e3] X.env := by kernel_rfl) (hpl : (backTo pos (starEach [e2, e3] X.env)).any (·.1) = false := by kernel_rfl) : MI X tg (.Call (.Name "range" p) [e, e2, e3] [] pos) (iR3 fs) := by
  refine pi_imp (pi_range3 hg hm ha hs hpl) fun σ H R q => ?_
  obtain ⟨ω, env, n, ds, n', RR, t, e, k⟩ := q
  unfold iR3 at e
  split at e
  · rename_i i j n1 h1
    split at e
    · rename_i hj
      cases e
      refine tMA_run RR t h1 fun v ω1 H1 k1 R1 t1 r1 => ?_
      cases r1 with
      | cons r2 rr =>
        cases rr with
        | cons r3 rr =>
          cases rr with
          | cons r4 rr =>
            cases rr
            cases r2
            cases r3
            cases r4
            unfold lim at hj
            exact ⟨i, j, -1, (i - j).toNat, rfl, RgC.neg (by omega) (by omega) (by omega) (by omega), k _ _ H1 k1 t1 (wk_down (by rw [sizeLine_eq]; omega))⟩
    · cases e
  · cases e
end


/-! ### a planner is made, or an exception comes -/
section
variable {X : Cx} {k : Nat} {f C : Addr} {fd : FuncData} {ps : List Str} {sp : Sp} {E : L2.St → XK}
theorem run_makeS {pins : List (Addr × Obj)} {σ : L2.St} {H : Hp} {s : Shared} {Q : VK} {us : List Value} {vs : List V} (M : Mk X.K C f) (F : FnOk X.prog X.w X.K X.mg X.base (L2.CX X.prog X.w) k f fd ps sp) (hr : Room (k + 1) X.A) (hb : Binds X.K fd ps [])
    (hx : PassesAt (L2.CX X.prog X.w) X σ (E σ)) (I : Inv X pins σ H s) (r : Vals vs us)
    (h : ∀ x dx, H x = none → H dx = none → dx ≠ x → sp (.ref x :: vs) (upd (upd H dx (.own x)) x (.ins C dx [])) (fun v H2 => v = .non ∧ Q (.ref x) H2) (E σ)) :
    wpAny (model X.prog X.w) X.A (call (.ref C) us) (EP X pins σ Q) X.xe s := by
  have hq := h (s.heap.objs.size + 1) s.heap.objs.size (I.hok.fresh (Nat.le_succ _)) (I.hok.fresh (Nat.le_refl _)) (Nat.ne_of_lt (Nat.lt_succ_self _))
  have J := Inv.made (C := C) I
  have r2 : Vals (V.ref (s.heap.objs.size + 1) :: vs) (Value.ref (s.heap.objs.size + 1) :: us) := .cons rfl r
  have hl : (Value.ref (s.heap.objs.size + 1) :: us).length = ps.length := by rw [← r2.length]; exact F.len _ _ _ _ hq
  have bb := hb _ (Value.ref (s.heap.objs.size + 1) :: us) J.kIn (by rw [List.append_nil]; exact hl)
  rw [List.append_nil] at bb
  refine wpAny_call (make_map (f := f) I.kIn M.makes M.init (beq_iff_eq.mp M.fn) (codeAny_mono (F.run _ X.stack _ _ ⟨_, []⟩ _ _ _ (E σ) (hr.make C us []) (J.env0.make C us []) bb r2 hq) fun res s' hq' => ?_))
  cases res with
  | error e => exact hx pins _ _ e s' J hq'
  | ok fl =>
    cases fl with
    | ret u =>
      obtain ⟨v, H', I3, rv, ev, q3⟩ := J.after hq'
      subst ev
      exact ⟨rv, .ref _, H', I3, rfl, q3⟩
    | next => exact False.elim hq'
    | brk => exact False.elim hq'
    | cont => exact False.elim hq'
end
/-- the exception alone -/
def xMakeE (m : Fn) (fs : Fe (List D)) : FX := fun env n => match fs env n with
  | some ([d], n1) => (match m [d] n1 with
    | some (.ex c, n2) => some (.ex c, n2)
    | _ => none)
  | _ => none
theorem mx_makeE {X : Cx} {W : WX} {e : Expr} {fs : Fe (List D)} {pos p : Pos} {j k : Nat} {m : Fn} (hh : HasI X.prog X.w X.K X.mg X.base k m) (hr : Room j X.A) (tk : Takes X W) (ha : MA X [e] fs) (hk : Nat.ble (k + 1) j = true := by kernel_rfl) (hg : X.env.kindOf "Planner" = some .globalImplicit := by kernel_rfl)
    (he : starEach [e] X.env = (false, eval e X.env) :: starEach [] X.env := by kernel_rfl) (hpl : (backTo pos (starEach [] X.env)).any (·.1) = false := by kernel_rfl) :
    MX X W (.Call (.Name "Planner" p) [e] [] pos) (xMakeE m fs) := by
  obtain ⟨f, fd, ps, F, hM, hb⟩ := hh.ex
  refine ⟨fun pins s σ H Q I q => ?_⟩
  obtain ⟨ω, env, n, r, n', R, t, ee, kk⟩ := q
  unfold xMakeE at ee
  split at ee
  · rename_i d0 n1 h1
    split at ee
    · rename_i c n2 h2
      cases ee
      refine wpAny_Call_Name_kw (ld_glob I hg hh.gl ?_ (by decide))
      refine PySem.W.callWith_K (h₀ := X.base) I.ok.mod.kin hM.kp (thn (ha.run pos pins s σ H _ I (tMA_run R t h1 fun vs ω1 H1 k1 R1 t1 r1 => (⟨ω1, R1.cl, t1, r1, k1⟩ : (fun (vs : List V) (H1 : Hp) => ∃ ω1 : Wd, ω1.C = clsA X.mg ∧ Town ω1 n1 H1 ∧ RpL X.K ω1 H1 vs [d0] ∧ Ext ω H ω1 H1) vs H1))) fun us s1 ⟨vs, H1, I1, r1, q1⟩ => ⟨I1.kIn, ?_⟩) he hpl
      obtain ⟨ω1, hC, t1, rl, k1⟩ := q1
      refine run_makeS (E := WE W) hM F (hr.mono (Nat.le_of_ble_eq_true hk)) hb (passAt tk σ) I1 r1 fun x dx hx hdx hne => ?_
      obtain ⟨v, rfl, rv⟩ : ∃ v, vs = [v] ∧ Rp X.K ω1 H1 v d0 := by
        cases rl with
        | cons a b => cases b; exact ⟨_, rfl, a⟩
      have sm : Same H1 (upd (upd H1 dx (.own x)) x (.ins (clsA X.mg) dx [])) := fun b o hb => by
        rw [upd_ne (ne_of_none hb hx), upd_ne (ne_of_none hb hdx)]
        exact hb
      exact ⟨ω1, d0, n1, _, _, x, dx, v, rfl, hC, upd_same, t1.ok.notIn hx, rv.same sm, t1.of_same sm, h2, fun C' ω' H' hC' k2 t2 => kk C' ω' H' hC' (k1.trans ((Ext.of_same sm).trans k2)) t2⟩
    · cases ee
  · cases ee
/-! ### some = [f, g, ..]; return some[i](..) -/
def sCallV (v : Nat) (ms : List Fn) (fi : FE) (fs : Fe (List D)) : FS := fun S n => if v < S.length then sRetX2 (xCallAt ms fi fs) (S.set v none) n else none
section
variable {X : Cx} {W : WX} {e : Expr} {es ns : List Expr} {fs : Fe (List D)} {j k ar v : Nat} {ix : Expr} {fi : FE} {xs : List Str} {as : List Addr} {ms : List Fn}
/-- the call of a def out of a list in slot v -/
theorem pe_callV {ev : Expr} {sp' pos : Pos} (hh : Hass X.prog X.w X.K X.mg X.base k ar xs as ms) (hr : Room j X.A) (tk : Takes X W) (hv : PE X ev (tVar v)) (hi : ME X ix fi) (ha : MA X (e :: es) fs) (hk : Nat.ble k j = true := by kernel_rfl)
    (hs : ∀ o i, subscripted ix false o i = operate [o, i] (getItem o i) := by intro _ _; kernel_rfl) (he : starEach (e :: es) X.env = (false, eval e X.env) :: starEach es X.env := by kernel_rfl) (hpl : (backTo pos (starEach es X.env)).any (·.1) = false := by kernel_rfl)
    (hev : eval (.Call (.Subscript ev ix sp') (e :: es) [] pos) X.env = (do callWith pos (← eval (.Subscript ev ix sp') X.env) [] (backTo pos (starEach (e :: es) X.env)) (backToKw pos (keywordEach [] X.env))) := by kernel_rfl) :
    PE X (.Call (.Subscript ev ix sp') (e :: es) [] pos) (fun σ H Q => (∃ q, σ[v]? = some (some (.ref q)) ∧ H q = some (.lst (as.map V.ref)) ∧ ∃ (ω : Wd) (env : En) (n : Sn) (r : Rs) (n' : Sn), ¬ ω.T q ∧ RE X.K (clsA X.mg) ω env σ H ∧ Town ω n H ∧ xCallAt ms fi fs env n = some (r, n') ∧ RsK X.K X.mg W ω H σ n' Q r)) := by
  have hf : PE X (.Subscript ev ix sp') (tOp (rIxL X.K) (tVar v) (tM X.K (clsA X.mg) fi)) := pe_ix ix_list hv hi hs
  refine ⟨fun pins s σ H Q I z => ?_⟩
  obtain ⟨q, hσ, hq, ω, env, n, r, n', hT, R, t, e, k⟩ := z
  unfold xCallAt at e
  split at e
  · rename_i i n1 h1
    split at e
    · rename_i m hm
      split at e
      · rename_i hi0
        split at e
        · rename_i ds n2 h2
          obtain ⟨f, fd, ps, fr, ha1, F, hkp, hb, hl, hlen⟩ := hh.get hm
          have hlm : i.toNat < ms.length := (List.getElem?_eq_some_iff.mp hm).1
          refine Call_ (thn (hf.run pins s σ H (fun v H1 => v = .ref f ∧ ∃ ω1, Ext ω H ω1 H1 ∧ Town ω1 n1 H1) I ?_) fun v s1 ⟨x, H1, I1, r1, hx, ω1, k1, t1⟩ => ?_) hev
          · refine ⟨_, hσ, tM_run R t h1 fun u ω1 H1 k1 R1 t1 r1 => ?_⟩
            cases r1
            have hq1 : H1 q = some (.lst (as.map V.ref)) := (k1.mv.mv q _ hT hq).1
            refine ⟨q, as.map V.ref, i, .ref f, rfl, rfl, SqL.of hq1, ?_, rfl, ω1, k1, t1⟩
            unfold atI
            rw [List.length_map, ixN_nat hi0 (by rw [hlen]; exact hlm)]
            show (as.map V.ref)[i.toNat]? = _
            rw [List.getElem?_map, ha1]
            rfl
          · subst hx
            cases r1
            refine PySem.W.callWith_K (h₀ := X.base) I1.ok.mod.kin hkp (thn (ha.run pos pins s1 σ H1 _ I1 (tMA_run (R.ext k1 t1) t1 h2 fun vs ω2 H2 k2 R2 t2 r2 => (⟨ω2, R2.cl, t2, r2, k1.trans k2⟩ : (fun (vs : List V) (H2 : Hp) => ∃ ω2 : Wd, ω2.C = clsA X.mg ∧ Town ω2 n2 H2 ∧ RpL X.K ω2 H2 vs ds ∧ Ext ω H ω2 H2) vs H2))) fun us s2 ⟨vs, H2, I2, r2, q2⟩ => ⟨I2.kIn, ?_⟩) he hpl
            obtain ⟨ω2, hC, t2, rl, k2⟩ := q2
            exact run_fnS F (hr.mono (Nat.le_of_ble_eq_true hk)) hb (passAt tk σ) I2 r2 (sp_run hl hC t2 rl e k2 k)
        · cases e
      · cases e
    · cases e
  · cases e
theorem mss_callV {ev : Expr} {y : Str} {py lp sp' pos spos rpos : Pos} (hh : Hass X.prog X.w X.K X.mg X.base k ar xs as ms) (nn : NamesE xs ns) (hr : Room j X.A) (tk : Takes X W) (hset : PE X (.List ns lp) (tLst (tRefs as)) → PS X (.Assign [.Name y py] (.List ns lp) spos) (tAsg (tLst (tRefs as)) (gName v))) (hv : PE X ev (tVar v)) (hi : ME X ix fi) (ha : MA X (e :: es) fs) (hgn : gNames X ns = true := by kernel_rfl) (hsz : as.length ≤ sizeLine) (hk : Nat.ble k j = true := by kernel_rfl)
    (hs : ∀ o i, subscripted ix false o i = operate [o, i] (getItem o i) := by intro _ _; kernel_rfl) (he : starEach (e :: es) X.env = (false, eval e X.env) :: starEach es X.env := by kernel_rfl) (hpl : (backTo pos (starEach es X.env)).any (·.1) = false := by kernel_rfl)
    (hev : eval (.Call (.Subscript ev ix sp') (e :: es) [] pos) X.env = (do callWith pos (← eval (.Subscript ev ix sp') X.env) [] (backTo pos (starEach (e :: es) X.env)) (backToKw pos (keywordEach [] X.env))) := by kernel_rfl) :
    MSs X W [.Assign [.Name y py] (.List ns lp) spos, .Return (some (.Call (.Subscript ev ix sp') (e :: es) [] pos)) rpos] (sCallV v ms fi fs) := by
  refine pss_imp (pss_cons (hset (pe_lst (pa_refs (P := X.prog) (w := X.w) hh nn hgn))) (pss_one (ps_ret (pe_callV (W := W) hh hr tk hv hi ha hk hs he hpl hev)))) fun Dn σ H q => ?_
  obtain ⟨ω0, H0, ω, S, n, fl, n', ⟨o, R⟩, ee, a⟩ := q
  unfold sCallV at ee
  split at ee
  · rename_i hlen
    refine tRefs_run ⟨by rw [List.length_map]; exact hsz, fun q hq => ?_⟩
    have sm := same_upd (o := .lst (as.map V.ref)) hq
    have R2 : RS X.K (clsA X.mg) ω0 H0 ω (S.set v none) n (σ.set v (some (.ref q))) (upd H q (.lst (as.map V.ref))) o := (R.extF (Ext.of_same sm) (R.town.of_same sm)).wipe
    have hσ : (σ.set v (some (.ref q)))[v]? = some (some (.ref q)) := List.getElem?_set_self (by rw [← R.len]; exact hlen)
    unfold sRetX2 at ee
    split at ee
    · rename_i d n1 h1
      cases ee
      exact ⟨q, hσ, upd_same, ω, frzE (S.set v none), n, _, _, R.town.ok.notIn hq, R2.frz, R2.town, h1, fun u ω' H' k t r => a u ω' H' (R2.ext.trans k) t r⟩
    · rename_i c n1 h1
      cases ee
      exact ⟨q, hσ, upd_same, ω, frzE (S.set v none), n, _, _, R.town.ok.notIn hq, R2.frz, R2.town, h1, fun C ω' H' hC k t => a C _ ω' H' hC (R2.ext.trans k) t⟩
    · cases ee
  · cases ee
theorem kcallV (v : Nat) {ev : Expr} {y : Str} {py lp sp' pos spos rpos : Pos} (hh : ∃ as, Hass X.prog X.w X.K X.mg X.base k ar xs as ms) (nn : NamesE xs ns) (hr : Room j X.A) (tk : Takes X W) (hN : X.N.Nodup) (hv : PE X ev (tVar v)) (hi : ME X ix fi) (ha : MA X (e :: es) fs) (hy : X.N[v]? = some y := by kernel_rfl) (hx : locB X.env.scope y = true := by kernel_rfl) (hsw : swapsWith (.List ns lp) (some (.Name y py)) spos.line X.env = pure false := by kernel_rfl) (hf : (X.fn y || lclB X.env.scope y) = true := by kernel_rfl)
    (hlen : Nat.ble ms.length 1000 = true := by kernel_rfl) (hgn : gNames X ns = true := by kernel_rfl) (hk : Nat.ble k j = true := by kernel_rfl) (hs : ∀ o i, subscripted ix false o i = operate [o, i] (getItem o i) := by intro _ _; kernel_rfl) (he : starEach (e :: es) X.env = (false, eval e X.env) :: starEach es X.env := by kernel_rfl) (hpl : (backTo pos (starEach es X.env)).any (·.1) = false := by kernel_rfl)
    (hev : eval (.Call (.Subscript ev ix sp') (e :: es) [] pos) X.env = (do callWith pos (← eval (.Subscript ev ix sp') X.env) [] (backTo pos (starEach (e :: es) X.env)) (backToKw pos (keywordEach [] X.env))) := by kernel_rfl) :
    MSs X W [.Assign [.Name y py] (.List ns lp) spos, .Return (some (.Call (.Subscript ev ix sp') (e :: es) [] pos)) rpos] (sCallV v ms fi fs) := by
  obtain ⟨as, q⟩ := hh
  have hl := Nat.le_of_ble_eq_true hlen
  exact mss_callV q nn hr tk (fun h => ps_set hN hy (loc_of hx) h hsw (fn_of' hf)) hv hi ha hgn (by rw [q.len, sizeLine_eq]; omega) hk hs he hpl hev
/-- not reached -/
def sNone : FS := fun _ _ => none
theorem mss_none {st : List Stmt} : MSs X W st sNone := ⟨fun pins s σ H Dn I hw => by
  obtain ⟨_, _, _, _, _, _, _, _, e, _⟩ := hw
  cases e⟩
end


/-! ### sorted(..), so that it can be worked out -/
def leD : D → D → Bool := PySem.W.dataLe false id
theorem leD_tot : PySem.W.TotalLe leD := by unfold leD PySem.W.dataLe; exact PySem.W.sortLe_total _ _ _
def insD (a : D) : List D → List D
  | [] => [a]
  | b :: l => if leD a b then a :: b :: l else b :: insD a l
def isortD : List D → List D
  | [] => []
  | a :: l => insD a (isortD l)
theorem insD_mid (a : D) : ∀ {l1 l2 : List D}, (∀ b ∈ l1, leD a b = false) → (∀ b ∈ l2, leD a b = true) → insD a (l1 ++ l2) = l1 ++ a :: l2
  | [], [], _, _ => rfl
  | [], b :: l, _, h => by
    show (if leD a b then a :: b :: l else b :: insD a l) = _
    rw [if_pos (h b List.mem_cons_self)]
    rfl
  | b :: l1, l2, h1, h2 => by
    show (if leD a b then a :: b :: (l1 ++ l2) else b :: insD a (l1 ++ l2)) = _
    rw [h1 b List.mem_cons_self, if_neg Bool.false_ne_true, insD_mid a (fun c hc => h1 c (List.mem_cons_of_mem _ hc)) h2]
    rfl
theorem isortD_eq : ∀ ds : List D, isortD ds = sortD ds
  | [] => by unfold isortD sortD; simp
  | a :: l => by
    have tr : ∀ a b c : D, leD a b = true → leD b c = true → leD a c = true := fun a b c => leD_tot.trans a b c
    have to : ∀ a b : D, (leD a b || leD b a) = true := fun a b => by rw [Bool.or_eq_true]; exact leD_tot.total a b
    obtain ⟨l1, l2, h1, h2, h3⟩ := List.mergeSort_cons tr to a l
    have hs := List.pairwise_mergeSort tr to (a :: l)
    rw [h1] at hs
    have h4 : ∀ b ∈ l2, leD a b = true := fun b hb => (List.pairwise_cons.mp (List.pairwise_append.mp hs).2.1).1 b hb
    show insD a (isortD l) = (a :: l).mergeSort leD
    rw [h1, isortD_eq l, show sortD l = l.mergeSort leD from rfl, h2]
    exact insD_mid a (fun b hb => by simpa using h3 b hb) h4
def dSortedK (d : D) : Option D := (seq? d).bind fun ds => if sortB ds then some (.list (isortD ds)) else none
theorem dSortedK_eq (d : D) : dSortedK d = dSorted d := by
  unfold dSortedK dSorted
  congr 1
  funext ds
  rw [isortD_eq]
theorem ok_sortedK (K : PySem.W.Frag) : OkL K (rSortD K) (c1 dSortedK) := by
  have : c1 dSortedK = c1 dSorted := by unfold c1; funext xs; cases xs with
    | nil => rfl
    | cons x r => cases r with
      | nil => exact dSortedK_eq x
      | cons _ _ => rfl
  rw [this]
  exact ok_sorted K

theorem lim_val : lim = 16777216 := rfl
/-! ### expressions, step by step -/
section
variable {env : En} {n n1 n2 n3 : Sn}
theorem eVar_ok {i : Nat} {d : D} (h : env[i]? = some (some d)) : eVar i env n = some (d, n) := by unfold eVar; rw [h]
theorem eC_ok {d : D} : eC d env n = some (d, n) := rfl
theorem e1_ok {F : D → Option D} {f : FE} {x d : D} (h : f env n = some (x, n1)) (hF : F x = some d) : e1 F f env n = some (d, n1) := by unfold e1; rw [h]; simp only [hF, Option.map_some]
theorem e2_ok {F : D → D → Option D} {f g : FE} {x y d : D} (h : f env n = some (x, n1)) (h2 : g env n1 = some (y, n2)) (hF : F x y = some d) : e2 F f g env n = some (d, n2) := by unfold e2; rw [h]; simp only [h2, hF, Option.map_some]
theorem eL_ok {F : List D → Option D} {f : Fe (List D)} {xs : List D} {d : D} (h : f env n = some (xs, n1)) (hF : F xs = some d) : eL F f env n = some (d, n1) := by unfold eL; rw [h]; simp only [hF, Option.map_some]
theorem aNil_ok : aNil env n = some ([], n) := rfl
theorem aCons_ok {f : FE} {g : Fe (List D)} {x : D} {xs : List D} (h : f env n = some (x, n1)) (h2 : g env n1 = some (xs, n2)) : aCons f g env n = some (x :: xs, n2) := by unfold aCons; rw [h]; simp only [h2]
theorem c1_ok {F : D → Option D} {x d : D} (h : F x = some d) : c1 F [x] = some d := h
theorem dTup_ok {xs : List D} (h : xs.length ≤ 1000) : dTup xs = some (.tuple xs) := by unfold dTup; rw [if_pos (by rw [lim_val]; omega)]
theorem dLst_ok {xs : List D} (h : xs.length ≤ 1000) : dLst xs = some (.list xs) := by unfold dLst; rw [if_pos (by rw [lim_val]; omega)]
theorem eList_ok {f : Fe (List D)} {xs : List D} (h : f env n = some (xs, n1)) : eList f env n = some (.list xs, n1) := by unfold eList; rw [h]
theorem aLim_ok {f : Fe (List D)} {xs : List D} (h : f env n = some (xs, n1)) (hl : xs.length ≤ 1000) : aLim f env n = some (xs, n1) := by unfold aLim; rw [h]; simp only; rw [if_pos (by rw [lim_val]; omega)]
theorem aSeq_l {f : FE} {xs : List D} (h : f env n = some (.list xs, n1)) : aSeq (aCons f aNil) env n = some (xs, n1) := by unfold aSeq; rw [aCons_ok h aNil_ok]
theorem aSeq_t {f : FE} {xs : List D} (h : f env n = some (.tuple xs, n1)) : aSeq (aCons f aNil) env n = some (xs, n1) := by unfold aSeq; rw [aCons_ok h aNil_ok]
theorem aCat_ok {f g : FE} {xs ys : List D} (h : f env n = some (.list xs, n1)) (h2 : g env n1 = some (.list ys, n2)) (hl : xs.length + ys.length ≤ lim) : aCat f g env n = some (xs ++ ys, n2) := by unfold aCat; rw [h]; simp only [h2]; rw [if_pos hl]
theorem eLc_ok {own : List Nat} {fi : Fe (List D)} {t : Tg} {ft : Fe Bool} {fe : FE} {items xs : List D} (h : fi env n = some (items, n1)) (h2 : lcGo (wipeE env own) t ft fe items n1 = some (xs, n2)) : eLc own fi t ft fe env n = some (xs, n2) := by unfold eLc; rw [h]; exact h2
theorem eLc2_ok {own : List Nat} {fi : Fe (List D)} {t : Tg} {fe : Fe (List D)} {items : List D} {xs : List (List D)} (h : fi env n = some (items, n1)) (h2 : lcGo2 (wipeE env own) t fe items n1 = some (xs, n2)) : eLc2 own fi t fe env n = some (xs, n2) := by unfold eLc2; rw [h]; exact h2
theorem iS_l {f : FE} {ds : List D} (h : f env n = some (.list ds, n1)) : iS f env n = some (ds, n1) := by unfold iS; rw [h]
theorem iS_t {f : FE} {ds : List D} (h : f env n = some (.tuple ds, n1)) : iS f env n = some (ds, n1) := by unfold iS; rw [h]
theorem iZ_t {f g : FE} {xs ys : List D} (h : f env n = some (.tuple xs, n1)) (h2 : g env n1 = some (.tuple ys, n2)) : iZ (aCons f (aCons g aNil)) env n = some (zipD xs ys, n2) := by unfold iZ; rw [aCons_ok h (aCons_ok h2 aNil_ok)]
theorem iZ_l {f g : FE} {xs ys : List D} (h : f env n = some (.list xs, n1)) (h2 : g env n1 = some (.list ys, n2)) : iZ (aCons f (aCons g aNil)) env n = some (zipD xs ys, n2) := by unfold iZ; rw [aCons_ok h (aCons_ok h2 aNil_ok)]
theorem iEn_t {f : FE} {xs : List D} (h : f env n = some (.tuple xs, n1)) : iEn (aCons f aNil) env n = some (enuD 0 xs, n1) := by unfold iEn; rw [aCons_ok h aNil_ok]
theorem iEn_l {f : FE} {xs : List D} (h : f env n = some (.list xs, n1)) : iEn (aCons f aNil) env n = some (enuD 0 xs, n1) := by unfold iEn; rw [aCons_ok h aNil_ok]
theorem eEnL_ok {f : FE} {xs : List D} (h : f env n = some (.tuple xs, n1)) : eEnL f env n = some (enuD 0 xs, n1) := by unfold eEnL; rw [h]
/-- 0, 1, .. as data -/
abbrev natD (i : Nat) : D := .int (i : Int)
theorem rngD_nat (c : Nat) : rngD 0 c = (List.range c).map natD := by
  unfold rngD
  apply List.map_congr_left
  intro i _
  rw [Int.zero_add]
theorem iR1_ok {f : FE} {c : Nat} (h : f env n = some (.int (c : Int), n1)) (hc : c ≤ lim) : iR1 (aCons f aNil) env n = some ((List.range c).map natD, n1) := by
  unfold iR1
  rw [aCons_ok h aNil_ok]
  simp only
  rw [if_pos (by omega), Int.toNat_natCast, rngD_nat]
theorem aRg_ok {f : FE} {c : Nat} (h : f env n = some (.int (c : Int), n1)) (hc : c ≤ 1000) : aRg f env n = some ((List.range c).map natD, n1) := by
  unfold aRg
  rw [h]
  simp only
  rw [if_pos (by omega)]
  unfold rgI natD
  rw [Int.toNat_natCast]
theorem bV_ok {f : FE} {b : Bool} (h : f env n = some (.bool b, n1)) : bV f env n = some (b, n1) := by unfold bV; rw [h]
theorem bYes_ok : bYes env n = some (true, n) := rfl
theorem bNot_ok {f : Fe Bool} {b : Bool} (h : f env n = some (b, n1)) : bNot f env n = some (!b, n1) := by unfold bNot; rw [h]
theorem eNot_ok {f : FE} {b : Bool} (h : f env n = some (.bool b, n1)) : eNot f env n = some (.bool (!b), n1) := by unfold eNot; rw [h]
theorem bAnd_f {f g : Fe Bool} (h : f env n = some (false, n1)) : bAnd f g env n = some (false, n1) := by unfold bAnd; rw [h]
theorem bAnd_t {f g : Fe Bool} {b : Bool} (h : f env n = some (true, n1)) (h2 : g env n1 = some (b, n2)) : bAnd f g env n = some (b, n2) := by unfold bAnd; rw [h]; exact h2
theorem bOr_t {f g : Fe Bool} (h : f env n = some (true, n1)) : bOr f g env n = some (true, n1) := by unfold bOr; rw [h]
theorem bOr_f {f g : Fe Bool} {b : Bool} (h : f env n = some (false, n1)) (h2 : g env n1 = some (b, n2)) : bOr f g env n = some (b, n2) := by unfold bOr; rw [h]; exact h2
theorem bAnd_ok {f g : Fe Bool} {a b : Bool} (h : f env n = some (a, n)) (h2 : a = true → g env n = some (b, n)) : bAnd f g env n = some (a && b, n) := by
  cases a with
  | false => exact bAnd_f h
  | true => exact bAnd_t h (h2 rfl)
theorem bOr_ok {f g : Fe Bool} {a b : Bool} (h : f env n = some (a, n)) (h2 : a = false → g env n = some (b, n)) : bOr f g env n = some (a || b, n) := by
  cases a with
  | true => exact bOr_t h
  | false => exact bOr_f h (h2 rfl)
theorem eAnd_f {f g : FE} (h : f env n = some (.bool false, n1)) : eAnd f g env n = some (.bool false, n1) := by unfold eAnd; rw [h]
theorem eAnd_t {f g : FE} {b : D} (h : f env n = some (.bool true, n1)) (h2 : g env n1 = some (b, n2)) : eAnd f g env n = some (b, n2) := by unfold eAnd; rw [h]; exact h2
theorem eAnd_ok {f g : FE} {a b : Bool} (h : f env n = some (.bool a, n)) (h2 : a = true → g env n = some (.bool b, n)) : eAnd f g env n = some (.bool (a && b), n) := by
  cases a with
  | false => exact eAnd_f h
  | true => exact eAnd_t h (h2 rfl)
theorem eOr_ok {f g : FE} {a b : Bool} (h : f env n = some (.bool a, n)) (h2 : a = false → g env n = some (.bool b, n)) : eOr f g env n = some (.bool (a || b), n) := by
  cases a with
  | true => unfold eOr; rw [h]; rfl
  | false => unfold eOr; rw [h]; exact h2 rfl
theorem eIf_t {c : Fe Bool} {f g : FE} {d : D} (h : c env n = some (true, n1)) (h2 : f env n1 = some (d, n2)) : eIf c f g env n = some (d, n2) := by unfold eIf; rw [h]; exact h2
theorem eIf_f {c : Fe Bool} {f g : FE} {d : D} (h : c env n = some (false, n1)) (h2 : g env n1 = some (d, n2)) : eIf c f g env n = some (d, n2) := by unfold eIf; rw [h]; exact h2
theorem eIf_ok {c : Fe Bool} {f g : FE} {b : Bool} {d e : D} (h : c env n = some (b, n1)) (h2 : b = true → f env n1 = some (d, n2)) (h3 : b = false → g env n1 = some (e, n2)) : eIf c f g env n = some (if b = true then d else e, n2) := by
  cases b with
  | true => exact eIf_t h (h2 rfl)
  | false => exact eIf_f h (h3 rfl)
theorem oNone_ok : oNone env n = some (none, n) := rfl
theorem oSome_ok {f : FE} {i : Int} (h : f env n = some (.int i, n1)) : oSome f env n = some (some i, n1) := by unfold oSome; rw [h]
theorem eSl_ok {F : D → Option Int → Option Int → Option D} {f : FE} {lo hi : Fe (Option Int)} {x d : D} {l r : Option Int} (h : f env n = some (x, n1)) (h2 : lo env n1 = some (l, n2)) (h3 : hi env n2 = some (r, n3)) (hF : F x l r = some d) : eSl F f lo hi env n = some (d, n3) := by unfold eSl; rw [h]; simp only [h2, h3, hF, Option.map_some]
theorem eChain_ok {F G : D → D → Option D} {f g h : FE} {x y z : D} {a b : Bool} (h1 : f env n = some (x, n)) (h2 : g env n = some (y, n)) (hF : F x y = some (.bool a)) (h3 : h env n = some (z, n)) (hG : G y z = some (.bool b)) : eChain F G f g h env n = some (.bool (a && b), n) := by
  unfold eChain
  rw [h1]
  simp only [h2, hF]
  cases a with
  | true => simp only [h3, hG, Option.map_some, Bool.true_and]
  | false => rfl
theorem eChain_f {F G : D → D → Option D} {f g h : FE} {x y : D} (h1 : f env n = some (x, n1)) (h2 : g env n1 = some (y, n2)) (hF : F x y = some (.bool false)) : eChain F G f g h env n = some (.bool false, n2) := by
  unfold eChain
  rw [h1]
  simp only [h2, hF]
theorem call_ok {m : Fn} {fs : Fe (List D)} {ds : List D} {d : D} (h : fs env n = some (ds, n1)) (hm : m ds n1 = some (.ok d, n2)) : eCall m fs env n = some (d, n2) := by unfold eCall; rw [h]; simp only [hm]
theorem callL_ok {m : Fn} {fs : Fe (List D)} {ds xs : List D} (h : fs env n = some (ds, n1)) (hm : m ds n1 = some (.ok (.list xs), n2)) : eCallL m fs env n = some (xs, n2) := by unfold eCallL; rw [h]; simp only [hm]
end
/-! ### comprehensions -/
section
variable {α : Type} {env : En} {t : Tg} {ft : Fe Bool} {fe : FE} {n : Sn}
theorem lc_gen (enc : α → D) (p : α → Bool) (g : α → D) : ∀ (xs : List α), (∀ x ∈ xs, ∃ e, bindE t (enc x) env = some e ∧ ft e n = some (p x, n) ∧ (p x = true → fe e n = some (g x, n))) → lcGo env t ft fe (xs.map enc) n = some ((xs.filter p).map g, n)
  | [], _ => rfl
  | x :: r, h => by
    obtain ⟨e, h1, h2, h3⟩ := h x List.mem_cons_self
    have ih := lc_gen enc p g r fun y hy => h y (List.mem_cons_of_mem _ hy)
    rw [List.map_cons, lcGo]
    simp only [h1, h2]
    cases hp : p x with
    | true => simp only [h3 hp, ih, List.filter_cons, hp, if_true, List.map_cons]
    | false => simp only [ih, List.filter_cons, hp]; rfl
theorem lc_all (enc : α → D) (g : α → D) (xs : List α) (h : ∀ x ∈ xs, ∃ e, bindE t (enc x) env = some e ∧ fe e n = some (g x, n)) : lcGo env t bYes fe (xs.map enc) n = some (xs.map g, n) := by
  have := lc_gen (ft := bYes) enc (fun _ => true) g xs fun x hx => by
    obtain ⟨e, h1, h2⟩ := h x hx
    exact ⟨e, h1, rfl, fun _ => h2⟩
  rwa [List.filter_eq_self.mpr (fun _ _ => rfl)] at this
theorem lc_map {i : Nat} (enc : α → D) (g : α → D) (xs : List α) (h : ∀ x ∈ xs, fe (env.set i (some (enc x))) n = some (g x, n)) : lcGo env (.nm i) bYes fe (xs.map enc) n = some (xs.map g, n) := lc_all enc g xs fun x hx => ⟨_, rfl, h x hx⟩
theorem lc_filter {i : Nat} (enc : α → D) (p : α → Bool) (g : α → D) (xs : List α) (h : ∀ x ∈ xs, ft (env.set i (some (enc x))) n = some (p x, n)) (h' : ∀ x ∈ xs, p x = true → fe (env.set i (some (enc x))) n = some (g x, n)) : lcGo env (.nm i) ft fe (xs.map enc) n = some ((xs.filter p).map g, n) := lc_gen enc p g xs fun x hx => ⟨_, rfl, h x hx, h' x hx⟩
theorem lc_mapD {i : Nat} (g : D → D) (xs : List D) (h : ∀ x ∈ xs, fe (env.set i (some x)) n = some (g x, n)) : lcGo env (.nm i) bYes fe xs n = some (xs.map g, n) := by
  have := lc_map (i := i) (fe := fe) (env := env) id g xs h
  rw [List.map_id] at this
  exact this
theorem lc_genD (p : D → Bool) (g : D → D) (xs : List D) (h : ∀ x ∈ xs, ∃ e, bindE t x env = some e ∧ ft e n = some (p x, n) ∧ (p x = true → fe e n = some (g x, n))) : lcGo env t ft fe xs n = some ((xs.filter p).map g, n) := by
  have := lc_gen (t := t) (ft := ft) (fe := fe) (env := env) (n := n) id p g xs h
  rw [List.map_id] at this
  exact this
theorem lc_allD (g : D → D) (xs : List D) (h : ∀ x ∈ xs, ∃ e, bindE t x env = some e ∧ fe e n = some (g x, n)) : lcGo env t bYes fe xs n = some (xs.map g, n) := by
  have := lc_all (t := t) (fe := fe) (env := env) (n := n) id g xs h
  rw [List.map_id] at this
  exact this
end
section
variable {α : Type} {env : En} {n n1 : Sn} {own : List Nat} {fi : Fe (List D)} {ft : Fe Bool} {fe : FE} {i : Nat} {t : Tg}
theorem eLc_map {enc g : α → D} {xs : List α} (hi : fi env n = some (xs.map enc, n1)) (h : ∀ x ∈ xs, fe ((wipeE env own).set i (some (enc x))) n1 = some (g x, n1)) : eLc own fi (.nm i) bYes fe env n = some (xs.map g, n1) := eLc_ok hi (lc_map enc g xs h)
theorem eLc_filter {enc g : α → D} {p : α → Bool} {xs : List α} (hi : fi env n = some (xs.map enc, n1)) (h : ∀ x ∈ xs, ft ((wipeE env own).set i (some (enc x))) n1 = some (p x, n1)) (h' : ∀ x ∈ xs, p x = true → fe ((wipeE env own).set i (some (enc x))) n1 = some (g x, n1)) : eLc own fi (.nm i) ft fe env n = some ((xs.filter p).map g, n1) := eLc_ok hi (lc_filter enc p g xs h h')
theorem eLc_mapD {g : D → D} {xs : List D} (hi : fi env n = some (xs, n1)) (h : ∀ x ∈ xs, fe ((wipeE env own).set i (some x)) n1 = some (g x, n1)) : eLc own fi (.nm i) bYes fe env n = some (xs.map g, n1) := eLc_ok hi (lc_mapD g xs h)
theorem eLc_all {enc g : α → D} {xs : List α} (hi : fi env n = some (xs.map enc, n1)) (h : ∀ x ∈ xs, ∃ e, bindE t (enc x) (wipeE env own) = some e ∧ fe e n1 = some (g x, n1)) : eLc own fi t bYes fe env n = some (xs.map g, n1) := eLc_ok hi (lc_all enc g xs h)
theorem eLc_gen {enc g : α → D} {p : α → Bool} {xs : List α} (hi : fi env n = some (xs.map enc, n1)) (h : ∀ x ∈ xs, ∃ e, bindE t (enc x) (wipeE env own) = some e ∧ ft e n1 = some (p x, n1) ∧ (p x = true → fe e n1 = some (g x, n1))) : eLc own fi t ft fe env n = some ((xs.filter p).map g, n1) := eLc_ok hi (lc_gen enc p g xs h)
theorem eLc_allD {g : D → D} {xs : List D} (hi : fi env n = some (xs, n1)) (h : ∀ x ∈ xs, ∃ e, bindE t x (wipeE env own) = some e ∧ fe e n1 = some (g x, n1)) : eLc own fi t bYes fe env n = some (xs.map g, n1) := eLc_ok hi (lc_allD g xs h)
end
/-! ### statements -/
def wp (f : FS) (S : Es) (n : Sn) (Q : Fl → Sn → Prop) : Prop := ∃ fl n', f S n = some (fl, n') ∧ Q fl n'
def seqQ (g : FS) (Q : Fl → Sn → Prop) : Fl → Sn → Prop
  | .nx S, n => wp g S n Q
  | fl, n => Q fl n
def loopQ (I : Es → Sn → Prop) (Q : Fl → Sn → Prop) : Fl → Sn → Prop
  | .nx S, n => I S n
  | .ct S, n => I S n
  | .bk S, n => Q (.nx S) n
  | fl, n => Q fl n
section
variable {f g : FS} {S S1 : Es} {n n1 n2 : Sn} {Q Q' : Fl → Sn → Prop}
theorem wp_mono (h : wp f S n Q) (i : ∀ fl n', Q fl n' → Q' fl n') : wp f S n Q' := by
  obtain ⟨fl, n', e, q⟩ := h
  exact ⟨fl, n', e, i fl n' q⟩
theorem wp_seq (h : wp f S n (seqQ g Q)) : wp (sSeq f g) S n Q := by
  obtain ⟨fl, n', e, q⟩ := h
  unfold wp sSeq
  rw [e]
  cases fl with
  | nx S' => exact q
  | bk S' => exact ⟨_, _, rfl, q⟩
  | ct S' => exact ⟨_, _, rfl, q⟩
  | rt d => exact ⟨_, _, rfl, q⟩
  | rf d => exact ⟨_, _, rfl, q⟩
  | rc k => exact ⟨_, _, rfl, q⟩
  | ex c => exact ⟨_, _, rfl, q⟩
theorem wp_skip (h : Q (.nx S) n) : wp sSkip S n Q := ⟨_, _, rfl, h⟩
theorem wp_break (h : Q (.bk S) n) : wp sBreak S n Q := ⟨_, _, rfl, h⟩
theorem wp_cont (h : Q (.ct S) n) : wp sCont S n Q := ⟨_, _, rfl, h⟩
theorem wp_ret {e : FE} {d : D} (h : e (frzE S) n = some (d, n1)) (q : Q (.rt d) n1) : wp (sRet e) S n Q := ⟨_, _, by unfold sRet; rw [h], q⟩
theorem wp_retF {e : Fe (List D)} {d : List D} (h : e (frzE S) n = some (d, n1)) (q : Q (.rf d) n1) : wp (sRetF e) S n Q := ⟨_, _, by unfold sRetF; rw [h], q⟩
theorem wp_retO {i : Nat} {d : List D} (h : S[i]? = some (some (.own d))) (q : Q (.rf d) n) : wp (sRetO i) S n Q := ⟨_, _, by unfold sRetO; rw [h], q⟩
theorem wp_retN (q : Q (.rt .none) n) : wp sRetN S n Q := ⟨_, _, rfl, q⟩
theorem wp_raise {c : Str} (q : Q (.ex c) n) : wp (sRaise c) S n Q := ⟨_, _, rfl, q⟩
theorem wp_if {c : Fe Bool} {b : Bool} (h : c (frzE S) n = some (b, n1)) (ht : b = true → wp f S n1 Q) (hf : b = false → wp g S n1 Q) : wp (sIf c f g) S n Q := by
  unfold wp sIf
  rw [h]
  cases b with
  | true => exact ht rfl
  | false => exact hf rfl
theorem wp_ift {c : Fe Bool} (h : c (frzE S) n = some (true, n1)) (ht : wp f S n1 Q) : wp (sIf c f g) S n Q := wp_if h (fun _ => ht) nofun
theorem wp_iff {c : Fe Bool} (h : c (frzE S) n = some (false, n1)) (hf : wp g S n1 Q) : wp (sIf c f g) S n Q := wp_if h nofun (fun _ => hf)
theorem wp_set {i : Nat} {e : FE} {d : D} (h : e (frzE S) n = some (d, n1)) (hl : lf d = true) (q : Q (.nx (S.set i (some (.val d)))) n1) : wp (sSet i e) S n Q := ⟨_, _, by unfold sSet; rw [h]; simp only [hl, if_true], q⟩
theorem wp_setH {i : Nat} {e : FE} {d : D} (h : e (hidE S) n = some (d, n1)) (q : Q (.nx (S.set i (some (.val d)))) n1) : wp (sSetH i e) S n Q := ⟨_, _, by unfold sSetH; rw [h], q⟩
theorem wp_own {i : Nat} {e : Fe (List D)} {d : List D} (h : e (frzE S) n = some (d, n1)) (hl : lfL d = true) (q : Q (.nx (S.set i (some (.own d)))) n1) : wp (sOwn i e) S n Q := ⟨_, _, by unfold sOwn; rw [h]; simp only [hl, if_true], q⟩
theorem wp_ownH {i : Nat} {e : Fe (List D)} {d : List D} (h : e (hidE S) n = some (d, n1)) (q : Q (.nx (S.set i (some (.own d)))) n1) : wp (sOwnH i e) S n Q := ⟨_, _, by unfold sOwnH; rw [h], q⟩
theorem wp_own2 {i : Nat} {e : Fe (List (List D))} {d : List (List D)} (h : e (hidE S) n = some (d, n1)) (q : Q (.nx (S.set i (some (.own2 d)))) n1) : wp (sOwn2 i e) S n Q := ⟨_, _, by unfold sOwn2; rw [h], q⟩
theorem wp_frz {i : Nat} (h : wp f (frzS i S) n Q) : wp (sFrz i f) S n Q := h
theorem wp_move {i j : Nat} {d : List D} (h : S[i]? = some (some (.own d))) (hij : i ≠ j) (q : Q (.nx ((S.set i none).set j (some (.own d)))) n) : wp (sMove i j) S n Q := ⟨_, _, by unfold sMove; rw [h]; simp only [if_neg hij], q⟩
theorem wp_app {i : Nat} {e : FE} {ds : List D} {d : D} (hS : S[i]? = some (some (.own ds))) (h : e (frzE S) n = some (d, n1)) (hl : lf d = true) (hd : ds.length < lim) (q : Q (.nx (S.set i (some (.own (ds ++ [d]))))) n1) : wp (sApp i e) S n Q := ⟨_, _, by unfold sApp; rw [hS]; simp only [h, hl, hd, decide_true, Bool.and_self, if_true], q⟩
theorem wp_appH {i : Nat} {e : FE} {ds : List D} {d : D} (hS : S[i]? = some (some (.own ds))) (h : e (hidE S) n = some (d, n1)) (hd : ds.length < lim) (q : Q (.nx (S.set i (some (.own (ds ++ [d]))))) n1) : wp (sAppH i e) S n Q := ⟨_, _, by unfold sAppH; rw [hS]; simp only [h, hd, decide_true, if_true], q⟩
theorem wp_ext {i : Nat} {e : FE} {ds es : List D} (hS : S[i]? = some (some (.own ds))) (h : e (frzE S) n = some (.list es, n1)) (hl : lfL es = true) (hd : ds.length + es.length ≤ lim) (q : Q (.nx (S.set i (some (.own (ds ++ es))))) n1) : wp (sExt i e) S n Q := ⟨_, _, by unfold sExt; rw [hS]; simp only [h, hl, hd, decide_true, Bool.and_self, if_true], q⟩
theorem wp_extH {i : Nat} {e : FE} {ds es : List D} (hS : S[i]? = some (some (.own ds))) (h : e (hidE S) n = some (.list es, n1)) (hd : ds.length + es.length ≤ lim) (q : Q (.nx (S.set i (some (.own (ds ++ es))))) n1) : wp (sExtH i e) S n Q := ⟨_, _, by unfold sExtH; rw [hS]; simp only [h, hd, decide_true, if_true], q⟩
theorem wp_callX {m : Fn} {fs : Fe (List D)} {ds : List D} {d : D} (h : fs (frzE S) n = some (ds, n1)) (hm : m ds n1 = some (.ok d, n2)) (q : Q (.nx S) n2) : wp (sCallX m fs) S n Q := ⟨_, _, by unfold sCallX; rw [h]; simp only [hm], q⟩
theorem wp_callXe {m : Fn} {fs : Fe (List D)} {ds : List D} {c : Str} (h : fs (frzE S) n = some (ds, n1)) (hm : m ds n1 = some (.ex c, n2)) (q : Q (.ex c) n2) : wp (sCallX m fs) S n Q := ⟨_, _, by unfold sCallX; rw [h]; simp only [hm], q⟩
theorem wp_retX {m : Fn} {fs : Fe (List D)} {ds : List D} {d : D} (h : fs (frzE S) n = some (ds, n1)) (hm : m ds n1 = some (.ok d, n2)) (q : Q (.rt d) n2) : wp (sRetX m fs) S n Q := ⟨_, _, by unfold sRetX; rw [h]; simp only [hm], q⟩
theorem wp_retXe {m : Fn} {fs : Fe (List D)} {ds : List D} {c : Str} (h : fs (frzE S) n = some (ds, n1)) (hm : m ds n1 = some (.ex c, n2)) (q : Q (.ex c) n2) : wp (sRetX m fs) S n Q := ⟨_, _, by unfold sRetX; rw [h]; simp only [hm], q⟩
theorem wp_aug {i : Nat} {e : FE} {o : Int → Int → Int} {x y : Int} (hS : S[i]? = some (some (.val (.int x)))) (h : e (frzE S) n = some (.int y, n1)) (q : Q (.nx (S.set i (some (.val (.int (o x y)))))) n1) : wp (sAug i e o) S n Q := ⟨_, _, by unfold sAug; rw [hS]; simp only [h], q⟩
theorem wp_par {i j : Nat} {fs : Fe (List D)} {d e : D} (h : fs (frzE S) n = some ([d, e], n1)) (h1 : lf d = true) (h2 : lf e = true) (q : Q (.nx ((S.set i (some (.val d))).set j (some (.val e)))) n1) : wp (sPar i j fs) S n Q := ⟨_, _, by unfold sPar; rw [h]; simp only [h1, h2, Bool.and_self, if_true], q⟩
theorem wp_parH {i j : Nat} {fs : Fe (List D)} {d e : D} (h : fs (hidE S) n = some ([d, e], n1)) (q : Q (.nx ((S.set i (some (.val d))).set j (some (.val e)))) n1) : wp (sParH i j fs) S n Q := ⟨_, _, by unfold sParH; rw [h], q⟩
theorem wp_parVO {i j : Nat} {fa : FE} {fb : Fe (List D)} {d : D} {es : List D} (h : fa (frzE S) n = some (d, n1)) (h2 : fb (frzE S) n1 = some (es, n2)) (hl : lf d = true) (hl2 : lfL es = true) (q : Q (.nx ((S.set i (some (.val d))).set j (some (.own es)))) n2) : wp (sParVO i j fa fb) S n Q := ⟨_, _, by unfold sParVO; rw [h]; simp only [h2, hl, hl2, Bool.and_self, if_true], q⟩
theorem wp_parOO {i j : Nat} {fa fb : Fe (List D)} {ds es : List D} (h : fa (frzE S) n = some (ds, n1)) (h2 : fb (frzE S) n1 = some (es, n2)) (hl : lfL ds = true) (hl2 : lfL es = true) (q : Q (.nx ((S.set i (some (.own ds))).set j (some (.own es)))) n2) : wp (sParOO i j fa fb) S n Q := ⟨_, _, by unfold sParOO; rw [h]; simp only [h2, hl, hl2, Bool.and_self, if_true], q⟩
theorem wp_tgt {t : Tg} {e : FE} {d : D} {S' : Es} (h : e (frzE S) n = some (d, n1)) (hl : lf d = true) (hb : bindS t d S = some S') (q : Q (.nx S') n1) : wp (sTgt t e) S n Q := ⟨_, _, by unfold sTgt; rw [h]; simp only [hl, if_true, hb], q⟩
theorem wp_tgtH {t : Tg} {e : FE} {d : D} {S' : Es} (h : e (hidE S) n = some (d, n1)) (hb : bindS t d S = some S') (q : Q (.nx S') n1) : wp (sTgtH t e) S n Q := ⟨_, _, by unfold sTgtH; rw [h]; simp only [hb], q⟩
theorem wp_aug2 {r i j : Nat} {fi fj fe : FE} {o : Int → Int → Int} {dss : List (List D)} {ds : List D} {x w : Int} (hS : S[r]? = some (some (.own2 dss))) (hi : fi (frzE S) n = some (.int (i : Int), n)) (hj : fj (frzE S) n = some (.int (j : Int), n)) (he : fe (frzE S) n = some (.int w, n)) (hd : dss[i]? = some ds) (hx : ds[j]? = some (.int x))
    (q : Q (.nx (S.set r (some (.own2 (dss.set i (ds.set j (.int (o x w)))))))) n) : wp (sAug2 r fi fj fe o) S n Q := ⟨_, _, by
      unfold sAug2
      simp only [hS, hi, hj, he, Int.toNat_natCast, hd, hx]
      rw [if_pos ⟨by omega, by omega⟩], q⟩
theorem wp_for {fi : Fe (List D)} {t : Tg} {items : List D} {fb : FS} (I : List D → Es → Sn → Prop) (hi : fi (hidE S) n = some (items, n1)) (h0 : I [] S n1)
    (hs : ∀ pre x post S n, items = pre ++ x :: post → I pre S n → ∃ S', bindS t x S = some S' ∧ wp fb S' n (loopQ (I (pre ++ [x])) Q)) (he : ∀ S n, I items S n → Q (.nx S) n) : wp (sFor fi t fb) S n Q := by
  have key : ∀ (post pre : List D) (S : Es) (n : Sn), items = pre ++ post → I pre S n → ∃ fl n', forGo t fb post S n = some (fl, n') ∧ Q fl n' := by
    intro post
    induction post with
    | nil =>
      intro pre S n e i
      rw [List.append_nil] at e
      exact ⟨_, _, rfl, he S n (by rw [e]; exact i)⟩
    | cons x r ih =>
      intro pre S n e i
      obtain ⟨S', hb, fl, n', hw, hq⟩ := hs pre x r S n e i
      rw [forGo]
      simp only [hb, hw]
      cases fl with
      | nx S2 => exact ih (pre ++ [x]) S2 n' (by rw [e, List.append_assoc]; rfl) hq
      | ct S2 => exact ih (pre ++ [x]) S2 n' (by rw [e, List.append_assoc]; rfl) hq
      | bk S2 => exact ⟨_, _, rfl, hq⟩
      | rt d => exact ⟨_, _, rfl, hq⟩
      | rf d => exact ⟨_, _, rfl, hq⟩
      | rc k => exact ⟨_, _, rfl, hq⟩
      | ex c => exact ⟨_, _, rfl, hq⟩
  obtain ⟨fl, n', e, q⟩ := key items [] S n1 rfl h0
  exact ⟨fl, n', by unfold sFor; rw [hi]; exact e, q⟩
/-- the same for things that are told as data -/
theorem wp_forE {α : Type} {fi : Fe (List D)} {t : Tg} {fb : FS} {enc : α → D} {xs : List α} (I : List α → Es → Sn → Prop) (hi : fi (hidE S) n = some (xs.map enc, n1)) (h0 : I [] S n1)
    (hs : ∀ pre x post S n, xs = pre ++ x :: post → I pre S n → ∃ S', bindS t (enc x) S = some S' ∧ wp fb S' n (loopQ (I (pre ++ [x])) Q)) (he : ∀ S n, I xs S n → Q (.nx S) n) : wp (sFor fi t fb) S n Q := by
  have key : ∀ (post pre : List α) (S : Es) (n : Sn), xs = pre ++ post → I pre S n → ∃ fl n', forGo t fb (post.map enc) S n = some (fl, n') ∧ Q fl n' := by
    intro post
    induction post with
    | nil =>
      intro pre S n e i
      rw [List.append_nil] at e
      exact ⟨_, _, rfl, he S n (by rw [e]; exact i)⟩
    | cons x r ih =>
      intro pre S n e i
      obtain ⟨S', hb, fl, n', hw, hq⟩ := hs pre x r S n e i
      rw [List.map_cons, forGo]
      simp only [hb, hw]
      cases fl with
      | nx S2 => exact ih (pre ++ [x]) S2 n' (by rw [e, List.append_assoc]; rfl) hq
      | ct S2 => exact ih (pre ++ [x]) S2 n' (by rw [e, List.append_assoc]; rfl) hq
      | bk S2 => exact ⟨_, _, rfl, hq⟩
      | rt d => exact ⟨_, _, rfl, hq⟩
      | rf d => exact ⟨_, _, rfl, hq⟩
      | rc k => exact ⟨_, _, rfl, hq⟩
      | ex c => exact ⟨_, _, rfl, hq⟩
  obtain ⟨fl, n', e, q⟩ := key xs [] S n1 rfl h0
  exact ⟨fl, n', by unfold sFor; rw [hi]; exact e, q⟩
theorem wp_while {c : Fe Bool} {fb : FS} (I : Nat → Es → Sn → Prop) (hs : ∀ k S n, I k S n → ∃ b n1, c (frzE S) n = some (b, n1) ∧ (b = true → wp fb S n1 (loopQ (fun S n => ∃ k', k' < k ∧ I k' S n) Q)) ∧ (b = false → Q (.nx S) n1)) : ∀ {N k : Nat}, k < N → ∀ {S : Es} {n : Sn}, I k S n → wp (sWhile N c fb) S n Q
  | 0, k, h, S, n, _ => absurd h (Nat.not_lt_zero k)
  | N + 1, k, h, S, n, i => by
    obtain ⟨b, n1, hc, ht, hf⟩ := hs k S n i
    unfold wp sWhile whGo
    rw [hc]
    cases b with
    | false => exact ⟨_, _, rfl, hf rfl⟩
    | true =>
      obtain ⟨fl, n', hw, hq⟩ := ht rfl
      simp only [hw]
      cases fl with
      | nx S2 =>
        obtain ⟨k', hk, i'⟩ := hq
        exact wp_while I hs (N := N) (by omega) i'
      | ct S2 =>
        obtain ⟨k', hk, i'⟩ := hq
        exact wp_while I hs (N := N) (by omega) i'
      | bk S2 => exact ⟨_, _, rfl, hq⟩
      | rt d => exact ⟨_, _, rfl, hq⟩
      | rf d => exact ⟨_, _, rfl, hq⟩
      | rc k => exact ⟨_, _, rfl, hq⟩
      | ex c => exact ⟨_, _, rfl, hq⟩
/-! defs -/
def isRt (d : D) (n : Sn) : Fl → Sn → Prop := fun fl n' => fl = .rt d ∧ n' = n
theorem fn_gen {ar nl : Nat} {ds : List D} {R : Rs → Sn → Prop} (hl : ds.length = ar) (h : wp f (start0 nl ds) n fun fl n' => n'.c = n.c ∧ match fl with
    | .rt d => R (.ok d) n'
    | .rf d => R (.ok (.list d)) n'
    | .nx _ => R (.ok .none) n'
    | .ex c => R (.ex c) n'
    | _ => False) : ∃ r n', mkF ar nl f ds n = some (r, n') ∧ R r n' := by
  obtain ⟨fl, n', e, hc, q⟩ := h
  unfold mkF
  rw [if_pos hl, e]
  cases fl with
  | nx S => exact ⟨_, _, fin_c hc, q⟩
  | rt d => exact ⟨_, _, fin_c hc, q⟩
  | rf d => exact ⟨_, _, fin_c hc, q⟩
  | ex c => exact ⟨_, _, fin_c hc, q⟩
  | bk _ => exact q.elim
  | ct _ => exact q.elim
  | rc _ => exact q.elim
theorem fn_rt {ar nl : Nat} {ds : List D} {d : D} (hl : ds.length = ar) (h : wp f (start0 nl ds) n (isRt d n)) : mkF ar nl f ds n = some (.ok d, n) := by
  obtain ⟨fl, n', e, rfl, rfl⟩ := h
  unfold mkF
  rw [if_pos hl, e]
  exact fin_self
theorem fn_rf {ar nl : Nat} {ds d : List D} (hl : ds.length = ar) (h : wp f (start0 nl ds) n (fun fl n' => fl = .rf d ∧ n' = n)) : mkF ar nl f ds n = some (.ok (.list d), n) := by
  obtain ⟨fl, n', e, rfl, rfl⟩ := h
  unfold mkF
  rw [if_pos hl, e]
  exact fin_self
theorem fnL_rf {ar nl : Nat} {ds d : List D} (hl : ds.length = ar) (h : wp f (start0 nl ds) n (fun fl n' => fl = .rf d ∧ n' = n)) : mkL ar nl f ds n = some (.ok (.list d), n) := by
  obtain ⟨fl, n', e, rfl, rfl⟩ := h
  unfold mkL
  rw [if_pos hl, e]
  exact fin_self
theorem fn_nx {ar nl : Nat} {ds : List D} (hl : ds.length = ar) (h : wp f (start0 nl ds) n (fun fl n' => (∃ S, fl = .nx S) ∧ n' = n)) : mkF ar nl f ds n = some (.ok .none, n) := by
  obtain ⟨fl, n', e, ⟨S, rfl⟩, rfl⟩ := h
  unfold mkF
  rw [if_pos hl, e]
  exact fin_self
theorem fn_ex {ar nl : Nat} {ds : List D} {c : Str} (hl : ds.length = ar) (h : wp f (start0 nl ds) n (fun fl n' => fl = .ex c ∧ n' = n)) : mkF ar nl f ds n = some (.ex c, n) := by
  obtain ⟨fl, n', e, rfl, rfl⟩ := h
  unfold mkF
  rw [if_pos hl, e]
  exact fin_self
end

theorem frz1_val (d : D) : frz1 (some (.val d)) = some d := rfl
theorem frz1_own (d : List D) : frz1 (some (.own d)) = some (.list d) := rfl
theorem frz1_own2 (d : List (List D)) : frz1 (some (.own2 d)) = some (.list (d.map .list)) := rfl
theorem frz1_none : frz1 none = none := rfl
theorem hid1_val (d : D) : hid1 (some (.val d)) = some d := rfl
theorem hid1_own (d : List D) : hid1 (some (.own d)) = none := rfl
theorem hid1_own2 (d : List (List D)) : hid1 (some (.own2 d)) = none := rfl
theorem hid1_none : hid1 none = none := rfl
/-! ### statement by statement -/
theorem lf_int (i : Int) : lf (.int i) = true := rfl
theorem lfL_ints : ∀ (l : List Int), lfL (l.map .int) = true
  | [] => rfl
  | a :: b => by rw [List.map_cons, lfL, lfL_ints b]; rfl
theorem lfL_all {ds : List D} (h : ∀ d ∈ ds, lf d = true) : lfL ds = true := by
  induction ds with
  | nil => rfl
  | cons d r ih => rw [lfL, h d List.mem_cons_self, ih fun e he => h e (List.mem_cons_of_mem _ he)]; rfl
theorem lfL_mem : ∀ {ds : List D}, lfL ds = true → ∀ d ∈ ds, lf d = true
  | [], _, d, h => by cases h
  | e :: r, h, d, hd => by
    rw [lfL, Bool.and_eq_true] at h
    rcases List.mem_cons.mp hd with rfl | hd
    · exact h.1
    · exact lfL_mem h.2 d hd
/-! ### comprehensions over data -/
/-! ### data without dicts -/
mutual
def pl : D → Bool
  | .dict _ => false
  | .list ds => plL ds
  | .tuple ds => plL ds
  | .none | .bool _ | .int _ | .str _ => true
def plL : List D → Bool
  | [] => true
  | d :: ds => pl d && plL ds
end
theorem plL_mem : ∀ {ds : List D}, plL ds = true → ∀ d ∈ ds, pl d = true
  | [], _, d, h => by cases h
  | e :: r, h, d, hd => by
    rw [plL, Bool.and_eq_true] at h
    rcases List.mem_cons.mp hd with rfl | hd
    · exact h.1
    · exact plL_mem h.2 d hd
theorem plL_all {ds : List D} (h : ∀ d ∈ ds, pl d = true) : plL ds = true := by
  induction ds with
  | nil => rfl
  | cons d r ih => rw [plL, h d List.mem_cons_self, ih fun e he => h e (List.mem_cons_of_mem _ he)]; rfl
theorem ints?_mapI (ns : List Int) : ints? (ns.map PyData.int) = some ns := ints?_map ns
theorem rngD_eq (n : Nat) : rngD 0 n = (List.range n).map fun i => PyData.int ((i : Nat) : Int) := by
  unfold rngD
  apply List.map_congr_left
  intro i _
  rw [Int.zero_add]
/-! ### matrices of ints as data -/
abbrev Row := List Int
abbrev Mt := List (List Int)
abbrev encR (r : Row) : D := .tuple (r.map .int)
abbrev encM (m : Mt) : D := .tuple (m.map encR)
/-! ### the draws -/
def isI (d : D) (lo hi : Int) : Bool := match d with
  | .int i => decide (lo ≤ i) && decide (i ≤ hi)
  | _ => false
def isRw (c lo hi : Int) (d : D) : Bool := match d with
  | .tuple xs => decide ((xs.length : Int) = c) && xs.all fun x => isI x lo hi
  | _ => false
def isSq (d : D) (c lo hi : Int) : Bool := match d with
  | .tuple rows => decide ((rows.length : Int) = c) && rows.all (isRw c lo hi)
  | _ => false
theorem ne_int (a b : Int) : dNe (.int a) (.int b) = some (.bool (!decide (a = b))) := by
  simp [dNe, SeqAt.shaped, PyData.canLay0, PyData.depth, PyData.eqv, BEq.beq]
theorem eq_int' (a b : Int) : dEq (.int a) (.int b) = some (.bool (decide (a = b))) := by
  simp [dEq, SeqAt.shaped, PyData.canLay0, PyData.depth, PyData.eqv, BEq.beq]
def isMat (d : D) : Bool := match d with
  | .tuple rows => decide (1 ≤ rows.length) && decide (rows.length ≤ 5) && isSq d rows.length 0 9
  | _ => false
/-! ### matrices -/
structure VM (m : Mt) : Prop where
  pos : 1 ≤ m.length
  le : m.length ≤ 5
  sq : ∀ r ∈ m, r.length = m.length
  rng : ∀ r ∈ m, ∀ x ∈ r, 0 ≤ x ∧ x ≤ 9
theorem pl_row (r : Row) : pl (encR r) = true := by
  unfold encR
  rw [pl]
  exact plL_all fun d hd => by
    obtain ⟨x, _, rfl⟩ := List.mem_map.mp hd
    rfl
theorem pl_mat (m : Mt) : pl (encM m) = true := by
  unfold encM
  rw [pl]
  exact plL_all fun d hd => by
    obtain ⟨x, _, rfl⟩ := List.mem_map.mp hd
    exact pl_row x
theorem isRw_row {c lo hi : Int} {r : Row} (h1 : (r.length : Int) = c) (h2 : ∀ x ∈ r, lo ≤ x ∧ x ≤ hi) : isRw c lo hi (encR r) = true := by
  unfold encR isRw
  simp only [List.length_map, h1, decide_true, Bool.true_and]
  rw [List.all_map, List.all_eq_true]
  intro x hx
  simp [isI, h2 x hx]
theorem isMat_enc {m : Mt} (h : VM m) : isMat (encM m) = true := by
  unfold encM isMat isSq
  simp only [List.length_map, h.pos, h.le, decide_true, Bool.true_and]
  rw [List.all_eq_true]
  intro d hd
  obtain ⟨r, hr, rfl⟩ := List.mem_map.mp hd
  exact isRw_row (by rw [h.sq r hr]) (h.rng r hr)
def colSum (m : Mt) (j : Nat) : Int := (m.map fun r => r.getD j 0).sum
def lineSums (m : Mt) : List Int := m.map List.sum ++ (List.range m.length).map (colSum m)
theorem sum_row (r : Row) : dSum (encR r) = some (.int r.sum) := by
  unfold encR dSum seq?
  simp [ints?_mapI]
theorem sum_ints (r : Row) : dSum (.list (r.map .int)) = some (.int r.sum) := by
  unfold dSum seq?
  simp [ints?_mapI]
theorem atI_nat' {α : Type} {xs : List α} {j : Nat} (h : j < xs.length) : atI xs (j : Int) = some xs[j] := atI_nat (List.getElem?_eq_getElem h)
theorem ix_row {r : Row} {j : Nat} (h : j < r.length) : dIx (encR r) (.int (j : Int)) = some (.int (r.getD j 0)) := by
  unfold encR dIx
  simp only
  rw [atI_map, atI_nat' h]
  simp [List.getD, List.getElem?_eq_getElem h]
theorem add_list {a b : List D} (h : a.length + b.length ≤ lim) : dAdd (.list a) (.list b) = some (.list (a ++ b)) := by
  simp [dAdd, h]
theorem max_ints {l : List Int} (h : l ≠ []) : dMax (.list (l.map .int)) = some (.int (maxL l)) := by
  unfold dMax seq?
  cases l with
  | nil => exact absurd rfl h
  | cons a b => simp only [Option.bind_some, ints?_mapI, List.isEmpty_cons]; rfl
theorem min_ints {l : List Int} (h : l ≠ []) : dMin (.list (l.map .int)) = some (.int (minL l)) := by
  unfold dMin seq?
  cases l with
  | nil => exact absurd rfl h
  | cons a b => simp only [Option.bind_some, ints?_mapI, List.isEmpty_cons]; rfl
theorem lineSums_ne {m : Mt} (h : 1 ≤ m.length) : lineSums m ≠ [] := by
  unfold lineSums
  cases m with
  | nil => simp at h
  | cons a b => simp
def deg (m : Mt) : Int := maxL (lineSums m)
def isEv (m : Mt) : Bool := decide (minL (lineSums m) = maxL (lineSums m))
/-! ### the draws -/
def drawR (k : Int) (many v : Int) : Prop := 0 ≤ v ∧ v < many
/-! a comprehension that draws -/
def isInt (lo hi : Int) (d : D) : Prop := ∃ x : Int, d = .int x ∧ lo ≤ x ∧ x ≤ hi
theorem ints_of {lo hi : Int} : ∀ {ds : List D}, (∀ d ∈ ds, isInt lo hi d) → ∃ r : Row, ds = r.map .int ∧ ∀ x ∈ r, lo ≤ x ∧ x ≤ hi
  | [], _ => ⟨[], rfl, fun x hx => by cases hx⟩
  | d :: ds, h => by
    obtain ⟨x, rfl, hx⟩ := h d List.mem_cons_self
    obtain ⟨r, rfl, hr⟩ := ints_of (ds := ds) fun z hz => h z (List.mem_cons_of_mem _ hz)
    refine ⟨x :: r, rfl, fun y hy => ?_⟩
    rcases List.mem_cons.mp hy with rfl | hy
    · exact hx
    · exact hr y hy
theorem lf_row (r : Row) : lf (encR r) = true := by unfold encR; rw [lf]; exact lfL_ints r
theorem lfL_rows (m : Mt) : lfL (m.map encR) = true := lfL_all fun d hd => by
  obtain ⟨r, _, rfl⟩ := List.mem_map.mp hd
  exact lf_row r
theorem lf_mat (m : Mt) : lf (encM m) = true := by unfold encM; rw [lf]; exact lfL_rows m
theorem getD_lt {α : Type} {l : List α} {i : Nat} {d : α} (h : i < l.length) : l.getD i d = l[i] := by
  rw [List.getD, List.getElem?_eq_getElem h]; rfl
theorem getD_mem' {α : Type} {l : List α} {i : Nat} {d : α} (h : i < l.length) : l.getD i d ∈ l := by
  rw [getD_lt h]; exact List.getElem_mem h
theorem getD_set_ne {α : Type} {l : List α} {i k : Nat} {d x : α} (h : k ≠ i) : (l.set k x).getD i d = l.getD i d := by
  rw [List.getD, List.getElem?_set_ne h]; rfl
/-! ### all permutations, as the program makes them -/
def stepOne (c : Nat) (one : Row) : List Row := ((List.range c).filter fun (j : Nat) => !one.contains (j : Int)).map fun (j : Nat) => one ++ [(j : Int)]
def permsK (c : Nat) : Nat → List Row
  | 0 => [[]]
  | k + 1 => (permsK c k).flatMap (stepOne c)
def perms (c : Nat) : List Row := permsK c c
theorem stepOne_len (c : Nat) (one : Row) : (stepOne c one).length ≤ c := by
  unfold stepOne
  rw [List.length_map]
  exact Nat.le_trans (List.length_filter_le _ _) (by rw [List.length_range]; exact Nat.le_refl _)
theorem flatMap_len {α β : Type} (f : α → List β) (c : Nat) (h : ∀ x, (f x).length ≤ c) : ∀ l : List α, (l.flatMap f).length ≤ c * l.length
  | [] => by simp
  | x :: r => by
    rw [List.flatMap_cons, List.length_append, List.length_cons, Nat.mul_succ]
    have := flatMap_len f c h r
    have := h x
    omega
theorem permsK_len (c : Nat) (hc : c ≤ 6) : ∀ k, (permsK c k).length ≤ 6 ^ k
  | 0 => by simp [permsK]
  | k + 1 => by
    have h1 := flatMap_len (stepOne c) c (stepOne_len c) (permsK c k)
    have h2 := permsK_len c hc k
    rw [permsK]
    calc _ ≤ c * (permsK c k).length := h1
      _ ≤ 6 * 6 ^ k := Nat.mul_le_mul hc h2
      _ = 6 ^ (k + 1) := by rw [Nat.pow_succ, Nat.mul_comm]
theorem permsK_mem {c : Nat} : ∀ {k : Nat} {p : Row}, p ∈ permsK c k → p.length = k ∧ p.Nodup ∧ ∀ x ∈ p, 0 ≤ x ∧ x < c
  | 0, p, h => by
    rw [permsK] at h
    simp at h
    subst h
    simp
  | k + 1, p, h => by
    rw [permsK, List.mem_flatMap] at h
    obtain ⟨one, h1, h2⟩ := h
    obtain ⟨i1, i2, i3⟩ := permsK_mem h1
    unfold stepOne at h2
    obtain ⟨j, hj, rfl⟩ := List.mem_map.mp h2
    rw [List.mem_filter, List.mem_range] at hj
    have hn : (j : Int) ∉ one := by simpa using hj.2
    refine ⟨by rw [List.length_append, i1]; rfl, ?_, fun x hx => ?_⟩
    · rw [List.nodup_append]
      refine ⟨i2, by simp, fun a ha b hb => ?_⟩
      have : b = (j : Int) := by simpa using hb
      subst this
      exact fun z => hn (by rw [← z]; exact ha)
    · rcases List.mem_append.mp hx with hx | hx
      · exact i3 x hx
      · have : x = (j : Int) := by simpa using hx
        omega
theorem any_eqv (one : Row) (j : Int) : ((one.map PyData.int).any fun z => PyData.eqv z (.int j)) = one.contains j := by
  induction one with
  | nil => rfl
  | cons a b ih =>
    rw [List.map_cons, List.any_cons, ih, List.contains_cons]
    congr 1
    simp only [PyData.eqv]
    rw [Bool.eq_iff_iff]
    simp
    exact eq_comm
theorem notIn_row (one : Row) (j : Int) : dNotIn (.int j) (encR one) = some (.bool (!one.contains j)) := by
  have h : (one.map PyData.int).all flatD = true := by
    rw [List.all_map, List.all_eq_true]
    intro x _
    rfl
  simp only [dNotIn, encR, inD, h, flatD, Bool.true_and, if_true, Option.map_some, any_eqv]
theorem in_row (one : Row) (j : Int) : dIn (.int j) (encR one) = some (.bool (one.contains j)) := by
  have h : (one.map PyData.int).all flatD = true := by
    rw [List.all_map, List.all_eq_true]
    intro x _
    rfl
  simp only [dIn, encR, inD, h, flatD, Bool.true_and, if_true, Option.map_some, any_eqv]
theorem perms_ne {c : Nat} (hc : c ≤ 5) : perms c ≠ [] := by
  match c, hc with
  | 0, _ => decide
  | 1, _ => decide
  | 2, _ => decide
  | 3, _ => decide
  | 4, _ => decide +kernel
  | 5, _ => decide +kernel
/-! ### even matrices -/
def rowD (r : Row) : List D := r.map .int
def addRow (r : Row) (j : Nat) (w : Int) : Row := r.set j (r.getD j 0 + w)
/-- w more at the places of p, in the rows from k on -/
def addFrom (m : Mt) (p : Row) (w : Int) : Nat → Nat → Mt
  | _, 0 => m
  | k, t + 1 => addFrom (m.set k (addRow (m.getD k []) (p.getD k 0).toNat w)) p w (k + 1) t
def zeroM (c : Nat) : Mt := List.replicate c (List.replicate c 0)
structure Sqr (c : Nat) (m : Mt) : Prop where
  len : m.length = c
  row : ∀ r ∈ m, r.length = c
theorem Sqr.get {c : Nat} {m : Mt} (h : Sqr c m) {i : Nat} (hi : i < c) : (m.getD i []).length = c := by
  have hl : i < m.length := by rw [h.len]; exact hi
  rw [List.getD, List.getElem?_eq_getElem hl]
  exact h.row _ (List.getElem_mem hl)
theorem Sqr.set {c : Nat} {m : Mt} (h : Sqr c m) (i : Nat) {r : Row} (hr : r.length = c) : Sqr c (m.set i r) :=
  ⟨by rw [List.length_set]; exact h.len, fun x hx => by
    rcases List.mem_or_eq_of_mem_set hx with z | z
    · exact h.row x z
    · rw [z]; exact hr⟩
theorem addRow_len (r : Row) (j : Nat) (w : Int) : (addRow r j w).length = r.length := by unfold addRow; rw [List.length_set]
theorem ix_ll (m : List (List D)) (i : Nat) (h : i < m.length) : dIx (.list (m.map .list)) (.int (i : Int)) = some (.list (m.getD i [])) := by
  unfold dIx
  simp only
  rw [atI_map, atI_nat' h]
  simp [List.getD, h]
theorem ix_l (r : Row) (j : Nat) (h : j < r.length) : dIx (.list (rowD r)) (.int (j : Int)) = some (.int (r.getD j 0)) := by
  unfold dIx rowD
  simp only
  rw [atI_map, atI_nat' h]
  simp [List.getD, h]
theorem getD_rowD (m : Mt) (i : Nat) (h : i < m.length) : (m.map rowD).getD i [] = rowD (m.getD i []) := by
  simp [List.getD, h]
structure IsP (c : Nat) (p : Row) : Prop where
  len : p.length = c
  nd : p.Nodup
  rng : ∀ x ∈ p, 0 ≤ x ∧ x < c
theorem IsP.get {c : Nat} {p : Row} (h : IsP c p) {i : Nat} (hi : i < c) : 0 ≤ p.getD i 0 ∧ p.getD i 0 < c := by
  have hl : i < p.length := by rw [h.len]; exact hi
  rw [List.getD, List.getElem?_eq_getElem hl]
  exact h.rng _ (List.getElem_mem hl)
theorem perms_isP {c : Nat} {p : Row} (h : p ∈ perms c) : IsP c p := let ⟨a, b, d⟩ := permsK_mem h; ⟨a, b, d⟩
/-- what the drawn permutations add up to -/
inductive Made (c : Nat) : Mt → Prop where
  | zero : Made c (zeroM c)
  | add {m : Mt} {p : Row} {w : Int} : Made c m → IsP c p → 1 ≤ w → Made c (addFrom m p w 0 c)
theorem addFrom_sqr {c : Nat} {p : Row} {w : Int} : ∀ (t k : Nat) {m : Mt}, k + t ≤ c → Sqr c m → Sqr c (addFrom m p w k t)
  | 0, _, _, _, h => h
  | t + 1, k, m, hk, h => addFrom_sqr t (k + 1) (by omega) (h.set k (by rw [addRow_len]; exact h.get (by omega)))
def Rng (m : Mt) : Prop := ∀ r ∈ m, ∀ x ∈ r, 0 ≤ x ∧ x ≤ 9
theorem addFrom_rng {c : Nat} {p : Row} {w : Int} (hw : 0 ≤ w) : ∀ (t k : Nat) {m : Mt}, k + t ≤ c → Sqr c m → Rng m → (∀ i, k ≤ i → i < k + t → (m.getD i []).getD (p.getD i 0).toNat 0 + w ≤ 9) → Rng (addFrom m p w k t)
  | 0, _, _, _, _, h, _ => h
  | t + 1, k, m, hk, hs, h, hb => by
    have hml : k < m.length := by rw [hs.len]; omega
    refine addFrom_rng hw t (k + 1) (by omega) (hs.set k (by rw [addRow_len]; exact hs.get (by omega))) (fun r hr x hx => ?_) fun i h1 h2 => ?_
    · rcases List.mem_or_eq_of_mem_set hr with z | z
      · exact h r z x hx
      · rw [z] at hx
        unfold addRow at hx
        have hmem : m.getD k [] ∈ m := by
          rw [List.getD, List.getElem?_eq_getElem hml]
          exact List.getElem_mem hml
        rcases List.mem_or_eq_of_mem_set hx with y | y
        · exact h _ hmem x y
        · rw [y]
          have := hb k (Nat.le_refl _) (by omega)
          refine ⟨?_, this⟩
          by_cases hj : (p.getD k 0).toNat < (m.getD k []).length
          · have : (m.getD k []).getD (p.getD k 0).toNat 0 ∈ m.getD k [] := getD_mem' hj
            have := (h _ hmem _ this).1
            omega
          · have : (m.getD k []).getD (p.getD k 0).toNat 0 = 0 := by
              rw [List.getD, List.getElem?_eq_none (by omega)]
              rfl
            omega
    · have hne : k ≠ i := by omega
      rw [getD_set_ne hne]
      exact hb i (by omega) (by omega)
theorem flat_rep1 {α : Type} (x : α) : ∀ c : Nat, (List.replicate c [x]).flatten = List.replicate c x
  | 0 => rfl
  | c + 1 => by rw [List.replicate_succ, List.flatten_cons, flat_rep1 x c]; rfl
theorem zero_sqr (c : Nat) : Sqr c (zeroM c) := ⟨by simp [zeroM], fun r hr => by
  have := List.eq_of_mem_replicate hr
  rw [this]; simp⟩
theorem zero_rng (c : Nat) : Rng (zeroM c) := fun r hr x hx => by
  have := List.eq_of_mem_replicate hr
  rw [this] at hx
  have := List.eq_of_mem_replicate hx
  omega
/-! ### sums -/
def sumN : Nat → (Nat → Int) → Int
  | 0, _ => 0
  | n + 1, f => sumN n f + f n
theorem sumN_congr {f g : Nat → Int} : ∀ {n : Nat}, (∀ i, i < n → f i = g i) → sumN n f = sumN n g
  | 0, _ => rfl
  | n + 1, h => by
    unfold sumN
    rw [sumN_congr (n := n) fun i hi => h i (by omega), h n (by omega)]
theorem sumN_add (f g : Nat → Int) : ∀ n : Nat, sumN n (fun i => f i + g i) = sumN n f + sumN n g
  | 0 => rfl
  | n + 1 => by
    show sumN n (fun i => f i + g i) + (f n + g n) = sumN n f + f n + (sumN n g + g n)
    rw [sumN_add f g n]
    omega
theorem sumN_zero : ∀ n : Nat, sumN n (fun _ => 0) = 0
  | 0 => rfl
  | n + 1 => by unfold sumN; rw [sumN_zero n]; rfl
theorem sumN_const (k : Int) : ∀ n : Nat, sumN n (fun _ => k) = n * k
  | 0 => by simp [sumN]
  | n + 1 => by
    unfold sumN
    rw [sumN_const k n, Int.natCast_succ, Int.add_mul, Int.one_mul]
theorem sumN_swap (f : Nat → Nat → Int) (k : Nat) : ∀ n : Nat, sumN n (fun i => sumN k (fun j => f i j)) = sumN k (fun j => sumN n (fun i => f i j))
  | 0 => (sumN_zero k).symm
  | n + 1 => by
    show sumN n (fun i => sumN k (fun j => f i j)) + sumN k (fun j => f n j) = _
    rw [sumN_swap f k n, ← sumN_add]
    rfl
theorem sumN_le {f g : Nat → Int} : ∀ {n : Nat}, (∀ i, i < n → f i ≤ g i) → sumN n f ≤ sumN n g
  | 0, _ => Int.le_refl _
  | n + 1, h => by
    unfold sumN
    have := sumN_le (n := n) fun i hi => h i (by omega)
    have := h n (by omega)
    omega
/-- all parts at most, the sums equal: all parts equal -/
theorem sumN_eq {f g : Nat → Int} : ∀ {n : Nat}, (∀ i, i < n → f i ≤ g i) → sumN n f = sumN n g → ∀ i, i < n → f i = g i
  | 0, _, _, i, hi => by omega
  | n + 1, h, e, i, hi => by
    unfold sumN at e
    have l := sumN_le (n := n) fun i hi => h i (by omega)
    have l2 := h n (by omega)
    by_cases hn : i = n
    · subst hn; omega
    · exact sumN_eq (n := n) (fun i hi => h i (by omega)) (by omega) i (by omega)
theorem sumN_point (k : Nat) (w : Int) : ∀ n : Nat, sumN n (fun i => if i = k then w else 0) = if k < n then w else 0
  | 0 => by simp [sumN]
  | n + 1 => by
    show sumN n (fun i => if i = k then w else 0) + (if n = k then w else 0) = _
    rw [sumN_point k w n]
    by_cases h1 : k < n
    · rw [if_pos h1, if_neg (by omega), if_pos (by omega)]; omega
    · by_cases h2 : n = k
      · rw [if_neg h1, if_pos h2, if_pos (by omega)]; omega
      · rw [if_neg h1, if_neg h2, if_neg (by omega)]; omega
theorem sumN_upd {f g : Nat → Int} {n k : Nat} {w : Int} (hk : k < n) (h : ∀ i, i < n → g i = f i + if i = k then w else 0) : sumN n g = sumN n f + w := by
  rw [sumN_congr h, sumN_add, sumN_point, if_pos hk]
theorem sumN_nonneg {f : Nat → Int} {n : Nat} (h : ∀ i, i < n → 0 ≤ f i) : 0 ≤ sumN n f := by
  have := sumN_le (f := fun _ => 0) h
  rw [sumN_zero] at this
  exact this
theorem sumN_part {f : Nat → Int} : ∀ {n : Nat}, (∀ i, i < n → 0 ≤ f i) → ∀ i, i < n → f i ≤ sumN n f
  | 0, _, i, hi => by omega
  | n + 1, h, i, hi => by
    unfold sumN
    have h0 := sumN_nonneg (n := n) fun i hi => h i (by omega)
    have := h n (by omega)
    by_cases hn : i = n
    · subst hn; omega
    · have := sumN_part (n := n) (fun i hi => h i (by omega)) i (by omega)
      omega
theorem sum_take (l : List Int) : ∀ k, k ≤ l.length → sumN k (fun i => l.getD i 0) = (l.take k).sum
  | 0, _ => by simp [sumN]
  | k + 1, h => by
    have hk : k < l.length := h
    show sumN k (fun i => l.getD i 0) + l.getD k 0 = _
    rw [sum_take l k (by omega), ← List.take_append_getElem hk, List.sum_append, getD_lt hk]
    simp
theorem sum_getD (l : List Int) : l.sum = sumN l.length (fun i => l.getD i 0) := by
  rw [sum_take l l.length (Nat.le_refl _), List.take_length]
/-! ### entries -/
def at2 (m : Mt) (i j : Nat) : Int := (m.getD i []).getD j 0
def rowS (c : Nat) (m : Mt) (i : Nat) : Int := sumN c (fun j => at2 m i j)
def colS (c : Nat) (m : Mt) (j : Nat) : Int := sumN c (fun i => at2 m i j)
def allS (c : Nat) (m : Mt) : Int := sumN c (rowS c m)
theorem allS_cols (c : Nat) (m : Mt) : allS c m = sumN c (colS c m) := sumN_swap (at2 m) c c
theorem row_sum {c : Nat} {m : Mt} (h : Sqr c m) {i : Nat} (hi : i < c) : (m.getD i []).sum = rowS c m i := by
  rw [sum_getD, h.get hi]; rfl
theorem col_sum {c : Nat} {m : Mt} (h : Sqr c m) {j : Nat} : colSum m j = colS c m j := by
  unfold colSum colS
  rw [sum_getD, List.length_map, h.len]
  refine sumN_congr fun i hi => ?_
  have hl : i < m.length := by rw [h.len]; exact hi
  unfold at2
  rw [getD_lt (by simpa using hl), getD_lt hl]
  simp
theorem mem_get {α : Type} {l : List α} {x d : α} (h : x ∈ l) : ∃ i, i < l.length ∧ l.getD i d = x := by
  obtain ⟨i, hi, e⟩ := List.getElem_of_mem h
  exact ⟨i, hi, by rw [getD_lt hi]; exact e⟩
theorem mem_lineSums {c : Nat} {m : Mt} (h : Sqr c m) {z : Int} : z ∈ lineSums m ↔ (∃ i, i < c ∧ z = rowS c m i) ∨ ∃ j, j < c ∧ z = colS c m j := by
  unfold lineSums
  rw [List.mem_append, List.mem_map, List.mem_map]
  constructor
  · rintro (⟨r, hr, rfl⟩ | ⟨j, hj, rfl⟩)
    · obtain ⟨i, hi, rfl⟩ := mem_get (d := []) hr
      rw [h.len] at hi
      exact .inl ⟨i, hi, row_sum h hi⟩
    · rw [List.mem_range, h.len] at hj
      exact .inr ⟨j, hj, col_sum h⟩
  · rintro (⟨i, hi, rfl⟩ | ⟨j, hj, rfl⟩)
    · exact .inl ⟨m.getD i [], getD_mem' (by rw [h.len]; exact hi), row_sum h hi⟩
    · exact .inr ⟨j, by rw [List.mem_range, h.len]; exact hj, col_sum h⟩
theorem row_le_deg {c : Nat} {m : Mt} (h : Sqr c m) {i : Nat} (hi : i < c) : rowS c m i ≤ deg m := maxL_ge ((mem_lineSums h).2 (.inl ⟨i, hi, rfl⟩))
theorem col_le_deg {c : Nat} {m : Mt} (h : Sqr c m) {j : Nat} (hj : j < c) : colS c m j ≤ deg m := maxL_ge ((mem_lineSums h).2 (.inr ⟨j, hj, rfl⟩))
/-- all line sums are the same -/
def EvenC (c : Nat) (m : Mt) (t : Int) : Prop := (∀ i, i < c → rowS c m i = t) ∧ ∀ j, j < c → colS c m j = t
theorem ev_all {c : Nat} {m : Mt} (h : Sqr c m) (t : Int) : (∀ z ∈ lineSums m, z = t) ↔ EvenC c m t := by
  constructor
  · intro q
    exact ⟨fun i hi => q _ ((mem_lineSums h).2 (.inl ⟨i, hi, rfl⟩)), fun j hj => q _ ((mem_lineSums h).2 (.inr ⟨j, hj, rfl⟩))⟩
  · intro q z hz
    rcases (mem_lineSums h).1 hz with ⟨i, hi, rfl⟩ | ⟨j, hj, rfl⟩
    · exact q.1 i hi
    · exact q.2 j hj
theorem ev_iff {c : Nat} {m : Mt} (h : Sqr c m) (hc : 1 ≤ c) : isEv m = true ↔ EvenC c m (deg m) := by
  have hne : lineSums m ≠ [] := lineSums_ne (by rw [h.len]; exact hc)
  rw [← ev_all h]
  unfold isEv deg
  constructor
  · intro e z hz
    have e := of_decide_eq_true e
    have := maxL_ge hz
    have := minL_le hz
    omega
  · intro q
    exact decide_eq_true (q _ (minL_mem hne))
/-- one entry more -/
def upd2 (m : Mt) (i j : Nat) (w : Int) : Mt := m.set i (addRow (m.getD i []) j w)
theorem upd2_sqr {c : Nat} {m : Mt} (h : Sqr c m) {i j : Nat} (hi : i < c) {w : Int} : Sqr c (upd2 m i j w) := h.set i (by rw [addRow_len]; exact h.get hi)
theorem upd2_at {c : Nat} {m : Mt} (h : Sqr c m) {i j : Nat} (hi : i < c) (hj : j < c) (w : Int) (a b : Nat) : at2 (upd2 m i j w) a b = at2 m a b + if a = i ∧ b = j then w else 0 := by
  unfold at2 upd2
  have hl : i < m.length := by rw [h.len]; exact hi
  by_cases ha : a = i
  · subst ha
    have e : (m.set a (addRow (m.getD a []) j w)).getD a [] = addRow (m.getD a []) j w := by
      simp [List.getD, hl]
    rw [e]
    unfold addRow
    have hj' : j < (m.getD a []).length := by rw [h.get hi]; exact hj
    by_cases hb : b = j
    · subst hb
      simp only [and_self, if_true]
      rw [List.getD, List.getElem?_set, if_pos rfl, if_pos hj']
      rfl
    · rw [if_neg (by intro z; exact hb z.2), getD_set_ne (Ne.symm hb)]
      omega
  · rw [if_neg (by intro z; exact ha z.1), getD_set_ne (Ne.symm ha)]
    omega
theorem upd2_row {c : Nat} {m : Mt} (h : Sqr c m) {i j : Nat} (hi : i < c) (hj : j < c) (w : Int) (a : Nat) : rowS c (upd2 m i j w) a = rowS c m a + if a = i then w else 0 := by
  unfold rowS
  by_cases ha : a = i
  · rw [if_pos ha]
    refine sumN_upd hj fun b hb => ?_
    rw [upd2_at h hi hj]
    simp [ha]
  · rw [if_neg ha, Int.add_zero]
    refine sumN_congr fun b hb => ?_
    rw [upd2_at h hi hj, if_neg (by intro z; exact ha z.1), Int.add_zero]
theorem upd2_col {c : Nat} {m : Mt} (h : Sqr c m) {i j : Nat} (hi : i < c) (hj : j < c) (w : Int) (b : Nat) : colS c (upd2 m i j w) b = colS c m b + if b = j then w else 0 := by
  unfold colS
  by_cases hb : b = j
  · rw [if_pos hb]
    refine sumN_upd hi fun a ha => ?_
    rw [upd2_at h hi hj]
    simp [hb]
  · rw [if_neg hb, Int.add_zero]
    refine sumN_congr fun a ha => ?_
    rw [upd2_at h hi hj, if_neg (by intro z; exact hb z.2), Int.add_zero]
theorem mat_ext {c : Nat} {m k : Mt} (h : Sqr c m) (h' : Sqr c k) (e : ∀ i j, i < c → j < c → at2 m i j = at2 k i j) : m = k := by
  refine List.ext_getElem (by rw [h.len, h'.len]) fun i h1 h2 => ?_
  have hi : i < c := by rw [← h.len]; exact h1
  have r1 : m[i].length = c := h.row _ (List.getElem_mem h1)
  have r2 : k[i].length = c := h'.row _ (List.getElem_mem h2)
  refine List.ext_getElem (by rw [r1, r2]) fun j h3 h4 => ?_
  have := e i j hi (by rw [← r1]; exact h3)
  unfold at2 at this
  rw [getD_lt h1, getD_lt h2, getD_lt h3, getD_lt h4] at this
  exact this
/-! ### raising -/
def room (t : Int) (c : Nat) (m : Mt) (i j : Nat) : Int := min (t - rowS c m i) (t - colS c m j)
def liftRow (t : Int) (c : Nat) (i : Nat) : Nat → Nat → Mt → Mt
  | _, 0, m => m
  | j, k + 1, m => liftRow t c i (j + 1) k (upd2 m i j (room t c m i j))
def liftAll (t : Int) (c : Nat) : Nat → Nat → Mt → Mt
  | _, 0, m => m
  | i, k + 1, m => liftAll t c (i + 1) k (liftRow t c i 0 c m)
def lift (m : Mt) : Mt := liftAll (deg m) m.length 0 m.length m
/-- what stands while m is raised to g, all places before (i, j) done -/
structure LInv (c : Nat) (t : Int) (m g : Mt) (D : Nat → Nat → Prop) : Prop where
  sqr : Sqr c g
  ge : ∀ a b, at2 m a b ≤ at2 g a b
  row : ∀ a, a < c → rowS c g a ≤ t
  col : ∀ b, b < c → colS c g b ≤ t
  done : ∀ a b, a < c → b < c → D a b → rowS c g a = t ∨ colS c g b = t
  same : EvenC c m t → g = m
theorem LInv.step {c : Nat} {t : Int} {m g : Mt} {D : Nat → Nat → Prop} (L : LInv c t m g D) {i j : Nat} (hi : i < c) (hj : j < c) : LInv c t m (upd2 g i j (room t c g i j)) (fun a b => D a b ∨ (a = i ∧ b = j)) := by
  have w0 : 0 ≤ room t c g i j := by
    have := L.row i hi
    have := L.col j hj
    unfold room
    omega
  have w1 : room t c g i j ≤ t - rowS c g i := Int.min_le_left ..
  have w2 : room t c g i j ≤ t - colS c g j := Int.min_le_right ..
  have w3 : room t c g i j = t - rowS c g i ∨ room t c g i j = t - colS c g j := by unfold room; omega
  refine ⟨upd2_sqr L.sqr hi, fun a b => ?_, fun a ha => ?_, fun b hb => ?_, fun a b ha hb d => ?_, fun e => ?_⟩
  · rw [upd2_at L.sqr hi hj]
    have := L.ge a b
    split <;> omega
  · rw [upd2_row L.sqr hi hj]
    have := L.row a ha
    split
    · rename_i e; subst e; omega
    · omega
  · rw [upd2_col L.sqr hi hj]
    have := L.col b hb
    split
    · rename_i e; subst e; omega
    · omega
  · rw [upd2_row L.sqr hi hj, upd2_col L.sqr hi hj]
    have r := L.row a ha
    have k := L.col b hb
    rcases d with d | ⟨rfl, rfl⟩
    · rcases L.done a b ha hb d with z | z
      · left; split
        · rename_i e; subst e; omega
        · omega
      · right; split
        · rename_i e; subst e; omega
        · omega
    · rw [if_pos rfl, if_pos rfl]
      omega
  · have eg := L.same e
    subst eg
    have e0 : room t c g i j = 0 := by
      unfold room
      rw [e.1 i hi, e.2 j hj]
      omega
    refine mat_ext (upd2_sqr L.sqr hi) L.sqr fun a b _ _ => ?_
    rw [upd2_at L.sqr hi hj, e0]
    simp
theorem LInv.less {c : Nat} {t : Int} {m g : Mt} {D D' : Nat → Nat → Prop} (L : LInv c t m g D) (h : ∀ a b, a < c → b < c → D' a b → D a b) : LInv c t m g D' := ⟨L.sqr, L.ge, L.row, L.col, fun a b ha hb d => L.done a b ha hb (h a b ha hb d), L.same⟩
theorem liftRow_inv {c : Nat} {t : Int} {m : Mt} {i : Nat} (hi : i < c) : ∀ (k j : Nat) {g : Mt} {D : Nat → Nat → Prop}, j + k = c → LInv c t m g (fun a b => D a b ∨ (a = i ∧ b < j)) → LInv c t m (liftRow t c i j k g) (fun a b => D a b ∨ a = i)
  | 0, j, g, D, e, L => L.less fun a b ha hb d => d.imp_right fun z => ⟨z, by omega⟩
  | k + 1, j, g, D, e, L => by
    refine liftRow_inv hi k (j + 1) (by omega) ((L.step hi (j := j) (by omega)).less fun a b ha hb d => ?_)
    rcases d with d | ⟨d1, d2⟩
    · exact .inl (.inl d)
    · by_cases hb' : b = j
      · exact .inr ⟨d1, hb'⟩
      · exact .inl (.inr ⟨d1, by omega⟩)
theorem liftAll_inv {c : Nat} {t : Int} {m : Mt} : ∀ (k i : Nat) {g : Mt}, i + k = c → LInv c t m g (fun a _ => a < i) → LInv c t m (liftAll t c i k g) (fun _ _ => True)
  | 0, i, g, e, L => L.less fun a b ha hb d => by omega
  | k + 1, i, g, e, L => by
    refine liftAll_inv k (i + 1) (by omega) ((liftRow_inv (i := i) (by omega) c 0 (D := fun a _ => a < i) (by omega) (L.less fun a b ha hb d => ?_)).less fun a b ha hb d => ?_)
    · rcases d with d | d
      · exact d
      · omega
    · by_cases h : a = i
      · exact .inr h
      · exact .inl (by omega)
/-- the raised matrix: all sums the same, no entry lowered, an even matrix as it was -/
theorem lift_spec {c : Nat} {m : Mt} (h : Sqr c m) (hc : 1 ≤ c) : Sqr c (lift m) ∧ (∀ a b, at2 m a b ≤ at2 (lift m) a b) ∧ EvenC c (lift m) (deg m) ∧ (EvenC c m (deg m) → lift m = m) := by
  have L : LInv c (deg m) m (lift m) (fun _ _ => True) := by
    unfold lift
    rw [h.len]
    exact liftAll_inv c 0 (by omega) ⟨h, fun _ _ => Int.le_refl _, fun a ha => row_le_deg h ha, fun b hb => col_le_deg h hb, fun a b _ _ d => by omega, fun _ => rfl⟩
  refine ⟨L.sqr, L.ge, ?_, L.same⟩
  generalize lift m = g at L
  have tot : sumN c (rowS c g) = sumN c (colS c g) := allS_cols c g
  by_cases hr : ∀ i, i < c → rowS c g i = deg m
  · refine ⟨hr, ?_⟩
    have e : sumN c (colS c g) = sumN c (fun _ => deg m) := by rw [← tot]; exact sumN_congr hr
    exact sumN_eq (fun j hj => L.col j hj) e
  · have : ∃ i, i < c ∧ rowS c g i ≠ deg m := Classical.byContradiction fun z => hr fun i hi => Classical.byContradiction fun q => z ⟨i, hi, q⟩
    obtain ⟨i, hi, ne⟩ := this
    have hcol : ∀ j, j < c → colS c g j = deg m := fun j hj => (L.done i j hi hj trivial).resolve_left ne
    have e : sumN c (rowS c g) = sumN c (fun _ => deg m) := by rw [tot]; exact sumN_congr hcol
    exact ⟨sumN_eq (fun j hj => L.row j hj) e, hcol⟩
theorem liftRow_sqr {c : Nat} {t : Int} {i : Nat} (hi : i < c) : ∀ (k j : Nat) {g : Mt}, Sqr c g → Sqr c (liftRow t c i j k g)
  | 0, _, _, h => h
  | k + 1, j, _, h => liftRow_sqr hi k (j + 1) (upd2_sqr h hi)

/-! ### step by step: expressions -/
/-- the next of a row of numbers -/
theorem rng_cons (k t : Nat) : ((List.range (t + 1)).map fun i => PyData.int ((k + i : Nat) : Int)) = .int (k : Int) :: (List.range t).map fun i => PyData.int ((k + 1 + i : Nat) : Int) := by
  rw [List.range_succ_eq_map, List.map_cons, List.map_map]
  have e : ((fun (i : Nat) => PyData.int ((k + i : Nat) : Int)) ∘ Nat.succ) = fun (i : Nat) => PyData.int ((k + 1 + i : Nat) : Int) := by
    funext i
    simp only [Function.comp]
    congr 1
    omega
  rw [e]
  rfl
theorem ix_int {r : Row} {j : Nat} (h : j < r.length) : dIx (.list (rowD r)) (.int (j : Int)) = some (.int (r.getD j 0)) := ix_l r j h
theorem ix_m {c : Nat} {m : Mt} (h : Sqr c m) {i : Nat} (hi : i < c) : dIx (encM m) (.int (i : Int)) = some (encR (m.getD i [])) := by
  have hl : i < m.length := by rw [h.len]; exact hi
  unfold dIx encM
  simp only
  rw [atI_map, atI_nat' hl]
  simp [List.getD, hl]
theorem ix_ml {c : Nat} {m : Mt} (h : Sqr c m) {i : Nat} (hi : i < c) : dIx (.list ((m.map rowD).map .list)) (.int (i : Int)) = some (.list (rowD (m.getD i []))) := by
  have hl : i < m.length := by rw [h.len]; exact hi
  rw [ix_ll _ _ (by simpa using hl), getD_rowD _ _ hl]

--
/-! ### == on data without bools -/
mutual
def nb : D → Bool
  | .none => true
  | .int _ => true
  | .str x => PyData.strOk x
  | .list xs => nbL xs
  | .tuple xs => nbL xs
  | .bool _ => false
  | .dict _ => false
def nbL : List D → Bool
  | [] => true
  | x :: xs => nb x && nbL xs
end
mutual
theorem eqv_inj : ∀ (d e : D), nb d = true → nb e = true → PyData.eqv d e = true → d = e
  | .none, e, _, h2, h => by cases e <;> simp_all [PyData.eqv, nb]
  | .int i, e, _, h2, h => by cases e <;> simp_all [PyData.eqv, nb]
  | .str x, e, _, h2, h => by cases e <;> simp_all [PyData.eqv, nb]
  | .list xs, e, h1, h2, h => by
    cases e with
    | list ys =>
      rw [PyData.eqv] at h
      rw [nb] at h1 h2
      rw [eqvAll_inj xs ys h1 h2 h]
    | _ => simp [PyData.eqv] at h
  | .tuple xs, e, h1, h2, h => by
    cases e with
    | tuple ys =>
      rw [PyData.eqv] at h
      rw [nb] at h1 h2
      rw [eqvAll_inj xs ys h1 h2 h]
    | _ => simp [PyData.eqv] at h
  | .bool b, e, h1, _, _ => by simp [nb] at h1
  | .dict b, e, h1, _, _ => by simp [nb] at h1
theorem eqvAll_inj : ∀ (xs ys : List D), nbL xs = true → nbL ys = true → PyData.eqvAll xs ys = true → xs = ys
  | [], [], _, _, _ => rfl
  | [], _ :: _, _, _, h => by simp [PyData.eqvAll] at h
  | _ :: _, [], _, _, h => by simp [PyData.eqvAll] at h
  | x :: xs, y :: ys, h1, h2, h => by
    rw [PyData.eqvAll, Bool.and_eq_true] at h
    rw [nbL, Bool.and_eq_true] at h1 h2
    rw [eqv_inj x y h1.1 h2.1 h.1, eqvAll_inj xs ys h1.2 h2.2 h.2]
end
mutual
theorem nb_lay : ∀ (d : D), nb d = true → d.canLay0 = true
  | .none, _ => rfl
  | .int _, _ => rfl
  | .str x, h => by rw [PyData.canLay0]; rw [nb] at h; exact h
  | .list xs, h => by rw [PyData.canLay0]; rw [nb] at h; exact nbL_lay xs h
  | .tuple xs, h => by rw [PyData.canLay0]; rw [nb] at h; exact nbL_lay xs h
  | .bool _, h => by simp [nb] at h
  | .dict _, h => by simp [nb] at h
theorem nbL_lay : ∀ (xs : List D), nbL xs = true → PyData.canLayAll0 xs = true
  | [], _ => rfl
  | x :: xs, h => by
    rw [nbL, Bool.and_eq_true] at h
    rw [PyData.canLayAll0, nb_lay x h.1, nbL_lay xs h.2]; rfl
end
/-- without bools, of depth at most k -/
def G (k : Nat) (d : D) : Prop := nb d = true ∧ d.depth ≤ k
theorem G.mono {k l : Nat} {d : D} (h : G k d) (hl : k ≤ l) : G l d := ⟨h.1, Nat.le_trans h.2 hl⟩
theorem nbL_all {xs : List D} (h : ∀ x ∈ xs, nb x = true) : nbL xs = true := by
  induction xs with
  | nil => rfl
  | cons d r ih => rw [nbL, h d List.mem_cons_self, ih fun e he => h e (List.mem_cons_of_mem _ he)]; rfl
theorem depthAll_le {k : Nat} : ∀ {xs : List D}, (∀ x ∈ xs, x.depth ≤ k) → PyData.depthAll xs ≤ k
  | [], _ => Nat.zero_le _
  | x :: xs, h => by
    rw [PyData.depthAll]
    exact Nat.max_le.2 ⟨h x List.mem_cons_self, depthAll_le fun y hy => h y (List.mem_cons_of_mem _ hy)⟩
theorem G_int (k : Nat) (i : Int) : G k (.int i) := ⟨rfl, Nat.zero_le _⟩
theorem G_none (k : Nat) : G k .none := ⟨rfl, Nat.zero_le _⟩
theorem G_tup {k : Nat} {xs : List D} (h : ∀ x ∈ xs, G k x) : G (k + 1) (.tuple xs) := ⟨by rw [nb]; exact nbL_all fun x hx => (h x hx).1, by rw [PyData.depth]; exact Nat.succ_le_succ (depthAll_le fun x hx => (h x hx).2)⟩
theorem G_lst {k : Nat} {xs : List D} (h : ∀ x ∈ xs, G k x) : G (k + 1) (.list xs) := ⟨by rw [nb]; exact nbL_all fun x hx => (h x hx).1, by rw [PyData.depth]; exact Nat.succ_le_succ (depthAll_le fun x hx => (h x hx).2)⟩
theorem G_map {α : Type} {k : Nat} {f : α → D} {l : List α} (h : ∀ x ∈ l, G k (f x)) : ∀ d ∈ l.map f, G k d := fun d hd => by
  obtain ⟨x, hx, rfl⟩ := List.mem_map.mp hd
  exact h x hx
theorem G_row (r : Row) : G 1 (encR r) := G_tup (G_map fun x _ => G_int 0 x)
theorem G_mat (m : Mt) : G 2 (encM m) := G_tup (G_map fun r _ => G_row r)
theorem G_ints (l : List Int) : G 1 (.list (l.map .int)) := G_lst (G_map fun x _ => G_int 0 x)
theorem G.shaped {k : Nat} {d : D} (h : G k d) (hk : k ≤ 64) : SeqAt.shaped d = true := by
  unfold SeqAt.shaped
  rw [nb_lay d h.1, decide_eq_true (Nat.le_trans h.2 hk)]
  rfl
theorem dEq_t {k : Nat} {d : D} (h : G k d) (hk : k ≤ 64) : dEq d d = some (.bool true) := by
  unfold dEq
  rw [h.shaped hk, SeqAt.eqv_refl d (nb_lay d h.1)]
  rfl
theorem dEq_f {k : Nat} {d e : D} (h : G k d) (h2 : G k e) (hk : k ≤ 64) (hne : d ≠ e) : dEq d e = some (.bool false) := by
  unfold dEq
  rw [h.shaped hk, h2.shaped hk]
  cases hq : PyData.eqv d e with
  | false => rfl
  | true => exact absurd (eqv_inj d e h.1 h2.1 hq) hne
theorem dNe_f {k : Nat} {d : D} (h : G k d) (hk : k ≤ 64) : dNe d d = some (.bool false) := by
  unfold dNe
  rw [h.shaped hk, SeqAt.eqv_refl d (nb_lay d h.1)]
  rfl
theorem dNe_t {k : Nat} {d e : D} (h : G k d) (h2 : G k e) (hk : k ≤ 64) (hne : d ≠ e) : dNe d e = some (.bool true) := by
  unfold dNe
  rw [h.shaped hk, h2.shaped hk]
  cases hq : PyData.eqv d e with
  | false => rfl
  | true => exact absurd (eqv_inj d e h.1 h2.1 hq) hne
theorem encR_inj {a b : Row} (h : encR a = encR b) : a = b := by
  unfold encR at h
  have h := PyData.tuple.inj h
  exact (List.map_inj_right fun x y e => PyData.int.inj e).mp h
theorem encM_inj {a b : Mt} (h : encM a = encM b) : a = b := by
  unfold encM at h
  have h := PyData.tuple.inj h
  exact (List.map_inj_right fun x y e => encR_inj e).mp h
/-- == of data by a plain question -/
theorem dEq_dec {k : Nat} {d e : D} (h : G k d) (h2 : G k e) (hk : k ≤ 64) {p : Prop} [Decidable p] (hp : p ↔ d = e) : dEq d e = some (.bool (decide p)) := by
  by_cases q : p
  · rw [decide_eq_true q, ← hp.1 q]; exact dEq_t h hk
  · rw [decide_eq_false q]; exact dEq_f h h2 hk fun z => q (hp.2 z)
theorem dNe_dec {k : Nat} {d e : D} (h : G k d) (h2 : G k e) (hk : k ≤ 64) {p : Prop} [Decidable p] (hp : p ↔ d = e) : dNe d e = some (.bool (!decide p)) := by
  by_cases q : p
  · rw [decide_eq_true q, ← hp.1 q]; exact dNe_f h hk
  · rw [decide_eq_false q]; exact dNe_t h h2 hk fun z => q (hp.2 z)

/-! ### slices and such -/
theorem cut_take1 {α : Type} (xs : List α) : cutD xs none (some 1) = xs.take 1 := by
  have h : HT.sIx xs.length xs.length (some 1) = min 1 xs.length := HT.sIx_nat xs.length xs.length 1
  unfold cutD
  rw [HT.sIx_none, h, List.drop_zero, Nat.sub_zero]
  cases xs with
  | nil => rfl
  | cons a b => rw [List.length_cons, Nat.min_eq_left (by omega)]
theorem cut_drop1 {α : Type} (xs : List α) : cutD xs (some 1) none = xs.drop 1 := by
  have h : HT.sIx xs.length 0 (some 1) = min 1 xs.length := HT.sIx_nat xs.length 0 1
  unfold cutD
  rw [HT.sIx_none, h]
  cases xs with
  | nil => rfl
  | cons a b =>
    rw [List.length_cons, Nat.min_eq_left (by omega)]
    show List.take (b.length + 1 - 1) b = b
    rw [Nat.add_sub_cancel, List.take_length]
theorem sIx_m1 (n d : Nat) : HT.sIx n d (some (-1)) = n - 1 := by
  unfold HT.sIx
  simp
  omega
theorem cut_init {α : Type} (xs : List α) (x : α) : cutD (xs ++ [x]) none (some (-1)) = xs := by
  unfold cutD
  rw [HT.sIx_none, sIx_m1, List.drop_zero, Nat.sub_zero, List.length_append]
  simp
theorem ixT_last (xs : List D) (x : D) : dIx (.tuple (xs ++ [x])) (.int (-1)) = some x := by
  unfold dIx
  exact atI_last xs x
theorem isRw_len {c lo hi : Int} {xs : List D} (h : (xs.length : Int) ≠ c) : isRw c lo hi (.tuple xs) = false := by
  simp [isRw, h]
theorem isRw_item {c lo hi : Int} {xs : List D} {x : D} (hx : x ∈ xs) (h : isI x lo hi = false) : isRw c lo hi (.tuple xs) = false := by
  have : (xs.all fun x => isI x lo hi) = false := by
    rw [Bool.eq_false_iff]
    intro z
    rw [List.all_eq_true.mp z x hx] at h
    cases h
  simp [isRw, this]
theorem add_tup {a b : List D} (h : a.length + b.length ≤ lim) : dAdd (.tuple a) (.tuple b) = some (.tuple (a ++ b)) := by
  simp [dAdd, h]
theorem plL_app {a b : List D} (h1 : plL a = true) (h2 : plL b = true) : plL (a ++ b) = true := plL_all fun d hd => (List.mem_append.mp hd).elim (plL_mem h1 d) (plL_mem h2 d)

/-! ### raised -/
theorem VM.sqr {m : Mt} (h : VM m) : Sqr m.length m := ⟨rfl, h.sq⟩
/-! ### rows side by side -/
def leRow (r o : Row) : Bool := (List.zipWith (fun a b => decide (a ≤ b)) r o).all id
def leMat (m v : Mt) : Bool := (List.zipWith leRow m v).all id
theorem leRow_gt : ∀ (r o : Row), (List.zipWith (fun a b => decide (b < a)) r o).any id = !leRow r o
  | [], _ => rfl
  | _ :: _, [] => rfl
  | x :: r, y :: o => by
    have ih := leRow_gt r o
    unfold leRow at ih ⊢
    simp only [List.zipWith_cons_cons, List.any_cons, List.all_cons, id, ih]
    by_cases h : x ≤ y
    · simp [h, Int.not_lt.2 h]
    · simp [h, Int.not_le.1 h]
theorem leRow_flt : ∀ (r o : Row), decide (((List.zip r o).filter fun z => decide (z.2 < z.1)).map (fun z => z.1) = []) = leRow r o
  | [], _ => rfl
  | _ :: _, [] => rfl
  | x :: r, y :: o => by
    have ih := leRow_flt r o
    unfold leRow at ih ⊢
    simp only [List.zip_cons_cons, List.zipWith_cons_cons, List.all_cons, id, List.filter_cons]
    by_cases h : x ≤ y
    · rw [if_neg (by simpa using h), ih]
      simp [h]
    · rw [if_pos (by simpa using Int.not_le.1 h)]
      simp [h]
theorem all_zip {α β : Type} {f : α → β → Bool} {da : α} {db : β} : ∀ {xs : List α} {ys : List β}, xs.length = ys.length → ((List.zipWith f xs ys).all id = true ↔ ∀ i, i < xs.length → f (xs.getD i da) (ys.getD i db) = true)
  | [], [], _ => by simp
  | x :: xs, y :: ys, h => by
    have ih := all_zip (f := f) (da := da) (db := db) (xs := xs) (ys := ys) (by simpa using h)
    simp only [List.zipWith_cons_cons, List.all_cons, id, Bool.and_eq_true, ih]
    constructor
    · rintro ⟨h1, h2⟩ i hi
      cases i with
      | zero => exact h1
      | succ i => exact h2 i (by simpa using hi)
    · intro q
      exact ⟨q 0 (by simp), fun i hi => q (i + 1) (by simpa using hi)⟩
theorem leMat_iff {c : Nat} {m v : Mt} (hm : Sqr c m) (hv : Sqr c v) : leMat m v = true ↔ ∀ i j, i < c → j < c → at2 m i j ≤ at2 v i j := by
  unfold leMat
  rw [all_zip (da := []) (db := []) (by rw [hm.len, hv.len]), hm.len]
  constructor
  · intro q i j hi hj
    have := q i hi
    unfold leRow at this
    rw [all_zip (da := 0) (db := 0) (by rw [hm.get hi, hv.get hi]), hm.get hi] at this
    exact of_decide_eq_true (this j hj)
  · intro q i hi
    unfold leRow
    rw [all_zip (da := 0) (db := 0) (by rw [hm.get hi, hv.get hi]), hm.get hi]
    exact fun j hj => decide_eq_true (q i j hi hj)
def sumsAre (v : Mt) (t : Int) : Bool := (lineSums v).all fun z => decide (z = t)
theorem sumsAre_iff {c : Nat} {v : Mt} (h : Sqr c v) (t : Int) : sumsAre v t = true ↔ EvenC c v t := by
  unfold sumsAre
  rw [List.all_eq_true, ← ev_all h]
  constructor
  · exact fun q z hz => of_decide_eq_true (q z hz)
  · exact fun q z hz => decide_eq_true (q z hz)
theorem all_map_bool (l : List Int) (p : Int → Bool) : dAll (.list (l.map fun z => .bool (p z))) = some (.bool (l.all p)) := by
  unfold dAll lst?
  rw [show (l.map fun z => PyData.bool (p z)) = (l.map p).map .bool by simp]
  simp only [Option.bind_some, bools?_map, Option.map_some, List.all_map]
  rfl
theorem any_zip_bool (r o : Row) (p : Int → Int → Bool) : dAny (.list (List.zipWith (fun a b => .bool (p a b)) r o)) = some (.bool ((List.zipWith p r o).any id)) := by
  unfold dAny lst?
  rw [show (List.zipWith (fun a b => PyData.bool (p a b)) r o) = (List.zipWith p r o).map .bool by rw [List.map_zipWith]]
  simp only [Option.bind_some, bools?_map, Option.map_some]
/-! ### is_raised -/
theorem len_mat (m : Mt) : dLen (encM m) = some (.int (m.length : Int)) := by simp [dLen, encM]
theorem isSq_enc {c : Nat} {v : Mt} (h : Sqr c v) {lo hi : Int} (hr : ∀ r ∈ v, ∀ x ∈ r, lo ≤ x ∧ x ≤ hi) : isSq (encM v) (c : Int) lo hi = true := by
  unfold isSq encM
  simp only [List.length_map, h.len, decide_true, Bool.true_and, List.all_map]
  rw [List.all_eq_true]
  exact fun r hr' => isRw_row (by rw [h.row r hr']) (hr r hr')
/-! ### the law's own question -/
theorem G_nil (k : Nat) : G (k + 1) (.list []) := G_lst fun x hx => by cases hx
theorem ne_nil_ints (l : List Int) : dNe (.list (l.map .int)) (.list []) = some (.bool (!decide (l = []))) := by
  refine dNe_dec (G_ints l) (G_nil 0) (by decide) ⟨fun h => by rw [h]; rfl, fun h => ?_⟩
  simpa using h
theorem lst_nil : dLst [] = some (.list []) := rfl
theorem filter_nil (l : List Int) (t : Int) : decide ((l.filter fun z => !decide (z = t)) = []) = l.all fun z => decide (z = t) := by
  induction l with
  | nil => rfl
  | cons a r ih =>
    rw [List.filter_cons, List.all_cons, ← ih]
    by_cases h : a = t <;> simp [h]
/-! ### owners of columns, by paths -/
abbrev Ow := List (Option Nat)
def og (o : Ow) (j : Nat) : Option Nat := o.getD j none
theorem og_set {o : Ow} {j : Nat} (h : j < o.length) (v : Option Nat) (i : Nat) : og (o.set j v) i = if i = j then v else og o i := by
  unfold og
  by_cases e : i = j
  · subst e
    rw [if_pos rfl, List.getD, List.getElem?_set_self h]
    rfl
  · rw [if_neg e, getD_set_ne (Ne.symm e)]
/-- the columns of a row, one by one -/
def impL (rec : Ow → Nat → List Nat → Bool × Ow × List Nat) (row : Nat) : List Nat → Ow → List Nat → Bool × Ow × List Nat
  | [], o, s => (false, o, s)
  | j :: js, o, s => if s.contains j then impL rec row js o s else match og o j with
    | none => (true, o.set j (some row), s ++ [j])
    | some r => match rec o r (s ++ [j]) with
      | (true, o', s') => (true, o'.set j (some row), s')
      | (false, o', s') => impL rec row js o' s'
def imp (adj : Nat → List Nat) : Nat → Ow → Nat → List Nat → Bool × Ow × List Nat
  | 0, o, _, s => (false, o, s)
  | f + 1, o, row, s => impL (imp adj f) row (adj row) o s
/-- a set of columns that no path leaves -/
def Closed (adj : Nat → List Nat) (o : Ow) (S : Nat → Prop) : Prop := ∀ j, S j → ∃ r, og o j = some r ∧ ∀ k ∈ adj r, S k
/-- out of a closed set nothing is found -/
theorem imp_stuck {adj : Nat → List Nat} {o : Ow} {S : Nat → Prop} (hS : Closed adj o S) : ∀ (f row : Nat) (s : List Nat), (∀ k ∈ adj row, S k) → ∃ s', imp adj f o row s = (false, o, s')
  | 0, row, s, _ => ⟨s, rfl⟩
  | f + 1, row, s, h => by
    show ∃ s', impL (imp adj f) row (adj row) o s = _
    generalize adj row = js at h
    induction js generalizing s with
    | nil => exact ⟨s, rfl⟩
    | cons j js ih =>
      unfold impL
      by_cases hc : s.contains j = true
      · rw [if_pos hc]
        exact ih s fun k hk => h k (List.mem_cons_of_mem _ hk)
      · rw [if_neg hc]
        obtain ⟨r, hr, hr2⟩ := hS j (h j List.mem_cons_self)
        obtain ⟨s', e⟩ := imp_stuck hS f r (s ++ [j]) hr2
        rw [hr]
        simp only [e]
        exact ih s' fun k hk => h k (List.mem_cons_of_mem _ hk)
/-- what is true of a search that found nothing: what was seen is closed, but for what had been seen before -/
structure Fail (adj : Nat → List Nat) (c : Nat) (o : Ow) (cols : List Nat) (s : List Nat) (o' : Ow) (s' : List Nat) : Prop where
  same : o' = o
  sub : ∀ j ∈ s, j ∈ s'
  nd : s'.Nodup
  rng : ∀ j ∈ s', j < c
  all : ∀ k ∈ cols, k ∈ s'
  new : ∀ j ∈ s', j ∉ s → ∃ r, og o j = some r ∧ ∀ k ∈ adj r, k ∈ s'
/-- what is true of a search that found a path: only columns not seen before have changed, and none of a closed set; the rows are those of before and the new one -/
structure Win (adj : Nat → List Nat) (c : Nat) (o : Ow) (row : Nat) (s : List Nat) (o' : Ow) : Prop where
  len : o'.length = o.length
  old : ∀ j ∈ s, og o' j = og o j
  clo : ∀ S, Closed adj o S → ∀ j, S j → og o' j = og o j
  val : ∀ j r, og o' j = some r → og o j = some r ∨ j ∈ adj r
  inj : ∀ j k r, j ∉ s → k ∉ s → og o' j = some r → og o' k = some r → j = k
  rows : ∀ r, (∃ j, j ∉ s ∧ og o' j = some r) ↔ r = row ∨ ∃ j, j ∉ s ∧ og o j = some r
  keep : ∀ j, og o j ≠ none → og o' j ≠ none
theorem impL_spec {adj : Nat → List Nat} {c : Nat} (hadj : ∀ r, ∀ j ∈ adj r, j < c) {f : Nat} {row : Nat}
    (rec : ∀ (o : Ow) (r : Nat) (s : List Nat), o.length = c → s.Nodup → (∀ j ∈ s, j < c) → c - s.length < f → (∀ j k x, j ∉ s → k ∉ s → og o j = some x → og o k = some x → j = k) → (∀ j, j ∉ s → og o j ≠ some r) →
      ∃ b o' s', imp adj f o r s = (b, o', s') ∧ (b = false → Fail adj c o (adj r) s o' s') ∧ (b = true → Win adj c o r s o')) :
    ∀ (js : List Nat) (o : Ow) (s : List Nat), (∀ j ∈ js, j ∈ adj row) → o.length = c → s.Nodup → (∀ j ∈ s, j < c) → c - s.length < f + 1 → (∀ j k x, j ∉ s → k ∉ s → og o j = some x → og o k = some x → j = k) → (∀ j, j ∉ s → og o j ≠ some row) →
      ∃ b o' s', impL (imp adj f) row js o s = (b, o', s') ∧ (b = false → Fail adj c o js s o' s') ∧ (b = true → Win adj c o row s o')
  | [], o, s, _, hl, nd, rg, _, _, _ => ⟨false, o, s, rfl, fun _ => ⟨rfl, fun _ h => h, nd, rg, fun _ h => (by cases h), fun _ h1 h2 => absurd h1 h2⟩, fun h => by cases h⟩
  | j :: js, o, s, hjs, hl, nd, rg, hf, hinj, hrow => by
    have hja : j ∈ adj row := hjs j List.mem_cons_self
    have hjc : j < c := hadj row j hja
    have hjs' : ∀ k ∈ js, k ∈ adj row := fun k hk => hjs k (List.mem_cons_of_mem _ hk)
    unfold impL
    by_cases hc : s.contains j = true
    · rw [if_pos hc]
      have hjm : j ∈ s := by simpa using hc
      obtain ⟨b, o', s', e, h1, h2⟩ := impL_spec hadj rec js o s hjs' hl nd rg hf hinj hrow
      refine ⟨b, o', s', e, fun hb => ?_, h2⟩
      have F := h1 hb
      exact ⟨F.same, F.sub, F.nd, F.rng, fun k hk => by
        rcases List.mem_cons.mp hk with rfl | hk
        · exact F.sub _ hjm
        · exact F.all k hk, F.new⟩
    · rw [if_neg hc]
      have hjm : j ∉ s := by simpa using hc
      have nd1 : (s ++ [j]).Nodup := List.nodup_append.mpr ⟨nd, by simp, fun a ha b hb e => by
        rw [List.mem_singleton] at hb
        exact hjm (hb ▸ e ▸ ha)⟩
      have rg1 : ∀ k ∈ s ++ [j], k < c := fun k hk => by
        rcases List.mem_append.mp hk with hk | hk
        · exact rg k hk
        · rw [List.mem_singleton.mp hk]; exact hjc
      have hout : ∀ {k}, k ∉ s ++ [j] ↔ k ∉ s ∧ k ≠ j := by
        intro k
        simp [not_or]
      cases ho : og o j with
      | none =>
        refine ⟨true, _, _, rfl, (fun h => by cases h), fun _ => ?_⟩
        have hlj : j < o.length := by rw [hl]; exact hjc
        refine ⟨by rw [List.length_set], fun k hk => ?_, fun S hS k hk => ?_, fun k r hk => ?_, fun k l r hk hl' h1 h2 => ?_, fun r => ?_, fun k hk => ?_⟩
        · rw [og_set hlj, if_neg (fun (z : k = j) => hjm (z ▸ hk))]
        · rw [og_set hlj, if_neg]
          intro z
          obtain ⟨r, hr, _⟩ := hS k hk
          rw [z, ho] at hr
          cases hr
        · rw [og_set hlj] at hk
          split at hk
          · rename_i e
            cases hk
            exact .inr (by rw [e]; exact hja)
          · exact .inl hk
        · rw [og_set hlj] at h1 h2
          split at h1
          · rename_i e1
            cases h1
            split at h2
            · rename_i e2; rw [e1, e2]
            · exact absurd h2 (hrow l hl')
          · split at h2
            · cases h2
              exact absurd h1 (hrow k hk)
            · exact hinj k l r hk hl' h1 h2
        · constructor
          · rintro ⟨k, hk, h⟩
            rw [og_set hlj] at h
            split at h
            · cases h; exact .inl rfl
            · exact .inr ⟨k, hk, h⟩
          · rintro (rfl | ⟨k, hk, h⟩)
            · exact ⟨j, hjm, by rw [og_set hlj, if_pos rfl]⟩
            · refine ⟨k, hk, ?_⟩
              rw [og_set hlj, if_neg]
              · exact h
              · intro z
                rw [z, ho] at h
                cases h
        · rw [og_set hlj]
          split
          · simp
          · exact hk
      | some r =>
        have hlen : s.length < c := by
          have : (s ++ [j]).length ≤ c := by
            have := List.Nodup.length_le_of_subset (l₂ := List.range c) nd1 (fun k hk => List.mem_range.mpr (rg1 k hk))
            simpa using this
          simp at this
          omega
        obtain ⟨b, o1, s1, e, h1, h2⟩ := rec o r (s ++ [j]) hl nd1 rg1 (by rw [List.length_append]; simp; omega) (fun a b x ha hb => hinj a b x (hout.1 ha).1 (hout.1 hb).1) (fun k hk h => (hout.1 hk).2 (hinj k j r (hout.1 hk).1 hjm h ho))
        cases b with
        | true =>
          have W := h2 rfl
          simp only [e]
          refine ⟨true, _, _, rfl, (fun h => by cases h), fun _ => ?_⟩
          have hl1 : o1.length = c := by rw [W.len]; exact hl
          have hlj : j < o1.length := by rw [hl1]; exact hjc
          have hoj : og o1 j = some r := by rw [W.old j (by simp)]; exact ho
          refine ⟨by rw [List.length_set]; exact W.len, fun k hk => ?_, fun S hS k hk => ?_, fun k x hk => ?_, fun k l x hk hl' g1 g2 => ?_, fun x => ?_, fun k hk => ?_⟩
          · rw [og_set hlj, if_neg (fun (z : k = j) => hjm (z ▸ hk))]
            exact W.old k (List.mem_append_left _ hk)
          · rw [og_set hlj]
            split
            · rename_i z
              rw [z] at hk
              -- j in a closed set: nothing would have been found
              obtain ⟨r', hr', hr2⟩ := hS j hk
              rw [ho] at hr'
              cases hr'
              obtain ⟨s', e'⟩ := imp_stuck hS f r (s ++ [j]) hr2
              rw [e] at e'
              cases e'
            · exact W.clo S hS k hk
          · rw [og_set hlj] at hk
            split at hk
            · rename_i z
              cases hk
              exact .inr (by rw [z]; exact hja)
            · exact W.val k x hk
          · rw [og_set hlj] at g1 g2
            have nrow : ∀ m, m ∉ s → m ≠ j → og o1 m ≠ some row := fun m hm hmj hmr => by
              rcases (W.rows row).1 ⟨m, hout.2 ⟨hm, hmj⟩, hmr⟩ with z | ⟨q, hq, hqr⟩
              · exact hrow j hjm (z ▸ ho)
              · exact hrow q (hout.1 hq).1 hqr
            split at g1
            · rename_i z1
              cases g1
              split at g2
              · rename_i z2; rw [z1, z2]
              · rename_i z2
                exact absurd g2 (nrow l hl' z2)
            · rename_i z1
              split at g2
              · cases g2
                exact absurd g1 (nrow k hk z1)
              · rename_i z2
                exact W.inj k l x (hout.2 ⟨hk, z1⟩) (hout.2 ⟨hl', z2⟩) g1 g2
          · constructor
            · rintro ⟨k, hk, h⟩
              rw [og_set hlj] at h
              split at h
              · cases h; exact .inl rfl
              · rename_i z
                rcases (W.rows x).1 ⟨k, hout.2 ⟨hk, z⟩, h⟩ with rfl | ⟨q, hq, hqr⟩
                · exact .inr ⟨j, hjm, ho⟩
                · exact .inr ⟨q, (hout.1 hq).1, hqr⟩
            · rintro (rfl | ⟨k, hk, h⟩)
              · exact ⟨j, hjm, by rw [og_set hlj, if_pos rfl]⟩
              · by_cases z : k = j
                · subst z
                  rw [ho] at h
                  cases h
                  obtain ⟨q, hq, hqr⟩ := (W.rows r).2 (.inl rfl)
                  exact ⟨q, (hout.1 hq).1, by rw [og_set hlj, if_neg (hout.1 hq).2]; exact hqr⟩
                · obtain ⟨q, hq, hqr⟩ := (W.rows x).2 (.inr ⟨k, hout.2 ⟨hk, z⟩, h⟩)
                  exact ⟨q, (hout.1 hq).1, by rw [og_set hlj, if_neg (hout.1 hq).2]; exact hqr⟩
          · rw [og_set hlj]
            split
            · simp
            · exact W.keep k hk
        | false =>
          have F := h1 rfl
          simp only [e]
          have eo := F.same
          subst eo
          have hsl : (s ++ [j]).length ≤ s1.length := List.Nodup.length_le_of_subset nd1 fun k hk => F.sub k hk
          have hsub : ∀ {k}, k ∉ s1 → k ∉ s := fun hk h => hk (F.sub _ (List.mem_append_left _ h))
          obtain ⟨b, o2, s2, e2, h3, h4⟩ := impL_spec hadj rec js o1 s1 hjs' hl F.nd F.rng (by simp at hsl; omega) (fun a b x ha hb => hinj a b x (hsub ha) (hsub hb)) (fun k hk => hrow k (hsub hk))
          refine ⟨b, o2, s2, e2, fun hb => ?_, fun hb => ?_⟩
          · have F2 := h3 hb
            refine ⟨F2.same, fun k hk => F2.sub k (F.sub k (List.mem_append_left _ hk)), F2.nd, F2.rng, fun k hk => ?_, fun k hk hks => ?_⟩
            · rcases List.mem_cons.mp hk with rfl | hk
              · exact F2.sub _ (F.sub _ (by simp))
              · exact F2.all k hk
            · by_cases hk1 : k ∈ s1
              · by_cases hkj : k = j
                · subst hkj
                  exact ⟨r, ho, fun l hl => F2.sub l (F.all l hl)⟩
                · obtain ⟨r', g1, g2⟩ := F.new k hk1 (hout.2 ⟨hks, hkj⟩)
                  exact ⟨r', g1, fun l hl => F2.sub l (g2 l hl)⟩
              · exact F2.new k hk hk1
          · have W := h4 hb
            refine ⟨W.len, fun k hk => W.old k (F.sub k (List.mem_append_left _ hk)), W.clo, W.val, fun k l x hk hl' g1 g2 => ?_, fun x => ?_, W.keep⟩
            · by_cases hk1 : k ∈ s1
              · rw [W.old k hk1] at g1
                by_cases hl1 : l ∈ s1
                · rw [W.old l hl1] at g2
                  exact hinj k l x hk hl' g1 g2
                · rcases (W.rows x).1 ⟨l, hl1, g2⟩ with z | ⟨q, hq, hqr⟩
                  · exact absurd (z ▸ g1) (hrow k hk)
                  · have := hinj k q x hk (hsub hq) g1 hqr
                    exact absurd (this ▸ hk1) hq
              · by_cases hl1 : l ∈ s1
                · rw [W.old l hl1] at g2
                  rcases (W.rows x).1 ⟨k, hk1, g1⟩ with z | ⟨q, hq, hqr⟩
                  · exact absurd (z ▸ g2) (hrow l hl')
                  · have := hinj l q x hl' (hsub hq) g2 hqr
                    exact absurd (this ▸ hl1) hq
                · exact W.inj k l x hk1 hl1 g1 g2
            · constructor
              · rintro ⟨k, hk, h⟩
                by_cases hk1 : k ∈ s1
                · rw [W.old k hk1] at h
                  exact .inr ⟨k, hk, h⟩
                · rcases (W.rows x).1 ⟨k, hk1, h⟩ with z | ⟨q, hq, hqr⟩
                  · exact .inl z
                  · exact .inr ⟨q, hsub hq, hqr⟩
              · rintro (z | ⟨k, hk, h⟩)
                · obtain ⟨q, hq, hqr⟩ := (W.rows x).2 (.inl z)
                  exact ⟨q, hsub hq, hqr⟩
                · by_cases hk1 : k ∈ s1
                  · exact ⟨k, hk, by rw [W.old k hk1]; exact h⟩
                  · obtain ⟨q, hq, hqr⟩ := (W.rows x).2 (.inr ⟨k, hk1, h⟩)
                    exact ⟨q, hsub hq, hqr⟩
theorem imp_spec {adj : Nat → List Nat} {c : Nat} (hadj : ∀ r, ∀ j ∈ adj r, j < c) : ∀ (f : Nat) (o : Ow) (r : Nat) (s : List Nat), o.length = c → s.Nodup → (∀ j ∈ s, j < c) → c - s.length < f → (∀ j k x, j ∉ s → k ∉ s → og o j = some x → og o k = some x → j = k) → (∀ j, j ∉ s → og o j ≠ some r) →
      ∃ b o' s', imp adj f o r s = (b, o', s') ∧ (b = false → Fail adj c o (adj r) s o' s') ∧ (b = true → Win adj c o r s o')
  | 0, _, _, _, _, _, _, h, _, _ => by omega
  | f + 1, o, r, s, hl, nd, rg, hf, hinj, hrow => by
    exact impL_spec hadj (imp_spec hadj f) (adj r) o s (fun _ h => h) hl nd rg hf hinj hrow

/-! ### all rows in turn -/
structure OI (adj : Nat → List Nat) (c k : Nat) (o : Ow) (S : Nat → Prop) : Prop where
  len : o.length = c
  inj : ∀ j l x, og o j = some x → og o l = some x → j = l
  val : ∀ j r, og o j = some r → j ∈ adj r ∧ r < k
  clo : Closed adj o S
  rng : ∀ j, S j → j < c
  row : ∀ r, r < k → (∃ j, og o j = some r) ∨ ∀ j ∈ adj r, S j
theorem own_step {adj : Nat → List Nat} {c : Nat} (hadj : ∀ r, ∀ j ∈ adj r, j < c) {k : Nat} {o : Ow} {S : Nat → Prop} (h : OI adj c k o S) : ∃ b o' s' S', imp adj (c + 1) o k [] = (b, o', s') ∧ OI adj c (k + 1) o' S' := by
  obtain ⟨b, o', s', e, hF, hW⟩ := imp_spec hadj (c + 1) o k [] h.len List.nodup_nil (fun _ z => by cases z) (by simp) (fun j l x _ _ => h.inj j l x) (fun j _ z => by have := (h.val j k z).2; omega)
  cases b with
  | false =>
    have F := hF rfl
    have eo := F.same
    subst eo
    refine ⟨false, o', s', fun j => S j ∨ j ∈ s', e, h.len, h.inj, fun j r z => ⟨(h.val j r z).1, by have := (h.val j r z).2; omega⟩, fun j hj => ?_, fun j hj => ?_, fun r hr => ?_⟩
    · rcases hj with hj | hj
      · obtain ⟨r, h1, h2⟩ := h.clo j hj
        exact ⟨r, h1, fun l hl => .inl (h2 l hl)⟩
      · obtain ⟨r, h1, h2⟩ := F.new j hj (by simp)
        exact ⟨r, h1, fun l hl => .inr (h2 l hl)⟩
    · rcases hj with hj | hj
      · exact h.rng j hj
      · exact F.rng j hj
    · by_cases hk : r = k
      · subst hk
        exact .inr fun j hj => .inr (F.all j hj)
      · rcases h.row r (by omega) with z | z
        · exact .inl z
        · exact .inr fun j hj => .inl (z j hj)
  | true =>
    have W := hW rfl
    have nn : ∀ j : Nat, j ∉ ([] : List Nat) := fun j z => by cases z
    refine ⟨true, o', s', S, e, by rw [W.len]; exact h.len, fun j l x => W.inj j l x (nn j) (nn l), fun j r z => ⟨?_, ?_⟩, fun j hj => ?_, h.rng, fun r hr => ?_⟩
    · rcases W.val j r z with q | q
      · exact (h.val j r q).1
      · exact q
    · rcases (W.rows r).1 ⟨j, nn j, z⟩ with q | ⟨l, _, q⟩
      · omega
      · have := (h.val l r q).2; omega
    · rw [W.clo S h.clo j hj]
      exact h.clo j hj
    · by_cases hk : r = k
      · obtain ⟨j, _, q⟩ := (W.rows r).2 (.inl hk)
        exact .inl ⟨j, q⟩
      · rcases h.row r (by omega) with ⟨j, z⟩ | z
        · obtain ⟨l, _, q⟩ := (W.rows r).2 (.inr ⟨j, nn j, z⟩)
          exact .inl ⟨l, q⟩
        · exact .inr z
def ownGo (adj : Nat → List Nat) (c : Nat) : Nat → Nat → Ow → Ow
  | _, 0, o => o
  | row, k + 1, o => ownGo adj c (row + 1) k (imp adj (c + 1) o row []).2.1
def ownF (adj : Nat → List Nat) (c n : Nat) : Ow := ownGo adj c 0 n (List.replicate c none)
theorem ownGo_inv {adj : Nat → List Nat} {c : Nat} (hadj : ∀ r, ∀ j ∈ adj r, j < c) : ∀ (k row : Nat) {o : Ow} {S : Nat → Prop}, OI adj c row o S → ∃ S', OI adj c (row + k) (ownGo adj c row k o) S'
  | 0, _, _, S, h => ⟨S, h⟩
  | k + 1, row, o, S, h => by
    obtain ⟨b, o', s', S', e, h'⟩ := own_step hadj h
    obtain ⟨S2, h2⟩ := ownGo_inv hadj k (row + 1) h'
    refine ⟨S2, ?_⟩
    unfold ownGo
    rw [e]
    rw [show row + (k + 1) = row + 1 + k by omega]
    exact h2
theorem og_none (c j : Nat) : og (List.replicate c none) j = none := by
  unfold og
  rw [List.getD, List.getElem?_replicate]
  split <;> rfl
theorem ownF_inv {adj : Nat → List Nat} {c : Nat} (hadj : ∀ r, ∀ j ∈ adj r, j < c) (n : Nat) : ∃ S, OI adj c n (ownF adj c n) S := by
  have h0 : OI adj c 0 (List.replicate c none) (fun _ => False) := ⟨by simp, fun j l x h => (by rw [og_none] at h; cases h), fun j r h => (by rw [og_none] at h; cases h), fun j h => h.elim, fun j h => h.elim, fun r hr => by omega⟩
  have := ownGo_inv hadj n 0 h0
  rw [Nat.zero_add] at this
  exact this
/-! ### an even matrix: all rows get a column -/
theorem sumN_mul (k : Int) (f : Nat → Int) : ∀ n : Nat, sumN n (fun i => k * f i) = k * sumN n f
  | 0 => by simp [sumN]
  | n + 1 => by
    show sumN n (fun i => k * f i) + k * f n = k * (sumN n f + f n)
    rw [sumN_mul k f n, Int.mul_add]
theorem sumN_one {f : Nat → Int} {n : Nat} (h01 : ∀ i, i < n → f i = 0 ∨ f i = 1) (h : ∀ i j, i < n → j < n → f i = 1 → f j = 1 → i = j) : sumN n f ≤ 1 := by
  by_cases q : ∃ i, i < n ∧ f i = 1
  · obtain ⟨i, hi, e⟩ := q
    have : sumN n f = sumN n (fun j => if j = i then 1 else 0) := sumN_congr fun j hj => by
      by_cases ej : j = i
      · rw [if_pos ej, ej, e]
      · rw [if_neg ej]
        rcases h01 j hj with z | z
        · exact z
        · exact absurd (h j i hj hi z e) ej
    rw [this, sumN_point, if_pos hi]
    omega
  · have : sumN n f = sumN n (fun _ => 0) := sumN_congr fun j hj => by
      rcases h01 j hj with z | z
      · exact z
      · exact absurd ⟨j, hj, z⟩ q
    rw [this, sumN_zero]
    omega
def posC (m : Mt) (c r : Nat) : List Nat := (List.range c).filter fun j => decide (0 < at2 m r j)
theorem posC_mem {m : Mt} {c r j : Nat} : j ∈ posC m c r ↔ j < c ∧ 0 < at2 m r j := by
  unfold posC
  rw [List.mem_filter, List.mem_range, decide_eq_true_eq]
open Classical in
theorem even_owned {c : Nat} {m : Mt} {t : Int} (ht : 0 < t) (ev : EvenC c m t) (nn : ∀ i j, i < c → j < c → 0 ≤ at2 m i j) {o : Ow} {S : Nat → Prop} (h : OI (posC m c) c c o S) {r : Nat} (hr : r < c) : ∃ j, og o j = some r := by
  rcases h.row r hr with q | q
  · exact q
  · refine Classical.byContradiction fun hno => ?_
    have hno : ∀ j, og o j ≠ some r := fun j z => hno ⟨j, z⟩
    let sg : Nat → Int := fun j => if S j then 1 else 0
    let inQ : Nat → Prop := fun i => i = r ∨ ∃ j, S j ∧ og o j = some i
    let qi : Nat → Int := fun i => if inQ i then 1 else 0
    have hq : ∀ i, inQ i → ∀ j ∈ posC m c i, S j := fun i hi j hj => by
      rcases hi with rfl | ⟨l, hl, ol⟩
      · exact q j hj
      · obtain ⟨r', h1, h2⟩ := h.clo l hl
        rw [ol] at h1
        cases h1
        exact h2 j hj
    -- the sums over the rows of Q
    have e1 : sumN c (fun i => sumN c (fun j => qi i * at2 m i j)) = t * sumN c qi := by
      rw [← sumN_mul]
      refine sumN_congr fun i hi => ?_
      rw [sumN_mul, show sumN c (fun j => at2 m i j) = t from ev.1 i hi, Int.mul_comm]
    have e2 : sumN c (fun j => sumN c (fun i => qi i * at2 m i j)) ≤ t * sumN c sg := by
      rw [← sumN_mul]
      refine sumN_le fun j hj => ?_
      by_cases hS : S j
      · have : sumN c (fun i => qi i * at2 m i j) ≤ sumN c (fun i => at2 m i j) := sumN_le fun i hi => by
          have n0 := nn i j hi hj
          show (if inQ i then (1 : Int) else 0) * at2 m i j ≤ _
          split
          · omega
          · omega
        have e : sumN c (fun i => at2 m i j) = t := ev.2 j hj
        show _ ≤ t * (if S j then (1 : Int) else 0)
        rw [if_pos hS]
        omega
      · have : sumN c (fun i => qi i * at2 m i j) = sumN c (fun _ => 0) := sumN_congr fun i hi => by
          show (if inQ i then (1 : Int) else 0) * at2 m i j = 0
          split
          · rename_i hi'
            have n0 := nn i j hi hj
            have : ¬ 0 < at2 m i j := fun z => hS (hq i hi' j (posC_mem.2 ⟨hj, z⟩))
            omega
          · omega
        rw [this, sumN_zero]
        show 0 ≤ t * (if S j then (1 : Int) else 0)
        rw [if_neg hS]
        omega
    have e3 : t * sumN c qi ≤ t * sumN c sg := by
      rw [← e1, sumN_swap (fun i j => qi i * at2 m i j) c c]
      exact e2
    -- there is one row more than columns
    have e4 : 1 + sumN c sg ≤ sumN c qi := by
      have a1 : sumN c (fun i => (if i = r then (1 : Int) else 0) + sumN c (fun j => if S j ∧ og o j = some i then 1 else 0)) = 1 + sumN c sg := by
        rw [sumN_add, sumN_point, if_pos hr, sumN_swap (fun i j => if S j ∧ og o j = some i then (1 : Int) else 0) c c]
        congr 1
        refine sumN_congr fun j hj => ?_
        show _ = if S j then (1 : Int) else 0
        by_cases hS : S j
        · obtain ⟨x, hx, _⟩ := h.clo j hS
          have hxc := (h.val j x hx).2
          rw [if_pos hS]
          have : sumN c (fun i => if S j ∧ og o j = some i then (1 : Int) else 0) = sumN c (fun i => if i = x then 1 else 0) := sumN_congr fun i hi => by
            by_cases e : i = x
            · rw [if_pos e, if_pos ⟨hS, by rw [e]; exact hx⟩]
            · rw [if_neg e, if_neg]
              rintro ⟨_, z⟩
              rw [hx] at z
              exact e (Option.some.inj z).symm
          rw [this, sumN_point, if_pos hxc]
        · rw [if_neg hS]
          have : sumN c (fun i => if S j ∧ og o j = some i then (1 : Int) else 0) = sumN c (fun _ => 0) := sumN_congr fun i hi => if_neg fun z => hS z.1
          rw [this, sumN_zero]
      rw [← a1]
      refine sumN_le fun i hi => ?_
      have b1 : sumN c (fun j => if S j ∧ og o j = some i then (1 : Int) else 0) ≤ 1 := by
        refine sumN_one (fun j hj => ?_) fun j l hj hl z1 z2 => ?_
        · by_cases z : S j ∧ og o j = some i
          · exact .inr (if_pos z)
          · exact .inl (if_neg z)
        · by_cases y1 : S j ∧ og o j = some i
          · by_cases y2 : S l ∧ og o l = some i
            · exact h.inj j l i y1.2 y2.2
            · rw [if_neg y2] at z2; omega
          · rw [if_neg y1] at z1; omega
      show _ ≤ if inQ i then (1 : Int) else 0
      by_cases hi' : inQ i
      · rw [if_pos hi']
        by_cases hir : i = r
        · have : sumN c (fun j => if S j ∧ og o j = some i then (1 : Int) else 0) = sumN c (fun _ => 0) := sumN_congr fun j hj => if_neg fun z => hno j (hir ▸ z.2)
          rw [this, sumN_zero, if_pos hir]
          omega
        · rw [if_neg hir]
          omega
      · rw [if_neg hi', if_neg fun z => hi' (.inl z)]
        have : sumN c (fun j => if S j ∧ og o j = some i then (1 : Int) else 0) = sumN c (fun _ => 0) := sumN_congr fun j hj => if_neg fun z => hi' (.inr ⟨j, z⟩)
        rw [this, sumN_zero]
        omega
    have e5 : t * (1 + sumN c sg) ≤ t * sumN c qi := Int.mul_le_mul_of_nonneg_left e4 (by omega)
    rw [Int.mul_add] at e5
    omega
/-! ### all permutations are listed -/
theorem permsK_of {c : Nat} : ∀ (k : Nat) (p : Row), p.length = k → p.Nodup → (∀ x ∈ p, 0 ≤ x ∧ x < c) → p ∈ permsK c k
  | 0, p, h, _, _ => by
    have : p = [] := List.length_eq_zero_iff.mp h
    rw [this]
    simp [permsK]
  | k + 1, p, h, nd, rg => by
    have hne : p ≠ [] := fun z => by rw [z] at h; simp at h
    have e : p = p.dropLast ++ [p.getLast hne] := (List.dropLast_concat_getLast hne).symm
    generalize p.getLast hne = x at e
    generalize p.dropLast = q at e
    subst e
    rw [List.nodup_append] at nd
    obtain ⟨n1, _, n3⟩ := nd
    have hq : q ∈ permsK c k := permsK_of k q (by simpa using h) n1 fun y hy => rg y (List.mem_append_left _ hy)
    have hx := rg x (by simp)
    show q ++ [x] ∈ (permsK c k).flatMap (stepOne c)
    rw [List.mem_flatMap]
    refine ⟨q, hq, ?_⟩
    unfold stepOne
    rw [List.mem_map]
    refine ⟨x.toNat, ?_, ?_⟩
    · rw [List.mem_filter, List.mem_range]
      refine ⟨by omega, ?_⟩
      have : ((x.toNat : Nat) : Int) = x := by omega
      rw [this]
      simp only [Bool.not_eq_true', List.contains_eq_mem, decide_eq_false_iff_not]
      exact fun z => n3 x z x (by simp) rfl
    · have : ((x.toNat : Nat) : Int) = x := by omega
      rw [this]
theorem perms_of {c : Nat} {p : Row} (h : IsP c p) : p ∈ perms c := permsK_of c p h.len h.nd h.rng
/-- an even matrix above 0 has a permutation of entries above 0 -/
theorem even_perm {c : Nat} {m : Mt} {t : Int} (ht : 0 < t) (ev : EvenC c m t) (nn : ∀ i j, i < c → j < c → 0 ≤ at2 m i j) : ∃ p, p ∈ perms c ∧ IsP c p ∧ ∀ i, i < c → 0 < at2 m i (p.getD i 0).toNat := by
  obtain ⟨S, h⟩ := ownF_inv (adj := posC m c) (c := c) (fun r j hj => (posC_mem.1 hj).1) c
  generalize ownF (posC m c) c c = o at h
  have hex : ∀ i, ∃ j, i < c → og o j = some i := fun i => by
    by_cases hi : i < c
    · obtain ⟨j, hj⟩ := even_owned ht ev nn h hi
      exact ⟨j, fun _ => hj⟩
    · exact ⟨0, fun z => absurd z hi⟩
  obtain ⟨f, hf⟩ : ∃ f : Nat → Nat, ∀ i, i < c → og o (f i) = some i := ⟨fun i => Classical.choose (hex i), fun i => Classical.choose_spec (hex i)⟩
  have hfc : ∀ i, i < c → f i < c ∧ 0 < at2 m i (f i) := fun i hi => posC_mem.1 (h.val (f i) i (hf i hi)).1
  have hP : IsP c ((List.range c).map fun i => ((f i : Nat) : Int)) := by
    refine ⟨by simp, ?_, fun x hx => ?_⟩
    · refine List.pairwise_map.mpr ?_
      refine List.Pairwise.imp_of_mem ?_ List.nodup_range
      intro a b ha hb hab e
      rw [List.mem_range] at ha hb
      have e : f a = f b := by exact_mod_cast e
      have h1 := hf a ha
      rw [e, hf b hb] at h1
      exact hab (Option.some.inj h1).symm
    · obtain ⟨i, hi, rfl⟩ := List.mem_map.mp hx
      have := (hfc i (List.mem_range.mp hi)).1
      omega
  refine ⟨_, perms_of hP, hP, fun i hi => ?_⟩
  have : ((List.range c).map fun i => ((f i : Nat) : Int)).getD i 0 = ((f i : Nat) : Int) := by
    rw [getD_lt (by simpa using hi)]
    simp
  rw [this, Int.toNat_natCast]
  exact (hfc i hi).2


/-- is_integer: slots value low high -/
def b_is_integer : FS := (sRet (eAnd (e1 (dIsi "int") (eVar 0)) (eAnd (eNot (e1 (dIsi "bool") (eVar 0))) (eChain dLe dLe (eVar 1) (eVar 0) (eVar 2)))))
def m_is_integer : Fn := mkF 3 0 b_is_integer
/-- is_square_of: slots value count low high row one -/
def b_is_square_of : FS := (sSeq (sIf (bOr (bNot (bV (e1 (dIsi "tuple") (eVar 0)))) (bV (e2 dNe (eL (c1 dLen) (aCons (eVar 0) aNil)) (eVar 1))))
  (sRet (eC (.bool false)))
  sSkip)
  (sSeq (sFor (iS (eVar 0)) (.nm 4)
  (sIf (bOr (bNot (bV (e1 (dIsi "tuple") (eVar 4)))) (bOr (bV (e2 dNe (eL (c1 dLen) (aCons (eVar 4) aNil)) (eVar 1))) (bNot (bV (eL (c1 dAll) (aCons (eList (eLc [5] (iS (eVar 4)) (.nm 5) bYes (eCall m_is_integer (aCons (eVar 5) (aCons (eVar 2) (aCons (eVar 3) aNil)))))) aNil))))))
  (sRet (eC (.bool false)))
  sSkip))
  (sRet (eC (.bool true)))))
def m_is_square_of : Fn := mkF 4 2 b_is_square_of
/-- is_matrix: slots value -/
def b_is_matrix : FS := (sRet (eAnd (e1 (dIsi "tuple") (eVar 0)) (eAnd (eChain dLe dLe (eC (.int 1)) (eL (c1 dLen) (aCons (eVar 0) aNil)) (eC (.int 5))) (eCall m_is_square_of (aCons (eVar 0) (aCons (eL (c1 dLen) (aCons (eVar 0) aNil)) (aCons (eC (.int 0)) (aCons (eC (.int 9)) aNil))))))))
def m_is_matrix : Fn := mkF 1 0 b_is_matrix
/-- check_matrix: slots matrix -/
def b_check_matrix : FS := (sIf (bNot (bV (eCall m_is_matrix (aCons (eVar 0) aNil))))
  (sRaise "InvalidMatrix")
  sSkip)
def m_check_matrix : Fn := mkF 1 0 b_check_matrix
/-- line_sums: slots matrix row at -/
def b_line_sums : FS := (sRet (e2 dAdd (eList (eLc [1] (iS (eVar 0)) (.nm 1) bYes (eL (c1 dSum) (aCons (eVar 1) aNil)))) (eList (eLc [2] (iR1 (aCons (eL (c1 dLen) (aCons (eVar 0) aNil)) aNil)) (.nm 2) bYes (eL (c1 dSum) (aCons (eList (eLc [1] (iS (eVar 0)) (.nm 1) bYes (e2 dIx (eVar 1) (eVar 2)))) aNil))))))
def m_line_sums : Fn := mkF 1 2 b_line_sums
/-- degree_of: slots matrix -/
def b_degree_of : FS := (sRet (eL (c1 dMax) (aCons (eCall m_line_sums (aCons (eVar 0) aNil)) aNil)))
def m_degree_of : Fn := mkF 1 0 b_degree_of
/-- degree: slots matrix -/
def b_degree : FS := (sSeq (sCallX m_check_matrix (aCons (eVar 0) aNil))
  (sRet (eCall m_degree_of (aCons (eVar 0) aNil))))
def m_degree : Fn := mkF 1 0 b_degree
/-- even: slots matrix -/
def b_even : FS := (sRet (e2 dEq (eL (c1 dMin) (aCons (eCall m_line_sums (aCons (eVar 0) aNil)) aNil)) (eCall m_degree_of (aCons (eVar 0) aNil))))
def m_even : Fn := mkF 1 0 b_even
/-- is_even: slots matrix -/
def b_is_even : FS := (sSeq (sCallX m_check_matrix (aCons (eVar 0) aNil))
  (sRet (eCall m_even (aCons (eVar 0) aNil))))
def m_is_even : Fn := mkF 1 0 b_is_even
/-- orders: slots count result again later one column -/
def b_orders : FS := (sSeq (sOwn 1 (aLim (aCons (eL dTup aNil) aNil)))
  (sSeq (sFor (iR1 (aCons (eVar 0) aNil)) (.nm 2)
  (sSeq (sOwn 3 (aLim aNil))
  (sSeq (sFrz 1 (sFor (iS (eVar 1)) (.nm 4)
  (sExt 3 (eList (eLc [5] (iR1 (aCons (eVar 0) aNil)) (.nm 5) (bV (e2 dNotIn (eVar 5) (eVar 4))) (e2 dAdd (eVar 4) (eL dTup (aCons (eVar 5) aNil))))))))
  (sMove 3 1))))
  (sRet (eVar 1))))
def m_orders : Fn := mkF 1 5 b_orders
/-- worth_of: slots matrix order row column -/
def b_worth_of : FS := (sRet (eL (c1 dMin) (aCons (eList (eLc [2, 3] (iZ (aCons (eVar 0) (aCons (eVar 1) aNil))) (.tp [2, 3]) bYes (e2 dIx (eVar 2) (eVar 3)))) aNil)))
def m_worth_of : Fn := mkF 2 2 b_worth_of
/-- minus: slots matrix weight positions rows row i j -/
def b_minus : FS := (sSeq (sOwn2 3 (eLc2 [4] (iS (eVar 0)) (.nm 4) (aSeq (aCons (eVar 4) aNil))))
  (sSeq (sFor (iS (eVar 2)) (.tp [5, 6])
  (sAug2 3 (eVar 5) (eVar 6) (eVar 1) (fun i j => i - j)))
  (sRet (eL (c1 dTuple) (aCons (eList (eLc [4] (iS (eVar 3)) (.nm 4) bYes (eL (c1 dTuple) (aCons (eVar 4) aNil)))) aNil)))))
def m_minus : Fn := mkF 3 4 b_minus
/-- permutations: slots matrix order -/
def b_permutations : FS := (sSeq (sCallX m_check_matrix (aCons (eVar 0) aNil))
  (sRet (eList (eLc [1] (iS (eCall m_orders (aCons (eL (c1 dLen) (aCons (eVar 0) aNil)) aNil))) (.nm 1) (bV (e2 dGt (eCall m_worth_of (aCons (eVar 0) (aCons (eVar 1) aNil))) (eC (.int 0)))) (eVar 1)))))
def m_permutations : Fn := mkF 1 1 b_permutations
/-- count_permutations: slots matrix ways row later used column entry more -/
def b_count_permutations : FS := (sSeq (sCallX m_check_matrix (aCons (eVar 0) aNil))
  sNone)
def m_count_permutations : Fn := mkF 1 7 b_count_permutations
/-- text_of: slots matrix entry row -/
def b_text_of : FS := (sRet (e2 dJoin (eC (.str "\n")) (eList (eLc [2] (iS (eVar 0)) (.nm 2) bYes (e2 dJoin (eC (.str " ")) (eList (eLc [1] (iS (eVar 2)) (.nm 1) bYes (eL (c1 dStr) (aCons (eVar 1) aNil)))))))))
def m_text_of : Fn := mkF 1 2 b_text_of
/-- format_matrix: slots matrix -/
def b_format_matrix : FS := (sSeq (sCallX m_check_matrix (aCons (eVar 0) aNil))
  (sRet (eCall m_text_of (aCons (eVar 0) aNil))))
def m_format_matrix : Fn := mkF 1 0 b_format_matrix
/-- first_permutation: slots matrix order -/
def b_first_permutation : FS := (sSeq (sCallX m_check_matrix (aCons (eVar 0) aNil))
  (sSeq (sFor (iS (eCall m_orders (aCons (eL (c1 dLen) (aCons (eVar 0) aNil)) aNil))) (.nm 1)
  (sIf (bV (e2 dGt (eCall m_worth_of (aCons (eVar 0) (aCons (eVar 1) aNil))) (eC (.int 0))))
  (sRet (eVar 1))
  sSkip))
  (sRaise "NoPermutation")))
def m_first_permutation : Fn := mkF 1 1 b_first_permutation
/-- improved: slots allowed owner row seen column -/
def b_improved (m_improved : Fn) : FS := (sSeq (sFor (iS (e2 dIx (eVar 0) (eVar 2))) (.nm 4)
  (sIf (bVw [false, false, false, true, true] (bV (e2 dNotIn (eVar 4) (eVar 3))))
  (sSeq (sAppC 3 (eVar 4))
  (sIf (bOr (bVw [false, true, false, false, true] (bV (e2 dIs (e2 dIx (eVar 1) (eVar 4)) (eC .none)))) (bV (eCall m_improved (aCons (eVar 0) (aCons (eVar 1) (aCons (eV [false, true, false, false, true] (e2 dIx (eVar 1) (eVar 4))) (aCons (eVar 3) aNil)))))))
  (sSeq (sPutC 1 (eVar 4) (eVar 2))
  (sRet (eC (.bool true))))
  sSkip))
  sSkip))
  (sRet (eC (.bool false))))
def m_improved : Fn := recF (fun m => mkF 4 1 (b_improved m)) 7
/-- owners: slots allowed count owner row -/
def b_owners : FS := (sSeq (sNewC 2 (aRep (eL dLst (aCons (eC .none) aNil)) (eVar 1)))
  (sSeq (sFor (iR1 (aCons (eL (c1 dLen) (aCons (eVar 0) aNil)) aNil)) (.nm 3)
  (sCallC m_improved (aCons (eVar 0) (aCons (eVar 2) (aCons (eVar 3) (aCons eNewC aNil))))))
  (sRetC 2)))
def m_owners : Fn := mkF 2 2 b_owners
/-- above: slots matrix limit column entry row -/
def b_above : FS := (sRet (eList (eLc [4] (iS (eVar 0)) (.nm 4) bYes (eList (eLc [2, 3] (iEn (aCons (eVar 4) aNil)) (.tp [2, 3]) (bV (e2 dGt (eVar 3) (eVar 1))) (eVar 2))))))
def m_above : Fn := mkF 2 3 b_above
/-- free_lines: slots matrix limit count allowed owner rows row columns line column -/
def b_free_lines : FS := (sSeq (sSet 2 (eL (c1 dLen) (aCons (eVar 0) aNil)))
  (sSeq (sSetH 3 (eCall m_above (aCons (eVar 0) (aCons (eVar 1) aNil))))
  (sSeq (sSetH 4 (eCall m_owners (aCons (eVar 3) (aCons (eVar 2) aNil))))
  (sSeq (sOwn 5 (eLc [6] (iR1 (aCons (eVar 2) aNil)) (.nm 6) (bV (e2 dNotIn (eVar 6) (eVar 4))) (eVar 6)))
  (sSeq (sOwn 7 (aLim aNil))
  (sSeq (sNewC 8 (aSeq (aCons (eVar 5) aNil)))
  (sSeq (sWhile 1000 (bVw [false, false, false, false, false, false, false, false, true] (bV (e2 dNe (eVar 8) (eL dLst aNil))))
  (sFor (iS (e2 dIx (eVar 3) (ePopC 8))) (.nm 9)
  (sIf (bV (e2 dNotIn (eVar 9) (eVar 7)))
  (sSeq (sApp 7 (eVar 9))
  (sIf (bV (e2 dNotIn (e2 dIx (eVar 4) (eVar 9)) (eVar 5)))
  (sSeq (sApp 5 (e2 dIx (eVar 4) (eVar 9)))
  (sAppC 8 (e2 dIx (eVar 4) (eVar 9))))
  sSkip))
  sSkip)))
  (sRet (eL dTup (aCons (eL (c1 dTuple) (aCons (eL (c1 dSortedK) (aCons (eVar 5) aNil)) aNil)) (aCons (eL (c1 dTuple) (aCons (eList (eLc [9] (iR1 (aCons (eVar 2) aNil)) (.nm 9) (bV (e2 dNotIn (eVar 9) (eVar 7))) (eVar 9))) aNil)) aNil)))))))))))
def m_free_lines : Fn := mkF 2 8 b_free_lines
/-- block: slots matrix rows columns -/
def b_block : FS := (sSeq (sCallX m_check_matrix (aCons (eVar 0) aNil))
  (sSeq (sTgt (.tp [1, 2]) (eCall m_free_lines (aCons (eVar 0) (aCons (eC (.int 0)) aNil))))
  (sSeq (sIf (bV (e2 dLe (e2 dAdd (eL (c1 dLen) (aCons (eVar 1) aNil)) (eL (c1 dLen) (aCons (eVar 2) aNil))) (eL (c1 dLen) (aCons (eVar 0) aNil))))
  (sRaise "HasPermutation")
  sSkip)
  (sRet (eL dTup (aCons (eVar 1) (aCons (eVar 2) aNil)))))))
def m_block : Fn := mkF 1 2 b_block
/-- are_lines: slots value count some one other -/
def b_are_lines : FS := (sSeq (sIf (bOr (bNot (bV (e1 (dIsi "tuple") (eVar 0)))) (bV (e2 dNe (eL (c1 dLen) (aCons (eVar 0) aNil)) (eC (.int 2)))))
  (sRet (eC (.bool false)))
  sSkip)
  (sSeq (sFor (iS (eVar 0)) (.nm 2)
  (sSeq (sIf (bOr (bNot (bV (e1 (dIsi "tuple") (eVar 2)))) (bNot (bV (eL (c1 dAll) (aCons (eList (eLc [3] (iS (eVar 2)) (.nm 3) bYes (eCall m_is_integer (aCons (eVar 3) (aCons (eC (.int 0)) (aCons (e2 dSub (eVar 1) (eC (.int 1))) aNil)))))) aNil)))))
  (sRet (eC (.bool false)))
  sSkip)
  (sIf (bNot (bV (eL (c1 dAll) (aCons (eList (eLc [3, 4] (iZ (aCons (eVar 2) (aCons (eSl dSl (eVar 2) (oSome (eC (.int 1))) oNone) aNil))) (.tp [3, 4]) bYes (e2 dLt (eVar 3) (eVar 4)))) aNil))))
  (sRet (eC (.bool false)))
  sSkip)))
  (sRet (eC (.bool true)))))
def m_are_lines : Fn := mkF 2 3 b_are_lines
/-- at_most: slots matrix value limit row column -/
def b_at_most : FS := (sSeq (sIf (bOr (bNot (bV (eCall m_are_lines (aCons (eVar 1) (aCons (eL (c1 dLen) (aCons (eVar 0) aNil)) aNil))))) (bV (e2 dLe (e2 dAdd (eL (c1 dLen) (aCons (e2 dIx (eVar 1) (eC (.int 0))) aNil)) (eL (c1 dLen) (aCons (e2 dIx (eVar 1) (eC (.int 1))) aNil))) (eL (c1 dLen) (aCons (eVar 0) aNil)))))
  (sRet (eC (.bool false)))
  sSkip)
  (sSeq (sFor (iS (e2 dIx (eVar 1) (eC (.int 0)))) (.nm 3)
  (sIf (bV (eL (c1 dAny) (aCons (eList (eLc [4] (iS (e2 dIx (eVar 1) (eC (.int 1)))) (.nm 4) bYes (e2 dGt (e2 dIx (e2 dIx (eVar 0) (eVar 3)) (eVar 4)) (eVar 2)))) aNil)))
  (sRet (eC (.bool false)))
  sSkip))
  (sRet (eC (.bool true)))))
def m_at_most : Fn := mkF 3 2 b_at_most
/-- is_block: slots matrix value -/
def b_is_block : FS := (sSeq (sCallX m_check_matrix (aCons (eVar 0) aNil))
  (sRet (eCall m_at_most (aCons (eVar 0) (aCons (eVar 1) (aCons (eC (.int 0)) aNil))))))
def m_is_block : Fn := mkF 2 0 b_is_block
/-- placement: slots matrix owner column row -/
def b_placement : FS := (sSeq (sCallX m_check_matrix (aCons (eVar 0) aNil))
  (sSeq (sSetH 1 (eCall m_owners (aCons (eCall m_above (aCons (eVar 0) (aCons (eC (.int 0)) aNil))) (aCons (eL (c1 dLen) (aCons (eVar 0) aNil)) aNil))))
  (sRet (eL (c1 dTuple) (aCons (eL (c1 dSortedK) (aCons (eList (eLc [2, 3] (iEn (aCons (eVar 1) aNil)) (.tp [2, 3]) (bV (e2 dIsNot (eVar 3) (eC .none))) (eL dTup (aCons (eVar 3) (aCons (eVar 2) aNil))))) aNil)) aNil)))))
def m_placement : Fn := mkF 1 3 b_placement
/-- cover: slots matrix rows columns count left row column -/
def b_cover : FS := (sSeq (sCallX m_check_matrix (aCons (eVar 0) aNil))
  (sSeq (sTgt (.tp [1, 2]) (eCall m_free_lines (aCons (eVar 0) (aCons (eC (.int 0)) aNil))))
  (sSeq (sSet 3 (eL (c1 dLen) (aCons (eVar 0) aNil)))
  (sSeq (sSet 4 (eL (c1 dTuple) (aCons (eList (eLc [5] (iR1 (aCons (eVar 3) aNil)) (.nm 5) (bV (e2 dNotIn (eVar 5) (eVar 1))) (eVar 5))) aNil)))
  (sRet (eL dTup (aCons (eVar 4) (aCons (eL (c1 dTuple) (aCons (eList (eLc [6] (iR1 (aCons (eVar 3) aNil)) (.nm 6) (bV (e2 dNotIn (eVar 6) (eVar 2))) (eVar 6))) aNil)) aNil))))))))
def m_cover : Fn := mkF 1 6 b_cover
/-- are_positions: slots value count one part other row column -/
def b_are_positions : FS := (sSeq (sIf (bNot (bV (e1 (dIsi "tuple") (eVar 0))))
  (sRet (eC (.bool false)))
  sSkip)
  (sSeq (sFor (iS (eVar 0)) (.nm 2)
  (sIf (bOr (bNot (bV (e1 (dIsi "tuple") (eVar 2)))) (bOr (bV (e2 dNe (eL (c1 dLen) (aCons (eVar 2) aNil)) (eC (.int 2)))) (bNot (bV (eL (c1 dAll) (aCons (eList (eLc [3] (iS (eVar 2)) (.nm 3) bYes (eCall m_is_integer (aCons (eVar 3) (aCons (eC (.int 0)) (aCons (e2 dSub (eVar 1) (eC (.int 1))) aNil)))))) aNil))))))
  (sRet (eC (.bool false)))
  sSkip))
  (sSeq (sIf (bNot (bV (eL (c1 dAll) (aCons (eList (eLc [2, 4] (iZ (aCons (eVar 0) (aCons (eSl dSl (eVar 0) (oSome (eC (.int 1))) oNone) aNil))) (.tp [2, 4]) bYes (e2 dLt (e2 dIx (eVar 2) (eC (.int 0))) (e2 dIx (eVar 4) (eC (.int 0)))))) aNil))))
  (sRet (eC (.bool false)))
  sSkip)
  (sRet (e2 dEq (e1 dLenSet (eList (eLc [5, 6] (iS (eVar 0)) (.tp [5, 6]) bYes (eVar 6)))) (eL (c1 dLen) (aCons (eVar 0) aNil)))))))
def m_are_positions : Fn := mkF 2 5 b_are_positions
/-- is_placement: slots matrix value row column -/
def b_is_placement : FS := (sSeq (sCallX m_check_matrix (aCons (eVar 0) aNil))
  (sRet (eAnd (eCall m_are_positions (aCons (eVar 1) (aCons (eL (c1 dLen) (aCons (eVar 0) aNil)) aNil))) (eL (c1 dAll) (aCons (eList (eLc [2, 3] (iS (eVar 1)) (.tp [2, 3]) bYes (e2 dGt (e2 dIx (e2 dIx (eVar 0) (eVar 2)) (eVar 3)) (eC (.int 0))))) aNil)))))
def m_is_placement : Fn := mkF 2 2 b_is_placement
/-- is_cover: slots matrix value i row j entry -/
def b_is_cover : FS := (sSeq (sCallX m_check_matrix (aCons (eVar 0) aNil))
  (sSeq (sIf (bNot (bV (eCall m_are_lines (aCons (eVar 1) (aCons (eL (c1 dLen) (aCons (eVar 0) aNil)) aNil)))))
  (sRet (eC (.bool false)))
  sSkip)
  (sSeq (sFor (iEn (aCons (eVar 0) aNil)) (.tp [2, 3])
  (sIf (bAnd (bV (e2 dNotIn (eVar 2) (e2 dIx (eVar 1) (eC (.int 0))))) (bV (eL (c1 dAny) (aCons (eList (eLc [4, 5] (iEn (aCons (eVar 3) aNil)) (.tp [4, 5]) (bV (e2 dNotIn (eVar 4) (e2 dIx (eVar 1) (eC (.int 1))))) (e2 dGt (eVar 5) (eC (.int 0))))) aNil))))
  (sRet (eC (.bool false)))
  sSkip))
  (sRet (eC (.bool true))))))
def m_is_cover : Fn := mkF 2 4 b_is_cover
/-- lifted: slots matrix top count rows row i j room -/
def b_lifted : FS := (sSeq (sPar 1 2 (aCons (eCall m_degree_of (aCons (eVar 0) aNil)) (aCons (eL (c1 dLen) (aCons (eVar 0) aNil)) aNil)))
  (sSeq (sOwn2 3 (eLc2 [4] (iS (eVar 0)) (.nm 4) (aSeq (aCons (eVar 4) aNil))))
  (sSeq (sFor (iR1 (aCons (eVar 2) aNil)) (.nm 5)
  (sFor (iR1 (aCons (eVar 2) aNil)) (.nm 6)
  (sSeq (sSet 7 (eL dMin2 (aCons (e2 dSub (eVar 1) (eL (c1 dSum) (aCons (e2 dIx (eVar 3) (eVar 5)) aNil))) (aCons (e2 dSub (eVar 1) (eL (c1 dSum) (aCons (eList (eLc [4] (iS (eVar 3)) (.nm 4) bYes (e2 dIx (eVar 4) (eVar 6)))) aNil))) aNil))))
  (sAug2 3 (eVar 5) (eVar 6) (eVar 7) (fun i j => i + j)))))
  (sRet (eL (c1 dTuple) (aCons (eList (eLc [4] (iS (eVar 3)) (.nm 4) bYes (eL (c1 dTuple) (aCons (eVar 4) aNil)))) aNil))))))
def m_lifted : Fn := mkF 1 7 b_lifted
/-- raised: slots matrix -/
def b_raised : FS := (sSeq (sCallX m_check_matrix (aCons (eVar 0) aNil))
  (sRet (eCall m_lifted (aCons (eVar 0) aNil))))
def m_raised : Fn := mkF 1 0 b_raised
/-- is_raised: slots matrix value row other entry more total -/
def b_is_raised : FS := (sSeq (sCallX m_check_matrix (aCons (eVar 0) aNil))
  (sSeq (sIf (bNot (bV (eCall m_is_square_of (aCons (eVar 1) (aCons (eL (c1 dLen) (aCons (eVar 0) aNil)) (aCons (eC (.int 0)) (aCons (eC (.int 99)) aNil)))))))
  (sRet (eC (.bool false)))
  sSkip)
  (sSeq (sFor (iZ (aCons (eVar 0) (aCons (eVar 1) aNil))) (.tp [2, 3])
  (sIf (bV (eL (c1 dAny) (aCons (eList (eLc [4, 5] (iZ (aCons (eVar 2) (aCons (eVar 3) aNil))) (.tp [4, 5]) bYes (e2 dGt (eVar 4) (eVar 5)))) aNil)))
  (sRet (eC (.bool false)))
  sSkip))
  (sRet (eL (c1 dAll) (aCons (eList (eLc [6] (iS (eCall m_line_sums (aCons (eVar 1) aNil))) (.nm 6) bYes (e2 dEq (eVar 6) (eCall m_degree_of (aCons (eVar 0) aNil))))) aNil))))))
def m_is_raised : Fn := mkF 2 5 b_is_raised
/-- check_even: slots matrix -/
def b_check_even : FS := (sSeq (sCallX m_check_matrix (aCons (eVar 0) aNil))
  (sIf (bNot (bV (eCall m_even (aCons (eVar 0) aNil))))
  (sRaise "NotEven")
  sSkip))
def m_check_even : Fn := mkF 1 0 b_check_even
/-- parts_of: slots matrix parts weight order -/
def b_parts_of : FS := (sSeq (sOwn 1 (aLim aNil))
  (sSeq (sWhile 1000 (bV (e2 dGt (eCall m_degree_of (aCons (eVar 0) aNil)) (eC (.int 0))))
  (sSeq (sTgt (.tp [2, 3]) (eL (c1 dMaxD) (aCons (eList (eLc [3] (iS (eCall m_orders (aCons (eL (c1 dLen) (aCons (eVar 0) aNil)) aNil))) (.nm 3) bYes (eL dTup (aCons (eCall m_worth_of (aCons (eVar 0) (aCons (eVar 3) aNil))) (aCons (eVar 3) aNil))))) aNil)))
  (sSeq (sApp 1 (eL dTup (aCons (eVar 3) (aCons (eVar 2) aNil))))
  (sSet 0 (eCall m_minus (aCons (eVar 0) (aCons (eVar 2) (aCons (eList (eEnL (eVar 3))) aNil))))))))
  (sRet (eVar 1))))
def m_parts_of : Fn := mkF 1 3 b_parts_of
/-- split: slots matrix -/
def b_split : FS := (sSeq (sCallX m_check_even (aCons (eVar 0) aNil))
  (sRet (eCall m_parts_of (aCons (eVar 0) aNil))))
def m_split : Fn := mkF 1 0 b_split
/-- is_part: slots value count one -/
def b_is_part : FS := (sSeq (sIf (bOr (bNot (bV (e1 (dIsi "tuple") (eVar 0)))) (bOr (bV (e2 dNe (eL (c1 dLen) (aCons (eVar 0) aNil)) (eC (.int 2)))) (bNot (bV (e1 (dIsi "tuple") (e2 dIx (eVar 0) (eC (.int 0))))))))
  (sRet (eC (.bool false)))
  sSkip)
  (sSeq (sIf (bOr (bNot (bV (eL (c1 dAll) (aCons (eList (eLc [2] (iS (e2 dIx (eVar 0) (eC (.int 0)))) (.nm 2) bYes (eCall m_is_integer (aCons (eVar 2) (aCons (eC (.int 0)) (aCons (e2 dSub (eVar 1) (eC (.int 1))) aNil)))))) aNil)))) (bV (e2 dNe (eL (c1 dSortedK) (aCons (e2 dIx (eVar 0) (eC (.int 0))) aNil)) (eList (aRg (eVar 1))))))
  (sRet (eC (.bool false)))
  sSkip)
  (sRet (eCall m_is_integer (aCons (e2 dIx (eVar 0) (eC (.int 1))) (aCons (eC (.int 1)) (aCons (eC (.int 999)) aNil)))))))
def m_is_part : Fn := mkF 2 1 b_is_part
/-- is_split: slots matrix value one order weight row -/
def b_is_split : FS := (sSeq (sCallX m_check_even (aCons (eVar 0) aNil))
  (sSeq (sIf (bOr (bNot (bV (e1 (dIsi "list") (eVar 1)))) (bNot (bV (eL (c1 dAll) (aCons (eList (eLc [2] (iS (eVar 1)) (.nm 2) bYes (eCall m_is_part (aCons (eVar 2) (aCons (eL (c1 dLen) (aCons (eVar 0) aNil)) aNil))))) aNil)))))
  (sRet (eC (.bool false)))
  sSkip)
  (sSeq (sIf (bV (e2 dNe (e1 dLenSetL (eList (eLc [3, 4] (iS (eVar 1)) (.tp [3, 4]) bYes (eVar 3)))) (eL (c1 dLen) (aCons (eVar 1) aNil))))
  (sRet (eC (.bool false)))
  sSkip)
  (sSeq (sFor (iS (eVar 1)) (.tp [3, 4])
  (sSet 0 (eCall m_minus (aCons (eVar 0) (aCons (eVar 4) (aCons (eList (eEnL (eVar 3))) aNil))))))
  (sRet (eL (c1 dAll) (aCons (eList (eLc [5] (iS (eVar 0)) (.nm 5) bYes (eAnd (e2 dEq (eL (c1 dMax) (aCons (eVar 5) aNil)) (eC (.int 0))) (e2 dEq (eL (c1 dMin) (aCons (eVar 5) aNil)) (eC (.int 0)))))) aNil)))))))
def m_is_split : Fn := mkF 2 4 b_is_split
/-- most_entries: slots matrix rows entry row count at -/
def b_most_entries : FS := (sSeq (sOwn 1 (eLc [3] (iS (eVar 0)) (.nm 3) bYes (eL (c1 dLen) (aCons (eList (eLc [2] (iS (eVar 3)) (.nm 2) (bV (e2 dGt (eVar 2) (eC (.int 0)))) (eVar 2))) aNil))))
  (sSeq (sSet 4 (eL (c1 dLen) (aCons (eVar 0) aNil)))
  (sRet (eL (c1 dMax) (aCons (e2 dAdd (eVar 1) (eList (eLc [5] (iR1 (aCons (eVar 4) aNil)) (.nm 5) bYes (eL (c1 dLen) (aCons (eList (eLc [3] (iS (eVar 0)) (.nm 3) (bV (e2 dGt (e2 dIx (eVar 3) (eVar 5)) (eC (.int 0)))) (eVar 3))) aNil))))) aNil)))))
def m_most_entries : Fn := mkF 1 5 b_most_entries
/-- is_enough: slots matrix count known key first at entry order weight -/
def b_is_enough (m_is_enough : Fn) : FS := (sSeq (sIf (bV (e2 dEq (eCall m_degree_of (aCons (eVar 0) aNil)) (eC (.int 0))))
  (sRet (eC (.bool true)))
  sSkip)
  (sSeq (sIf (bV (e2 dGt (eCall m_most_entries (aCons (eVar 0) aNil)) (eVar 1)))
  (sRet (eC (.bool false)))
  sSkip)
  (sSeq (sSet 3 (eL dTup (aCons (eVar 0) (aCons (eVar 1) aNil))))
  (sSeq (sIf (bV (eDIn true (eVar 3) (eVar 2)))
  (sSeq (sDPut 2 (eVar 3) (eC (.bool false)))
  (sSeq (sSet 4 (e2 dIx (eList (eLc [5, 6] (iEn (aCons (e2 dIx (eVar 0) (eC (.int 0))) aNil)) (.tp [5, 6]) (bV (e2 dGt (eVar 6) (eC (.int 0)))) (eVar 5))) (eC (.int 0))))
  (sFor (iS (eCall m_orders (aCons (eL (c1 dLen) (aCons (eVar 0) aNil)) aNil))) (.nm 7)
  (sIf (bAnd (bV (e2 dEq (e2 dIx (eVar 7) (eC (.int 0))) (eVar 4))) (bNot (bV (eDGet (eVar 2) (eVar 3)))))
  (sFor (iR3 (aCons (eCall m_worth_of (aCons (eVar 0) (aCons (eVar 7) aNil))) (aCons (eC (.int 0)) (aCons (e1 dNeg (eC (.int 1))) aNil)))) (.nm 8)
  (sIf (bV (eCall m_is_enough (aCons (eCall m_minus (aCons (eVar 0) (aCons (eVar 8) (aCons (eList (eEnL (eVar 7))) aNil)))) (aCons (e2 dSub (eVar 1) (eC (.int 1))) (aCons (eVar 2) aNil)))))
  (sSeq (sDPut 2 (eVar 3) (eC (.bool true)))
  sBreak)
  sSkip))
  sSkip))))
  sSkip)
  (sRet (eDGet (eVar 2) (eVar 3)))))))
def m_is_enough : Fn := recF (fun m => mkF 3 6 (b_is_enough m)) 12
/-- fewest_parts: slots matrix count known -/
def b_fewest_parts : FS := (sSeq (sCallX m_check_even (aCons (eVar 0) aNil))
  (sSeq (sIf (bOr (bV (e2 dGt (eL (c1 dLen) (aCons (eVar 0) aNil)) (eC (.int 4)))) (bV (e2 dGt (eCall m_degree_of (aCons (eVar 0) aNil)) (eC (.int 8)))))
  (sRaise "TooLarge")
  sSkip)
  (sSeq (sPar 1 2 (aCons (eC (.int 0)) (aCons eNewD aNil)))
  (sSeq (sWhile 1000 (bNot (bV (eCall m_is_enough (aCons (eVar 0) (aCons (eVar 1) (aCons (eVar 2) aNil))))))
  (sAug 1 (eC (.int 1)) (fun i j => i + j)))
  (sRet (eVar 1))))))
def m_fewest_parts : Fn := mkF 1 2 b_fewest_parts
/-- schedule: slots matrix left phases order weight positions i j length -/
def b_schedule : FS := (sSeq (sCallX m_check_matrix (aCons (eVar 0) aNil))
  (sSeq (sParVO 1 2 (eVar 0) (aLim aNil))
  (sSeq (sFor (iS (eCall m_parts_of (aCons (eCall m_lifted (aCons (eVar 0) aNil)) aNil))) (.tp [3, 4])
  (sWhile 1000 (bV (e2 dGt (eVar 4) (eC (.int 0))))
  (sSeq (sSet 5 (eL (c1 dTuple) (aCons (eList (eLc [6, 7] (iEn (aCons (eVar 3) aNil)) (.tp [6, 7]) (bV (e2 dGt (e2 dIx (e2 dIx (eVar 1) (eVar 6)) (eVar 7)) (eC (.int 0)))) (eL dTup (aCons (eVar 6) (aCons (eVar 7) aNil))))) aNil)))
  (sSeq (sSet 8 (eL (c1 dMin) (aCons (e2 dAdd (eL dLst (aCons (eVar 4) aNil)) (eList (eLc [6, 7] (iS (eVar 5)) (.tp [6, 7]) bYes (e2 dIx (e2 dIx (eVar 1) (eVar 6)) (eVar 7))))) aNil)))
  (sSeq (sApp 2 (eL dTup (aCons (eVar 8) (aCons (eVar 5) aNil))))
  (sSeq (sSet 1 (eCall m_minus (aCons (eVar 1) (aCons (eVar 8) (aCons (eVar 5) aNil)))))
  (sAug 4 (eVar 8) (fun i j => i - j))))))))
  (sRet (eVar 2)))))
def m_schedule : Fn := mkF 1 8 b_schedule
/-- is_phase: slots value count -/
def b_is_phase : FS := (sSeq (sIf (bOr (bNot (bV (e1 (dIsi "tuple") (eVar 0)))) (bOr (bV (e2 dNe (eL (c1 dLen) (aCons (eVar 0) aNil)) (eC (.int 2)))) (bNot (bV (eCall m_is_integer (aCons (e2 dIx (eVar 0) (eC (.int 0))) (aCons (eC (.int 1)) (aCons (eC (.int 999)) aNil))))))))
  (sRet (eC (.bool false)))
  sSkip)
  (sRet (eAnd (e2 dNe (e2 dIx (eVar 0) (eC (.int 1))) (eL dTup aNil)) (eCall m_are_positions (aCons (e2 dIx (eVar 0) (eC (.int 1))) (aCons (eVar 1) aNil))))))
def m_is_phase : Fn := mkF 2 0 b_is_phase
/-- is_schedule: slots matrix value one length positions row -/
def b_is_schedule : FS := (sSeq (sCallX m_check_matrix (aCons (eVar 0) aNil))
  (sSeq (sIf (bOr (bNot (bV (e1 (dIsi "list") (eVar 1)))) (bNot (bV (eL (c1 dAll) (aCons (eList (eLc [2] (iS (eVar 1)) (.nm 2) bYes (eCall m_is_phase (aCons (eVar 2) (aCons (eL (c1 dLen) (aCons (eVar 0) aNil)) aNil))))) aNil)))))
  (sRet (eC (.bool false)))
  sSkip)
  (sSeq (sFor (iS (eVar 1)) (.tp [3, 4])
  (sSet 0 (eCall m_minus (aCons (eVar 0) (aCons (eVar 3) (aCons (eVar 4) aNil))))))
  (sRet (eL (c1 dAll) (aCons (eList (eLc [5] (iS (eVar 0)) (.nm 5) bYes (eAnd (e2 dEq (eL (c1 dMax) (aCons (eVar 5) aNil)) (eC (.int 0))) (e2 dEq (eL (c1 dMin) (aCons (eVar 5) aNil)) (eC (.int 0)))))) aNil))))))
def m_is_schedule : Fn := mkF 2 4 b_is_schedule
/-- check_rooms: slots matrix rooms -/
def b_check_rooms : FS := (sSeq (sCallX m_check_matrix (aCons (eVar 0) aNil))
  (sIf (bNot (bV (eCall m_is_integer (aCons (eVar 1) (aCons (eC (.int 1)) (aCons (eC (.int 5)) aNil))))))
  (sRaise "InvalidRooms")
  sSkip))
def m_check_rooms : Fn := mkF 2 0 b_check_rooms
/-- slots_for: slots matrix rooms total row -/
def b_slots_for : FS := (sSeq (sSet 2 (eL (c1 dSum) (aCons (eList (eLc [3] (iS (eVar 0)) (.nm 3) bYes (eL (c1 dSum) (aCons (eVar 3) aNil)))) aNil)))
  (sRet (eL dMax2 (aCons (eCall m_degree_of (aCons (eVar 0) aNil)) (aCons (e2 dFdiv (e2 dSub (e2 dAdd (eVar 2) (eVar 1)) (eC (.int 1))) (eVar 1)) aNil)))))
def m_slots_for : Fn := mkF 2 2 b_slots_for
/-- least_slots: slots matrix rooms -/
def b_least_slots : FS := (sSeq (sCallX m_check_rooms (aCons (eVar 0) (aCons (eVar 1) aNil)))
  (sRet (eCall m_slots_for (aCons (eVar 0) (aCons (eVar 1) aNil)))))
def m_least_slots : Fn := mkF 2 0 b_least_slots
/-- exchanged: slots slots one other start path line both row column position first second moved -/
def b_exchanged : FS := (sSeq (sParOC 4 5 (aLim (aCons (eVar 3) aNil)) (aLim (aCons (eVar 3) aNil)))
  (sSeq (sOwn 6 (aV [true, true, true] (aCat (e2 dIx (eVar 0) (eVar 1)) (e2 dIx (eVar 0) (eVar 2)))))
  (sSeq (sWhile 1000 (bVw [false, false, false, false, false, true] (bV (e2 dNe (eVar 5) (eL dLst aNil))))
  (sSeq (sTgt (.tp [7, 8]) (ePopC 5))
  (sFrz 6 (sFor (iS (eVar 6)) (.nm 9)
  (sIf (bAnd (bV (e2 dNotIn (eVar 9) (eVar 4))) (bOr (bV (e2 dEq (e2 dIx (eVar 9) (eC (.int 0))) (eVar 7))) (bV (e2 dEq (e2 dIx (eVar 9) (eC (.int 1))) (eVar 8)))))
  (sSeq (sApp 4 (eVar 9))
  (sAppC 5 (eVar 9)))
  sSkip)))))
  (sSeq (sOwn 10 (aV [true, true, false, false, true] (eLc [9] (iS (e2 dIx (eVar 0) (eVar 1))) (.nm 9) (bV (e2 dNotIn (eVar 9) (eVar 4))) (eVar 9))))
  (sSeq (sOwn 11 (aV [true, false, true, false, true] (eLc [9] (iS (e2 dIx (eVar 0) (eVar 2))) (.nm 9) (bV (e2 dNotIn (eVar 9) (eVar 4))) (eVar 9))))
  (sSeq (sOwn 12 (aV [true, true, false, false, true] (eLc [9] (iS (e2 dIx (eVar 0) (eVar 1))) (.nm 9) (bV (e2 dIn (eVar 9) (eVar 4))) (eVar 9))))
  (sSeq (sRowPut 0 [true, true, true, false, true, false, false, false, false, false, true] (eVar 1) (aCat (eVar 10) (eList (eLc [9] (iS (e2 dIx (eVar 0) (eVar 2))) (.nm 9) (bV (e2 dIn (eVar 9) (eVar 4))) (eVar 9)))))
  (sRowPut 0 [false, false, true, false, false, false, false, false, false, false, false, true, true] (eVar 2) (aCat (eVar 11) (eVar 12))))))))))
def m_exchanged : Fn := mkF 4 9 b_exchanged
/-- placed: slots slots row column free at slot one open_at start -/
def b_placed : FS := (sSeq (sSet 3 (eV [true, true] (e2 dIx (eList (eLc [4, 5] (iEn (aCons (eVar 0) aNil)) (.tp [4, 5]) (bV (e2 dNotIn (eVar 1) (eList (eLc [6] (iS (eVar 5)) (.nm 6) bYes (e2 dIx (eVar 6) (eC (.int 0))))))) (eVar 4))) (eC (.int 0)))))
  (sSeq (sSet 7 (eV [true, false, true] (e2 dIx (eList (eLc [4, 5] (iEn (aCons (eVar 0) aNil)) (.tp [4, 5]) (bV (e2 dNotIn (eVar 2) (eList (eLc [6] (iS (eVar 5)) (.nm 6) bYes (e2 dIx (eVar 6) (eC (.int 1))))))) (eVar 4))) (eC (.int 0)))))
  (sSeq (sIf (bV (e2 dNe (eVar 3) (eVar 7)))
  (sSeq (sOwn 8 (aV [true, false, true, true] (eLc [6] (iS (e2 dIx (eVar 0) (eVar 3))) (.nm 6) (bV (e2 dEq (e2 dIx (eVar 6) (eC (.int 1))) (eVar 2))) (eVar 6))))
  (sIf (bV (e2 dNe (eVar 8) (eL dLst aNil)))
  (sCallC m_exchanged (aCons (eVar 0) (aCons (eVar 3) (aCons (eVar 7) (aCons (e2 dIx (eVar 8) (eC (.int 0))) aNil)))))
  sSkip))
  sSkip)
  (sRowApp 0 [false, true, true, true] (eVar 3) (eL dTup (aCons (eVar 1) (aCons (eVar 2) aNil)))))))
def m_placed : Fn := mkF 3 6 b_placed
/-- levelled: slots slots rooms sizes slot big small start before -/
def b_levelled : FS := (sSeq (sOwn 2 (aV [true] (eLc [3] (iS (eVar 0)) (.nm 3) bYes (eL (c1 dLen) (aCons (eVar 3) aNil)))))
  (sWhile 1000 (bV (e2 dGt (eL (c1 dMax) (aCons (eVar 2) aNil)) (eVar 1)))
  (sSeq (sPar 4 5 (aCons (e2 dIndex (eVar 2) (eL (c1 dMax) (aCons (eVar 2) aNil))) (aCons (e2 dIndex (eVar 2) (eL (c1 dMin) (aCons (eVar 2) aNil))) aNil)))
  (sSeq (sFor (iS (eList (aV [true, false, false, false, true] (aSeq (aCons (e2 dIx (eVar 0) (eVar 4)) aNil))))) (.nm 6)
  (sSeq (sOwnV2 7 [true, false, false, false, true, true] (aSeq (aCons (e2 dIx (eVar 0) (eVar 4)) aNil)) (aSeq (aCons (e2 dIx (eVar 0) (eVar 5)) aNil)))
  (sSeq (sCallC m_exchanged (aCons (eVar 0) (aCons (eVar 4) (aCons (eVar 5) (aCons (eVar 6) aNil)))))
  (sSeq (sIf (bVw [true, false, false, false, true, false, false, true] (bV (e2 dEq (eL (c1 dLen) (aCons (e2 dIx (eVar 0) (eVar 4)) aNil)) (e2 dSub (eL (c1 dLen) (aCons (e2 dIx (eVar 7) (eC (.int 0))) aNil)) (eC (.int 1))))))
  sBreak
  sSkip)
  (sRow2 0 7 4 5)))))
  (sOwn 2 (aV [true] (eLc [3] (iS (eVar 0)) (.nm 3) bYes (eL (c1 dLen) (aCons (eVar 3) aNil)))))))))
def m_levelled : Fn := mkF 2 6 b_levelled
/-- timetable: slots matrix rooms slots again i row j entry slot -/
def b_timetable : FS := (sSeq (sCallX m_check_rooms (aCons (eVar 0) (aCons (eVar 1) aNil)))
  (sSeq (sNewR 2 (eLc2 [3] (iR1 (aCons (eCall m_slots_for (aCons (eVar 0) (aCons (eVar 1) aNil))) aNil)) (.nm 3) (aLim aNil)))
  (sSeq (sFor (iEn (aCons (eVar 0) aNil)) (.tp [4, 5])
  (sFor (iEn (aCons (eVar 5) aNil)) (.tp [6, 7])
  (sFor (iR1 (aCons (eVar 7) aNil)) (.nm 3)
  (sCallC m_placed (aCons (eVar 2) (aCons (eVar 4) (aCons (eVar 6) aNil)))))))
  (sSeq (sIf (bVw [false, false, true] (bV (e2 dNe (eVar 2) (eL dLst aNil))))
  (sCallC m_levelled (aCons (eVar 2) (aCons (eVar 1) aNil)))
  sSkip)
  (sRetF (aV [false, false, true] (eLc [8] (iS (eVar 2)) (.nm 8) bYes (eL (c1 dTuple) (aCons (eL (c1 dSortedK) (aCons (eVar 8) aNil)) aNil)))))))))
def m_timetable : Fn := mkF 2 7 b_timetable
/-- is_timetable: slots matrix rooms value slot row -/
def b_is_timetable : FS := (sSeq (sCallX m_check_rooms (aCons (eVar 0) (aCons (eVar 1) aNil)))
  (sSeq (sIf (bOr (bNot (bV (e1 (dIsi "list") (eVar 2)))) (bNot (bV (eL (c1 dAll) (aCons (eList (eLc [3] (iS (eVar 2)) (.nm 3) bYes (eCall m_are_positions (aCons (eVar 3) (aCons (eL (c1 dLen) (aCons (eVar 0) aNil)) aNil))))) aNil)))))
  (sRet (eC (.bool false)))
  sSkip)
  (sSeq (sIf (bV (eL (c1 dAny) (aCons (eList (eLc [3] (iS (eVar 2)) (.nm 3) bYes (e2 dGt (eL (c1 dLen) (aCons (eVar 3) aNil)) (eVar 1)))) aNil)))
  (sRet (eC (.bool false)))
  sSkip)
  (sSeq (sFor (iS (eVar 2)) (.nm 3)
  (sSet 0 (eCall m_minus (aCons (eVar 0) (aCons (eC (.int 1)) (aCons (eVar 3) aNil))))))
  (sRet (eL (c1 dAll) (aCons (eList (eLc [4] (iS (eVar 0)) (.nm 4) bYes (eAnd (e2 dEq (eL (c1 dMax) (aCons (eVar 4) aNil)) (eC (.int 0))) (e2 dEq (eL (c1 dMin) (aCons (eVar 4) aNil)) (eC (.int 0)))))) aNil)))))))
def m_is_timetable : Fn := mkF 3 2 b_is_timetable
/-- worth: slots matrix permutation count one -/
def b_worth : FS := (sSeq (sCallX m_check_matrix (aCons (eVar 0) aNil))
  (sSeq (sSet 2 (eL (c1 dLen) (aCons (eVar 0) aNil)))
  (sSeq (sIf (bOr (bNot (bV (e1 (dIsi "tuple") (eVar 1)))) (bNot (bV (eL (c1 dAll) (aCons (eList (eLc [3] (iS (eVar 1)) (.nm 3) bYes (eCall m_is_integer (aCons (eVar 3) (aCons (eC (.int 0)) (aCons (e2 dSub (eVar 2) (eC (.int 1))) aNil)))))) aNil)))))
  (sRaise "InvalidPermutation")
  sSkip)
  (sSeq (sIf (bV (e2 dNe (eL (c1 dSortedK) (aCons (eVar 1) aNil)) (eList (aRg (eVar 2)))))
  (sRaise "InvalidPermutation")
  sSkip)
  (sRet (eCall m_worth_of (aCons (eVar 0) (aCons (eVar 1) aNil))))))))
def m_worth : Fn := mkF 2 2 b_worth
/-- best_worth: slots matrix order -/
def b_best_worth : FS := (sRet (eL (c1 dMax) (aCons (eList (eLc [1] (iS (eCall m_orders (aCons (eL (c1 dLen) (aCons (eVar 0) aNil)) aNil))) (.nm 1) bYes (eCall m_worth_of (aCons (eVar 0) (aCons (eVar 1) aNil))))) aNil)))
def m_best_worth : Fn := mkF 1 1 b_best_worth
/-- best_permutation: slots matrix best order -/
def b_best_permutation : FS := (sSeq (sCallX m_check_matrix (aCons (eVar 0) aNil))
  (sSeq (sSet 1 (eCall m_best_worth (aCons (eVar 0) aNil)))
  (sRet (e2 dIx (eList (eLc [2] (iS (eCall m_orders (aCons (eL (c1 dLen) (aCons (eVar 0) aNil)) aNil))) (.nm 2) (bV (e2 dEq (eCall m_worth_of (aCons (eVar 0) (aCons (eVar 2) aNil))) (eVar 1))) (eVar 2))) (eC (.int 0))))))
def m_best_permutation : Fn := mkF 1 2 b_best_permutation
/-- worth_block: slots matrix -/
def b_worth_block : FS := (sSeq (sCallX m_check_matrix (aCons (eVar 0) aNil))
  (sRet (eCall m_free_lines (aCons (eVar 0) (aCons (eCall m_best_worth (aCons (eVar 0) aNil)) aNil)))))
def m_worth_block : Fn := mkF 1 0 b_worth_block
/-- is_worth_block: slots matrix value -/
def b_is_worth_block : FS := (sSeq (sCallX m_check_matrix (aCons (eVar 0) aNil))
  (sRet (eCall m_at_most (aCons (eVar 0) (aCons (eVar 1) (aCons (eCall m_best_worth (aCons (eVar 0) aNil)) aNil))))))
def m_is_worth_block : Fn := mkF 2 0 b_is_worth_block
/-- _law_cell_at: slots script k spare again -/
def b__law_cell_at : FS := (sSeq (sIf (bV (e2 dLt (eVar 1) (eL (c1 dLenS) (aCons (eVar 0) aNil))))
  (sRet (e2 dIxS (eVar 0) (eVar 1)))
  sSkip)
  (sSeq (sIf (bV (e2 dEqS (eVar 0) (eL dLst aNil)))
  (sRet (eC (.int 0)))
  sSkip)
  (sSeq (sSet 2 (e2 dIxS (eVar 0) (e2 dMod (eVar 1) (eL (c1 dLenS) (aCons (eVar 0) aNil)))))
  (sSeq (sFor (iR1 (aCons (eL dMin2 (aCons (e2 dFdiv (eVar 1) (eL (c1 dLenS) (aCons (eVar 0) aNil))) (aCons (eC (.int 60)) aNil))) aNil)) (.nm 3)
  (sSet 2 (e2 dFdiv (eVar 2) (eC (.int 1000003)))))
  (sRet (e2 dAdd (e2 dAdd (e2 dMul (e2 dIxS (eVar 0) (e2 dMod (eVar 1) (eL (c1 dLenS) (aCons (eVar 0) aNil)))) (eC (.int 31))) (eVar 1)) (e2 dMul (eVar 2) (eC (.int 101)))))))))
def m__law_cell_at : Fn := mkF 2 2 b__law_cell_at
/-- _law_mixed: slots script k many spun -/
def b__law_mixed : FS := (sSeq (sSet 3 (e2 dMod (e2 dAdd (e2 dAdd (e2 dMul (eCall m__law_cell_at (aCons (eVar 0) (aCons (eVar 1) aNil))) (eC (.int 1103515245))) (e2 dMul (eC (.int 7919)) (eVar 1))) (eC (.int 12345))) (eC (.int 2147483647))))
  (sRet (e2 dMod (e2 dMod (e2 dMod (e2 dPow (eVar 3) (eC (.int 5))) (eC (.int 2147483647))) (eC (.int 999983))) (eVar 2))))
def m__law_mixed : Fn := mkF 3 1 b__law_mixed
/-- _law_draw: slots script town many -/
def b__law_draw : FS := (sSeq (sTown 1)
  (sRet (eCall m__law_mixed (aCons (eVar 0) (aCons (eTown 1) (aCons (eVar 2) aNil))))))
def m__law_draw : Fn := mkF 3 0 b__law_draw
/-- _law_one: slots what own some e -/
def b__law_one : FS := (sTryW (sSeq (sIf (bV (e2 dLt (eVar 0) (eC (.int 8))))
  (sCallV 2 [m_degree, m_is_even, m_first_permutation, m_block, m_placement, m_cover, m_permutations, m_count_permutations] (eVar 0) (aCons (eVar 1) aNil))
  sSkip)
  (sSeq (sIf (bV (e2 dLt (eVar 0) (eC (.int 15))))
  (sCallV 2 [m_split, m_fewest_parts, m_best_permutation, m_worth_block, m_raised, m_schedule, m_format_matrix] (e2 dSub (eVar 0) (eC (.int 8))) (aCons (eVar 1) aNil))
  sSkip)
  (sRetX2 (xMakeE m_check_matrix (aCons (eVar 1) aNil))))))
def m__law_one : Fn := mkF 2 2 b__law_one
/-- _law_two: slots what own other e -/
def b__law_two : FS := (sTryW (sSeq (sIf (bV (e2 dLt (eVar 0) (eC (.int 6))))
  (sRetX2 (xCallAt [m_is_block, m_is_placement, m_is_cover, m_is_split, m_is_worth_block, m_is_raised] (eVar 0) (aCons (eVar 1) (aCons (eVar 2) aNil))))
  sSkip)
  (sSeq (sIf (bV (e2 dLt (eVar 0) (eC (.int 10))))
  (sRetX2 (xCallAt [m_is_schedule, m_worth, m_least_slots, m_timetable] (e2 dSub (eVar 0) (eC (.int 6))) (aCons (eVar 1) (aCons (eVar 2) aNil))))
  sSkip)
  (sRetX2 (xCall m_is_timetable (aCons (eVar 1) (aCons (eVar 2) (aCons (eL dLst aNil) aNil))))))))
def m__law_two : Fn := mkF 3 1 b__law_two
/-- law: slots script town k some bad what odd own off -/
def t_law10 : FS := (sRet (eAnd (e2 dEq (eCall m__law_one (aCons (eC (.int 9)) (aCons (eL dTup (aCons (eL dTup (aCons (eC (.int 8)) aNil)) aNil)) aNil))) (eC (.int 1))) (e2 dEq (eList (eLc [5] (iR1 (aCons (eC (.int 7)) aNil)) (.nm 5) bYes (eCall m__law_two (aCons (eVar 5) (aCons (eVar 7) (aCons (eC .none) aNil)))))) (e2 dMul (eL dLst (aCons (eC (.bool false)) aNil)) (eC (.int 7))))))
def t_law9 : FS := sSeq (sIf (bOr (bV (e2 dNe (eCall m__law_one (aCons (eC (.int 9)) (aCons (eL dTup (aCons (eL dTup (aCons (eC (.int 9)) aNil)) aNil)) aNil))) (eL dTup (aCons (eC (.str "raised")) (aCons (eC (.int 10)) aNil))))) (bV (e2 dNe (eCall m__law_one (aCons (eC (.int 9)) (aCons (e2 dMul (eL dTup (aCons (e2 dMul (eL dTup (aCons (eC (.int 0)) aNil)) (eC (.int 5))) aNil)) (eC (.int 5))) aNil))) (eL dTup (aCons (eC (.str "raised")) (aCons (eC (.int 10)) aNil))))))
  (sRet (eC (.bool false)))
  sSkip)
  t_law10
def t_law8 : FS := sSeq (sFor (iS (eL dLst (aCons (eC .none) (aCons (eC (.int 0)) (aCons (eC (.int 6)) (aCons (eC (.str "1")) (aCons (eC (.bool true)) (aCons (eL dTup (aCons (eC (.int 1)) aNil)) aNil)))))))) (.nm 8)
  (sIf (bV (e2 dNe (eList (eLc [5] (iS (eL dTup (aCons (eC (.int 8)) (aCons (eC (.int 9)) (aCons (eC (.int 10)) aNil))))) (.nm 5) bYes (eCall m__law_two (aCons (eVar 5) (aCons (eVar 7) (aCons (eVar 8) aNil)))))) (e2 dMul (eL dLst (aCons (eL dTup (aCons (eC (.str "raised")) (aCons (eC (.int 2)) aNil))) aNil)) (eC (.int 3)))))
  (sRet (eC (.bool false)))
  sSkip))
  t_law9
def t_law7 : FS := sSeq (sFor (iS (eL dLst (aCons (eC .none) (aCons (eL dTup aNil) (aCons (eL dTup (aCons (eC (.int 0)) aNil)) (aCons (eL dTup (aCons (eC (.int 0)) (aCons (eC (.int 0)) aNil))) (aCons (eL dTup (aCons (eC (.int 0)) (aCons (eC (.int 2)) aNil))) (aCons (eL dLst (aCons (eC (.int 0)) (aCons (eC (.int 1)) aNil))) (aCons (eL dTup (aCons (eC (.int 0)) (aCons (eC (.int 1)) (aCons (eC (.int 2)) aNil)))) (aCons (eL dTup (aCons (eC (.int 0)) (aCons (eC (.bool true)) aNil))) (aCons (eL dTup (aCons (eC (.str "0")) (aCons (eC (.int 1)) aNil))) (aCons (eL dTup (aCons (e1 dNeg (eC (.int 1))) (aCons (eC (.int 0)) aNil))) aNil)))))))))))) (.nm 8)
  (sIf (bV (e2 dNe (eCall m__law_two (aCons (eC (.int 7)) (aCons (eVar 7) (aCons (eVar 8) aNil)))) (eL dTup (aCons (eC (.str "raised")) (aCons (eC (.int 1)) aNil)))))
  (sRet (eC (.bool false)))
  sSkip))
  t_law8
def t_law6 : FS := sSeq (sSet 7 (eL dTup (aCons (eL dTup (aCons (eVar 2) (aCons (eC (.int 0)) aNil))) (aCons (eL dTup (aCons (eC (.int 0)) (aCons (eVar 2) aNil))) aNil))))
  t_law7
def t_law5 : FS := sSeq (sIf (bOr (bV (e2 dNe (eList (eLc [5] (iS (eL dTup (aCons (eC (.int 8)) (aCons (eC (.int 9)) aNil)))) (.nm 5) bYes (eCall m__law_one (aCons (eVar 5) (aCons (eVar 6) aNil))))) (e2 dMul (eL dLst (aCons (eL dTup (aCons (eC (.str "raised")) (aCons (eC (.int 6)) aNil))) aNil)) (eC (.int 2))))) (bV (e2 dNe (eCall m__law_two (aCons (eC (.int 3)) (aCons (eVar 6) (aCons (eC .none) aNil)))) (eL dTup (aCons (eC (.str "raised")) (aCons (eC (.int 6)) aNil))))))
  (sRet (eC (.bool false)))
  sSkip)
  t_law6
def t_law4 : FS := sSeq (sSet 6 (eL dTup (aCons (eL dTup (aCons (eVar 2) (aCons (eC (.int 0)) aNil))) (aCons (eL dTup (aCons (eC (.int 0)) (aCons (e2 dAdd (eVar 2) (eC (.int 1))) aNil))) aNil))))
  t_law5
def t_law3 : FS := sSeq (sFrz 3 (sFor (iS (eVar 3)) (.nm 4)
  (sSeq (sIf (bOr (bV (e2 dIsNot (eCall m_is_matrix (aCons (eVar 4) aNil)) (eC (.bool false)))) (bV (e2 dNe (eList (eLc [5] (iR1 (aCons (eC (.int 16)) aNil)) (.nm 5) bYes (eCall m__law_one (aCons (eVar 5) (aCons (eVar 4) aNil))))) (e2 dMul (eL dLst (aCons (eL dTup (aCons (eC (.str "raised")) (aCons (eC (.int 0)) aNil))) aNil)) (eC (.int 16))))))
  (sRet (eC (.bool false)))
  sSkip)
  (sIf (bV (e2 dNe (eList (eLc [5] (iR1 (aCons (eC (.int 11)) aNil)) (.nm 5) bYes (eCall m__law_two (aCons (eVar 5) (aCons (eVar 4) (aCons (eC .none) aNil)))))) (e2 dMul (eL dLst (aCons (eL dTup (aCons (eC (.str "raised")) (aCons (eC (.int 0)) aNil))) aNil)) (eC (.int 11)))))
  (sRet (eC (.bool false)))
  sSkip))))
  t_law4
def t_law2 : FS := sSeq (sExtH 3 (eL dLst (aCons (eL dTup (aCons (eL dTup (aCons (eC (.bool true)) aNil)) aNil)) (aCons (eL dTup (aCons (eL dTup (aCons (eC (.str "1")) aNil)) aNil)) (aCons (eL dTup (aCons (eL dTup (aCons (eC .none) aNil)) aNil)) (aCons (e2 dMul (eL dTup (aCons (e2 dMul (eL dTup (aCons (eC (.int 0)) aNil)) (eC (.int 6))) aNil)) (eC (.int 6))) (aCons (eVar 2) (aCons (eL dTup (aCons (eVar 2) aNil)) (aCons (eL dLst (aCons (eL dTup (aCons (eVar 2) aNil)) aNil)) (aCons (eL dTup (aCons (eL dTup (aCons (eVar 2) (aCons (eVar 2) aNil))) (aCons (eL dTup (aCons (eVar 2) (aCons (eVar 2) aNil))) (aCons (eL dTup (aCons (eVar 2) (aCons (eVar 2) aNil))) aNil)))) aNil))))))))))
  t_law3
def t_law1 : FS := sSeq (sOwnH 3 (aLim (aCons (eC .none) (aCons (eC (.int 5)) (aCons (eL dTup aNil) (aCons (eL dLst (aCons (eL dLst (aCons (eVar 2) aNil)) aNil)) (aCons (eL dTup (aCons (eL dTup (aCons (eVar 2) (aCons (eC (.int 0)) aNil))) aNil)) (aCons (eL dTup (aCons (eL dTup (aCons (eVar 2) aNil)) (aCons (eL dTup (aCons (eC (.int 0)) aNil)) aNil))) (aCons (eL dTup (aCons (eL dTup (aCons (eVar 2) (aCons (eC (.int 0)) aNil))) (aCons (eL dTup (aCons (eC (.int 0)) aNil)) aNil))) (aCons (eL dTup (aCons (eL dTup (aCons (eVar 2) (aCons (eC (.int 0)) aNil))) (aCons (eL dLst (aCons (eC (.int 0)) (aCons (eVar 2) aNil))) aNil))) (aCons (eL dTup (aCons (eL dTup (aCons (eC (.int 10)) aNil)) aNil)) (aCons (eL dTup (aCons (eL dTup (aCons (e1 dNeg (eC (.int 1))) aNil)) aNil)) aNil))))))))))))
  t_law2
def b_law : FS := sSeq (sSet 2 (e2 dAdd (eC (.int 1)) (eCall m__law_draw (aCons (eVar 0) (aCons (eVar 1) (aCons (eC (.int 8)) aNil))))))
  t_law1

/-! ### data, step by step -/
theorem dAdd_ii {i j : Int} : dAdd (.int i) (.int j) = some (.int (i + j)) := rfl
theorem dSub_ii {i j : Int} : dSub (.int i) (.int j) = some (.int (i - j)) := rfl
theorem dNeg_i {i : Int} : dNeg (.int i) = some (.int (-i)) := rfl
theorem dLt_ii {i j : Int} : dLt (.int i) (.int j) = some (.bool (decide (i < j))) := rfl
theorem dLe_ii {i j : Int} : dLe (.int i) (.int j) = some (.bool (decide (i ≤ j))) := rfl
theorem dGt_ii {i j : Int} : dGt (.int i) (.int j) = some (.bool (decide (j < i))) := rfl
theorem dGe_ii {i j : Int} : dGe (.int i) (.int j) = some (.bool (decide (j ≤ i))) := rfl
theorem dLen_tm {α : Type} {f : α → D} {xs : List α} : dLen (.tuple (xs.map f)) = some (.int (xs.length : Int)) := by unfold dLen; simp only [List.length_map]
theorem dLen_lm {α : Type} {f : α → D} {xs : List α} : dLen (.list (xs.map f)) = some (.int (xs.length : Int)) := by unfold dLen; simp only [List.length_map]
theorem dLen_t {xs : List D} : dLen (.tuple xs) = some (.int (xs.length : Int)) := rfl
theorem dLen_l {xs : List D} : dLen (.list xs) = some (.int (xs.length : Int)) := rfl
theorem dTuple_l {xs : List D} : dTuple (.list xs) = some (.tuple xs) := rfl
theorem dTuple_t {xs : List D} : dTuple (.tuple xs) = some (.tuple xs) := rfl
theorem dList_l {xs : List D} : dList (.list xs) = some (.list xs) := rfl
theorem dList_t {xs : List D} : dList (.tuple xs) = some (.list xs) := rfl
theorem isi_tt {xs : List D} : dIsi "tuple" (.tuple xs) = some (.bool true) := rfl
theorem isi_ll {xs : List D} : dIsi "list" (.list xs) = some (.bool true) := rfl
theorem dIsNot_bb {a b : Bool} : dIsNot (.bool a) (.bool b) = some (.bool (!(a == b))) := rfl
theorem dIs_bb {a b : Bool} : dIs (.bool a) (.bool b) = some (.bool (a == b)) := rfl
theorem dAll_m {α : Type} {p : α → Bool} {xs : List α} : dAll (.list (xs.map fun x => .bool (p x))) = some (.bool (xs.all p)) := by
  unfold dAll lst?
  rw [show (xs.map fun x => PyData.bool (p x)) = (xs.map p).map .bool by rw [List.map_map]; rfl]
  simp only [Option.bind_some, bools?_map, Option.map_some, List.all_map]
  rfl
theorem dAny_m {α : Type} {p : α → Bool} {xs : List α} : dAny (.list (xs.map fun x => .bool (p x))) = some (.bool (xs.any p)) := by
  unfold dAny lst?
  rw [show (xs.map fun x => PyData.bool (p x)) = (xs.map p).map .bool by rw [List.map_map]; rfl]
  simp only [Option.bind_some, bools?_map, Option.map_some, List.any_map]
  rfl
theorem dSum_m {α : Type} {p : α → Int} {xs : List α} : dSum (.list (xs.map fun x => .int (p x))) = some (.int (xs.map p).sum) := by
  rw [show (xs.map fun x => PyData.int (p x)) = (xs.map p).map .int by rw [List.map_map]; rfl, sum_ints]
theorem dMin_m {α : Type} {p : α → Int} {xs : List α} (h : xs ≠ []) : dMin (.list (xs.map fun x => .int (p x))) = some (.int (minL (xs.map p))) := by
  rw [show (xs.map fun x => PyData.int (p x)) = (xs.map p).map .int by rw [List.map_map]; rfl, min_ints (by simpa using h)]
theorem dMax_m {α : Type} {p : α → Int} {xs : List α} (h : xs ≠ []) : dMax (.list (xs.map fun x => .int (p x))) = some (.int (maxL (xs.map p))) := by
  rw [show (xs.map fun x => PyData.int (p x)) = (xs.map p).map .int by rw [List.map_map]; rfl, max_ints (by simpa using h)]
theorem dMin_R {r : Row} (h : r ≠ []) : dMin (encR r) = some (.int (minL r)) := by
  unfold dMin seq? encR
  simp only [Option.bind_some, ints?_mapI]
  cases r with
  | nil => exact absurd rfl h
  | cons a b => rfl
theorem dMax_R {r : Row} (h : r ≠ []) : dMax (encR r) = some (.int (maxL r)) := by
  unfold dMax seq? encR
  simp only [Option.bind_some, ints?_mapI]
  cases r with
  | nil => exact absurd rfl h
  | cons a b => rfl
theorem dIx_m {α : Type} {f : α → D} {xs : List α} {j : Nat} {d0 : α} (h : j < xs.length) : dIx (.tuple (xs.map f)) (.int (j : Int)) = some (f (xs.getD j d0)) := by
  unfold dIx
  simp only
  rw [atI_map, atI_nat' h]
  simp [List.getD, List.getElem?_eq_getElem h]
theorem dIx_lm {α : Type} {f : α → D} {xs : List α} {j : Nat} {d0 : α} (h : j < xs.length) : dIx (.list (xs.map f)) (.int (j : Int)) = some (f (xs.getD j d0)) := by
  unfold dIx
  simp only
  rw [atI_map, atI_nat' h]
  simp [List.getD, List.getElem?_eq_getElem h]
theorem ix_M {m : Mt} {i : Nat} (hi : i < m.length) : dIx (encM m) (.int (i : Int)) = some (encR (m.getD i [])) := dIx_m hi
theorem ix_0 {x : D} {xs : List D} : dIx (.tuple (x :: xs)) (.int 0) = some x := atI_nat (j := 0) rfl
theorem ix_1 {x y : D} {xs : List D} : dIx (.tuple (x :: y :: xs)) (.int 1) = some y := atI_nat (j := 1) rfl
theorem ixl_0 {x : D} {xs : List D} : dIx (.list (x :: xs)) (.int 0) = some x := atI_nat (j := 0) rfl
/-- zip and enumerate of typed data -/
theorem zipD_map {α β : Type} {f : α → D} {g : β → D} : ∀ (xs : List α) (ys : List β), zipD (xs.map f) (ys.map g) = (xs.zip ys).map fun p => .tuple [f p.1, g p.2]
  | [], _ => by simp [zipD]
  | _ :: _, [] => by simp [zipD]
  | x :: xs, y :: ys => by
    have ih := zipD_map (f := f) (g := g) xs ys
    unfold zipD at ih ⊢
    rw [List.map_cons, List.map_cons, List.zipWith_cons_cons, ih]
    rfl
def enuF {α : Type} : Nat → List α → List (Nat × α)
  | _, [] => []
  | k, x :: xs => (k, x) :: enuF (k + 1) xs
theorem enuD_map {α : Type} {f : α → D} : ∀ (k : Nat) (xs : List α), enuD k (xs.map f) = (enuF k xs).map fun p => .tuple [natD p.1, f p.2]
  | _, [] => rfl
  | k, x :: xs => by
    rw [List.map_cons, enuD, enuD_map (k + 1) xs]
    rfl
theorem enuF_mem {α : Type} {x : α} {i : Nat} {d : α} : ∀ {k : Nat} {xs : List α}, (i, x) ∈ enuF k xs ↔ k ≤ i ∧ i < k + xs.length ∧ xs.getD (i - k) d = x
  | k, [] => by
    simp only [enuF, List.not_mem_nil, List.length_nil, false_iff]
    omega
  | k, y :: xs => by
    rw [enuF, List.mem_cons, enuF_mem (k := k + 1) (xs := xs) (d := d), List.length_cons]
    constructor
    · rintro (e | ⟨h1, h2, h3⟩)
      · cases e
        exact ⟨Nat.le_refl _, by omega, by simp⟩
      · refine ⟨by omega, by omega, ?_⟩
        rw [show i - k = (i - (k + 1)) + 1 by omega, List.getD_cons_succ]
        exact h3
    · rintro ⟨h1, h2, h3⟩
      by_cases e : i = k
      · left
        subst e
        rw [Nat.sub_self, List.getD_cons_zero] at h3
        rw [h3]
      · right
        refine ⟨by omega, by omega, ?_⟩
        rw [show i - k = (i - (k + 1)) + 1 by omega, List.getD_cons_succ] at h3
        exact h3
theorem enuF_len {α : Type} : ∀ (k : Nat) (xs : List α), (enuF k xs).length = xs.length
  | _, [] => rfl
  | k, x :: xs => by rw [enuF, List.length_cons, List.length_cons, enuF_len]
section
variable {env : En} {n n1 n2 : Sn}
theorem iZ_mt {α β : Type} {f g : FE} {ea : α → D} {eb : β → D} {xs : List α} {ys : List β} (h : f env n = some (.tuple (xs.map ea), n1)) (h2 : g env n1 = some (.tuple (ys.map eb), n2)) : iZ (aCons f (aCons g aNil)) env n = some ((xs.zip ys).map fun p => .tuple [ea p.1, eb p.2], n2) := by rw [iZ_t h h2, zipD_map]
theorem iZ_ml {α β : Type} {f g : FE} {ea : α → D} {eb : β → D} {xs : List α} {ys : List β} (h : f env n = some (.list (xs.map ea), n1)) (h2 : g env n1 = some (.list (ys.map eb), n2)) : iZ (aCons f (aCons g aNil)) env n = some ((xs.zip ys).map fun p => .tuple [ea p.1, eb p.2], n2) := by rw [iZ_l h h2, zipD_map]
theorem iEn_mt {α : Type} {f : FE} {ea : α → D} {xs : List α} (h : f env n = some (.tuple (xs.map ea), n1)) : iEn (aCons f aNil) env n = some ((enuF 0 xs).map fun p => .tuple [natD p.1, ea p.2], n1) := by rw [iEn_t h, enuD_map]
theorem iEn_ml {α : Type} {f : FE} {ea : α → D} {xs : List α} (h : f env n = some (.list (xs.map ea), n1)) : iEn (aCons f aNil) env n = some ((enuF 0 xs).map fun p => .tuple [natD p.1, ea p.2], n1) := by rw [iEn_l h, enuD_map]
theorem eEnL_m {α : Type} {f : FE} {ea : α → D} {xs : List α} (h : f env n = some (.tuple (xs.map ea), n1)) : eEnL f env n = some ((enuF 0 xs).map fun p => .tuple [natD p.1, ea p.2], n1) := by rw [eEnL_ok h, enuD_map]
end
theorem maxL_max {l : List Int} {x : Int} (h : x ∈ l) (hx : ∀ y ∈ l, y ≤ x) : maxL l = x := by
  have h1 := maxL_ge h
  have h2 := hx _ (maxL_mem (by intro e; rw [e] at h; cases h))
  omega
local macro_rules | `(tactic| array_get_dec) => `(tactic| first | with_reducible exact dAdd_ii | with_reducible exact dSub_ii | with_reducible exact dNeg_i | with_reducible exact dLt_ii | with_reducible exact dLe_ii | with_reducible exact dGt_ii | with_reducible exact dGe_ii | with_reducible exact ne_int _ _ | with_reducible exact eq_int' _ _ | with_reducible exact dLen_tm | with_reducible exact dLen_lm | with_reducible exact dLen_t | with_reducible exact dLen_l)
local macro_rules | `(tactic| array_get_dec) => `(tactic| first | with_reducible exact dTuple_l | with_reducible exact dTuple_t | with_reducible exact dList_l | with_reducible exact dList_t | with_reducible exact isi_tt | with_reducible exact isi_ll | with_reducible exact dIsNot_bb | with_reducible exact dIs_bb | with_reducible exact dAll_m | with_reducible exact dAny_m | with_reducible exact sum_row _ | with_reducible exact sum_ints _ | with_reducible exact dSum_m | with_reducible exact ix_0 | with_reducible exact ix_1 | with_reducible exact ixl_0)
local macro_rules | `(tactic| array_get_dec) => `(tactic| first | ((with_reducible apply dTup_ok); simp only [List.length_cons, List.length_nil, Nat.reduceAdd, Nat.reduceLeDiff]) | ((with_reducible apply dLst_ok); simp only [List.length_cons, List.length_nil, Nat.reduceAdd, Nat.reduceLeDiff]))
local macro_rules | `(tactic| array_get_dec) => `(tactic| with_reducible exact ix_row (by omega))
local macro_rules | `(tactic| bv_omega) => `(tactic| repeat' (first | ((with_reducible apply eVar_ok); rfl) | with_reducible exact eC_ok | with_reducible exact aNil_ok | with_reducible exact bYes_ok | with_reducible exact oNone_ok | with_reducible apply aCons_ok | with_reducible apply e1_ok | with_reducible apply e2_ok | with_reducible apply eL_ok | with_reducible apply c1_ok | with_reducible apply eList_ok | with_reducible apply bV_ok | with_reducible apply bNot_ok | with_reducible apply eNot_ok | with_reducible apply eChain_ok | with_reducible apply oSome_ok | with_reducible apply eSl_ok | with_reducible apply call_ok | with_reducible apply callL_ok | ((with_reducible apply iS_t); ((with_reducible apply eVar_ok); rfl)) | ((with_reducible apply iS_l); ((with_reducible apply eVar_ok); rfl)) | ((with_reducible apply iEn_mt); ((with_reducible apply eVar_ok); rfl)) | ((with_reducible apply iEn_ml); ((with_reducible apply eVar_ok); rfl)) | ((with_reducible apply iZ_mt) <;> ((with_reducible apply eVar_ok); rfl)) | ((with_reducible apply iZ_ml) <;> ((with_reducible apply eVar_ok); rfl)) | with_reducible apply iR1_ok | (with_reducible apply eLc_map) | intro _ _ | array_get_dec | array_mem_dec))

section
variable {f g : FS} {S S1 : Es} {n n1 : Sn}
theorem sSeq_nx (h : f S n = some (.nx S1, n1)) : sSeq f g S n = g S1 n1 := by unfold sSeq; rw [h]
theorem sSeq_rt {d : D} (h : f S n = some (.rt d, n1)) : sSeq f g S n = some (.rt d, n1) := by unfold sSeq; rw [h]
theorem sSeq_ex {c : Str} (h : f S n = some (.ex c, n1)) : sSeq f g S n = some (.ex c, n1) := by unfold sSeq; rw [h]
theorem sIf_t {c : Fe Bool} (h : c (frzE S) n = some (true, n1)) : sIf c f g S n = f S n1 := by unfold sIf; rw [h]
theorem sIf_f {c : Fe Bool} (h : c (frzE S) n = some (false, n1)) : sIf c f g S n = g S n1 := by unfold sIf; rw [h]
theorem sFor_go {fi : Fe (List D)} {t : Tg} {items : List D} (h : fi (hidE S) n = some (items, n1)) : sFor fi t f S n = forGo t f items S n1 := by unfold sFor; rw [h]
theorem sSet_ok {i : Nat} {e : FE} {d : D} (h : e (frzE S) n = some (d, n1)) (hl : lf d = true) : sSet i e S n = some (.nx (S.set i (some (.val d))), n1) := by unfold sSet; rw [h]; simp [hl]
theorem sSetH_ok {i : Nat} {e : FE} {d : D} (h : e (hidE S) n = some (d, n1)) : sSetH i e S n = some (.nx (S.set i (some (.val d))), n1) := by unfold sSetH; rw [h]
theorem sOwn_ok {i : Nat} {e : Fe (List D)} {d : List D} (h : e (frzE S) n = some (d, n1)) (hl : lfL d = true) : sOwn i e S n = some (.nx (S.set i (some (.own d))), n1) := by unfold sOwn; rw [h]; simp [hl]
theorem sOwnH_ok {i : Nat} {e : Fe (List D)} {d : List D} (h : e (hidE S) n = some (d, n1)) : sOwnH i e S n = some (.nx (S.set i (some (.own d))), n1) := by unfold sOwnH; rw [h]
theorem sOwn2_ok {i : Nat} {e : Fe (List (List D))} {d : List (List D)} (h : e (hidE S) n = some (d, n1)) : sOwn2 i e S n = some (.nx (S.set i (some (.own2 d))), n1) := by unfold sOwn2; rw [h]
theorem sRet_ok {e : FE} {d : D} (h : e (frzE S) n = some (d, n1)) : sRet e S n = some (.rt d, n1) := by unfold sRet; rw [h]
theorem mkF_rt {ar nl : Nat} {ds : List D} {d : D} (hl : ds.length = ar) (h : f (start0 nl ds) n = some (.rt d, n1)) (hc : n1.c = n.c := by rfl) : mkF ar nl f ds n = some (.ok d, n1) := by unfold mkF; rw [if_pos hl, h]; exact fin_c hc
theorem mkF_rf {ar nl : Nat} {ds : List D} {d : List D} (hl : ds.length = ar) (h : f (start0 nl ds) n = some (.rf d, n1)) (hc : n1.c = n.c := by rfl) : mkF ar nl f ds n = some (.ok (.list d), n1) := by unfold mkF; rw [if_pos hl, h]; exact fin_c hc
theorem mkF_nx {ar nl : Nat} {ds : List D} (hl : ds.length = ar) (h : f (start0 nl ds) n = some (.nx S1, n1)) (hc : n1.c = n.c := by rfl) : mkF ar nl f ds n = some (.ok .none, n1) := by unfold mkF; rw [if_pos hl, h]; exact fin_c hc
theorem mkF_ex {ar nl : Nat} {ds : List D} {c : Str} (hl : ds.length = ar) (h : f (start0 nl ds) n = some (.ex c, n1)) (hc : n1.c = n.c := by rfl) : mkF ar nl f ds n = some (.ex c, n1) := by unfold mkF; rw [if_pos hl, h]; exact fin_c hc
theorem forGo_nil {t : Tg} : forGo t f [] S n = some (.nx S, n) := rfl
theorem forGo_nx {t : Tg} {x : D} {r : List D} {S' : Es} (hb : bindS t x S = some S') (h : f S' n = some (.nx S1, n1)) : forGo t f (x :: r) S n = forGo t f r S1 n1 := by
  rw [forGo]; simp only [hb, h]
theorem forGo_rt {t : Tg} {x d : D} {r : List D} {S' : Es} (hb : bindS t x S = some S') (h : f S' n = some (.rt d, n1)) : forGo t f (x :: r) S n = some (.rt d, n1) := by
  rw [forGo]; simp only [hb, h]
theorem forGo_bk {t : Tg} {x : D} {r : List D} {S' : Es} (hb : bindS t x S = some S') (h : f S' n = some (.bk S1, n1)) : forGo t f (x :: r) S n = some (.nx S1, n1) := by
  rw [forGo]; simp only [hb, h]
theorem eCall_ok {m : Fn} {fs : Fe (List D)} {env : En} {ds : List D} {d : D} {n2 : Sn} (h : fs env n = some (ds, n1)) (hm : m ds n1 = some (.ok d, n2)) : eCall m fs env n = some (d, n2) := by unfold eCall; rw [h]; simp only [hm]
end
section
variable {env : En} {n n1 n2 n3 : Sn}
theorem a1_ok {f : FE} {x : D} (h : f env n = some (x, n1)) : aCons f aNil env n = some ([x], n1) := aCons_ok h rfl
theorem a2_ok {f g : FE} {x y : D} (h : f env n = some (x, n1)) (h2 : g env n1 = some (y, n2)) : aCons f (aCons g aNil) env n = some ([x, y], n2) := aCons_ok h (a1_ok h2)
theorem eL1_ok {F : D → Option D} {f : FE} {x d : D} (h : f env n = some (x, n1)) (hF : F x = some d) : eL (c1 F) (aCons f aNil) env n = some (d, n1) := eL_ok (a1_ok h) hF
end
theorem sCallX_ok {m : Fn} {fs : Fe (List D)} {S : Es} {n n1 n2 : Sn} {ds : List D} {d : D} (h : fs (frzE S) n = some (ds, n1)) (hm : m ds n1 = some (.ok d, n2)) : sCallX m fs S n = some (.nx S, n2) := by unfold sCallX; rw [h]; simp only [hm]
theorem sPar_ok {i j : Nat} {fs : Fe (List D)} {S : Es} {n n1 : Sn} {d e : D} (h : fs (frzE S) n = some ([d, e], n1)) (h1 : lf d = true) (h2 : lf e = true) : sPar i j fs S n = some (.nx ((S.set i (some (.val d))).set j (some (.val e))), n1) := by unfold sPar; rw [h]; simp only [h1, h2, Bool.and_self, if_true]
/-- rows[i][j] op= e, numbers -/
theorem sAug2_ok {r i j : Nat} {fi fj fe : FE} {g : Int → Int → Int} {S : Es} {n n1 n2 n3 : Sn} {m : Mt} {w : Int} (hS : S[r]? = some (some (.own2 (m.map rowD)))) (hi : fi (frzE S) n = some (.int (i : Int), n1)) (hj : fj (frzE S) n1 = some (.int (j : Int), n2)) (he : fe (frzE S) n2 = some (.int w, n3)) (il : i < m.length) (jl : j < (m.getD i []).length) :
    sAug2 r fi fj fe g S n = some (.nx (S.set r (some (.own2 ((m.set i ((m.getD i []).set j (g ((m.getD i []).getD j 0) w))).map rowD)))), n3) := by
  have hg : (m.map rowD)[i]? = some (rowD (m.getD i [])) := by
    rw [List.getElem?_map, List.getElem?_eq_getElem il]
    simp [List.getD, il]
  have hg2 : (rowD (m.getD i []))[j]? = some (.int ((m.getD i []).getD j 0)) := by
    unfold rowD
    rw [List.getElem?_map, List.getElem?_eq_getElem jl, getD_lt jl]
    rfl
  unfold sAug2
  simp only [hS, hi, hj, he, Int.toNat_natCast, hg, hg2]
  rw [if_pos ⟨by omega, by omega⟩, List.map_set]
  unfold rowD
  rw [List.map_set]
theorem tups_ok {env : En} {k : Nat} {n : Sn} (m : Mt) : lcGo env (.nm k) bYes (eL (c1 dTuple) (aCons (eVar k) aNil)) (m.map fun r => .list (rowD r)) n = some (m.map encR, n) ∨ env.length ≤ k := by
  by_cases hk : k < env.length
  · left
    refine lc_map _ _ m fun r hr => ?_
    refine eL1_ok (x := .list (rowD r)) ?_ rfl
    unfold eVar
    rw [List.getElem?_set_self hk]
  · right; omega

theorem is_integer_eq (d : D) (lo hi : Int) (n : Sn) (h : pl d = true) : m_is_integer [d, .int lo, .int hi] n = some (.ok (.bool (isI d lo hi)), n) := by
  cases d with
  | dict _ => simp [pl] at h
  | int i =>
    by_cases h1 : lo ≤ i
    · simp [m_is_integer, b_is_integer, mkF, mkL, start0, sSeq, sIf, sRet, sSet, sSetH, sOwn, sOwnH, sSkip, sFrz, frzS, sRaise, sCallX, sRetX, eVar, eC, e1, e2, eL, aCons, aNil, aLim, bV, bAnd, bOr, bNot, eAnd, eOr, eNot, eIf, oNone, oSome, eSl, eChain, eCall, eCallL, eList, frzE, hidE, frz1_val, frz1_own, frz1_own2, frz1_none, hid1_val, hid1_own, hid1_own2, hid1_none, c1, List.map_cons, List.map_nil, List.map_append, List.map_replicate, List.replicate_succ, List.replicate_zero, List.append_eq, List.nil_append, List.cons_append, List.append_nil, List.getElem?_cons_zero, List.getElem?_cons_succ, List.set_cons_zero, List.set_cons_succ, List.length_cons, List.length_nil, Option.map_some, Option.map_none, Option.bind_some, Option.bind_none, if_true, if_false, reduceCtorEq, Nat.reduceAdd, Nat.reduceEqDiff, ite_true, ite_false, ↓reduceIte, and_true, true_and, fin_self, dIsi, isTy, dLe, dCmp, isI, h1]
    · simp [m_is_integer, b_is_integer, mkF, mkL, start0, sSeq, sIf, sRet, sSet, sSetH, sOwn, sOwnH, sSkip, sFrz, frzS, sRaise, sCallX, sRetX, eVar, eC, e1, e2, eL, aCons, aNil, aLim, bV, bAnd, bOr, bNot, eAnd, eOr, eNot, eIf, oNone, oSome, eSl, eChain, eCall, eCallL, eList, frzE, hidE, frz1_val, frz1_own, frz1_own2, frz1_none, hid1_val, hid1_own, hid1_own2, hid1_none, c1, List.map_cons, List.map_nil, List.map_append, List.map_replicate, List.replicate_succ, List.replicate_zero, List.append_eq, List.nil_append, List.cons_append, List.append_nil, List.getElem?_cons_zero, List.getElem?_cons_succ, List.set_cons_zero, List.set_cons_succ, List.length_cons, List.length_nil, Option.map_some, Option.map_none, Option.bind_some, Option.bind_none, if_true, if_false, reduceCtorEq, Nat.reduceAdd, Nat.reduceEqDiff, ite_true, ite_false, ↓reduceIte, and_true, true_and, fin_self, dIsi, isTy, dLe, dCmp, isI, h1]
  | _ => simp [m_is_integer, b_is_integer, mkF, mkL, start0, sSeq, sIf, sRet, sSet, sSetH, sOwn, sOwnH, sSkip, sFrz, frzS, sRaise, sCallX, sRetX, eVar, eC, e1, e2, eL, aCons, aNil, aLim, bV, bAnd, bOr, bNot, eAnd, eOr, eNot, eIf, oNone, oSome, eSl, eChain, eCall, eCallL, eList, frzE, hidE, frz1_val, frz1_own, frz1_own2, frz1_none, hid1_val, hid1_own, hid1_own2, hid1_none, c1, List.map_cons, List.map_nil, List.map_append, List.map_replicate, List.replicate_succ, List.replicate_zero, List.append_eq, List.nil_append, List.cons_append, List.append_nil, List.getElem?_cons_zero, List.getElem?_cons_succ, List.set_cons_zero, List.set_cons_succ, List.length_cons, List.length_nil, Option.map_some, Option.map_none, Option.bind_some, Option.bind_none, if_true, if_false, reduceCtorEq, Nat.reduceAdd, Nat.reduceEqDiff, ite_true, ite_false, ↓reduceIte, and_true, true_and, fin_self, dIsi, isTy, dLe, dCmp, isI]
theorem isq_body (c lo hi : Int) (x d : D) (s5 : Option SV) (n : Sn) (h : pl x = true) :
    (sIf (bOr (bNot (bV (e1 (dIsi "tuple") (eVar 4)))) (bOr (bV (e2 dNe (eL (c1 dLen) (aCons (eVar 4) aNil)) (eVar 1))) (bNot (bV (eL (c1 dAll) (aCons (eList (eLc [5] (iS (eVar 4)) (.nm 5) bYes (eCall m_is_integer (aCons (eVar 5) (aCons (eVar 2) (aCons (eVar 3) aNil)))))) aNil))))))
      (sRet (eC (.bool false))) sSkip) [some (.val d), some (.val (.int c)), some (.val (.int lo)), some (.val (.int hi)), some (.val x), s5] n
    = if isRw c lo hi x then some (.nx [some (.val d), some (.val (.int c)), some (.val (.int lo)), some (.val (.int hi)), some (.val x), s5], n) else some (.rt (.bool false), n) := by
  cases x with
  | dict _ => simp [pl] at h
  | tuple xs =>
    rw [pl] at h
    have hl : lcGo (wipeE [some d, some (.int c), some (.int lo), some (.int hi), some (.tuple xs), frz1 s5] [5]) (.nm 5) bYes (eCall m_is_integer (aCons (eVar 5) (aCons (eVar 2) (aCons (eVar 3) aNil)))) xs n = some (xs.map fun y => .bool (isI y lo hi), n) := by
      refine lc_mapD _ xs fun y hy => ?_
      simp [mkF, mkL, start0, sSeq, sIf, sRet, sSet, sSetH, sOwn, sOwnH, sSkip, sFrz, frzS, sRaise, sCallX, sRetX, eVar, eC, e1, e2, eL, aCons, aNil, aLim, bV, bAnd, bOr, bNot, eAnd, eOr, eNot, eIf, oNone, oSome, eSl, eChain, eCall, eCallL, eList, frzE, hidE, frz1_val, frz1_own, frz1_own2, frz1_none, hid1_val, hid1_own, hid1_own2, hid1_none, c1, List.map_cons, List.map_nil, List.map_append, List.map_replicate, List.replicate_succ, List.replicate_zero, List.append_eq, List.nil_append, List.cons_append, List.append_nil, List.getElem?_cons_zero, List.getElem?_cons_succ, List.set_cons_zero, List.set_cons_succ, List.length_cons, List.length_nil, Option.map_some, Option.map_none, Option.bind_some, Option.bind_none, if_true, if_false, reduceCtorEq, Nat.reduceAdd, Nat.reduceEqDiff, ite_true, ite_false, ↓reduceIte, and_true, true_and, fin_self, wipeE, is_integer_eq y lo hi n (plL_mem h y hy)]
    by_cases h1 : (xs.length : Int) = c
    · by_cases h2 : (xs.all fun x => isI x lo hi) = true
      · have h3 : ((xs.map fun y => isI y lo hi).all id) = true := by rw [List.all_map]; exact h2
        simp [mkF, mkL, start0, sSeq, sIf, sRet, sSet, sSetH, sOwn, sOwnH, sSkip, sFrz, frzS, sRaise, sCallX, sRetX, eVar, eC, e1, e2, eL, aCons, aNil, aLim, bV, bAnd, bOr, bNot, eAnd, eOr, eNot, eIf, oNone, oSome, eSl, eChain, eCall, eCallL, eList, frzE, hidE, frz1_val, frz1_own, frz1_own2, frz1_none, hid1_val, hid1_own, hid1_own2, hid1_none, c1, List.map_cons, List.map_nil, List.map_append, List.map_replicate, List.replicate_succ, List.replicate_zero, List.append_eq, List.nil_append, List.cons_append, List.append_nil, List.getElem?_cons_zero, List.getElem?_cons_succ, List.set_cons_zero, List.set_cons_succ, List.length_cons, List.length_nil, Option.map_some, Option.map_none, Option.bind_some, Option.bind_none, if_true, if_false, reduceCtorEq, Nat.reduceAdd, Nat.reduceEqDiff, ite_true, ite_false, ↓reduceIte, and_true, true_and, fin_self, dIsi, isTy, dLen, ne_int, eLc, iS, hl, dAll, lst?, h1, isRw, h2]
        rw [show (xs.map fun y => PyData.bool (isI y lo hi)) = (xs.map fun y => isI y lo hi).map .bool by simp, bools?_map]
        simp [h3]
      · have h3 : ((xs.map fun y => isI y lo hi).all id) = false := by rw [List.all_map]; simpa using h2
        simp [mkF, mkL, start0, sSeq, sIf, sRet, sSet, sSetH, sOwn, sOwnH, sSkip, sFrz, frzS, sRaise, sCallX, sRetX, eVar, eC, e1, e2, eL, aCons, aNil, aLim, bV, bAnd, bOr, bNot, eAnd, eOr, eNot, eIf, oNone, oSome, eSl, eChain, eCall, eCallL, eList, frzE, hidE, frz1_val, frz1_own, frz1_own2, frz1_none, hid1_val, hid1_own, hid1_own2, hid1_none, c1, List.map_cons, List.map_nil, List.map_append, List.map_replicate, List.replicate_succ, List.replicate_zero, List.append_eq, List.nil_append, List.cons_append, List.append_nil, List.getElem?_cons_zero, List.getElem?_cons_succ, List.set_cons_zero, List.set_cons_succ, List.length_cons, List.length_nil, Option.map_some, Option.map_none, Option.bind_some, Option.bind_none, if_true, if_false, reduceCtorEq, Nat.reduceAdd, Nat.reduceEqDiff, ite_true, ite_false, ↓reduceIte, and_true, true_and, fin_self, dIsi, isTy, dLen, ne_int, eLc, iS, hl, dAll, lst?, h1, isRw, h2]
        rw [show (xs.map fun y => PyData.bool (isI y lo hi)) = (xs.map fun y => isI y lo hi).map .bool by simp, bools?_map]
        simp [h3]
    · simp [mkF, mkL, start0, sSeq, sIf, sRet, sSet, sSetH, sOwn, sOwnH, sSkip, sFrz, frzS, sRaise, sCallX, sRetX, eVar, eC, e1, e2, eL, aCons, aNil, aLim, bV, bAnd, bOr, bNot, eAnd, eOr, eNot, eIf, oNone, oSome, eSl, eChain, eCall, eCallL, eList, frzE, hidE, frz1_val, frz1_own, frz1_own2, frz1_none, hid1_val, hid1_own, hid1_own2, hid1_none, c1, List.map_cons, List.map_nil, List.map_append, List.map_replicate, List.replicate_succ, List.replicate_zero, List.append_eq, List.nil_append, List.cons_append, List.append_nil, List.getElem?_cons_zero, List.getElem?_cons_succ, List.set_cons_zero, List.set_cons_succ, List.length_cons, List.length_nil, Option.map_some, Option.map_none, Option.bind_some, Option.bind_none, if_true, if_false, reduceCtorEq, Nat.reduceAdd, Nat.reduceEqDiff, ite_true, ite_false, ↓reduceIte, and_true, true_and, fin_self, dIsi, isTy, dLen, ne_int, h1, isRw]
  | _ => simp [mkF, mkL, start0, sSeq, sIf, sRet, sSet, sSetH, sOwn, sOwnH, sSkip, sFrz, frzS, sRaise, sCallX, sRetX, eVar, eC, e1, e2, eL, aCons, aNil, aLim, bV, bAnd, bOr, bNot, eAnd, eOr, eNot, eIf, oNone, oSome, eSl, eChain, eCall, eCallL, eList, frzE, hidE, frz1_val, frz1_own, frz1_own2, frz1_none, hid1_val, hid1_own, hid1_own2, hid1_none, c1, List.map_cons, List.map_nil, List.map_append, List.map_replicate, List.replicate_succ, List.replicate_zero, List.append_eq, List.nil_append, List.cons_append, List.append_nil, List.getElem?_cons_zero, List.getElem?_cons_succ, List.set_cons_zero, List.set_cons_succ, List.length_cons, List.length_nil, Option.map_some, Option.map_none, Option.bind_some, Option.bind_none, if_true, if_false, reduceCtorEq, Nat.reduceAdd, Nat.reduceEqDiff, ite_true, ite_false, ↓reduceIte, and_true, true_and, fin_self, dIsi, isTy, isRw]

theorem isq_loop (c lo hi : Int) (d : D) (n : Sn) : ∀ (rows : List D) (s4 : Option SV), plL rows = true →
    forGo (.nm 4) (sIf (bOr (bNot (bV (e1 (dIsi "tuple") (eVar 4)))) (bOr (bV (e2 dNe (eL (c1 dLen) (aCons (eVar 4) aNil)) (eVar 1))) (bNot (bV (eL (c1 dAll) (aCons (eList (eLc [5] (iS (eVar 4)) (.nm 5) bYes (eCall m_is_integer (aCons (eVar 5) (aCons (eVar 2) (aCons (eVar 3) aNil)))))) aNil))))))
      (sRet (eC (.bool false))) sSkip) rows [some (.val d), some (.val (.int c)), some (.val (.int lo)), some (.val (.int hi)), s4, none] n
    = if rows.all (isRw c lo hi) then some (.nx [some (.val d), some (.val (.int c)), some (.val (.int lo)), some (.val (.int hi)), (rows.getLast?.map SV.val).or s4, none], n) else some (.rt (.bool false), n)
  | [], s4, _ => by simp [forGo]
  | x :: r, s4, h => by
    rw [plL, Bool.and_eq_true] at h
    have ih := isq_loop c lo hi d n r (some (.val x)) h.2
    have hb := isq_body c lo hi x d none n h.1
    unfold forGo
    simp only [bindS, List.set_cons_succ, List.set_cons_zero, hb]
    by_cases hx : isRw c lo hi x = true
    · simp only [hx, if_true, ih, List.all_cons, Bool.true_and]
      cases hr : r.getLast? with
      | none =>
        have : r = [] := List.getLast?_eq_none_iff.mp hr
        subst this
        simp
      | some z => 
        simp [List.getLast?_cons, hr]
    · simp [hx]
theorem is_square_of_eq (d : D) (c lo hi : Int) (n : Sn) (h : pl d = true) : m_is_square_of [d, .int c, .int lo, .int hi] n = some (.ok (.bool (isSq d c lo hi)), n) := by
  cases d with
  | dict _ => simp [pl] at h
  | tuple rows =>
    rw [pl] at h
    by_cases h1 : (rows.length : Int) = c
    · have hl := isq_loop c lo hi (.tuple rows) n rows none h
      simp [m_is_square_of, b_is_square_of, mkF, mkL, start0, sSeq, sIf, sRet, sSet, sSetH, sOwn, sOwnH, sSkip, sFrz, frzS, sRaise, sCallX, sRetX, eVar, eC, e1, e2, eL, aCons, aNil, aLim, bV, bAnd, bOr, bNot, eAnd, eOr, eNot, eIf, oNone, oSome, eSl, eChain, eCall, eCallL, eList, frzE, hidE, frz1_val, frz1_own, frz1_own2, frz1_none, hid1_val, hid1_own, hid1_own2, hid1_none, c1, List.map_cons, List.map_nil, List.map_append, List.map_replicate, List.replicate_succ, List.replicate_zero, List.append_eq, List.nil_append, List.cons_append, List.append_nil, List.getElem?_cons_zero, List.getElem?_cons_succ, List.set_cons_zero, List.set_cons_succ, List.length_cons, List.length_nil, Option.map_some, Option.map_none, Option.bind_some, Option.bind_none, if_true, if_false, reduceCtorEq, Nat.reduceAdd, Nat.reduceEqDiff, ite_true, ite_false, ↓reduceIte, and_true, true_and, fin_self, dIsi, isTy, dLen, ne_int, h1, sFor, iS]
      rw [hl]
      by_cases h2 : rows.all (isRw c lo hi) = true
      · simp [h2, isSq, h1, fin_self]
      · simp [h2, isSq, h1, fin_self]
    · simp [m_is_square_of, b_is_square_of, mkF, mkL, start0, sSeq, sIf, sRet, sSet, sSetH, sOwn, sOwnH, sSkip, sFrz, frzS, sRaise, sCallX, sRetX, eVar, eC, e1, e2, eL, aCons, aNil, aLim, bV, bAnd, bOr, bNot, eAnd, eOr, eNot, eIf, oNone, oSome, eSl, eChain, eCall, eCallL, eList, frzE, hidE, frz1_val, frz1_own, frz1_own2, frz1_none, hid1_val, hid1_own, hid1_own2, hid1_none, c1, List.map_cons, List.map_nil, List.map_append, List.map_replicate, List.replicate_succ, List.replicate_zero, List.append_eq, List.nil_append, List.cons_append, List.append_nil, List.getElem?_cons_zero, List.getElem?_cons_succ, List.set_cons_zero, List.set_cons_succ, List.length_cons, List.length_nil, Option.map_some, Option.map_none, Option.bind_some, Option.bind_none, if_true, if_false, reduceCtorEq, Nat.reduceAdd, Nat.reduceEqDiff, ite_true, ite_false, ↓reduceIte, and_true, true_and, fin_self, dIsi, isTy, dLen, ne_int, h1, isSq]
  | _ => simp [m_is_square_of, b_is_square_of, mkF, mkL, start0, sSeq, sIf, sRet, sSet, sSetH, sOwn, sOwnH, sSkip, sFrz, frzS, sRaise, sCallX, sRetX, eVar, eC, e1, e2, eL, aCons, aNil, aLim, bV, bAnd, bOr, bNot, eAnd, eOr, eNot, eIf, oNone, oSome, eSl, eChain, eCall, eCallL, eList, frzE, hidE, frz1_val, frz1_own, frz1_own2, frz1_none, hid1_val, hid1_own, hid1_own2, hid1_none, c1, List.map_cons, List.map_nil, List.map_append, List.map_replicate, List.replicate_succ, List.replicate_zero, List.append_eq, List.nil_append, List.cons_append, List.append_nil, List.getElem?_cons_zero, List.getElem?_cons_succ, List.set_cons_zero, List.set_cons_succ, List.length_cons, List.length_nil, Option.map_some, Option.map_none, Option.bind_some, Option.bind_none, if_true, if_false, reduceCtorEq, Nat.reduceAdd, Nat.reduceEqDiff, ite_true, ite_false, ↓reduceIte, and_true, true_and, fin_self, dIsi, isTy, isSq]
theorem is_matrix_eq (d : D) (n : Sn) (h : pl d = true) : m_is_matrix [d] n = some (.ok (.bool (isMat d)), n) := by
  cases d with
  | dict _ => simp [pl] at h
  | tuple rows =>
    have h3 := is_square_of_eq (.tuple rows) rows.length 0 9 n h
    by_cases h1 : (1 : Int) ≤ rows.length
    · by_cases h2 : (rows.length : Int) ≤ 5
      · have h1' : 1 ≤ rows.length := by omega
        have h2' : rows.length ≤ 5 := by omega
        simp [m_is_matrix, b_is_matrix, mkF, mkL, start0, sSeq, sIf, sRet, sSet, sSetH, sOwn, sOwnH, sSkip, sFrz, frzS, sRaise, sCallX, sRetX, eVar, eC, e1, e2, eL, aCons, aNil, aLim, bV, bAnd, bOr, bNot, eAnd, eOr, eNot, eIf, oNone, oSome, eSl, eChain, eCall, eCallL, eList, frzE, hidE, frz1_val, frz1_own, frz1_own2, frz1_none, hid1_val, hid1_own, hid1_own2, hid1_none, c1, List.map_cons, List.map_nil, List.map_append, List.map_replicate, List.replicate_succ, List.replicate_zero, List.append_eq, List.nil_append, List.cons_append, List.append_nil, List.getElem?_cons_zero, List.getElem?_cons_succ, List.set_cons_zero, List.set_cons_succ, List.length_cons, List.length_nil, Option.map_some, Option.map_none, Option.bind_some, Option.bind_none, if_true, if_false, reduceCtorEq, Nat.reduceAdd, Nat.reduceEqDiff, ite_true, ite_false, ↓reduceIte, and_true, true_and, fin_self, dIsi, isTy, dLen, dLe, dCmp, h1, h2, h3, isMat, h1', h2']
      · have h2' : ¬ rows.length ≤ 5 := by omega
        simp [m_is_matrix, b_is_matrix, mkF, mkL, start0, sSeq, sIf, sRet, sSet, sSetH, sOwn, sOwnH, sSkip, sFrz, frzS, sRaise, sCallX, sRetX, eVar, eC, e1, e2, eL, aCons, aNil, aLim, bV, bAnd, bOr, bNot, eAnd, eOr, eNot, eIf, oNone, oSome, eSl, eChain, eCall, eCallL, eList, frzE, hidE, frz1_val, frz1_own, frz1_own2, frz1_none, hid1_val, hid1_own, hid1_own2, hid1_none, c1, List.map_cons, List.map_nil, List.map_append, List.map_replicate, List.replicate_succ, List.replicate_zero, List.append_eq, List.nil_append, List.cons_append, List.append_nil, List.getElem?_cons_zero, List.getElem?_cons_succ, List.set_cons_zero, List.set_cons_succ, List.length_cons, List.length_nil, Option.map_some, Option.map_none, Option.bind_some, Option.bind_none, if_true, if_false, reduceCtorEq, Nat.reduceAdd, Nat.reduceEqDiff, ite_true, ite_false, ↓reduceIte, and_true, true_and, fin_self, dIsi, isTy, dLen, dLe, dCmp, h1, h2, isMat, h2']
    · have h1' : ¬ 1 ≤ rows.length := by omega
      simp [m_is_matrix, b_is_matrix, mkF, mkL, start0, sSeq, sIf, sRet, sSet, sSetH, sOwn, sOwnH, sSkip, sFrz, frzS, sRaise, sCallX, sRetX, eVar, eC, e1, e2, eL, aCons, aNil, aLim, bV, bAnd, bOr, bNot, eAnd, eOr, eNot, eIf, oNone, oSome, eSl, eChain, eCall, eCallL, eList, frzE, hidE, frz1_val, frz1_own, frz1_own2, frz1_none, hid1_val, hid1_own, hid1_own2, hid1_none, c1, List.map_cons, List.map_nil, List.map_append, List.map_replicate, List.replicate_succ, List.replicate_zero, List.append_eq, List.nil_append, List.cons_append, List.append_nil, List.getElem?_cons_zero, List.getElem?_cons_succ, List.set_cons_zero, List.set_cons_succ, List.length_cons, List.length_nil, Option.map_some, Option.map_none, Option.bind_some, Option.bind_none, if_true, if_false, reduceCtorEq, Nat.reduceAdd, Nat.reduceEqDiff, ite_true, ite_false, ↓reduceIte, and_true, true_and, fin_self, dIsi, isTy, dLen, dLe, dCmp, h1, isMat, h1']
  | _ => simp [m_is_matrix, b_is_matrix, mkF, mkL, start0, sSeq, sIf, sRet, sSet, sSetH, sOwn, sOwnH, sSkip, sFrz, frzS, sRaise, sCallX, sRetX, eVar, eC, e1, e2, eL, aCons, aNil, aLim, bV, bAnd, bOr, bNot, eAnd, eOr, eNot, eIf, oNone, oSome, eSl, eChain, eCall, eCallL, eList, frzE, hidE, frz1_val, frz1_own, frz1_own2, frz1_none, hid1_val, hid1_own, hid1_own2, hid1_none, c1, List.map_cons, List.map_nil, List.map_append, List.map_replicate, List.replicate_succ, List.replicate_zero, List.append_eq, List.nil_append, List.cons_append, List.append_nil, List.getElem?_cons_zero, List.getElem?_cons_succ, List.set_cons_zero, List.set_cons_succ, List.length_cons, List.length_nil, Option.map_some, Option.map_none, Option.bind_some, Option.bind_none, if_true, if_false, reduceCtorEq, Nat.reduceAdd, Nat.reduceEqDiff, ite_true, ite_false, ↓reduceIte, and_true, true_and, fin_self, dIsi, isTy, isMat]
theorem check_matrix_eq (d : D) (n : Sn) (h : pl d = true) : m_check_matrix [d] n = some (if isMat d then .ok .none else .ex "InvalidMatrix", n) := by
  have h3 := is_matrix_eq d n h
  cases hm : isMat d with
  | true => simp [m_check_matrix, b_check_matrix, mkF, mkL, start0, sSeq, sIf, sRet, sSet, sSetH, sOwn, sOwnH, sSkip, sFrz, frzS, sRaise, sCallX, sRetX, eVar, eC, e1, e2, eL, aCons, aNil, aLim, bV, bAnd, bOr, bNot, eAnd, eOr, eNot, eIf, oNone, oSome, eSl, eChain, eCall, eCallL, eList, frzE, hidE, frz1_val, frz1_own, frz1_own2, frz1_none, hid1_val, hid1_own, hid1_own2, hid1_none, c1, List.map_cons, List.map_nil, List.map_append, List.map_replicate, List.replicate_succ, List.replicate_zero, List.append_eq, List.nil_append, List.cons_append, List.append_nil, List.getElem?_cons_zero, List.getElem?_cons_succ, List.set_cons_zero, List.set_cons_succ, List.length_cons, List.length_nil, Option.map_some, Option.map_none, Option.bind_some, Option.bind_none, if_true, if_false, reduceCtorEq, Nat.reduceAdd, Nat.reduceEqDiff, ite_true, ite_false, ↓reduceIte, and_true, true_and, fin_self, h3, hm]
  | false => simp [m_check_matrix, b_check_matrix, mkF, mkL, start0, sSeq, sIf, sRet, sSet, sSetH, sOwn, sOwnH, sSkip, sFrz, frzS, sRaise, sCallX, sRetX, eVar, eC, e1, e2, eL, aCons, aNil, aLim, bV, bAnd, bOr, bNot, eAnd, eOr, eNot, eIf, oNone, oSome, eSl, eChain, eCall, eCallL, eList, frzE, hidE, frz1_val, frz1_own, frz1_own2, frz1_none, hid1_val, hid1_own, hid1_own2, hid1_none, c1, List.map_cons, List.map_nil, List.map_append, List.map_replicate, List.replicate_succ, List.replicate_zero, List.append_eq, List.nil_append, List.cons_append, List.append_nil, List.getElem?_cons_zero, List.getElem?_cons_succ, List.set_cons_zero, List.set_cons_succ, List.length_cons, List.length_nil, Option.map_some, Option.map_none, Option.bind_some, Option.bind_none, if_true, if_false, reduceCtorEq, Nat.reduceAdd, Nat.reduceEqDiff, ite_true, ite_false, ↓reduceIte, and_true, true_and, fin_self, h3, hm]
theorem line_sums_eq {m : Mt} (hsq : ∀ r ∈ m, r.length = m.length) (hl : m.length ≤ 1000) (n : Sn) : m_line_sums [encM m] n = some (.ok (.list ((lineSums m).map .int)), n) := by
  refine fn_rt rfl (wp_ret (d := .list ((lineSums m).map .int)) (n1 := n) (e2_ok (n1 := n) (x := .list (m.map fun r => .int r.sum)) (y := .list ((List.range m.length).map fun j => .int (colSum m j))) ?_ ?_ ?_) ⟨rfl, rfl⟩)
  · bv_omega
  · refine eList_ok (eLc_map (iR1_ok (by bv_omega) (by rw [lim_val]; omega)) fun j hj => ?_)
    have hj := List.mem_range.mp hj
    refine eL_ok (aCons_ok (eList_ok (eLc_map (g := fun r => .int (r.getD j 0)) (iS_t (eVar_ok rfl)) fun r hr => ?_)) aNil_ok) (c1_ok dSum_m)
    exact e2_ok (eVar_ok rfl) (eVar_ok rfl) (ix_row (by rw [hsq r hr]; exact hj))
  · rw [add_list (by simp only [List.length_map, List.length_range, lim_val]; omega)]
    unfold lineSums
    rw [List.map_append, List.map_map, List.map_map]
    rfl
theorem degree_of_eq {m : Mt} (hsq : ∀ r ∈ m, r.length = m.length) (hp : 1 ≤ m.length) (hl : m.length ≤ 1000) (n : Sn) : m_degree_of [encM m] n = some (.ok (.int (deg m)), n) := by
  simp [m_degree_of, b_degree_of, mkF, mkL, start0, sSeq, sIf, sRet, sSet, sSetH, sOwn, sOwnH, sSkip, sFrz, frzS, sRaise, sCallX, sRetX, eVar, eC, e1, e2, eL, aCons, aNil, aLim, bV, bAnd, bOr, bNot, eAnd, eOr, eNot, eIf, oNone, oSome, eSl, eChain, eCall, eCallL, eList, frzE, hidE, frz1_val, frz1_own, frz1_own2, frz1_none, hid1_val, hid1_own, hid1_own2, hid1_none, c1, List.map_cons, List.map_nil, List.map_append, List.map_replicate, List.replicate_succ, List.replicate_zero, List.append_eq, List.nil_append, List.cons_append, List.append_nil, List.getElem?_cons_zero, List.getElem?_cons_succ, List.set_cons_zero, List.set_cons_succ, List.length_cons, List.length_nil, Option.map_some, Option.map_none, Option.bind_some, Option.bind_none, if_true, if_false, reduceCtorEq, Nat.reduceAdd, Nat.reduceEqDiff, ite_true, ite_false, ↓reduceIte, and_true, true_and, fin_self, line_sums_eq hsq hl, max_ints (lineSums_ne hp), deg]
theorem degree_eq {m : Mt} (h : VM m) (n : Sn) : m_degree [encM m] n = some (.ok (.int (deg m)), n) := by
  simp [m_degree, b_degree, mkF, mkL, start0, sSeq, sIf, sRet, sSet, sSetH, sOwn, sOwnH, sSkip, sFrz, frzS, sRaise, sCallX, sRetX, eVar, eC, e1, e2, eL, aCons, aNil, aLim, bV, bAnd, bOr, bNot, eAnd, eOr, eNot, eIf, oNone, oSome, eSl, eChain, eCall, eCallL, eList, frzE, hidE, frz1_val, frz1_own, frz1_own2, frz1_none, hid1_val, hid1_own, hid1_own2, hid1_none, c1, List.map_cons, List.map_nil, List.map_append, List.map_replicate, List.replicate_succ, List.replicate_zero, List.append_eq, List.nil_append, List.cons_append, List.append_nil, List.getElem?_cons_zero, List.getElem?_cons_succ, List.set_cons_zero, List.set_cons_succ, List.length_cons, List.length_nil, Option.map_some, Option.map_none, Option.bind_some, Option.bind_none, if_true, if_false, reduceCtorEq, Nat.reduceAdd, Nat.reduceEqDiff, ite_true, ite_false, ↓reduceIte, and_true, true_and, fin_self, check_matrix_eq _ _ (pl_mat m), isMat_enc h, degree_of_eq h.sq h.pos (by have := h.le; omega)]
theorem cell_loop (a b : D) (n : Sn) : ∀ (items : List D) (sp : Int) (s3 : Option SV), ∃ (sp' : Int) (s3' : Option SV),
    forGo (.nm 3) (sSet 2 (e2 dFdiv (eVar 2) (eC (.int 1000003)))) items [some (.val a), some (.val b), some (.val (.int sp)), s3] n = some (.nx [some (.val a), some (.val b), some (.val (.int sp')), s3'], n)
  | [], sp, s3 => ⟨sp, s3, rfl⟩
  | x :: r, sp, s3 => by
    obtain ⟨sp', s3', h⟩ := cell_loop a b n r (sp / 1000003) (some (.val x))
    refine ⟨sp', s3', ?_⟩
    unfold forGo
    simp [bindS, mkF, mkL, start0, sSeq, sIf, sRet, sSet, sSetH, sOwn, sOwnH, sSkip, sFrz, frzS, sRaise, sCallX, sRetX, eVar, eC, e1, e2, eL, aCons, aNil, aLim, bV, bAnd, bOr, bNot, eAnd, eOr, eNot, eIf, oNone, oSome, eSl, eChain, eCall, eCallL, eList, frzE, hidE, frz1_val, frz1_own, frz1_own2, frz1_none, hid1_val, hid1_own, hid1_own2, hid1_none, c1, List.map_cons, List.map_nil, List.map_append, List.map_replicate, List.replicate_succ, List.replicate_zero, List.append_eq, List.nil_append, List.cons_append, List.append_nil, List.getElem?_cons_zero, List.getElem?_cons_succ, List.set_cons_zero, List.set_cons_succ, List.length_cons, List.length_nil, Option.map_some, Option.map_none, Option.bind_some, Option.bind_none, if_true, if_false, reduceCtorEq, Nat.reduceAdd, Nat.reduceEqDiff, ite_true, ite_false, ↓reduceIte, and_true, true_and, fin_self, dFdiv, dI2, lf]
    exact h
theorem cell_at_ok (ns : List Int) (hns : ns.length ≤ 63) (k : Nat) (n : Sn) : ∃ c : Int, m__law_cell_at [scrD ns, .int (k : Int)] n = some (.ok (.int c), n) := by
  by_cases h1 : k < ns.length
  · refine ⟨ns[k], ?_⟩
    have h1' : (k : Int) < ns.length := by omega
    simp [m__law_cell_at, b__law_cell_at, mkF, mkL, start0, sSeq, sIf, sRet, sSet, sSetH, sOwn, sOwnH, sSkip, sFrz, frzS, sRaise, sCallX, sRetX, eVar, eC, e1, e2, eL, aCons, aNil, aLim, bV, bAnd, bOr, bNot, eAnd, eOr, eNot, eIf, oNone, oSome, eSl, eChain, eCall, eCallL, eList, frzE, hidE, frz1_val, frz1_own, frz1_own2, frz1_none, hid1_val, hid1_own, hid1_own2, hid1_none, c1, List.map_cons, List.map_nil, List.map_append, List.map_replicate, List.replicate_succ, List.replicate_zero, List.append_eq, List.nil_append, List.cons_append, List.append_nil, List.getElem?_cons_zero, List.getElem?_cons_succ, List.set_cons_zero, List.set_cons_succ, List.length_cons, List.length_nil, Option.map_some, Option.map_none, Option.bind_some, Option.bind_none, if_true, if_false, reduceCtorEq, Nat.reduceAdd, Nat.reduceEqDiff, ite_true, ite_false, ↓reduceIte, and_true, true_and, fin_self, dLt, dCmp, dLenS, scrD, h1', dIxS, atI_map, atI_nat' h1]
  · have h1' : ¬ (k : Int) < ns.length := by omega
    by_cases h2 : ns = []
    · subst h2
      refine ⟨0, ?_⟩
      have hk : ¬ ((k : Int) < 0) := by omega
      simp [m__law_cell_at, b__law_cell_at, mkF, mkL, start0, sSeq, sIf, sRet, sSet, sSetH, sOwn, sOwnH, sSkip, sFrz, frzS, sRaise, sCallX, sRetX, eVar, eC, e1, e2, eL, aCons, aNil, aLim, bV, bAnd, bOr, bNot, eAnd, eOr, eNot, eIf, oNone, oSome, eSl, eChain, eCall, eCallL, eList, frzE, hidE, frz1_val, frz1_own, frz1_own2, frz1_none, hid1_val, hid1_own, hid1_own2, hid1_none, c1, List.map_cons, List.map_nil, List.map_append, List.map_replicate, List.replicate_succ, List.replicate_zero, List.append_eq, List.nil_append, List.cons_append, List.append_nil, List.getElem?_cons_zero, List.getElem?_cons_succ, List.set_cons_zero, List.set_cons_succ, List.length_cons, List.length_nil, Option.map_some, Option.map_none, Option.bind_some, Option.bind_none, if_true, if_false, reduceCtorEq, Nat.reduceAdd, Nat.reduceEqDiff, ite_true, ite_false, ↓reduceIte, and_true, true_and, fin_self, dLt, dCmp, dLenS, scrD, dLst, dEqS, lim_val, hk]
    · have hpos : 0 < ns.length := List.length_pos_iff.mpr h2
      have hmod : ((k : Int) % (ns.length : Int)) = ((k % ns.length : Nat) : Int) := by simp
      have hlt : k % ns.length < ns.length := Nat.mod_lt _ hpos
      have hne : (ns.map PyData.int).isEmpty = false := by
        cases ns with
        | nil => exact absurd rfl h2
        | cons a b => rfl
      have hix : ∀ env : En, ∀ q : Sn, (e2 dIxS (eVar 0) (e2 dMod (eVar 1) (eL (c1 dLenS) (aCons (eVar 0) aNil)))) (some (scrD ns) :: some (.int (k : Int)) :: env) q = some (.int ns[k % ns.length], q) := by
        intro env q
        have hp : (0 : Int) < ns.length := by omega
        simp [mkF, mkL, start0, sSeq, sIf, sRet, sSet, sSetH, sOwn, sOwnH, sSkip, sFrz, frzS, sRaise, sCallX, sRetX, eVar, eC, e1, e2, eL, aCons, aNil, aLim, bV, bAnd, bOr, bNot, eAnd, eOr, eNot, eIf, oNone, oSome, eSl, eChain, eCall, eCallL, eList, frzE, hidE, frz1_val, frz1_own, frz1_own2, frz1_none, hid1_val, hid1_own, hid1_own2, hid1_none, c1, List.map_cons, List.map_nil, List.map_append, List.map_replicate, List.replicate_succ, List.replicate_zero, List.append_eq, List.nil_append, List.cons_append, List.append_nil, List.getElem?_cons_zero, List.getElem?_cons_succ, List.set_cons_zero, List.set_cons_succ, List.length_cons, List.length_nil, Option.map_some, Option.map_none, Option.bind_some, Option.bind_none, if_true, if_false, reduceCtorEq, Nat.reduceAdd, Nat.reduceEqDiff, ite_true, ite_false, ↓reduceIte, and_true, true_and, fin_self, dLenS, scrD, dMod, dI2, dIxS, hpos, atI_map]
        rw [show ((k : Int) % (ns.length : Int)) = ((k % ns.length : Nat) : Int) by simp, atI_nat' hlt]
      obtain ⟨sp', s3', hloop⟩ := cell_loop (scrD ns) (.int (k : Int)) n (rngD 0 (if (60 : Int) < (k : Int) / ns.length then 60 else (k : Int) / ns.length).toNat) ns[k % ns.length] none
      refine ⟨ns[k % ns.length] * 31 + k + sp' * 101, mkF_rt rfl ?_⟩
      refine (sSeq_nx (S1 := start0 2 [scrD ns, .int (k : Int)]) (n1 := n) ?_).trans ((sSeq_nx (S1 := start0 2 [scrD ns, .int (k : Int)]) (n1 := n) ?_).trans ((sSeq_nx (sSet_ok (d := .int ns[k % ns.length]) (n1 := n) ?_ rfl)).trans ((sSeq_nx ((sFor_go ?_).trans hloop)).trans (sRet_ok ?_))))
      · rw [sIf_f (n1 := n)]
        · rfl
        · simp [start0, mkF, mkL, start0, sSeq, sIf, sRet, sSet, sSetH, sOwn, sOwnH, sSkip, sFrz, frzS, sRaise, sCallX, sRetX, eVar, eC, e1, e2, eL, aCons, aNil, aLim, bV, bAnd, bOr, bNot, eAnd, eOr, eNot, eIf, oNone, oSome, eSl, eChain, eCall, eCallL, eList, frzE, hidE, frz1_val, frz1_own, frz1_own2, frz1_none, hid1_val, hid1_own, hid1_own2, hid1_none, c1, List.map_cons, List.map_nil, List.map_append, List.map_replicate, List.replicate_succ, List.replicate_zero, List.append_eq, List.nil_append, List.cons_append, List.append_nil, List.getElem?_cons_zero, List.getElem?_cons_succ, List.set_cons_zero, List.set_cons_succ, List.length_cons, List.length_nil, Option.map_some, Option.map_none, Option.bind_some, Option.bind_none, if_true, if_false, reduceCtorEq, Nat.reduceAdd, Nat.reduceEqDiff, ite_true, ite_false, ↓reduceIte, and_true, true_and, fin_self, dLt, dCmp, dLenS, scrD, h1']
      · rw [sIf_f (n1 := n)]
        · rfl
        · simp [start0, mkF, mkL, start0, sSeq, sIf, sRet, sSet, sSetH, sOwn, sOwnH, sSkip, sFrz, frzS, sRaise, sCallX, sRetX, eVar, eC, e1, e2, eL, aCons, aNil, aLim, bV, bAnd, bOr, bNot, eAnd, eOr, eNot, eIf, oNone, oSome, eSl, eChain, eCall, eCallL, eList, frzE, hidE, frz1_val, frz1_own, frz1_own2, frz1_none, hid1_val, hid1_own, hid1_own2, hid1_none, c1, List.map_cons, List.map_nil, List.map_append, List.map_replicate, List.replicate_succ, List.replicate_zero, List.append_eq, List.nil_append, List.cons_append, List.append_nil, List.getElem?_cons_zero, List.getElem?_cons_succ, List.set_cons_zero, List.set_cons_succ, List.length_cons, List.length_nil, Option.map_some, Option.map_none, Option.bind_some, Option.bind_none, if_true, if_false, reduceCtorEq, Nat.reduceAdd, Nat.reduceEqDiff, ite_true, ite_false, ↓reduceIte, and_true, true_and, fin_self, dLst, dEqS, scrD, h2, lim_val]
      · exact hix _ _
      · have hp : (0 : Int) < ns.length := by omega
        have hsm : (ns.length : Int) < 1073741824 := by omega
        have h0 : (0 : Int) ≤ (k : Int) / ns.length := Int.ediv_nonneg (by omega) (by omega)
        have hJ : -(lim : Int) ≤ (if (60 : Int) < (k : Int) / ns.length then 60 else (k : Int) / ns.length) ∧ (if (60 : Int) < (k : Int) / ns.length then 60 else (k : Int) / ns.length) ≤ (lim : Int) := by
          rw [lim_val]
          split <;> constructor <;> omega
        have hA : (aCons (eL dMin2 (aCons (e2 dFdiv (eVar 1) (eL (c1 dLenS) (aCons (eVar 0) aNil))) (aCons (eC (.int 60)) aNil))) aNil) [some (scrD ns), some (.int (k : Int)), some (.int ns[k % ns.length]), none] n = some ([.int (if (60 : Int) < (k : Int) / ns.length then 60 else (k : Int) / ns.length)], n) := by
          have hsm' : ns.length < 1073741824 := by omega
          simp [mkF, mkL, start0, sSeq, sIf, sRet, sSet, sSetH, sOwn, sOwnH, sSkip, sFrz, frzS, sRaise, sCallX, sRetX, eVar, eC, e1, e2, eL, aCons, aNil, aLim, bV, bAnd, bOr, bNot, eAnd, eOr, eNot, eIf, oNone, oSome, eSl, eChain, eCall, eCallL, eList, frzE, hidE, frz1_val, frz1_own, frz1_own2, frz1_none, hid1_val, hid1_own, hid1_own2, hid1_none, c1, List.map_cons, List.map_nil, List.map_append, List.map_replicate, List.replicate_succ, List.replicate_zero, List.append_eq, List.nil_append, List.cons_append, List.append_nil, List.getElem?_cons_zero, List.getElem?_cons_succ, List.set_cons_zero, List.set_cons_succ, List.length_cons, List.length_nil, Option.map_some, Option.map_none, Option.bind_some, Option.bind_none, if_true, if_false, reduceCtorEq, Nat.reduceAdd, Nat.reduceEqDiff, ite_true, ite_false, ↓reduceIte, and_true, true_and, fin_self, dMin2, dFdiv, dI2, dLenS, scrD, hpos, hsm]
        show iR1 _ [some (scrD ns), some (.int (k : Int)), some (.int ns[k % ns.length]), none] n = _
        unfold iR1
        rw [hA]
        simp only
        rw [if_pos hJ]
      · have hx := hix [some (.int sp'), frz1 s3'] n
        have hx2 : (e2 dIxS (eVar 0) (e2 dMod (eVar 1) (eL (c1 dLenS) (aCons (eVar 0) aNil)))) (frzE [some (.val (scrD ns)), some (.val (.int (k : Int))), some (.val (.int sp')), s3']) n = some (.int ns[k % ns.length], n) := hx
        have hd1 : dMul (.int ns[k % ns.length]) (.int 31) = some (.int (ns[k % ns.length] * 31)) := by simp [dMul, smallI]
        have hd2 : dMul (.int sp') (.int 101) = some (.int (sp' * 101)) := by simp [dMul, smallI]
        rw [e2, e2, e2, hx2]
        simp [mkF, mkL, start0, sSeq, sIf, sRet, sSet, sSetH, sOwn, sOwnH, sSkip, sFrz, frzS, sRaise, sCallX, sRetX, eVar, eC, e1, e2, eL, aCons, aNil, aLim, bV, bAnd, bOr, bNot, eAnd, eOr, eNot, eIf, oNone, oSome, eSl, eChain, eCall, eCallL, eList, frzE, hidE, frz1_val, frz1_own, frz1_own2, frz1_none, hid1_val, hid1_own, hid1_own2, hid1_none, c1, List.map_cons, List.map_nil, List.map_append, List.map_replicate, List.replicate_succ, List.replicate_zero, List.append_eq, List.nil_append, List.cons_append, List.append_nil, List.getElem?_cons_zero, List.getElem?_cons_succ, List.set_cons_zero, List.set_cons_succ, List.length_cons, List.length_nil, Option.map_some, Option.map_none, Option.bind_some, Option.bind_none, if_true, if_false, reduceCtorEq, Nat.reduceAdd, Nat.reduceEqDiff, ite_true, ite_false, ↓reduceIte, and_true, true_and, fin_self, hd1, hd2, dAdd]

theorem mixed_ok (ns : List Int) (hns : ns.length ≤ 63) (k : Nat) (many : Int) (hm : 0 < many) (n : Sn) : ∃ v : Int, m__law_mixed [scrD ns, .int (k : Int), .int many] n = some (.ok (.int v), n) ∧ 0 ≤ v ∧ v < many := by
  obtain ⟨c, hc⟩ := cell_at_ok ns hns k n
  have h0 : 0 ≤ (c * 1103515245 + 7919 * (k : Int) + 12345) % 2147483647 := Int.emod_nonneg _ (by decide)
  have h1 : (c * 1103515245 + 7919 * (k : Int) + 12345) % 2147483647 < 2147483647 := Int.emod_lt_of_pos _ (by decide)
  generalize hs : (c * 1103515245 + 7919 * (k : Int) + 12345) % 2147483647 = sp at h0 h1
  refine ⟨sp ^ 5 % 2147483647 % 999983 % many, mkF_rt rfl ((sSeq_nx (sSet_ok (d := .int sp) (n1 := n) ?_ rfl)).trans (sRet_ok ?_)), Int.emod_nonneg _ (by omega), Int.emod_lt_of_pos _ hm⟩
  · have d1 : dMul (.int c) (.int 1103515245) = some (.int (c * 1103515245)) := by simp [dMul, smallI]
    have d2 : dMul (.int 7919) (.int (k : Int)) = some (.int (7919 * (k : Int))) := by simp [dMul, smallI]
    simp [start0, mkF, mkL, start0, sSeq, sIf, sRet, sSet, sSetH, sOwn, sOwnH, sSkip, sFrz, frzS, sRaise, sCallX, sRetX, eVar, eC, e1, e2, eL, aCons, aNil, aLim, bV, bAnd, bOr, bNot, eAnd, eOr, eNot, eIf, oNone, oSome, eSl, eChain, eCall, eCallL, eList, frzE, hidE, frz1_val, frz1_own, frz1_own2, frz1_none, hid1_val, hid1_own, hid1_own2, hid1_none, c1, List.map_cons, List.map_nil, List.map_append, List.map_replicate, List.replicate_succ, List.replicate_zero, List.append_eq, List.nil_append, List.cons_append, List.append_nil, List.getElem?_cons_zero, List.getElem?_cons_succ, List.set_cons_zero, List.set_cons_succ, List.length_cons, List.length_nil, Option.map_some, Option.map_none, Option.bind_some, Option.bind_none, if_true, if_false, reduceCtorEq, Nat.reduceAdd, Nat.reduceEqDiff, ite_true, ite_false, ↓reduceIte, and_true, true_and, fin_self, hc, d1, d2, dAdd, dMod, dI2, hs]
  · have hp : sp.natAbs < 2 ^ 64 := by omega
    have d3 : dPow (.int sp) (.int 5) = some (.int (sp ^ 5)) := by
      simp [dPow, dI2]
      omega
    simp [start0, mkF, mkL, start0, sSeq, sIf, sRet, sSet, sSetH, sOwn, sOwnH, sSkip, sFrz, frzS, sRaise, sCallX, sRetX, eVar, eC, e1, e2, eL, aCons, aNil, aLim, bV, bAnd, bOr, bNot, eAnd, eOr, eNot, eIf, oNone, oSome, eSl, eChain, eCall, eCallL, eList, frzE, hidE, frz1_val, frz1_own, frz1_own2, frz1_none, hid1_val, hid1_own, hid1_own2, hid1_none, c1, List.map_cons, List.map_nil, List.map_append, List.map_replicate, List.replicate_succ, List.replicate_zero, List.append_eq, List.nil_append, List.cons_append, List.append_nil, List.getElem?_cons_zero, List.getElem?_cons_succ, List.set_cons_zero, List.set_cons_succ, List.length_cons, List.length_nil, Option.map_some, Option.map_none, Option.bind_some, Option.bind_none, if_true, if_false, reduceCtorEq, Nat.reduceAdd, Nat.reduceEqDiff, ite_true, ite_false, ↓reduceIte, and_true, true_and, fin_self, d3, dMod, dI2, hm]
theorem draw_ok (ns : List Int) (hns : ns.length ≤ 63) (many : Int) (hm : 0 < many) (n : Sn) (hn : n.t < lim) : ∃ v : Int, m__law_draw [scrD ns, townD, .int many] n = some (.ok (.int v), n.tick) ∧ 0 ≤ v ∧ v < many := by
  obtain ⟨v, hv, h0, h1⟩ := mixed_ok ns hns (n.t + 1) many hm n.tick
  refine ⟨v, mkF_rt rfl ((sSeq_nx (S1 := start0 0 [scrD ns, townD, .int many]) (n1 := n.tick) ?_).trans (sRet_ok ?_)), h0, h1⟩
  · simp [sTown, start0, townD, hn]
  · exact call_ok (aCons_ok (eVar_ok rfl) (aCons_ok (x := .int ((n.t + 1 : Nat) : Int)) rfl (aCons_ok (eVar_ok rfl) aNil_ok))) hv
/-! a comprehension that draws -/
theorem lc_draws {env : En} {i : Nat} {fe : FE} {P : D → Prop} (c B : Nat) (h : ∀ x n, n.t + c ≤ B → ∃ d n1, fe (env.set i (some x)) n = some (d, n1) ∧ P d ∧ n1.t ≤ n.t + c ∧ n1.c = n.c) : ∀ (items : List D) (n : Sn), n.t + c * items.length ≤ B →
    ∃ ds n1, lcGo env (.nm i) bYes fe items n = some (ds, n1) ∧ ds.length = items.length ∧ (∀ d ∈ ds, P d) ∧ n1.t ≤ n.t + c * items.length ∧ n1.c = n.c
  | [], n, _ => ⟨[], n, rfl, rfl, (fun d hd => by cases hd), by simp, rfl⟩
  | x :: r, n, hB => by
    rw [List.length_cons, Nat.mul_succ] at hB
    obtain ⟨d, n1, h1, h2, h3, h3c⟩ := h x n (by omega)
    obtain ⟨ds, n2, h4, h5, h6, h7, h7c⟩ := lc_draws c B h r n1 (by omega)
    refine ⟨d :: ds, n2, ?_, by rw [List.length_cons, List.length_cons, h5], fun z hz => ?_, by rw [List.length_cons, Nat.mul_succ]; omega, h7c.trans h3c⟩
    · simp only [lcGo, bindE, bYes, h1]
      rw [h4]
    · rcases List.mem_cons.mp hz with rfl | hz
      · exact h2
      · exact h6 z hz
def st20 (sc : D) (k : Int) : Es := some (.val sc) :: some (.val townD) :: some (.val (.int k)) :: List.replicate 6 none
theorem run20_1 (sc : D) : t_law1 (st20 sc 1) ⟨1, []⟩ = some (.rt (.bool true), ⟨1, []⟩) := by kernel_rfl
theorem run20_2 (sc : D) : t_law1 (st20 sc 2) ⟨1, []⟩ = some (.rt (.bool true), ⟨1, []⟩) := by kernel_rfl
theorem run20_3 (sc : D) : t_law1 (st20 sc 3) ⟨1, []⟩ = some (.rt (.bool true), ⟨1, []⟩) := by kernel_rfl
theorem run20_4 (sc : D) : t_law1 (st20 sc 4) ⟨1, []⟩ = some (.rt (.bool true), ⟨1, []⟩) := by kernel_rfl
theorem run20_5 (sc : D) : t_law1 (st20 sc 5) ⟨1, []⟩ = some (.rt (.bool true), ⟨1, []⟩) := by kernel_rfl
theorem run20_6 (sc : D) : t_law1 (st20 sc 6) ⟨1, []⟩ = some (.rt (.bool true), ⟨1, []⟩) := by kernel_rfl
theorem run20_7 (sc : D) : t_law1 (st20 sc 7) ⟨1, []⟩ = some (.rt (.bool true), ⟨1, []⟩) := by kernel_rfl
theorem run20_8 (sc : D) : t_law1 (st20 sc 8) ⟨1, []⟩ = some (.rt (.bool true), ⟨1, []⟩) := by kernel_rfl
theorem run20 (sc : D) (v : Int) (h0 : 0 ≤ v) (h8 : v < 8) : t_law1 (st20 sc (1 + v)) ⟨1, []⟩ = some (.rt (.bool true), ⟨1, []⟩) := by
  obtain h | h | h | h | h | h | h | h : v = 0 ∨ v = 1 ∨ v = 2 ∨ v = 3 ∨ v = 4 ∨ v = 5 ∨ v = 6 ∨ v = 7 := by omega
  · subst h; exact run20_1 sc
  · subst h; exact run20_2 sc
  · subst h; exact run20_3 sc
  · subst h; exact run20_4 sc
  · subst h; exact run20_5 sc
  · subst h; exact run20_6 sc
  · subst h; exact run20_7 sc
  · subst h; exact run20_8 sc
theorem law_true (ns : List Int) (hns : ns.length ≤ 63) : ∃ n', b_law (some (.val (scrD ns)) :: some (.val townD) :: List.replicate 7 none) n0 = some (.rt (.bool true), n') := by
  obtain ⟨v, hd, h0, h8⟩ := draw_ok ns hns 8 (by decide) n0 (by decide)
  have key : wp b_law (some (.val (scrD ns)) :: some (.val townD) :: List.replicate 7 none) n0 (fun fl _ => fl = .rt (.bool true)) := by
    unfold b_law
    exact wp_seq (wp_set (d := .int (1 + v)) (n1 := ⟨1, []⟩) (e2_ok eC_ok (call_ok (aCons_ok (eVar_ok rfl) (aCons_ok (eVar_ok rfl) (aCons_ok eC_ok aNil_ok))) hd) rfl) rfl ⟨_, _, run20 (scrD ns) v h0 h8, rfl⟩)
  obtain ⟨fl, n', e, rfl⟩ := key
  exact ⟨n', e⟩

set_option maxHeartbeats 0
section
variable {P : Program} {w : World} {K : PySem.W.Frag} {mg : Str → Option Value} {base : Heap} {f : Addr} {fd : FuncData}
theorem sc_is_integer : FnScope ["value", "low", "high"] ["value", "low", "high"] (defScope (top 19)) := fnSc
theorem p_is_integer (F : FunD K "is_integer" "is_integer" (defArgs (top 19)) (defBody (top 19)) (defScope (top 19)) [] [] f fd) (Z : Bt mg) : FnOk P w K mg base (L2.CX P w) 1 f fd ["value", "low", "high"] (spX K mg 3 false m_is_integer) :=
  kfn (fb := b_is_integer) F sc_is_integer fun cdv A outer s H E hr tk po =>
  (mss_one (ms_ret (me_and (kisi kit_int Z.isinstance (kvar 0) (ktyN Z.int bb_int)) (me_and (me_not (kisi kit_bool Z.isinstance (kvar 0) (ktyN Z.bool bb_bool))) (me_one (kchain op_le op_le (ok_cmp _) (ok_cmp _) (kvar 1) (kvar 0) (kvar 2)))))))
theorem sc_is_square_of : FnScope ["value", "count", "low", "high", "row", "one"] ["value", "count", "low", "high"] (defScope (top 20)) := fnSc
theorem p_is_square_of (F : FunD K "is_square_of" "is_square_of" (defArgs (top 20)) (defBody (top 20)) (defScope (top 20)) [] [] f fd) (Z : Bt mg) (h_is_integer : Has P w K mg base "is_integer" 1 3 false m_is_integer) : FnOk P w K mg base (L2.CX P w) 2 f fd ["value", "count", "low", "high"] (spX K mg 4 false m_is_square_of) :=
  kfn (fb := b_is_square_of) F sc_is_square_of fun cdv A outer s H E hr tk po =>
  (mss_cons (ms_if (PW.pt (mw_or (mt_not (ktval (kisi kit_tuple Z.isinstance (kvar 0) (ktyN Z.tuple bb_tuple)))) (mw_or1 (ktcmp (op_neD hr.units) (ok_ne _) (kcallB cr_len (ok_len _) Z.len bb_len (kacons (kvar 0) ma_nil)) (kvar 1)))))
  (mss_one (ms_ret me_bl))
  mss_nil)
  (mss_cons (kfor (.nm 4) po (mi_seq (kvar 0)) (kname 4 sc_is_square_of.nd)
  (mss_one (ms_if (PW.pt (mw_or (mt_not (ktval (kisi kit_tuple Z.isinstance (kvar 4) (ktyN Z.tuple bb_tuple)))) (mw_or (ktcmp (op_neD hr.units) (ok_ne _) (kcallB cr_len (ok_len _) Z.len bb_len (kacons (kvar 4) ma_nil)) (kvar 1)) (mw_or1 (mt_not (ktval (kcallB (cr_all rfl) (ok_all _) Z.all bb_all (kacons (MF.me (klc [("one", 5)] sc_is_square_of.nd (mi_seq (kvar 4)) (fun _ _ _ _ _ => (kname 5 sc_is_square_of.nd)) (fun _ _ _ _ _ => mts_nil) (fun _ _ _ _ _ => (kcall h_is_integer mkF_len hr (kacons (kvar 5) (kacons (kvar 2) (kacons (kvar 3) ma_nil))))))) ma_nil))))))))
  (mss_one (ms_ret me_bl))
  mss_nil)))
  (mss_one (ms_ret me_bl))))
theorem sc_is_matrix : FnScope ["value"] ["value"] (defScope (top 21)) := fnSc
theorem p_is_matrix (F : FunD K "is_matrix" "is_matrix" (defArgs (top 21)) (defBody (top 21)) (defScope (top 21)) [] [] f fd) (Z : Bt mg) (h_is_square_of : Has P w K mg base "is_square_of" 2 4 false m_is_square_of) (C_LARGEST : ∃ t, mg "LARGEST" = some (.int 9 t)) : FnOk P w K mg base (L2.CX P w) 3 f fd ["value"] (spX K mg 1 false m_is_matrix) :=
  kfn (fb := b_is_matrix) F sc_is_matrix fun cdv A outer s H E hr tk po =>
  (mss_one (ms_ret (me_and (kisi kit_tuple Z.isinstance (kvar 0) (ktyN Z.tuple bb_tuple)) (me_and (kchain op_le op_le (ok_cmp _) (ok_cmp _) me_int (kcallB cr_len (ok_len _) Z.len bb_len (kacons (kvar 0) ma_nil)) me_int) (me_one (kcall h_is_square_of mkF_len hr (kacons (kvar 0) (kacons (kcallB cr_len (ok_len _) Z.len bb_len (kacons (kvar 0) ma_nil)) (kacons me_int (kacons (kglobI C_LARGEST) ma_nil))))))))))
theorem sc_check_matrix : FnScope ["matrix"] ["matrix"] (defScope (top 22)) := fnSc
theorem p_check_matrix (F : FunD K "check_matrix" "check_matrix" (defArgs (top 22)) (defBody (top 22)) (defScope (top 22)) [] [] f fd) (Z : Bt mg) (h_is_matrix : Has P w K mg base "is_matrix" 3 1 false m_is_matrix) (X_InvalidMatrix : ExF K mg "InvalidMatrix") : FnOk P w K mg base (L2.CX P w) 4 f fd ["matrix"] (spX K mg 1 false m_check_matrix) :=
  kfn (fb := b_check_matrix) F sc_check_matrix fun cdv A outer s H E hr tk po =>
  (mss_one (ms_if (mt_not (ktval (kcall h_is_matrix mkF_len hr (kacons (kvar 0) ma_nil))))
  (mss_one (kraise X_InvalidMatrix tk))
  mss_nil))
theorem sc_line_sums : FnScope ["matrix", "row", "at"] ["matrix"] (defScope (top 23)) := fnSc
theorem p_line_sums (F : FunD K "line_sums" "line_sums" (defArgs (top 23)) (defBody (top 23)) (defScope (top 23)) [] [] f fd) (Z : Bt mg) : FnOk P w K mg base (L2.CX P w) 1 f fd ["matrix"] (spX K mg 1 false m_line_sums) :=
  kfn (fb := b_line_sums) F sc_line_sums fun cdv A outer s H E hr tk po =>
  (mss_one (ms_ret (me_op op_addA (ok_add _) (MF.me (klc [("row", 1)] sc_line_sums.nd (mi_seq (kvar 0)) (fun _ _ _ _ _ => (kname 1 sc_line_sums.nd)) (fun _ _ _ _ _ => mts_nil) (fun _ _ _ _ _ => (kcallB (cr_sumA rfl) (ok_sum _) Z.sum bb_sum (kacons (kvar 1) ma_nil))))) (MF.me (klc [("at", 2)] sc_line_sums.nd (krange1 Z.range (kacons (kcallB cr_len (ok_len _) Z.len bb_len (kacons (kvar 0) ma_nil)) ma_nil)) (fun _ _ _ _ _ => (kname 2 sc_line_sums.nd)) (fun _ _ _ _ _ => mts_nil) (fun _ _ _ _ _ => (kcallB (cr_sumA rfl) (ok_sum _) Z.sum bb_sum (kacons (MF.me (klc [("row", 1)] sc_line_sums.nd (mi_seq (kvar 0)) (fun _ _ _ _ _ => (kname 1 sc_line_sums.nd)) (fun _ _ _ _ _ => mts_nil) (fun _ _ _ _ _ => (kix ix_seq (ok_ix _) (kvar 1) (kvar 2))))) ma_nil))))))))
theorem sc_degree_of : FnScope ["matrix"] ["matrix"] (defScope (top 24)) := fnSc
theorem p_degree_of (F : FunD K "degree_of" "degree_of" (defArgs (top 24)) (defBody (top 24)) (defScope (top 24)) [] [] f fd) (Z : Bt mg) (h_line_sums : Has P w K mg base "line_sums" 1 1 false m_line_sums) : FnOk P w K mg base (L2.CX P w) 2 f fd ["matrix"] (spX K mg 1 false m_degree_of) :=
  kfn (fb := b_degree_of) F sc_degree_of fun cdv A outer s H E hr tk po =>
  (mss_one (ms_ret (kcallB (cr_maxA rfl) (ok_max _) Z.max bb_max (kacons (kcall h_line_sums mkF_len hr (kacons (kvar 0) ma_nil)) ma_nil))))
theorem sc_degree : FnScope ["matrix"] ["matrix"] (defScope (top 25)) := fnSc
theorem p_degree (F : FunD K "degree" "degree" (defArgs (top 25)) (defBody (top 25)) (defScope (top 25)) [] [] f fd) (Z : Bt mg) (h_check_matrix : Has P w K mg base "check_matrix" 4 1 false m_check_matrix) (h_degree_of : Has P w K mg base "degree_of" 2 1 false m_degree_of) : FnOk P w K mg base (L2.CX P w) 5 f fd ["matrix"] (spX K mg 1 false m_degree) :=
  kfn (fb := b_degree) F sc_degree fun cdv A outer s H E hr tk po =>
  (mss_cons (kcallS h_check_matrix mkF_len hr tk (kacons (kvar 0) ma_nil))
  (mss_one (ms_ret (kcall h_degree_of mkF_len hr (kacons (kvar 0) ma_nil)))))
theorem sc_even : FnScope ["matrix"] ["matrix"] (defScope (top 26)) := fnSc
theorem p_even (F : FunD K "even" "even" (defArgs (top 26)) (defBody (top 26)) (defScope (top 26)) [] [] f fd) (Z : Bt mg) (h_degree_of : Has P w K mg base "degree_of" 2 1 false m_degree_of) (h_line_sums : Has P w K mg base "line_sums" 1 1 false m_line_sums) : FnOk P w K mg base (L2.CX P w) 3 f fd ["matrix"] (spX K mg 1 false m_even) :=
  kfn (fb := b_even) F sc_even fun cdv A outer s H E hr tk po =>
  (mss_one (ms_ret (kcmp (op_eqD hr.units) (ok_eq _) (kcallB (cr_minA rfl) (ok_min _) Z.min bb_min (kacons (kcall h_line_sums mkF_len hr (kacons (kvar 0) ma_nil)) ma_nil)) (kcall h_degree_of mkF_len hr (kacons (kvar 0) ma_nil)))))
theorem sc_is_even : FnScope ["matrix"] ["matrix"] (defScope (top 27)) := fnSc
theorem p_is_even (F : FunD K "is_even" "is_even" (defArgs (top 27)) (defBody (top 27)) (defScope (top 27)) [] [] f fd) (Z : Bt mg) (h_check_matrix : Has P w K mg base "check_matrix" 4 1 false m_check_matrix) (h_even : Has P w K mg base "even" 3 1 false m_even) : FnOk P w K mg base (L2.CX P w) 5 f fd ["matrix"] (spX K mg 1 false m_is_even) :=
  kfn (fb := b_is_even) F sc_is_even fun cdv A outer s H E hr tk po =>
  (mss_cons (kcallS h_check_matrix mkF_len hr tk (kacons (kvar 0) ma_nil))
  (mss_one (ms_ret (kcall h_even mkF_len hr (kacons (kvar 0) ma_nil)))))
theorem sc_orders : FnScope ["count", "result", "again", "later", "one", "column"] ["count"] (defScope (top 28)) := fnSc
theorem p_orders (F : FunD K "orders" "orders" (defArgs (top 28)) (defBody (top 28)) (defScope (top 28)) [] [] f fd) (Z : Bt mg) : FnOk P w K mg base (L2.CX P w) 1 f fd ["count"] (spX K mg 1 false m_orders) :=
  kfn (fb := b_orders) F sc_orders fun cdv A outer s H E hr tk po =>
  (mss_cons (ksetO 1 sc_orders.nd (mf_lst (kacons (me_tup ma_nil) ma_nil)))
  (mss_cons (kfor (.nm 2) po (krange1 Z.range (kacons (kvar 0) ma_nil)) (kname 2 sc_orders.nd)
  (mss_cons (ksetO 3 sc_orders.nd (mf_lst ma_nil))
  (mss_cons (ms_frz (i := 1) (kfor (.nm 4) po (mi_seq (kvar 1)) (kname 4 sc_orders.nd)
  (mss_one (ms_ext (kextend 3 (kpv 3) (MF.me (klc [("column", 5)] sc_orders.nd (krange1 Z.range (kacons (kvar 0) ma_nil)) (fun _ _ _ _ _ => (kname 5 sc_orders.nd)) (fun _ _ _ _ _ => (mts_one (ktcmp (op_notInA hr.u65) (ok_notIn _) (kvar 5) (kvar 4)))) (fun _ _ _ _ _ => (me_op op_addA (ok_add _) (kvar 4) (me_tup (kacons (kvar 5) ma_nil)))))))))))
  (mss_one (kmv 3 1 sc_orders.nd (kpv 3))))))
  (mss_one (ms_ret (kvar 1)))))
theorem sc_worth_of : FnScope ["matrix", "order", "row", "column"] ["matrix", "order"] (defScope (top 29)) := fnSc
theorem p_worth_of (F : FunD K "worth_of" "worth_of" (defArgs (top 29)) (defBody (top 29)) (defScope (top 29)) [] [] f fd) (Z : Bt mg) : FnOk P w K mg base (L2.CX P w) 1 f fd ["matrix", "order"] (spX K mg 2 false m_worth_of) :=
  kfn (fb := b_worth_of) F sc_worth_of fun cdv A outer s H E hr tk po =>
  (mss_one (ms_ret (kcallB (cr_minA rfl) (ok_min _) Z.min bb_min (kacons (MF.me (klc [("row", 2), ("column", 3)] sc_worth_of.nd (kzip Z.zip (kacons (kvar 0) (kacons (kvar 1) ma_nil))) (fun _ _ _ _ _ => (ktup2 2 3 sc_worth_of.nd)) (fun _ _ _ _ _ => mts_nil) (fun _ _ _ _ _ => (kix ix_seq (ok_ix _) (kvar 2) (kvar 3))))) ma_nil))))
theorem sc_minus : FnScope ["matrix", "weight", "positions", "rows", "row", "i", "j"] ["matrix", "weight", "positions"] (defScope (top 30)) := fnSc
theorem p_minus (F : FunD K "minus" "minus" (defArgs (top 30)) (defBody (top 30)) (defScope (top 30)) [] [] f fd) (Z : Bt mg) : FnOk P w K mg base (L2.CX P w) 1 f fd ["matrix", "weight", "positions"] (spX K mg 3 false m_minus) :=
  kfn (fb := b_minus) F sc_minus fun cdv A outer s H E hr tk po =>
  (mss_cons (ms_own2 (ksetLc2 3 [("row", 4)] sc_minus.nd (mi_seq (kvar 0)) (fun _ _ _ _ _ => (kname 4 sc_minus.nd)) (fun _ _ _ _ _ => (kflist Z.list (kacons (kvar 4) ma_nil)))))
  (mss_cons (kfor (.tp [5, 6]) po (mi_seq (kvar 2)) (ktup2 5 6 sc_minus.nd)
  (mss_one (kaug2 3 (kpv 3) (kvar 5) (kvar 6) (kvar 1) ip_sub)))
  (mss_one (ms_ret (kcallTy call_tuple_of (ok_tuple _) Z.tuple bb_tuple (kacons (MF.me (klc [("row", 4)] sc_minus.nd (mi_seq (kvar 3)) (fun _ _ _ _ _ => (kname 4 sc_minus.nd)) (fun _ _ _ _ _ => mts_nil) (fun _ _ _ _ _ => (kcallTy call_tuple_of (ok_tuple _) Z.tuple bb_tuple (kacons (kvar 4) ma_nil))))) ma_nil))))))
theorem sc_permutations : FnScope ["matrix", "order"] ["matrix"] (defScope (top 32)) := fnSc
theorem p_permutations (F : FunD K "permutations" "permutations" (defArgs (top 32)) (defBody (top 32)) (defScope (top 32)) [] [] f fd) (Z : Bt mg) (h_check_matrix : Has P w K mg base "check_matrix" 4 1 false m_check_matrix) (h_orders : Has P w K mg base "orders" 1 1 false m_orders) (h_worth_of : Has P w K mg base "worth_of" 1 2 false m_worth_of) : FnOk P w K mg base (L2.CX P w) 5 f fd ["matrix"] (spX K mg 1 false m_permutations) :=
  kfn (fb := b_permutations) F sc_permutations fun cdv A outer s H E hr tk po =>
  (mss_cons (kcallS h_check_matrix mkF_len hr tk (kacons (kvar 0) ma_nil))
  (mss_one (ms_ret (MF.me (klc [("order", 1)] sc_permutations.nd (mi_seq (kcall h_orders mkF_len hr (kacons (kcallB cr_len (ok_len _) Z.len bb_len (kacons (kvar 0) ma_nil)) ma_nil))) (fun _ _ _ _ _ => (kname 1 sc_permutations.nd)) (fun _ _ _ _ _ => (mts_one (ktcmp op_gt (ok_cmp _) (kcall h_worth_of mkF_len hr (kacons (kvar 0) (kacons (kvar 1) ma_nil))) me_int))) (fun _ _ _ _ _ => (kvar 1)))))))
theorem sc_count_permutations : FnScope ["matrix", "ways", "row", "later", "used", "column", "entry", "more"] ["matrix"] (defScope (top 33)) := fnSc
theorem p_count_permutations (F : FunD K "count_permutations" "count_permutations" (defArgs (top 33)) (defBody (top 33)) (defScope (top 33)) [] [] f fd) (Z : Bt mg) (h_check_matrix : Has P w K mg base "check_matrix" 4 1 false m_check_matrix) : FnOk P w K mg base (L2.CX P w) 5 f fd ["matrix"] (spX K mg 1 false m_count_permutations) :=
  kfn (fb := b_count_permutations) F sc_count_permutations fun cdv A outer s H E hr tk po =>
  (mss_cons (kcallS h_check_matrix mkF_len hr tk (kacons (kvar 0) ma_nil))
  mss_none)
theorem sc_text_of : FnScope ["matrix", "entry", "row"] ["matrix"] (defScope (top 35)) := fnSc
theorem p_text_of (F : FunD K "text_of" "text_of" (defArgs (top 35)) (defBody (top 35)) (defScope (top 35)) [] [] f fd) (Z : Bt mg) : FnOk P w K mg base (L2.CX P w) 1 f fd ["matrix"] (spX K mg 1 false m_text_of) :=
  kfn (fb := b_text_of) F sc_text_of fun cdv A outer s H E hr tk po =>
  (mss_one (ms_ret (kjoin kstr (MF.me (klc [("row", 2)] sc_text_of.nd (mi_seq (kvar 0)) (fun _ _ _ _ _ => (kname 2 sc_text_of.nd)) (fun _ _ _ _ _ => mts_nil) (fun _ _ _ _ _ => (kjoin kstr (MF.me (klc [("entry", 1)] sc_text_of.nd (mi_seq (kvar 2)) (fun _ _ _ _ _ => (kname 1 sc_text_of.nd)) (fun _ _ _ _ _ => mts_nil) (fun _ _ _ _ _ => (kcallTy cr_str (ok_str _) Z.str bb_str (kacons (kvar 1) ma_nil))))))))))))
theorem sc_format_matrix : FnScope ["matrix"] ["matrix"] (defScope (top 36)) := fnSc
theorem p_format_matrix (F : FunD K "format_matrix" "format_matrix" (defArgs (top 36)) (defBody (top 36)) (defScope (top 36)) [] [] f fd) (Z : Bt mg) (h_check_matrix : Has P w K mg base "check_matrix" 4 1 false m_check_matrix) (h_text_of : Has P w K mg base "text_of" 1 1 false m_text_of) : FnOk P w K mg base (L2.CX P w) 5 f fd ["matrix"] (spX K mg 1 false m_format_matrix) :=
  kfn (fb := b_format_matrix) F sc_format_matrix fun cdv A outer s H E hr tk po =>
  (mss_cons (kcallS h_check_matrix mkF_len hr tk (kacons (kvar 0) ma_nil))
  (mss_one (ms_ret (kcall h_text_of mkF_len hr (kacons (kvar 0) ma_nil)))))
theorem sc_first_permutation : FnScope ["matrix", "order"] ["matrix"] (defScope (top 38)) := fnSc
theorem p_first_permutation (F : FunD K "first_permutation" "first_permutation" (defArgs (top 38)) (defBody (top 38)) (defScope (top 38)) [] [] f fd) (Z : Bt mg) (h_check_matrix : Has P w K mg base "check_matrix" 4 1 false m_check_matrix) (h_orders : Has P w K mg base "orders" 1 1 false m_orders) (h_worth_of : Has P w K mg base "worth_of" 1 2 false m_worth_of) (X_NoPermutation : ExF K mg "NoPermutation") : FnOk P w K mg base (L2.CX P w) 5 f fd ["matrix"] (spX K mg 1 false m_first_permutation) :=
  kfn (fb := b_first_permutation) F sc_first_permutation fun cdv A outer s H E hr tk po =>
  (mss_cons (kcallS h_check_matrix mkF_len hr tk (kacons (kvar 0) ma_nil))
  (mss_cons (kfor (.nm 1) po (mi_seq (kcall h_orders mkF_len hr (kacons (kcallB cr_len (ok_len _) Z.len bb_len (kacons (kvar 0) ma_nil)) ma_nil))) (kname 1 sc_first_permutation.nd)
  (mss_one (ms_if (ktcmp op_gt (ok_cmp _) (kcall h_worth_of mkF_len hr (kacons (kvar 0) (kacons (kvar 1) ma_nil))) me_int)
  (mss_one (ms_ret (kvar 1)))
  mss_nil)))
  (mss_one (kraise X_NoPermutation tk))))
theorem sc_improved : FnScope ["allowed", "owner", "row", "seen", "column"] ["allowed", "owner", "row", "seen"] (defScope (top 39)) := fnSc
theorem p_improved (F : FunD K "improved" "improved" (defArgs (top 39)) (defBody (top 39)) (defScope (top 39)) [] [] f fd) (Z : Bt mg) (g : mg "improved" = some (.ref f)) (bd : Binds K fd ["allowed", "owner", "row", "seen"] []) : ∀ d : Nat, Has P w K mg base "improved" (0 + d) 4 false (recF (fun m => mkF 4 1 (b_improved m)) d)
  | 0 => has_mk F g fn_none bd
  | d + 1 => has_mk F g (kfn (fb := b_improved (recF (fun m => mkF 4 1 (b_improved m)) d)) F sc_improved fun cdv A outer s H E hr tk po =>
  have h_improved := p_improved F Z  g bd d
  (mss_cons (kfor (.nm 4) po (mi_seq (kix ix_seq (ok_ix _) (kvar 0) (kvar 2))) (kname 4 sc_improved.nd)
  (mss_one (ms_if (mt_v [false, false, false, true, true] (ktcmp (op_notInA hr.u65) (ok_notIn _) (kvar 4) (kvar 3)))
  (mss_cons (ms_appC (kappend 3 (kpv 3) (kvar 4)))
  (mss_one (ms_if (PW.pt (mw_or (mt_v [false, true, false, false, true] (ktcmp op_isA (ok_is _) (kix ix_seq (ok_ix _) (kvar 1) (kvar 4)) me_non)) (mw_or1 (ktval (kcall h_improved (recF_len (fun _ => mkF_len) _) hr (kacons (kvar 0) (kacons (kvar 1) (kacons (me_v [false, true, false, false, true] (kix ix_seq (ok_ix _) (kvar 1) (kvar 4))) (kacons (kvar 3) ma_nil)))) (hk := bleR))))))
  (mss_cons (ms_putC (kasg (kvar 2) (kgsub (kpv 1) (kvar 4) set_list)))
  (mss_one (ms_ret me_bl)))
  mss_nil)))
  mss_nil)))
  (mss_one (ms_ret me_bl)))) bd
theorem sc_owners : FnScope ["allowed", "count", "owner", "row"] ["allowed", "count"] (defScope (top 40)) := fnSc
theorem p_owners (F : FunD K "owners" "owners" (defArgs (top 40)) (defBody (top 40)) (defScope (top 40)) [] [] f fd) (Z : Bt mg) (h_improved : Has P w K mg base "improved" 7 4 false m_improved) : FnOk P w K mg base (L2.CX P w) 8 f fd ["allowed", "count"] (spX K mg 2 false m_owners) :=
  kfn (fb := b_owners) F sc_owners fun cdv A outer s H E hr tk po =>
  (mss_cons (ms_newC (kpset 2 sc_owners.nd (mf_rep (me_lst (kacons me_non ma_nil)) (kvar 1))) rfl)
  (mss_cons (kfor (.nm 3) po (krange1 Z.range (kacons (kcallB cr_len (ok_len _) Z.len bb_len (kacons (kvar 0) ma_nil)) ma_nil)) (kname 3 sc_owners.nd)
  (mss_one (kcallC h_improved (recF_len (fun _ => mkF_len) _) hr tk (kacons (kvar 0) (kacons (kvar 2) (kacons (kvar 3) (kacons me_newC ma_nil)))))))
  (mss_one (ms_retC (kpv 2)))))
theorem sc_above : FnScope ["matrix", "limit", "column", "entry", "row"] ["matrix", "limit"] (defScope (top 41)) := fnSc
theorem p_above (F : FunD K "above" "above" (defArgs (top 41)) (defBody (top 41)) (defScope (top 41)) [] [] f fd) (Z : Bt mg) : FnOk P w K mg base (L2.CX P w) 1 f fd ["matrix", "limit"] (spX K mg 2 false m_above) :=
  kfn (fb := b_above) F sc_above fun cdv A outer s H E hr tk po =>
  (mss_one (ms_ret (MF.me (klc [("row", 4)] sc_above.nd (mi_seq (kvar 0)) (fun _ _ _ _ _ => (kname 4 sc_above.nd)) (fun _ _ _ _ _ => mts_nil) (fun _ _ _ _ _ => (MF.me (klc [("column", 2), ("entry", 3)] sc_above.nd (kenum Z.enumerate (kacons (kvar 4) ma_nil)) (fun _ _ _ _ _ => (ktup2 2 3 sc_above.nd)) (fun _ _ _ _ _ => (mts_one (ktcmp op_gt (ok_cmp _) (kvar 3) (kvar 1)))) (fun _ _ _ _ _ => (kvar 2)))))))))
theorem sc_free_lines : FnScope ["matrix", "limit", "count", "allowed", "owner", "rows", "row", "columns", "line", "column"] ["matrix", "limit"] (defScope (top 42)) := fnSc
theorem p_free_lines (F : FunD K "free_lines" "free_lines" (defArgs (top 42)) (defBody (top 42)) (defScope (top 42)) [] [] f fd) (Z : Bt mg) (h_above : Has P w K mg base "above" 1 2 false m_above) (h_owners : Has P w K mg base "owners" 8 2 false m_owners) : FnOk P w K mg base (L2.CX P w) 9 f fd ["matrix", "limit"] (spX K mg 2 false m_free_lines) :=
  kfn (fb := b_free_lines) F sc_free_lines fun cdv A outer s H E hr tk po =>
  (mss_cons (kset 2 sc_free_lines.nd (kcallB cr_len (ok_len _) Z.len bb_len (kacons (kvar 0) ma_nil)))
  (mss_cons (ksetH 3 sc_free_lines.nd (kcall h_above mkF_len hr (kacons (kvar 0) (kacons (kvar 1) ma_nil))))
  (mss_cons (ksetH 4 sc_free_lines.nd (kcall h_owners mkF_len hr (kacons (kvar 3) (kacons (kvar 2) ma_nil))))
  (mss_cons (ms_own (ksetLc 5 [("row", 6)] sc_free_lines.nd (krange1 Z.range (kacons (kvar 2) ma_nil)) (fun _ _ _ _ _ => (kname 6 sc_free_lines.nd)) (fun _ _ _ _ _ => (mts_one (ktcmp (op_notInA hr.u65) (ok_notIn _) (kvar 6) (kvar 4)))) (fun _ _ _ _ _ => (kvar 6))) rfl)
  (mss_cons (ksetO 7 sc_free_lines.nd (mf_lst ma_nil))
  (mss_cons (ms_newC (kpset 8 sc_free_lines.nd (kflist Z.list (kacons (kvar 5) ma_nil))) rfl)
  (mss_cons (ms_while (N := 1000) po (mt_v [false, false, false, false, false, false, false, false, true] (ktcmp (op_neD hr.units) (ok_ne _) (kvar 8) (me_lst ma_nil)))
  (mss_one (kfor (.nm 9) po (mi_seq (kix ix_seq (ok_ix _) (kvar 3) (me_popC (kpop (kpv 8))))) (kname 9 sc_free_lines.nd)
  (mss_one (ms_if (ktcmp (op_notInA hr.u65) (ok_notIn _) (kvar 9) (kvar 7))
  (mss_cons (ms_app (kappend 7 (kpv 7) (kvar 9)))
  (mss_one (ms_if (ktcmp (op_notInA hr.u65) (ok_notIn _) (kix ix_seq (ok_ix _) (kvar 4) (kvar 9)) (kvar 5))
  (mss_cons (ms_app (kappend 5 (kpv 5) (kix ix_seq (ok_ix _) (kvar 4) (kvar 9))))
  (mss_one (ms_appC (kappend 8 (kpv 8) (kix ix_seq (ok_ix _) (kvar 4) (kvar 9))))))
  mss_nil)))
  mss_nil)))))
  (mss_one (ms_ret (me_tup (kacons (kcallTy call_tuple_of (ok_tuple _) Z.tuple bb_tuple (kacons (kcallB (cr_sortD hr.units) (ok_sortedK _) Z.sorted bb_sorted (kacons (kvar 5) ma_nil)) ma_nil)) (kacons (kcallTy call_tuple_of (ok_tuple _) Z.tuple bb_tuple (kacons (MF.me (klc [("column", 9)] sc_free_lines.nd (krange1 Z.range (kacons (kvar 2) ma_nil)) (fun _ _ _ _ _ => (kname 9 sc_free_lines.nd)) (fun _ _ _ _ _ => (mts_one (ktcmp (op_notInA hr.u65) (ok_notIn _) (kvar 9) (kvar 7)))) (fun _ _ _ _ _ => (kvar 9)))) ma_nil)) ma_nil))))))))))))
theorem sc_block : FnScope ["matrix", "rows", "columns"] ["matrix"] (defScope (top 43)) := fnSc
theorem p_block (F : FunD K "block" "block" (defArgs (top 43)) (defBody (top 43)) (defScope (top 43)) [] [] f fd) (Z : Bt mg) (h_check_matrix : Has P w K mg base "check_matrix" 4 1 false m_check_matrix) (h_free_lines : Has P w K mg base "free_lines" 9 2 false m_free_lines) (X_HasPermutation : ExF K mg "HasPermutation") : FnOk P w K mg base (L2.CX P w) 10 f fd ["matrix"] (spX K mg 1 false m_block) :=
  kfn (fb := b_block) F sc_block fun cdv A outer s H E hr tk po =>
  (mss_cons (kcallS h_check_matrix mkF_len hr tk (kacons (kvar 0) ma_nil))
  (mss_cons (ktgt (ktup2 1 2 sc_block.nd) (kcall h_free_lines mkF_len hr (kacons (kvar 0) (kacons me_int ma_nil))))
  (mss_cons (ms_if (ktcmp op_le (ok_cmp _) (me_op op_addA (ok_add _) (kcallB cr_len (ok_len _) Z.len bb_len (kacons (kvar 1) ma_nil)) (kcallB cr_len (ok_len _) Z.len bb_len (kacons (kvar 2) ma_nil))) (kcallB cr_len (ok_len _) Z.len bb_len (kacons (kvar 0) ma_nil)))
  (mss_one (kraise X_HasPermutation tk))
  mss_nil)
  (mss_one (ms_ret (me_tup (kacons (kvar 1) (kacons (kvar 2) ma_nil))))))))
theorem sc_are_lines : FnScope ["value", "count", "some", "one", "other"] ["value", "count"] (defScope (top 44)) := fnSc
theorem p_are_lines (F : FunD K "are_lines" "are_lines" (defArgs (top 44)) (defBody (top 44)) (defScope (top 44)) [] [] f fd) (Z : Bt mg) (h_is_integer : Has P w K mg base "is_integer" 1 3 false m_is_integer) : FnOk P w K mg base (L2.CX P w) 2 f fd ["value", "count"] (spX K mg 2 false m_are_lines) :=
  kfn (fb := b_are_lines) F sc_are_lines fun cdv A outer s H E hr tk po =>
  (mss_cons (ms_if (PW.pt (mw_or (mt_not (ktval (kisi kit_tuple Z.isinstance (kvar 0) (ktyN Z.tuple bb_tuple)))) (mw_or1 (ktcmp (op_neD hr.units) (ok_ne _) (kcallB cr_len (ok_len _) Z.len bb_len (kacons (kvar 0) ma_nil)) me_int))))
  (mss_one (ms_ret me_bl))
  mss_nil)
  (mss_cons (kfor (.nm 2) po (mi_seq (kvar 0)) (kname 2 sc_are_lines.nd)
  (mss_cons (ms_if (PW.pt (mw_or (mt_not (ktval (kisi kit_tuple Z.isinstance (kvar 2) (ktyN Z.tuple bb_tuple)))) (mw_or1 (mt_not (ktval (kcallB (cr_all rfl) (ok_all _) Z.all bb_all (kacons (MF.me (klc [("one", 3)] sc_are_lines.nd (mi_seq (kvar 2)) (fun _ _ _ _ _ => (kname 3 sc_are_lines.nd)) (fun _ _ _ _ _ => mts_nil) (fun _ _ _ _ _ => (kcall h_is_integer mkF_len hr (kacons (kvar 3) (kacons me_int (kacons (me_op op_sub (ok_sub _) (kvar 1) me_int) ma_nil))))))) ma_nil)))))))
  (mss_one (ms_ret me_bl))
  mss_nil)
  (mss_one (ms_if (mt_not (ktval (kcallB (cr_all rfl) (ok_all _) Z.all bb_all (kacons (MF.me (klc [("one", 3), ("other", 4)] sc_are_lines.nd (kzip Z.zip (kacons (kvar 2) (kacons (me_slice sl_all (ok_sl _) (kvar 2) (mo_some me_int) mo_none) ma_nil))) (fun _ _ _ _ _ => (ktup2 3 4 sc_are_lines.nd)) (fun _ _ _ _ _ => mts_nil) (fun _ _ _ _ _ => (kcmp op_lt (ok_cmp _) (kvar 3) (kvar 4))))) ma_nil))))
  (mss_one (ms_ret me_bl))
  mss_nil))))
  (mss_one (ms_ret me_bl))))
theorem sc_at_most : FnScope ["matrix", "value", "limit", "row", "column"] ["matrix", "value", "limit"] (defScope (top 45)) := fnSc
theorem p_at_most (F : FunD K "at_most" "at_most" (defArgs (top 45)) (defBody (top 45)) (defScope (top 45)) [] [] f fd) (Z : Bt mg) (h_are_lines : Has P w K mg base "are_lines" 2 2 false m_are_lines) : FnOk P w K mg base (L2.CX P w) 3 f fd ["matrix", "value", "limit"] (spX K mg 3 false m_at_most) :=
  kfn (fb := b_at_most) F sc_at_most fun cdv A outer s H E hr tk po =>
  (mss_cons (ms_if (PW.pt (mw_or (mt_not (ktval (kcall h_are_lines mkF_len hr (kacons (kvar 1) (kacons (kcallB cr_len (ok_len _) Z.len bb_len (kacons (kvar 0) ma_nil)) ma_nil))))) (mw_or1 (ktcmp op_le (ok_cmp _) (me_op op_addA (ok_add _) (kcallB cr_len (ok_len _) Z.len bb_len (kacons (kix ix_seq (ok_ix _) (kvar 1) me_int) ma_nil)) (kcallB cr_len (ok_len _) Z.len bb_len (kacons (kix ix_seq (ok_ix _) (kvar 1) me_int) ma_nil))) (kcallB cr_len (ok_len _) Z.len bb_len (kacons (kvar 0) ma_nil))))))
  (mss_one (ms_ret me_bl))
  mss_nil)
  (mss_cons (kfor (.nm 3) po (mi_seq (kix ix_seq (ok_ix _) (kvar 1) me_int)) (kname 3 sc_at_most.nd)
  (mss_one (ms_if (ktval (kcallB (cr_any rfl) (ok_any _) Z.any bb_any (kacons (MF.me (klc [("column", 4)] sc_at_most.nd (mi_seq (kix ix_seq (ok_ix _) (kvar 1) me_int)) (fun _ _ _ _ _ => (kname 4 sc_at_most.nd)) (fun _ _ _ _ _ => mts_nil) (fun _ _ _ _ _ => (kcmp op_gt (ok_cmp _) (kix ix_seq (ok_ix _) (kix ix_seq (ok_ix _) (kvar 0) (kvar 3)) (kvar 4)) (kvar 2))))) ma_nil)))
  (mss_one (ms_ret me_bl))
  mss_nil)))
  (mss_one (ms_ret me_bl))))
theorem sc_is_block : FnScope ["matrix", "value"] ["matrix", "value"] (defScope (top 46)) := fnSc
theorem p_is_block (F : FunD K "is_block" "is_block" (defArgs (top 46)) (defBody (top 46)) (defScope (top 46)) [] [] f fd) (Z : Bt mg) (h_check_matrix : Has P w K mg base "check_matrix" 4 1 false m_check_matrix) (h_at_most : Has P w K mg base "at_most" 3 3 false m_at_most) : FnOk P w K mg base (L2.CX P w) 5 f fd ["matrix", "value"] (spX K mg 2 false m_is_block) :=
  kfn (fb := b_is_block) F sc_is_block fun cdv A outer s H E hr tk po =>
  (mss_cons (kcallS h_check_matrix mkF_len hr tk (kacons (kvar 0) ma_nil))
  (mss_one (ms_ret (kcall h_at_most mkF_len hr (kacons (kvar 0) (kacons (kvar 1) (kacons me_int ma_nil)))))))
theorem sc_placement : FnScope ["matrix", "owner", "column", "row"] ["matrix"] (defScope (top 47)) := fnSc
theorem p_placement (F : FunD K "placement" "placement" (defArgs (top 47)) (defBody (top 47)) (defScope (top 47)) [] [] f fd) (Z : Bt mg) (h_check_matrix : Has P w K mg base "check_matrix" 4 1 false m_check_matrix) (h_owners : Has P w K mg base "owners" 8 2 false m_owners) (h_above : Has P w K mg base "above" 1 2 false m_above) : FnOk P w K mg base (L2.CX P w) 9 f fd ["matrix"] (spX K mg 1 false m_placement) :=
  kfn (fb := b_placement) F sc_placement fun cdv A outer s H E hr tk po =>
  (mss_cons (kcallS h_check_matrix mkF_len hr tk (kacons (kvar 0) ma_nil))
  (mss_cons (ksetH 1 sc_placement.nd (kcall h_owners mkF_len hr (kacons (kcall h_above mkF_len hr (kacons (kvar 0) (kacons me_int ma_nil))) (kacons (kcallB cr_len (ok_len _) Z.len bb_len (kacons (kvar 0) ma_nil)) ma_nil))))
  (mss_one (ms_ret (kcallTy call_tuple_of (ok_tuple _) Z.tuple bb_tuple (kacons (kcallB (cr_sortD hr.units) (ok_sortedK _) Z.sorted bb_sorted (kacons (MF.me (klc [("column", 2), ("row", 3)] sc_placement.nd (kenum Z.enumerate (kacons (kvar 1) ma_nil)) (fun _ _ _ _ _ => (ktup2 2 3 sc_placement.nd)) (fun _ _ _ _ _ => (mts_one (ktcmp op_isNotA (ok_isNot _) (kvar 3) me_non))) (fun _ _ _ _ _ => (me_tup (kacons (kvar 3) (kacons (kvar 2) ma_nil)))))) ma_nil)) ma_nil))))))
theorem sc_cover : FnScope ["matrix", "rows", "columns", "count", "left", "row", "column"] ["matrix"] (defScope (top 48)) := fnSc
theorem p_cover (F : FunD K "cover" "cover" (defArgs (top 48)) (defBody (top 48)) (defScope (top 48)) [] [] f fd) (Z : Bt mg) (h_check_matrix : Has P w K mg base "check_matrix" 4 1 false m_check_matrix) (h_free_lines : Has P w K mg base "free_lines" 9 2 false m_free_lines) : FnOk P w K mg base (L2.CX P w) 10 f fd ["matrix"] (spX K mg 1 false m_cover) :=
  kfn (fb := b_cover) F sc_cover fun cdv A outer s H E hr tk po =>
  (mss_cons (kcallS h_check_matrix mkF_len hr tk (kacons (kvar 0) ma_nil))
  (mss_cons (ktgt (ktup2 1 2 sc_cover.nd) (kcall h_free_lines mkF_len hr (kacons (kvar 0) (kacons me_int ma_nil))))
  (mss_cons (kset 3 sc_cover.nd (kcallB cr_len (ok_len _) Z.len bb_len (kacons (kvar 0) ma_nil)))
  (mss_cons (kset 4 sc_cover.nd (kcallTy call_tuple_of (ok_tuple _) Z.tuple bb_tuple (kacons (MF.me (klc [("row", 5)] sc_cover.nd (krange1 Z.range (kacons (kvar 3) ma_nil)) (fun _ _ _ _ _ => (kname 5 sc_cover.nd)) (fun _ _ _ _ _ => (mts_one (ktcmp (op_notInA hr.u65) (ok_notIn _) (kvar 5) (kvar 1)))) (fun _ _ _ _ _ => (kvar 5)))) ma_nil)))
  (mss_one (ms_ret (me_tup (kacons (kvar 4) (kacons (kcallTy call_tuple_of (ok_tuple _) Z.tuple bb_tuple (kacons (MF.me (klc [("column", 6)] sc_cover.nd (krange1 Z.range (kacons (kvar 3) ma_nil)) (fun _ _ _ _ _ => (kname 6 sc_cover.nd)) (fun _ _ _ _ _ => (mts_one (ktcmp (op_notInA hr.u65) (ok_notIn _) (kvar 6) (kvar 2)))) (fun _ _ _ _ _ => (kvar 6)))) ma_nil)) ma_nil)))))))))
theorem sc_are_positions : FnScope ["value", "count", "one", "part", "other", "row", "column"] ["value", "count"] (defScope (top 49)) := fnSc
theorem p_are_positions (F : FunD K "are_positions" "are_positions" (defArgs (top 49)) (defBody (top 49)) (defScope (top 49)) [] [] f fd) (Z : Bt mg) (h_is_integer : Has P w K mg base "is_integer" 1 3 false m_is_integer) : FnOk P w K mg base (L2.CX P w) 2 f fd ["value", "count"] (spX K mg 2 false m_are_positions) :=
  kfn (fb := b_are_positions) F sc_are_positions fun cdv A outer s H E hr tk po =>
  (mss_cons (ms_if (mt_not (ktval (kisi kit_tuple Z.isinstance (kvar 0) (ktyN Z.tuple bb_tuple))))
  (mss_one (ms_ret me_bl))
  mss_nil)
  (mss_cons (kfor (.nm 2) po (mi_seq (kvar 0)) (kname 2 sc_are_positions.nd)
  (mss_one (ms_if (PW.pt (mw_or (mt_not (ktval (kisi kit_tuple Z.isinstance (kvar 2) (ktyN Z.tuple bb_tuple)))) (mw_or (ktcmp (op_neD hr.units) (ok_ne _) (kcallB cr_len (ok_len _) Z.len bb_len (kacons (kvar 2) ma_nil)) me_int) (mw_or1 (mt_not (ktval (kcallB (cr_all rfl) (ok_all _) Z.all bb_all (kacons (MF.me (klc [("part", 3)] sc_are_positions.nd (mi_seq (kvar 2)) (fun _ _ _ _ _ => (kname 3 sc_are_positions.nd)) (fun _ _ _ _ _ => mts_nil) (fun _ _ _ _ _ => (kcall h_is_integer mkF_len hr (kacons (kvar 3) (kacons me_int (kacons (me_op op_sub (ok_sub _) (kvar 1) me_int) ma_nil))))))) ma_nil))))))))
  (mss_one (ms_ret me_bl))
  mss_nil)))
  (mss_cons (ms_if (mt_not (ktval (kcallB (cr_all rfl) (ok_all _) Z.all bb_all (kacons (MF.me (klc [("one", 2), ("other", 4)] sc_are_positions.nd (kzip Z.zip (kacons (kvar 0) (kacons (me_slice sl_all (ok_sl _) (kvar 0) (mo_some me_int) mo_none) ma_nil))) (fun _ _ _ _ _ => (ktup2 2 4 sc_are_positions.nd)) (fun _ _ _ _ _ => mts_nil) (fun _ _ _ _ _ => (kcmp op_lt (ok_cmp _) (kix ix_seq (ok_ix _) (kvar 2) me_int) (kix ix_seq (ok_ix _) (kvar 4) me_int))))) ma_nil))))
  (mss_one (ms_ret me_bl))
  mss_nil)
  (mss_one (ms_ret (kcmp (op_eqD hr.units) (ok_eq _) (klenSet Z.len Z.set (MF.me (klc [("row", 5), ("column", 6)] sc_are_positions.nd (mi_seq (kvar 0)) (fun _ _ _ _ _ => (ktup2 5 6 sc_are_positions.nd)) (fun _ _ _ _ _ => mts_nil) (fun _ _ _ _ _ => (kvar 6))))) (kcallB cr_len (ok_len _) Z.len bb_len (kacons (kvar 0) ma_nil))))))))
theorem sc_is_placement : FnScope ["matrix", "value", "row", "column"] ["matrix", "value"] (defScope (top 50)) := fnSc
theorem p_is_placement (F : FunD K "is_placement" "is_placement" (defArgs (top 50)) (defBody (top 50)) (defScope (top 50)) [] [] f fd) (Z : Bt mg) (h_check_matrix : Has P w K mg base "check_matrix" 4 1 false m_check_matrix) (h_are_positions : Has P w K mg base "are_positions" 2 2 false m_are_positions) : FnOk P w K mg base (L2.CX P w) 5 f fd ["matrix", "value"] (spX K mg 2 false m_is_placement) :=
  kfn (fb := b_is_placement) F sc_is_placement fun cdv A outer s H E hr tk po =>
  (mss_cons (kcallS h_check_matrix mkF_len hr tk (kacons (kvar 0) ma_nil))
  (mss_one (ms_ret (me_and (kcall h_are_positions mkF_len hr (kacons (kvar 1) (kacons (kcallB cr_len (ok_len _) Z.len bb_len (kacons (kvar 0) ma_nil)) ma_nil))) (me_one (kcallB (cr_all rfl) (ok_all _) Z.all bb_all (kacons (MF.me (klc [("row", 2), ("column", 3)] sc_is_placement.nd (mi_seq (kvar 1)) (fun _ _ _ _ _ => (ktup2 2 3 sc_is_placement.nd)) (fun _ _ _ _ _ => mts_nil) (fun _ _ _ _ _ => (kcmp op_gt (ok_cmp _) (kix ix_seq (ok_ix _) (kix ix_seq (ok_ix _) (kvar 0) (kvar 2)) (kvar 3)) me_int)))) ma_nil)))))))
theorem sc_is_cover : FnScope ["matrix", "value", "i", "row", "j", "entry"] ["matrix", "value"] (defScope (top 51)) := fnSc
theorem p_is_cover (F : FunD K "is_cover" "is_cover" (defArgs (top 51)) (defBody (top 51)) (defScope (top 51)) [] [] f fd) (Z : Bt mg) (h_check_matrix : Has P w K mg base "check_matrix" 4 1 false m_check_matrix) (h_are_lines : Has P w K mg base "are_lines" 2 2 false m_are_lines) : FnOk P w K mg base (L2.CX P w) 5 f fd ["matrix", "value"] (spX K mg 2 false m_is_cover) :=
  kfn (fb := b_is_cover) F sc_is_cover fun cdv A outer s H E hr tk po =>
  (mss_cons (kcallS h_check_matrix mkF_len hr tk (kacons (kvar 0) ma_nil))
  (mss_cons (ms_if (mt_not (ktval (kcall h_are_lines mkF_len hr (kacons (kvar 1) (kacons (kcallB cr_len (ok_len _) Z.len bb_len (kacons (kvar 0) ma_nil)) ma_nil)))))
  (mss_one (ms_ret me_bl))
  mss_nil)
  (mss_cons (kfor (.tp [2, 3]) po (kenum Z.enumerate (kacons (kvar 0) ma_nil)) (ktup2 2 3 sc_is_cover.nd)
  (mss_one (ms_if (PW.pt (mw_and (ktcmp (op_notInA hr.u65) (ok_notIn _) (kvar 2) (kix ix_seq (ok_ix _) (kvar 1) me_int)) (mw_and1 (ktval (kcallB (cr_any rfl) (ok_any _) Z.any bb_any (kacons (MF.me (klc [("j", 4), ("entry", 5)] sc_is_cover.nd (kenum Z.enumerate (kacons (kvar 3) ma_nil)) (fun _ _ _ _ _ => (ktup2 4 5 sc_is_cover.nd)) (fun _ _ _ _ _ => (mts_one (ktcmp (op_notInA hr.u65) (ok_notIn _) (kvar 4) (kix ix_seq (ok_ix _) (kvar 1) me_int)))) (fun _ _ _ _ _ => (kcmp op_gt (ok_cmp _) (kvar 5) me_int)))) ma_nil))))))
  (mss_one (ms_ret me_bl))
  mss_nil)))
  (mss_one (ms_ret me_bl)))))
theorem sc_lifted : FnScope ["matrix", "top", "count", "rows", "row", "i", "j", "room"] ["matrix"] (defScope (top 53)) := fnSc
theorem p_lifted (F : FunD K "lifted" "lifted" (defArgs (top 53)) (defBody (top 53)) (defScope (top 53)) [] [] f fd) (Z : Bt mg) (h_degree_of : Has P w K mg base "degree_of" 2 1 false m_degree_of) : FnOk P w K mg base (L2.CX P w) 3 f fd ["matrix"] (spX K mg 1 false m_lifted) :=
  kfn (fb := b_lifted) F sc_lifted fun cdv A outer s H E hr tk po =>
  (mss_cons (ms_par (kparP 1 2 sc_lifted.nd (kacons (kcall h_degree_of mkF_len hr (kacons (kvar 0) ma_nil)) (kacons (kcallB cr_len (ok_len _) Z.len bb_len (kacons (kvar 0) ma_nil)) ma_nil))) rfl)
  (mss_cons (ms_own2 (ksetLc2 3 [("row", 4)] sc_lifted.nd (mi_seq (kvar 0)) (fun _ _ _ _ _ => (kname 4 sc_lifted.nd)) (fun _ _ _ _ _ => (kflist Z.list (kacons (kvar 4) ma_nil)))))
  (mss_cons (kfor (.nm 5) po (krange1 Z.range (kacons (kvar 2) ma_nil)) (kname 5 sc_lifted.nd)
  (mss_one (kfor (.nm 6) po (krange1 Z.range (kacons (kvar 2) ma_nil)) (kname 6 sc_lifted.nd)
  (mss_cons (kset 7 sc_lifted.nd (kcallB (call_min2 rfl) (ok_min2 _) Z.min bb_min (kacons (me_op op_sub (ok_sub _) (kvar 1) (kcallB (cr_sumA rfl) (ok_sum _) Z.sum bb_sum (kacons (kix ix_seq (ok_ix _) (kvar 3) (kvar 5)) ma_nil))) (kacons (me_op op_sub (ok_sub _) (kvar 1) (kcallB (cr_sumA rfl) (ok_sum _) Z.sum bb_sum (kacons (MF.me (klc [("row", 4)] sc_lifted.nd (mi_seq (kvar 3)) (fun _ _ _ _ _ => (kname 4 sc_lifted.nd)) (fun _ _ _ _ _ => mts_nil) (fun _ _ _ _ _ => (kix ix_seq (ok_ix _) (kvar 4) (kvar 6))))) ma_nil))) ma_nil))))
  (mss_one (kaug2 3 (kpv 3) (kvar 5) (kvar 6) (kvar 7) ip_add))))))
  (mss_one (ms_ret (kcallTy call_tuple_of (ok_tuple _) Z.tuple bb_tuple (kacons (MF.me (klc [("row", 4)] sc_lifted.nd (mi_seq (kvar 3)) (fun _ _ _ _ _ => (kname 4 sc_lifted.nd)) (fun _ _ _ _ _ => mts_nil) (fun _ _ _ _ _ => (kcallTy call_tuple_of (ok_tuple _) Z.tuple bb_tuple (kacons (kvar 4) ma_nil))))) ma_nil)))))))
theorem sc_raised : FnScope ["matrix"] ["matrix"] (defScope (top 54)) := fnSc
theorem p_raised (F : FunD K "raised" "raised" (defArgs (top 54)) (defBody (top 54)) (defScope (top 54)) [] [] f fd) (Z : Bt mg) (h_check_matrix : Has P w K mg base "check_matrix" 4 1 false m_check_matrix) (h_lifted : Has P w K mg base "lifted" 3 1 false m_lifted) : FnOk P w K mg base (L2.CX P w) 5 f fd ["matrix"] (spX K mg 1 false m_raised) :=
  kfn (fb := b_raised) F sc_raised fun cdv A outer s H E hr tk po =>
  (mss_cons (kcallS h_check_matrix mkF_len hr tk (kacons (kvar 0) ma_nil))
  (mss_one (ms_ret (kcall h_lifted mkF_len hr (kacons (kvar 0) ma_nil)))))
theorem sc_is_raised : FnScope ["matrix", "value", "row", "other", "entry", "more", "total"] ["matrix", "value"] (defScope (top 55)) := fnSc
theorem p_is_raised (F : FunD K "is_raised" "is_raised" (defArgs (top 55)) (defBody (top 55)) (defScope (top 55)) [] [] f fd) (Z : Bt mg) (h_check_matrix : Has P w K mg base "check_matrix" 4 1 false m_check_matrix) (h_is_square_of : Has P w K mg base "is_square_of" 2 4 false m_is_square_of) (h_degree_of : Has P w K mg base "degree_of" 2 1 false m_degree_of) (h_line_sums : Has P w K mg base "line_sums" 1 1 false m_line_sums) : FnOk P w K mg base (L2.CX P w) 5 f fd ["matrix", "value"] (spX K mg 2 false m_is_raised) :=
  kfn (fb := b_is_raised) F sc_is_raised fun cdv A outer s H E hr tk po =>
  (mss_cons (kcallS h_check_matrix mkF_len hr tk (kacons (kvar 0) ma_nil))
  (mss_cons (ms_if (mt_not (ktval (kcall h_is_square_of mkF_len hr (kacons (kvar 1) (kacons (kcallB cr_len (ok_len _) Z.len bb_len (kacons (kvar 0) ma_nil)) (kacons me_int (kacons me_int ma_nil)))))))
  (mss_one (ms_ret me_bl))
  mss_nil)
  (mss_cons (kfor (.tp [2, 3]) po (kzip Z.zip (kacons (kvar 0) (kacons (kvar 1) ma_nil))) (ktup2 2 3 sc_is_raised.nd)
  (mss_one (ms_if (ktval (kcallB (cr_any rfl) (ok_any _) Z.any bb_any (kacons (MF.me (klc [("entry", 4), ("more", 5)] sc_is_raised.nd (kzip Z.zip (kacons (kvar 2) (kacons (kvar 3) ma_nil))) (fun _ _ _ _ _ => (ktup2 4 5 sc_is_raised.nd)) (fun _ _ _ _ _ => mts_nil) (fun _ _ _ _ _ => (kcmp op_gt (ok_cmp _) (kvar 4) (kvar 5))))) ma_nil)))
  (mss_one (ms_ret me_bl))
  mss_nil)))
  (mss_one (ms_ret (kcallB (cr_all rfl) (ok_all _) Z.all bb_all (kacons (MF.me (klc [("total", 6)] sc_is_raised.nd (mi_seq (kcall h_line_sums mkF_len hr (kacons (kvar 1) ma_nil))) (fun _ _ _ _ _ => (kname 6 sc_is_raised.nd)) (fun _ _ _ _ _ => mts_nil) (fun _ _ _ _ _ => (kcmp (op_eqD hr.units) (ok_eq _) (kvar 6) (kcall h_degree_of mkF_len hr (kacons (kvar 0) ma_nil)))))) ma_nil)))))))
theorem sc_check_even : FnScope ["matrix"] ["matrix"] (defScope (top 57)) := fnSc
theorem p_check_even (F : FunD K "check_even" "check_even" (defArgs (top 57)) (defBody (top 57)) (defScope (top 57)) [] [] f fd) (Z : Bt mg) (h_check_matrix : Has P w K mg base "check_matrix" 4 1 false m_check_matrix) (h_even : Has P w K mg base "even" 3 1 false m_even) (X_NotEven : ExF K mg "NotEven") : FnOk P w K mg base (L2.CX P w) 5 f fd ["matrix"] (spX K mg 1 false m_check_even) :=
  kfn (fb := b_check_even) F sc_check_even fun cdv A outer s H E hr tk po =>
  (mss_cons (kcallS h_check_matrix mkF_len hr tk (kacons (kvar 0) ma_nil))
  (mss_one (ms_if (mt_not (ktval (kcall h_even mkF_len hr (kacons (kvar 0) ma_nil))))
  (mss_one (kraise X_NotEven tk))
  mss_nil)))
theorem sc_parts_of : FnScope ["matrix", "parts", "weight", "order"] ["matrix"] (defScope (top 58)) := fnSc
theorem p_parts_of (F : FunD K "parts_of" "parts_of" (defArgs (top 58)) (defBody (top 58)) (defScope (top 58)) [] [] f fd) (Z : Bt mg) (h_degree_of : Has P w K mg base "degree_of" 2 1 false m_degree_of) (h_minus : Has P w K mg base "minus" 1 3 false m_minus) (h_worth_of : Has P w K mg base "worth_of" 1 2 false m_worth_of) (h_orders : Has P w K mg base "orders" 1 1 false m_orders) : FnOk P w K mg base (L2.CX P w) 3 f fd ["matrix"] (spX K mg 1 false m_parts_of) :=
  kfn (fb := b_parts_of) F sc_parts_of fun cdv A outer s H E hr tk po =>
  (mss_cons (ksetO 1 sc_parts_of.nd (mf_lst ma_nil))
  (mss_cons (ms_while (N := 1000) po (ktcmp op_gt (ok_cmp _) (kcall h_degree_of mkF_len hr (kacons (kvar 0) ma_nil)) me_int)
  (mss_cons (ktgt (ktup2 2 3 sc_parts_of.nd) (kcallB (cr_maxD rfl hr.units) (ok_maxD _) Z.max bb_max (kacons (MF.me (klc [("order", 3)] sc_parts_of.nd (mi_seq (kcall h_orders mkF_len hr (kacons (kcallB cr_len (ok_len _) Z.len bb_len (kacons (kvar 0) ma_nil)) ma_nil))) (fun _ _ _ _ _ => (kname 3 sc_parts_of.nd)) (fun _ _ _ _ _ => mts_nil) (fun _ _ _ _ _ => (me_tup (kacons (kcall h_worth_of mkF_len hr (kacons (kvar 0) (kacons (kvar 3) ma_nil))) (kacons (kvar 3) ma_nil)))))) ma_nil)))
  (mss_cons (ms_app (kappend 1 (kpv 1) (me_tup (kacons (kvar 3) (kacons (kvar 2) ma_nil)))))
  (mss_one (kset 0 sc_parts_of.nd (kcall h_minus mkF_len hr (kacons (kvar 0) (kacons (kvar 2) (kacons (MF.me (kenuL Z.list Z.enumerate (kvar 3))) ma_nil)))))))))
  (mss_one (ms_ret (kvar 1)))))
theorem sc_split : FnScope ["matrix"] ["matrix"] (defScope (top 59)) := fnSc
theorem p_split (F : FunD K "split" "split" (defArgs (top 59)) (defBody (top 59)) (defScope (top 59)) [] [] f fd) (Z : Bt mg) (h_check_even : Has P w K mg base "check_even" 5 1 false m_check_even) (h_parts_of : Has P w K mg base "parts_of" 3 1 false m_parts_of) : FnOk P w K mg base (L2.CX P w) 6 f fd ["matrix"] (spX K mg 1 false m_split) :=
  kfn (fb := b_split) F sc_split fun cdv A outer s H E hr tk po =>
  (mss_cons (kcallS h_check_even mkF_len hr tk (kacons (kvar 0) ma_nil))
  (mss_one (ms_ret (kcall h_parts_of mkF_len hr (kacons (kvar 0) ma_nil)))))
theorem sc_is_part : FnScope ["value", "count", "one"] ["value", "count"] (defScope (top 60)) := fnSc
theorem p_is_part (F : FunD K "is_part" "is_part" (defArgs (top 60)) (defBody (top 60)) (defScope (top 60)) [] [] f fd) (Z : Bt mg) (h_is_integer : Has P w K mg base "is_integer" 1 3 false m_is_integer) : FnOk P w K mg base (L2.CX P w) 2 f fd ["value", "count"] (spX K mg 2 false m_is_part) :=
  kfn (fb := b_is_part) F sc_is_part fun cdv A outer s H E hr tk po =>
  (mss_cons (ms_if (PW.pt (mw_or (mt_not (ktval (kisi kit_tuple Z.isinstance (kvar 0) (ktyN Z.tuple bb_tuple)))) (mw_or (ktcmp (op_neD hr.units) (ok_ne _) (kcallB cr_len (ok_len _) Z.len bb_len (kacons (kvar 0) ma_nil)) me_int) (mw_or1 (mt_not (ktval (kisi kit_tuple Z.isinstance (kix ix_seq (ok_ix _) (kvar 0) me_int) (ktyN Z.tuple bb_tuple))))))))
  (mss_one (ms_ret me_bl))
  mss_nil)
  (mss_cons (ms_if (PW.pt (mw_or (mt_not (ktval (kcallB (cr_all rfl) (ok_all _) Z.all bb_all (kacons (MF.me (klc [("one", 2)] sc_is_part.nd (mi_seq (kix ix_seq (ok_ix _) (kvar 0) me_int)) (fun _ _ _ _ _ => (kname 2 sc_is_part.nd)) (fun _ _ _ _ _ => mts_nil) (fun _ _ _ _ _ => (kcall h_is_integer mkF_len hr (kacons (kvar 2) (kacons me_int (kacons (me_op op_sub (ok_sub _) (kvar 1) me_int) ma_nil))))))) ma_nil)))) (mw_or1 (ktcmp (op_neD hr.units) (ok_ne _) (kcallB (cr_sortD hr.units) (ok_sortedK _) Z.sorted bb_sorted (kacons (kix ix_seq (ok_ix _) (kvar 0) me_int) ma_nil)) (MF.me (klistRg Z.list Z.range (kvar 1)))))))
  (mss_one (ms_ret me_bl))
  mss_nil)
  (mss_one (ms_ret (kcall h_is_integer mkF_len hr (kacons (kix ix_seq (ok_ix _) (kvar 0) me_int) (kacons me_int (kacons me_int ma_nil))))))))
theorem sc_is_split : FnScope ["matrix", "value", "one", "order", "weight", "row"] ["matrix", "value"] (defScope (top 61)) := fnSc
theorem p_is_split (F : FunD K "is_split" "is_split" (defArgs (top 61)) (defBody (top 61)) (defScope (top 61)) [] [] f fd) (Z : Bt mg) (h_check_even : Has P w K mg base "check_even" 5 1 false m_check_even) (h_minus : Has P w K mg base "minus" 1 3 false m_minus) (h_is_part : Has P w K mg base "is_part" 2 2 false m_is_part) : FnOk P w K mg base (L2.CX P w) 6 f fd ["matrix", "value"] (spX K mg 2 false m_is_split) :=
  kfn (fb := b_is_split) F sc_is_split fun cdv A outer s H E hr tk po =>
  (mss_cons (kcallS h_check_even mkF_len hr tk (kacons (kvar 0) ma_nil))
  (mss_cons (ms_if (PW.pt (mw_or (mt_not (ktval (kisi kit_list Z.isinstance (kvar 1) (ktyN Z.list bb_list)))) (mw_or1 (mt_not (ktval (kcallB (cr_all rfl) (ok_all _) Z.all bb_all (kacons (MF.me (klc [("one", 2)] sc_is_split.nd (mi_seq (kvar 1)) (fun _ _ _ _ _ => (kname 2 sc_is_split.nd)) (fun _ _ _ _ _ => mts_nil) (fun _ _ _ _ _ => (kcall h_is_part mkF_len hr (kacons (kvar 2) (kacons (kcallB cr_len (ok_len _) Z.len bb_len (kacons (kvar 0) ma_nil)) ma_nil)))))) ma_nil)))))))
  (mss_one (ms_ret me_bl))
  mss_nil)
  (mss_cons (ms_if (ktcmp (op_neD hr.units) (ok_ne _) (klenSetL Z.len Z.set (Nat.lt_of_succ_lt hr.u65) (MF.me (klc [("order", 3), ("weight", 4)] sc_is_split.nd (mi_seq (kvar 1)) (fun _ _ _ _ _ => (ktup2 3 4 sc_is_split.nd)) (fun _ _ _ _ _ => mts_nil) (fun _ _ _ _ _ => (kvar 3))))) (kcallB cr_len (ok_len _) Z.len bb_len (kacons (kvar 1) ma_nil)))
  (mss_one (ms_ret me_bl))
  mss_nil)
  (mss_cons (kfor (.tp [3, 4]) po (mi_seq (kvar 1)) (ktup2 3 4 sc_is_split.nd)
  (mss_one (kset 0 sc_is_split.nd (kcall h_minus mkF_len hr (kacons (kvar 0) (kacons (kvar 4) (kacons (MF.me (kenuL Z.list Z.enumerate (kvar 3))) ma_nil)))))))
  (mss_one (ms_ret (kcallB (cr_all rfl) (ok_all _) Z.all bb_all (kacons (MF.me (klc [("row", 5)] sc_is_split.nd (mi_seq (kvar 0)) (fun _ _ _ _ _ => (kname 5 sc_is_split.nd)) (fun _ _ _ _ _ => mts_nil) (fun _ _ _ _ _ => (me_and (kcmp (op_eqD hr.units) (ok_eq _) (kcallB (cr_maxA rfl) (ok_max _) Z.max bb_max (kacons (kvar 5) ma_nil)) me_int) (me_one (kcmp (op_eqD hr.units) (ok_eq _) (kcallB (cr_minA rfl) (ok_min _) Z.min bb_min (kacons (kvar 5) ma_nil)) me_int)))))) ma_nil))))))))
theorem sc_most_entries : FnScope ["matrix", "rows", "entry", "row", "count", "at"] ["matrix"] (defScope (top 62)) := fnSc
theorem p_most_entries (F : FunD K "most_entries" "most_entries" (defArgs (top 62)) (defBody (top 62)) (defScope (top 62)) [] [] f fd) (Z : Bt mg) : FnOk P w K mg base (L2.CX P w) 1 f fd ["matrix"] (spX K mg 1 false m_most_entries) :=
  kfn (fb := b_most_entries) F sc_most_entries fun cdv A outer s H E hr tk po =>
  (mss_cons (ms_own (ksetLc 1 [("row", 3)] sc_most_entries.nd (mi_seq (kvar 0)) (fun _ _ _ _ _ => (kname 3 sc_most_entries.nd)) (fun _ _ _ _ _ => mts_nil) (fun _ _ _ _ _ => (kcallB cr_len (ok_len _) Z.len bb_len (kacons (MF.me (klc [("entry", 2)] sc_most_entries.nd (mi_seq (kvar 3)) (fun _ _ _ _ _ => (kname 2 sc_most_entries.nd)) (fun _ _ _ _ _ => (mts_one (ktcmp op_gt (ok_cmp _) (kvar 2) me_int))) (fun _ _ _ _ _ => (kvar 2)))) ma_nil)))) rfl)
  (mss_cons (kset 4 sc_most_entries.nd (kcallB cr_len (ok_len _) Z.len bb_len (kacons (kvar 0) ma_nil)))
  (mss_one (ms_ret (kcallB (cr_maxA rfl) (ok_max _) Z.max bb_max (kacons (me_op op_addA (ok_add _) (kvar 1) (MF.me (klc [("at", 5)] sc_most_entries.nd (krange1 Z.range (kacons (kvar 4) ma_nil)) (fun _ _ _ _ _ => (kname 5 sc_most_entries.nd)) (fun _ _ _ _ _ => mts_nil) (fun _ _ _ _ _ => (kcallB cr_len (ok_len _) Z.len bb_len (kacons (MF.me (klc [("row", 3)] sc_most_entries.nd (mi_seq (kvar 0)) (fun _ _ _ _ _ => (kname 3 sc_most_entries.nd)) (fun _ _ _ _ _ => (mts_one (ktcmp op_gt (ok_cmp _) (kix ix_seq (ok_ix _) (kvar 3) (kvar 5)) me_int))) (fun _ _ _ _ _ => (kvar 3)))) ma_nil)))))) ma_nil))))))
theorem sc_is_enough : FnScope ["matrix", "count", "known", "key", "first", "at", "entry", "order", "weight"] ["matrix", "count", "known"] (defScope (top 63)) := fnSc
theorem p_is_enough (F : FunD K "is_enough" "is_enough" (defArgs (top 63)) (defBody (top 63)) (defScope (top 63)) [] [] f fd) (Z : Bt mg) (h_degree_of : Has P w K mg base "degree_of" 2 1 false m_degree_of) (h_most_entries : Has P w K mg base "most_entries" 1 1 false m_most_entries) (h_orders : Has P w K mg base "orders" 1 1 false m_orders) (h_worth_of : Has P w K mg base "worth_of" 1 2 false m_worth_of) (h_minus : Has P w K mg base "minus" 1 3 false m_minus) (g : mg "is_enough" = some (.ref f)) (bd : Binds K fd ["matrix", "count", "known"] []) : ∀ d : Nat, Has P w K mg base "is_enough" (2 + d) 3 false (recF (fun m => mkF 3 6 (b_is_enough m)) d)
  | 0 => has_mk F g fn_none bd
  | d + 1 => has_mk F g (kfn (fb := b_is_enough (recF (fun m => mkF 3 6 (b_is_enough m)) d)) F sc_is_enough fun cdv A outer s H E hr tk po =>
  have h_is_enough := p_is_enough F Z h_degree_of h_most_entries h_orders h_worth_of h_minus g bd d
  (mss_cons (ms_if (ktcmp (op_eqD hr.units) (ok_eq _) (kcall h_degree_of mkF_len (hr.mono (Nat.le_add_right _ _)) (kacons (kvar 0) ma_nil)) me_int)
  (mss_one (ms_ret me_bl))
  mss_nil)
  (mss_cons (ms_if (ktcmp op_gt (ok_cmp _) (kcall h_most_entries mkF_len (hr.mono (Nat.le_add_right _ _)) (kacons (kvar 0) ma_nil)) (kvar 1))
  (mss_one (ms_ret me_bl))
  mss_nil)
  (mss_cons (kset 3 sc_is_enough.nd (me_tup (kacons (kvar 0) (kacons (kvar 1) ma_nil))))
  (mss_cons (ms_if (ktdnotin (hr.mono (Nat.le_add_right _ _)) (kvar 3) (kvar 2))
  (mss_cons (ms_dput (kasg me_bl (kgsub (kpv 2) (kvar 3) (set_dN (Room.units (hr.mono (Nat.le_add_right _ _)))))))
  (mss_cons (kset 4 sc_is_enough.nd (kix ix_seq (ok_ix _) (MF.me (klc [("at", 5), ("entry", 6)] sc_is_enough.nd (kenum Z.enumerate (kacons (kix ix_seq (ok_ix _) (kvar 0) me_int) ma_nil)) (fun _ _ _ _ _ => (ktup2 5 6 sc_is_enough.nd)) (fun _ _ _ _ _ => (mts_one (ktcmp op_gt (ok_cmp _) (kvar 6) me_int))) (fun _ _ _ _ _ => (kvar 5)))) me_int))
  (mss_one (kfor (.nm 7) po (mi_seq (kcall h_orders mkF_len (hr.mono (Nat.le_add_right _ _)) (kacons (kcallB cr_len (ok_len _) Z.len bb_len (kacons (kvar 0) ma_nil)) ma_nil))) (kname 7 sc_is_enough.nd)
  (mss_one (ms_if (PW.pt (mw_and (ktcmp (op_eqD hr.units) (ok_eq _) (kix ix_seq (ok_ix _) (kvar 7) me_int) (kvar 4)) (mw_and1 (mt_not (ktval (kdget (hr.mono (Nat.le_add_right _ _)) (kvar 2) (kvar 3)))))))
  (mss_one (kfor (.nm 8) po (krange3 Z.range (kacons (kcall h_worth_of mkF_len (hr.mono (Nat.le_add_right _ _)) (kacons (kvar 0) (kacons (kvar 7) ma_nil))) (kacons me_int (kacons (me_un un_neg (ok_neg _) me_int) ma_nil)))) (kname 8 sc_is_enough.nd)
  (mss_one (ms_if (ktval (kcall h_is_enough (recF_len (fun _ => mkF_len) _) hr (kacons (kcall h_minus mkF_len (hr.mono (Nat.le_add_right _ _)) (kacons (kvar 0) (kacons (kvar 8) (kacons (MF.me (kenuL Z.list Z.enumerate (kvar 7))) ma_nil)))) (kacons (me_op op_sub (ok_sub _) (kvar 1) me_int) (kacons (kvar 2) ma_nil))) (hk := bleR)))
  (mss_cons (ms_dput (kasg me_bl (kgsub (kpv 2) (kvar 3) (set_dN (Room.units (hr.mono (Nat.le_add_right _ _)))))))
  (mss_one ms_break))
  mss_nil))))
  mss_nil))))))
  mss_nil)
  (mss_one (ms_ret (kdget (hr.mono (Nat.le_add_right _ _)) (kvar 2) (kvar 3))))))))) bd
theorem sc_fewest_parts : FnScope ["matrix", "count", "known"] ["matrix"] (defScope (top 64)) := fnSc
theorem p_fewest_parts (F : FunD K "fewest_parts" "fewest_parts" (defArgs (top 64)) (defBody (top 64)) (defScope (top 64)) [] [] f fd) (Z : Bt mg) (h_check_even : Has P w K mg base "check_even" 5 1 false m_check_even) (h_is_enough : Has P w K mg base "is_enough" 14 3 false m_is_enough) (h_degree_of : Has P w K mg base "degree_of" 2 1 false m_degree_of) (X_TooLarge : ExF K mg "TooLarge") : FnOk P w K mg base (L2.CX P w) 15 f fd ["matrix"] (spX K mg 1 false m_fewest_parts) :=
  kfn (fb := b_fewest_parts) F sc_fewest_parts fun cdv A outer s H E hr tk po =>
  (mss_cons (kcallS h_check_even mkF_len hr tk (kacons (kvar 0) ma_nil))
  (mss_cons (ms_if (PW.pt (mw_or (ktcmp op_gt (ok_cmp _) (kcallB cr_len (ok_len _) Z.len bb_len (kacons (kvar 0) ma_nil)) me_int) (mw_or1 (ktcmp op_gt (ok_cmp _) (kcall h_degree_of mkF_len hr (kacons (kvar 0) ma_nil)) me_int))))
  (mss_one (kraise X_TooLarge tk))
  mss_nil)
  (mss_cons (ms_par (kparP 1 2 sc_fewest_parts.nd (kacons me_int (kacons me_newD ma_nil))) rfl)
  (mss_cons (ms_while (N := 1000) po (mt_not (ktval (kcall h_is_enough (recF_len (fun _ => mkF_len) _) hr (kacons (kvar 0) (kacons (kvar 1) (kacons (kvar 2) ma_nil))))))
  (mss_one (kaug 1 sc_fewest_parts.nd me_int ip_add)))
  (mss_one (ms_ret (kvar 1)))))))
theorem sc_schedule : FnScope ["matrix", "left", "phases", "order", "weight", "positions", "i", "j", "length"] ["matrix"] (defScope (top 66)) := fnSc
theorem p_schedule (F : FunD K "schedule" "schedule" (defArgs (top 66)) (defBody (top 66)) (defScope (top 66)) [] [] f fd) (Z : Bt mg) (h_check_matrix : Has P w K mg base "check_matrix" 4 1 false m_check_matrix) (h_parts_of : Has P w K mg base "parts_of" 3 1 false m_parts_of) (h_lifted : Has P w K mg base "lifted" 3 1 false m_lifted) (h_minus : Has P w K mg base "minus" 1 3 false m_minus) : FnOk P w K mg base (L2.CX P w) 5 f fd ["matrix"] (spX K mg 1 false m_schedule) :=
  kfn (fb := b_schedule) F sc_schedule fun cdv A outer s H E hr tk po =>
  (mss_cons (kcallS h_check_matrix mkF_len hr tk (kacons (kvar 0) ma_nil))
  (mss_cons (ms_parVO (kpairT 1 2 sc_schedule.nd mono_vo (kpa2 (kvar 0) (mf_lst ma_nil))))
  (mss_cons (kfor (.tp [3, 4]) po (mi_seq (kcall h_parts_of mkF_len hr (kacons (kcall h_lifted mkF_len hr (kacons (kvar 0) ma_nil)) ma_nil))) (ktup2 3 4 sc_schedule.nd)
  (mss_one (ms_while (N := 1000) po (ktcmp op_gt (ok_cmp _) (kvar 4) me_int)
  (mss_cons (kset 5 sc_schedule.nd (kcallTy call_tuple_of (ok_tuple _) Z.tuple bb_tuple (kacons (MF.me (klc [("i", 6), ("j", 7)] sc_schedule.nd (kenum Z.enumerate (kacons (kvar 3) ma_nil)) (fun _ _ _ _ _ => (ktup2 6 7 sc_schedule.nd)) (fun _ _ _ _ _ => (mts_one (ktcmp op_gt (ok_cmp _) (kix ix_seq (ok_ix _) (kix ix_seq (ok_ix _) (kvar 1) (kvar 6)) (kvar 7)) me_int))) (fun _ _ _ _ _ => (me_tup (kacons (kvar 6) (kacons (kvar 7) ma_nil)))))) ma_nil)))
  (mss_cons (kset 8 sc_schedule.nd (kcallB (cr_minA rfl) (ok_min _) Z.min bb_min (kacons (me_op op_addA (ok_add _) (me_lst (kacons (kvar 4) ma_nil)) (MF.me (klc [("i", 6), ("j", 7)] sc_schedule.nd (mi_seq (kvar 5)) (fun _ _ _ _ _ => (ktup2 6 7 sc_schedule.nd)) (fun _ _ _ _ _ => mts_nil) (fun _ _ _ _ _ => (kix ix_seq (ok_ix _) (kix ix_seq (ok_ix _) (kvar 1) (kvar 6)) (kvar 7)))))) ma_nil)))
  (mss_cons (ms_app (kappend 2 (kpv 2) (me_tup (kacons (kvar 8) (kacons (kvar 5) ma_nil)))))
  (mss_cons (kset 1 sc_schedule.nd (kcall h_minus mkF_len hr (kacons (kvar 1) (kacons (kvar 8) (kacons (kvar 5) ma_nil)))))
  (mss_one (kaug 4 sc_schedule.nd (kvar 8) ip_sub)))))))))
  (mss_one (ms_ret (kvar 2))))))
theorem sc_is_phase : FnScope ["value", "count"] ["value", "count"] (defScope (top 67)) := fnSc
theorem p_is_phase (F : FunD K "is_phase" "is_phase" (defArgs (top 67)) (defBody (top 67)) (defScope (top 67)) [] [] f fd) (Z : Bt mg) (h_are_positions : Has P w K mg base "are_positions" 2 2 false m_are_positions) (h_is_integer : Has P w K mg base "is_integer" 1 3 false m_is_integer) : FnOk P w K mg base (L2.CX P w) 3 f fd ["value", "count"] (spX K mg 2 false m_is_phase) :=
  kfn (fb := b_is_phase) F sc_is_phase fun cdv A outer s H E hr tk po =>
  (mss_cons (ms_if (PW.pt (mw_or (mt_not (ktval (kisi kit_tuple Z.isinstance (kvar 0) (ktyN Z.tuple bb_tuple)))) (mw_or (ktcmp (op_neD hr.units) (ok_ne _) (kcallB cr_len (ok_len _) Z.len bb_len (kacons (kvar 0) ma_nil)) me_int) (mw_or1 (mt_not (ktval (kcall h_is_integer mkF_len hr (kacons (kix ix_seq (ok_ix _) (kvar 0) me_int) (kacons me_int (kacons me_int ma_nil))))))))))
  (mss_one (ms_ret me_bl))
  mss_nil)
  (mss_one (ms_ret (me_and (kcmp (op_neD hr.units) (ok_ne _) (kix ix_seq (ok_ix _) (kvar 0) me_int) (me_tup ma_nil)) (me_one (kcall h_are_positions mkF_len hr (kacons (kix ix_seq (ok_ix _) (kvar 0) me_int) (kacons (kvar 1) ma_nil))))))))
theorem sc_is_schedule : FnScope ["matrix", "value", "one", "length", "positions", "row"] ["matrix", "value"] (defScope (top 68)) := fnSc
theorem p_is_schedule (F : FunD K "is_schedule" "is_schedule" (defArgs (top 68)) (defBody (top 68)) (defScope (top 68)) [] [] f fd) (Z : Bt mg) (h_check_matrix : Has P w K mg base "check_matrix" 4 1 false m_check_matrix) (h_minus : Has P w K mg base "minus" 1 3 false m_minus) (h_is_phase : Has P w K mg base "is_phase" 3 2 false m_is_phase) : FnOk P w K mg base (L2.CX P w) 5 f fd ["matrix", "value"] (spX K mg 2 false m_is_schedule) :=
  kfn (fb := b_is_schedule) F sc_is_schedule fun cdv A outer s H E hr tk po =>
  (mss_cons (kcallS h_check_matrix mkF_len hr tk (kacons (kvar 0) ma_nil))
  (mss_cons (ms_if (PW.pt (mw_or (mt_not (ktval (kisi kit_list Z.isinstance (kvar 1) (ktyN Z.list bb_list)))) (mw_or1 (mt_not (ktval (kcallB (cr_all rfl) (ok_all _) Z.all bb_all (kacons (MF.me (klc [("one", 2)] sc_is_schedule.nd (mi_seq (kvar 1)) (fun _ _ _ _ _ => (kname 2 sc_is_schedule.nd)) (fun _ _ _ _ _ => mts_nil) (fun _ _ _ _ _ => (kcall h_is_phase mkF_len hr (kacons (kvar 2) (kacons (kcallB cr_len (ok_len _) Z.len bb_len (kacons (kvar 0) ma_nil)) ma_nil)))))) ma_nil)))))))
  (mss_one (ms_ret me_bl))
  mss_nil)
  (mss_cons (kfor (.tp [3, 4]) po (mi_seq (kvar 1)) (ktup2 3 4 sc_is_schedule.nd)
  (mss_one (kset 0 sc_is_schedule.nd (kcall h_minus mkF_len hr (kacons (kvar 0) (kacons (kvar 3) (kacons (kvar 4) ma_nil)))))))
  (mss_one (ms_ret (kcallB (cr_all rfl) (ok_all _) Z.all bb_all (kacons (MF.me (klc [("row", 5)] sc_is_schedule.nd (mi_seq (kvar 0)) (fun _ _ _ _ _ => (kname 5 sc_is_schedule.nd)) (fun _ _ _ _ _ => mts_nil) (fun _ _ _ _ _ => (me_and (kcmp (op_eqD hr.units) (ok_eq _) (kcallB (cr_maxA rfl) (ok_max _) Z.max bb_max (kacons (kvar 5) ma_nil)) me_int) (me_one (kcmp (op_eqD hr.units) (ok_eq _) (kcallB (cr_minA rfl) (ok_min _) Z.min bb_min (kacons (kvar 5) ma_nil)) me_int)))))) ma_nil)))))))
theorem sc_P___init__ : FnScope ["self", "matrix"] ["self", "matrix"] (defScope (mtd 0)) := fnSc
theorem p_P___init__ (F : FunD K "__init__" "Planner.__init__" (defArgs (mtd 0)) (defBody (mtd 0)) (defScope (mtd 0)) [] [] f fd) (Z : Bt mg) (PC : PlC K mg) (h_check_matrix : Has P w K mg base "check_matrix" 4 1 false m_check_matrix) : FnOk P w K mg base (L2.CX P w) 5 f fd ["self", "matrix"] (spI K mg m_check_matrix) :=
  kfnI (fr := false) F sc_P___init__ PC fun cdv A outer s H E hr tk =>
  (pss_cons (kpcallX h_check_matrix hr tk (kpacons (kpv 1) pa_nil)) (pss_cons (kpfld (kpv 0) (kpv 1)) (pss_cons (kpfld (kpv 0) (pe_lst pa_nil)) (pss_one (kpfld (kpv 0) pe_int)))))
theorem sc_check_rooms : FnScope ["matrix", "rooms"] ["matrix", "rooms"] (defScope (top 72)) := fnSc
theorem p_check_rooms (F : FunD K "check_rooms" "check_rooms" (defArgs (top 72)) (defBody (top 72)) (defScope (top 72)) [] [] f fd) (Z : Bt mg) (h_check_matrix : Has P w K mg base "check_matrix" 4 1 false m_check_matrix) (h_is_integer : Has P w K mg base "is_integer" 1 3 false m_is_integer) (X_InvalidRooms : ExF K mg "InvalidRooms") : FnOk P w K mg base (L2.CX P w) 5 f fd ["matrix", "rooms"] (spX K mg 2 false m_check_rooms) :=
  kfn (fb := b_check_rooms) F sc_check_rooms fun cdv A outer s H E hr tk po =>
  (mss_cons (kcallS h_check_matrix mkF_len hr tk (kacons (kvar 0) ma_nil))
  (mss_one (ms_if (mt_not (ktval (kcall h_is_integer mkF_len hr (kacons (kvar 1) (kacons me_int (kacons me_int ma_nil))))))
  (mss_one (kraise X_InvalidRooms tk))
  mss_nil)))
theorem sc_slots_for : FnScope ["matrix", "rooms", "total", "row"] ["matrix", "rooms"] (defScope (top 73)) := fnSc
theorem p_slots_for (F : FunD K "slots_for" "slots_for" (defArgs (top 73)) (defBody (top 73)) (defScope (top 73)) [] [] f fd) (Z : Bt mg) (h_degree_of : Has P w K mg base "degree_of" 2 1 false m_degree_of) : FnOk P w K mg base (L2.CX P w) 3 f fd ["matrix", "rooms"] (spX K mg 2 false m_slots_for) :=
  kfn (fb := b_slots_for) F sc_slots_for fun cdv A outer s H E hr tk po =>
  (mss_cons (kset 2 sc_slots_for.nd (kcallB (cr_sumA rfl) (ok_sum _) Z.sum bb_sum (kacons (MF.me (klc [("row", 3)] sc_slots_for.nd (mi_seq (kvar 0)) (fun _ _ _ _ _ => (kname 3 sc_slots_for.nd)) (fun _ _ _ _ _ => mts_nil) (fun _ _ _ _ _ => (kcallB (cr_sumA rfl) (ok_sum _) Z.sum bb_sum (kacons (kvar 3) ma_nil))))) ma_nil)))
  (mss_one (ms_ret (kcallB (call_max2 rfl) (ok_max2 _) Z.max bb_max (kacons (kcall h_degree_of mkF_len hr (kacons (kvar 0) ma_nil)) (kacons (me_op op_fdiv (ok_fdiv _) (me_op op_sub (ok_sub _) (me_op op_addA (ok_add _) (kvar 2) (kvar 1)) me_int) (kvar 1)) ma_nil))))))
theorem sc_least_slots : FnScope ["matrix", "rooms"] ["matrix", "rooms"] (defScope (top 74)) := fnSc
theorem p_least_slots (F : FunD K "least_slots" "least_slots" (defArgs (top 74)) (defBody (top 74)) (defScope (top 74)) [] [] f fd) (Z : Bt mg) (h_check_rooms : Has P w K mg base "check_rooms" 5 2 false m_check_rooms) (h_slots_for : Has P w K mg base "slots_for" 3 2 false m_slots_for) : FnOk P w K mg base (L2.CX P w) 6 f fd ["matrix", "rooms"] (spX K mg 2 false m_least_slots) :=
  kfn (fb := b_least_slots) F sc_least_slots fun cdv A outer s H E hr tk po =>
  (mss_cons (kcallS h_check_rooms mkF_len hr tk (kacons (kvar 0) (kacons (kvar 1) ma_nil)))
  (mss_one (ms_ret (kcall h_slots_for mkF_len hr (kacons (kvar 0) (kacons (kvar 1) ma_nil))))))
theorem sc_exchanged : FnScope ["slots", "one", "other", "start", "path", "line", "both", "row", "column", "position", "first", "second", "moved"] ["slots", "one", "other", "start"] (defScope (top 75)) := fnSc
theorem p_exchanged (F : FunD K "exchanged" "exchanged" (defArgs (top 75)) (defBody (top 75)) (defScope (top 75)) [] [] f fd) (Z : Bt mg) : FnOk P w K mg base (L2.CX P w) 1 f fd ["slots", "one", "other", "start"] (spX K mg 4 false m_exchanged) :=
  kfn (fb := b_exchanged) F sc_exchanged fun cdv A outer s H E hr tk po =>
  (mss_cons (ms_parOC (kpairT 4 5 sc_exchanged.nd mono_oo (kpa2 (mf_lst (kacons (kvar 3) ma_nil)) (mf_lst (kacons (kvar 3) ma_nil)))))
  (mss_cons (ksetO 6 sc_exchanged.nd (mf_v [true, true, true] (mf_cat (kix ix_seq (ok_ix _) (kvar 0) (kvar 1)) (kix ix_seq (ok_ix _) (kvar 0) (kvar 2)))))
  (mss_cons (ms_while (N := 1000) po (mt_v [false, false, false, false, false, true] (ktcmp (op_neD hr.units) (ok_ne _) (kvar 5) (me_lst ma_nil)))
  (mss_cons (ktgt (ktup2 7 8 sc_exchanged.nd) (me_popC (kpop (kpv 5))))
  (mss_one (ms_frz (i := 6) (kfor (.nm 9) po (mi_seq (kvar 6)) (kname 9 sc_exchanged.nd)
  (mss_one (ms_if (PW.pt (mw_and (ktcmp (op_notInA hr.u65) (ok_notIn _) (kvar 9) (kvar 4)) (mw_and1 (PW.pt (mw_or (ktcmp (op_eqD hr.units) (ok_eq _) (kix ix_seq (ok_ix _) (kvar 9) me_int) (kvar 7)) (mw_or1 (ktcmp (op_eqD hr.units) (ok_eq _) (kix ix_seq (ok_ix _) (kvar 9) me_int) (kvar 8))))))))
  (mss_cons (ms_app (kappend 4 (kpv 4) (kvar 9)))
  (mss_one (ms_appC (kappend 5 (kpv 5) (kvar 9)))))
  mss_nil)))))))
  (mss_cons (ms_own (ps_vF [true, true, false, false, true] (ksetLc 10 [("position", 9)] sc_exchanged.nd (mi_seq (kix ix_seq (ok_ix _) (kvar 0) (kvar 1))) (fun _ _ _ _ _ => (kname 9 sc_exchanged.nd)) (fun _ _ _ _ _ => (mts_one (ktcmp (op_notInA hr.u65) (ok_notIn _) (kvar 9) (kvar 4)))) (fun _ _ _ _ _ => (kvar 9)))) rfl)
  (mss_cons (ms_own (ps_vF [true, false, true, false, true] (ksetLc 11 [("position", 9)] sc_exchanged.nd (mi_seq (kix ix_seq (ok_ix _) (kvar 0) (kvar 2))) (fun _ _ _ _ _ => (kname 9 sc_exchanged.nd)) (fun _ _ _ _ _ => (mts_one (ktcmp (op_notInA hr.u65) (ok_notIn _) (kvar 9) (kvar 4)))) (fun _ _ _ _ _ => (kvar 9)))) rfl)
  (mss_cons (ms_own (ps_vF [true, true, false, false, true] (ksetLc 12 [("position", 9)] sc_exchanged.nd (mi_seq (kix ix_seq (ok_ix _) (kvar 0) (kvar 1))) (fun _ _ _ _ _ => (kname 9 sc_exchanged.nd)) (fun _ _ _ _ _ => (mts_one (ktcmp (op_inA hr.u65) (ok_in _) (kvar 9) (kvar 4)))) (fun _ _ _ _ _ => (kvar 9)))) rfl)
  (mss_cons (ms_rowPut (ms := [true, true, true, false, true, false, false, false, false, false, true]) (kasg (mf_cat (kvar 10) (MF.me (klc [("position", 9)] sc_exchanged.nd (mi_seq (kix ix_seq (ok_ix _) (kvar 0) (kvar 2))) (fun _ _ _ _ _ => (kname 9 sc_exchanged.nd)) (fun _ _ _ _ _ => (mts_one (ktcmp (op_inA hr.u65) (ok_in _) (kvar 9) (kvar 4)))) (fun _ _ _ _ _ => (kvar 9))))) (kgsub (kpv 0) (kvar 1) set_list)))
  (mss_one (ms_rowPut (ms := [false, false, true, false, false, false, false, false, false, false, false, true, true]) (kasg (mf_cat (kvar 11) (kvar 12)) (kgsub (kpv 0) (kvar 2) set_list)))))))))))
theorem sc_placed : FnScope ["slots", "row", "column", "free", "at", "slot", "one", "open_at", "start"] ["slots", "row", "column"] (defScope (top 76)) := fnSc
theorem p_placed (F : FunD K "placed" "placed" (defArgs (top 76)) (defBody (top 76)) (defScope (top 76)) [] [] f fd) (Z : Bt mg) (h_exchanged : Has P w K mg base "exchanged" 1 4 false m_exchanged) : FnOk P w K mg base (L2.CX P w) 2 f fd ["slots", "row", "column"] (spX K mg 3 false m_placed) :=
  kfn (fb := b_placed) F sc_placed fun cdv A outer s H E hr tk po =>
  (mss_cons (kset 3 sc_placed.nd (me_v [true, true] (kix ix_seq (ok_ix _) (MF.me (klc [("at", 4), ("slot", 5)] sc_placed.nd (kenum Z.enumerate (kacons (kvar 0) ma_nil)) (fun _ _ _ _ _ => (ktup2 4 5 sc_placed.nd)) (fun _ _ _ _ _ => (mts_one (ktcmp (op_notInA hr.u65) (ok_notIn _) (kvar 1) (MF.me (klc [("one", 6)] sc_placed.nd (mi_seq (kvar 5)) (fun _ _ _ _ _ => (kname 6 sc_placed.nd)) (fun _ _ _ _ _ => mts_nil) (fun _ _ _ _ _ => (kix ix_seq (ok_ix _) (kvar 6) me_int))))))) (fun _ _ _ _ _ => (kvar 4)))) me_int)))
  (mss_cons (kset 7 sc_placed.nd (me_v [true, false, true] (kix ix_seq (ok_ix _) (MF.me (klc [("at", 4), ("slot", 5)] sc_placed.nd (kenum Z.enumerate (kacons (kvar 0) ma_nil)) (fun _ _ _ _ _ => (ktup2 4 5 sc_placed.nd)) (fun _ _ _ _ _ => (mts_one (ktcmp (op_notInA hr.u65) (ok_notIn _) (kvar 2) (MF.me (klc [("one", 6)] sc_placed.nd (mi_seq (kvar 5)) (fun _ _ _ _ _ => (kname 6 sc_placed.nd)) (fun _ _ _ _ _ => mts_nil) (fun _ _ _ _ _ => (kix ix_seq (ok_ix _) (kvar 6) me_int))))))) (fun _ _ _ _ _ => (kvar 4)))) me_int)))
  (mss_cons (ms_if (ktcmp (op_neD hr.units) (ok_ne _) (kvar 3) (kvar 7))
  (mss_cons (ms_own (ps_vF [true, false, true, true] (ksetLc 8 [("one", 6)] sc_placed.nd (mi_seq (kix ix_seq (ok_ix _) (kvar 0) (kvar 3))) (fun _ _ _ _ _ => (kname 6 sc_placed.nd)) (fun _ _ _ _ _ => (mts_one (ktcmp (op_eqD hr.units) (ok_eq _) (kix ix_seq (ok_ix _) (kvar 6) me_int) (kvar 2)))) (fun _ _ _ _ _ => (kvar 6)))) rfl)
  (mss_one (ms_if (ktcmp (op_neD hr.units) (ok_ne _) (kvar 8) (me_lst ma_nil))
  (mss_one (kcallC h_exchanged mkF_len hr tk (kacons (kvar 0) (kacons (kvar 3) (kacons (kvar 7) (kacons (kix ix_seq (ok_ix _) (kvar 8) me_int) ma_nil))))))
  mss_nil)))
  mss_nil)
  (mss_one (ms_rowApp (ms := [false, true, true, true]) (kpappend (kpix ix_list (kpv 0) (kvar 3)) (me_tup (kacons (kvar 1) (kacons (kvar 2) ma_nil)))))))))
theorem sc_levelled : FnScope ["slots", "rooms", "sizes", "slot", "big", "small", "start", "before"] ["slots", "rooms"] (defScope (top 77)) := fnSc
theorem p_levelled (F : FunD K "levelled" "levelled" (defArgs (top 77)) (defBody (top 77)) (defScope (top 77)) [] [] f fd) (Z : Bt mg) (h_exchanged : Has P w K mg base "exchanged" 1 4 false m_exchanged) : FnOk P w K mg base (L2.CX P w) 2 f fd ["slots", "rooms"] (spX K mg 2 false m_levelled) :=
  kfn (fb := b_levelled) F sc_levelled fun cdv A outer s H E hr tk po =>
  (mss_cons (ms_own (ps_vF [true] (ksetLc 2 [("slot", 3)] sc_levelled.nd (mi_seq (kvar 0)) (fun _ _ _ _ _ => (kname 3 sc_levelled.nd)) (fun _ _ _ _ _ => mts_nil) (fun _ _ _ _ _ => (kcallB cr_len (ok_len _) Z.len bb_len (kacons (kvar 3) ma_nil))))) rfl)
  (mss_one (ms_while (N := 1000) po (ktcmp op_gt (ok_cmp _) (kcallB (cr_maxA rfl) (ok_max _) Z.max bb_max (kacons (kvar 2) ma_nil)) (kvar 1))
  (mss_cons (ms_par (kparP 4 5 sc_levelled.nd (kacons (me_index (kbm1 PySem.F.slot_list_index PySem.F.type_list_index mt_index (kvar 2) (kcallB (cr_maxA rfl) (ok_max _) Z.max bb_max (kacons (kvar 2) ma_nil)))) (kacons (me_index (kbm1 PySem.F.slot_list_index PySem.F.type_list_index mt_index (kvar 2) (kcallB (cr_minA rfl) (ok_min _) Z.min bb_min (kacons (kvar 2) ma_nil)))) ma_nil))) rfl)
  (mss_cons (kfor (.nm 6) po (mi_seq (MF.me (mf_v [true, false, false, false, true] (kflist Z.list (kacons (kix ix_seq (ok_ix _) (kvar 0) (kvar 4)) ma_nil))))) (kname 6 sc_levelled.nd)
  (mss_cons (ms_ownV2 (ms := [true, false, false, false, true, true]) (kpset 7 sc_levelled.nd (pe_lst (kpacons (kflist Z.list (kacons (kix ix_seq (ok_ix _) (kvar 0) (kvar 4)) ma_nil)) (kpacons (kflist Z.list (kacons (kix ix_seq (ok_ix _) (kvar 0) (kvar 5)) ma_nil)) pa_nil)))))
  (mss_cons (kcallC h_exchanged mkF_len hr tk (kacons (kvar 0) (kacons (kvar 4) (kacons (kvar 5) (kacons (kvar 6) ma_nil)))))
  (mss_cons (ms_if (mt_v [true, false, false, false, true, false, false, true] (ktcmp (op_eqD hr.units) (ok_eq _) (kcallB cr_len (ok_len _) Z.len bb_len (kacons (kix ix_seq (ok_ix _) (kvar 0) (kvar 4)) ma_nil)) (me_op op_sub (ok_sub _) (kcallB cr_len (ok_len _) Z.len bb_len (kacons (kix ix_seq (ok_ix _) (kvar 7) me_int) ma_nil)) me_int)))
  (mss_one ms_break)
  mss_nil)
  (mss_one (krow2 (kpv 7) (kpgs (kgsub (kpv 0) (kpv 4) set_list) (kpgs (kgsub (kpv 0) (kpv 5) set_list) pgs_nil))))))))
  (mss_one (ms_own (ps_vF [true] (ksetLc 2 [("slot", 3)] sc_levelled.nd (mi_seq (kvar 0)) (fun _ _ _ _ _ => (kname 3 sc_levelled.nd)) (fun _ _ _ _ _ => mts_nil) (fun _ _ _ _ _ => (kcallB cr_len (ok_len _) Z.len bb_len (kacons (kvar 3) ma_nil))))) rfl)))))))
theorem sc_timetable : FnScope ["matrix", "rooms", "slots", "again", "i", "row", "j", "entry", "slot"] ["matrix", "rooms"] (defScope (top 78)) := fnSc
theorem p_timetable (F : FunD K "timetable" "timetable" (defArgs (top 78)) (defBody (top 78)) (defScope (top 78)) [] [] f fd) (Z : Bt mg) (h_check_rooms : Has P w K mg base "check_rooms" 5 2 false m_check_rooms) (h_levelled : Has P w K mg base "levelled" 2 2 false m_levelled) (h_slots_for : Has P w K mg base "slots_for" 3 2 false m_slots_for) (h_placed : Has P w K mg base "placed" 2 3 false m_placed) : FnOk P w K mg base (L2.CX P w) 6 f fd ["matrix", "rooms"] (spX K mg 2 false m_timetable) :=
  kfn (fb := b_timetable) F sc_timetable fun cdv A outer s H E hr tk po =>
  (mss_cons (kcallS h_check_rooms mkF_len hr tk (kacons (kvar 0) (kacons (kvar 1) ma_nil)))
  (mss_cons (ms_newR (ksetLc2 2 [("again", 3)] sc_timetable.nd (krange1 Z.range (kacons (kcall h_slots_for mkF_len hr (kacons (kvar 0) (kacons (kvar 1) ma_nil))) ma_nil)) (fun _ _ _ _ _ => (kname 3 sc_timetable.nd)) (fun _ _ _ _ _ => (mf_lst ma_nil))) rfl)
  (mss_cons (kfor (.tp [4, 5]) po (kenum Z.enumerate (kacons (kvar 0) ma_nil)) (ktup2 4 5 sc_timetable.nd)
  (mss_one (kfor (.tp [6, 7]) po (kenum Z.enumerate (kacons (kvar 5) ma_nil)) (ktup2 6 7 sc_timetable.nd)
  (mss_one (kfor (.nm 3) po (krange1 Z.range (kacons (kvar 7) ma_nil)) (kname 3 sc_timetable.nd)
  (mss_one (kcallC h_placed mkF_len hr tk (kacons (kvar 2) (kacons (kvar 4) (kacons (kvar 6) ma_nil))))))))))
  (mss_cons (ms_if (mt_v [false, false, true] (ktcmp (op_neD hr.units) (ok_ne _) (kvar 2) (me_lst ma_nil)))
  (mss_one (kcallC h_levelled mkF_len hr tk (kacons (kvar 2) (kacons (kvar 1) ma_nil))))
  mss_nil)
  (mss_one (ms_retF (mf_v [false, false, true] (klc [("slot", 8)] sc_timetable.nd (mi_seq (kvar 2)) (fun _ _ _ _ _ => (kname 8 sc_timetable.nd)) (fun _ _ _ _ _ => mts_nil) (fun _ _ _ _ _ => (kcallTy call_tuple_of (ok_tuple _) Z.tuple bb_tuple (kacons (kcallB (cr_sortD hr.units) (ok_sortedK _) Z.sorted bb_sorted (kacons (kvar 8) ma_nil)) ma_nil)))))))))))
theorem sc_is_timetable : FnScope ["matrix", "rooms", "value", "slot", "row"] ["matrix", "rooms", "value"] (defScope (top 79)) := fnSc
theorem p_is_timetable (F : FunD K "is_timetable" "is_timetable" (defArgs (top 79)) (defBody (top 79)) (defScope (top 79)) [] [] f fd) (Z : Bt mg) (h_check_rooms : Has P w K mg base "check_rooms" 5 2 false m_check_rooms) (h_minus : Has P w K mg base "minus" 1 3 false m_minus) (h_are_positions : Has P w K mg base "are_positions" 2 2 false m_are_positions) : FnOk P w K mg base (L2.CX P w) 6 f fd ["matrix", "rooms", "value"] (spX K mg 3 false m_is_timetable) :=
  kfn (fb := b_is_timetable) F sc_is_timetable fun cdv A outer s H E hr tk po =>
  (mss_cons (kcallS h_check_rooms mkF_len hr tk (kacons (kvar 0) (kacons (kvar 1) ma_nil)))
  (mss_cons (ms_if (PW.pt (mw_or (mt_not (ktval (kisi kit_list Z.isinstance (kvar 2) (ktyN Z.list bb_list)))) (mw_or1 (mt_not (ktval (kcallB (cr_all rfl) (ok_all _) Z.all bb_all (kacons (MF.me (klc [("slot", 3)] sc_is_timetable.nd (mi_seq (kvar 2)) (fun _ _ _ _ _ => (kname 3 sc_is_timetable.nd)) (fun _ _ _ _ _ => mts_nil) (fun _ _ _ _ _ => (kcall h_are_positions mkF_len hr (kacons (kvar 3) (kacons (kcallB cr_len (ok_len _) Z.len bb_len (kacons (kvar 0) ma_nil)) ma_nil)))))) ma_nil)))))))
  (mss_one (ms_ret me_bl))
  mss_nil)
  (mss_cons (ms_if (ktval (kcallB (cr_any rfl) (ok_any _) Z.any bb_any (kacons (MF.me (klc [("slot", 3)] sc_is_timetable.nd (mi_seq (kvar 2)) (fun _ _ _ _ _ => (kname 3 sc_is_timetable.nd)) (fun _ _ _ _ _ => mts_nil) (fun _ _ _ _ _ => (kcmp op_gt (ok_cmp _) (kcallB cr_len (ok_len _) Z.len bb_len (kacons (kvar 3) ma_nil)) (kvar 1))))) ma_nil)))
  (mss_one (ms_ret me_bl))
  mss_nil)
  (mss_cons (kfor (.nm 3) po (mi_seq (kvar 2)) (kname 3 sc_is_timetable.nd)
  (mss_one (kset 0 sc_is_timetable.nd (kcall h_minus mkF_len hr (kacons (kvar 0) (kacons me_int (kacons (kvar 3) ma_nil)))))))
  (mss_one (ms_ret (kcallB (cr_all rfl) (ok_all _) Z.all bb_all (kacons (MF.me (klc [("row", 4)] sc_is_timetable.nd (mi_seq (kvar 0)) (fun _ _ _ _ _ => (kname 4 sc_is_timetable.nd)) (fun _ _ _ _ _ => mts_nil) (fun _ _ _ _ _ => (me_and (kcmp (op_eqD hr.units) (ok_eq _) (kcallB (cr_maxA rfl) (ok_max _) Z.max bb_max (kacons (kvar 4) ma_nil)) me_int) (me_one (kcmp (op_eqD hr.units) (ok_eq _) (kcallB (cr_minA rfl) (ok_min _) Z.min bb_min (kacons (kvar 4) ma_nil)) me_int)))))) ma_nil))))))))
theorem sc_worth : FnScope ["matrix", "permutation", "count", "one"] ["matrix", "permutation"] (defScope (top 81)) := fnSc
theorem p_worth (F : FunD K "worth" "worth" (defArgs (top 81)) (defBody (top 81)) (defScope (top 81)) [] [] f fd) (Z : Bt mg) (h_check_matrix : Has P w K mg base "check_matrix" 4 1 false m_check_matrix) (h_worth_of : Has P w K mg base "worth_of" 1 2 false m_worth_of) (h_is_integer : Has P w K mg base "is_integer" 1 3 false m_is_integer) (X_InvalidPermutation : ExF K mg "InvalidPermutation") : FnOk P w K mg base (L2.CX P w) 5 f fd ["matrix", "permutation"] (spX K mg 2 false m_worth) :=
  kfn (fb := b_worth) F sc_worth fun cdv A outer s H E hr tk po =>
  (mss_cons (kcallS h_check_matrix mkF_len hr tk (kacons (kvar 0) ma_nil))
  (mss_cons (kset 2 sc_worth.nd (kcallB cr_len (ok_len _) Z.len bb_len (kacons (kvar 0) ma_nil)))
  (mss_cons (ms_if (PW.pt (mw_or (mt_not (ktval (kisi kit_tuple Z.isinstance (kvar 1) (ktyN Z.tuple bb_tuple)))) (mw_or1 (mt_not (ktval (kcallB (cr_all rfl) (ok_all _) Z.all bb_all (kacons (MF.me (klc [("one", 3)] sc_worth.nd (mi_seq (kvar 1)) (fun _ _ _ _ _ => (kname 3 sc_worth.nd)) (fun _ _ _ _ _ => mts_nil) (fun _ _ _ _ _ => (kcall h_is_integer mkF_len hr (kacons (kvar 3) (kacons me_int (kacons (me_op op_sub (ok_sub _) (kvar 2) me_int) ma_nil))))))) ma_nil)))))))
  (mss_one (kraise X_InvalidPermutation tk))
  mss_nil)
  (mss_cons (ms_if (ktcmp (op_neD hr.units) (ok_ne _) (kcallB (cr_sortD hr.units) (ok_sortedK _) Z.sorted bb_sorted (kacons (kvar 1) ma_nil)) (MF.me (klistRg Z.list Z.range (kvar 2))))
  (mss_one (kraise X_InvalidPermutation tk))
  mss_nil)
  (mss_one (ms_ret (kcall h_worth_of mkF_len hr (kacons (kvar 0) (kacons (kvar 1) ma_nil)))))))))
theorem sc_best_worth : FnScope ["matrix", "order"] ["matrix"] (defScope (top 82)) := fnSc
theorem p_best_worth (F : FunD K "best_worth" "best_worth" (defArgs (top 82)) (defBody (top 82)) (defScope (top 82)) [] [] f fd) (Z : Bt mg) (h_worth_of : Has P w K mg base "worth_of" 1 2 false m_worth_of) (h_orders : Has P w K mg base "orders" 1 1 false m_orders) : FnOk P w K mg base (L2.CX P w) 2 f fd ["matrix"] (spX K mg 1 false m_best_worth) :=
  kfn (fb := b_best_worth) F sc_best_worth fun cdv A outer s H E hr tk po =>
  (mss_one (ms_ret (kcallB (cr_maxA rfl) (ok_max _) Z.max bb_max (kacons (MF.me (klc [("order", 1)] sc_best_worth.nd (mi_seq (kcall h_orders mkF_len hr (kacons (kcallB cr_len (ok_len _) Z.len bb_len (kacons (kvar 0) ma_nil)) ma_nil))) (fun _ _ _ _ _ => (kname 1 sc_best_worth.nd)) (fun _ _ _ _ _ => mts_nil) (fun _ _ _ _ _ => (kcall h_worth_of mkF_len hr (kacons (kvar 0) (kacons (kvar 1) ma_nil)))))) ma_nil))))
theorem sc_best_permutation : FnScope ["matrix", "best", "order"] ["matrix"] (defScope (top 83)) := fnSc
theorem p_best_permutation (F : FunD K "best_permutation" "best_permutation" (defArgs (top 83)) (defBody (top 83)) (defScope (top 83)) [] [] f fd) (Z : Bt mg) (h_check_matrix : Has P w K mg base "check_matrix" 4 1 false m_check_matrix) (h_best_worth : Has P w K mg base "best_worth" 2 1 false m_best_worth) (h_orders : Has P w K mg base "orders" 1 1 false m_orders) (h_worth_of : Has P w K mg base "worth_of" 1 2 false m_worth_of) : FnOk P w K mg base (L2.CX P w) 5 f fd ["matrix"] (spX K mg 1 false m_best_permutation) :=
  kfn (fb := b_best_permutation) F sc_best_permutation fun cdv A outer s H E hr tk po =>
  (mss_cons (kcallS h_check_matrix mkF_len hr tk (kacons (kvar 0) ma_nil))
  (mss_cons (kset 1 sc_best_permutation.nd (kcall h_best_worth mkF_len hr (kacons (kvar 0) ma_nil)))
  (mss_one (ms_ret (kix ix_seq (ok_ix _) (MF.me (klc [("order", 2)] sc_best_permutation.nd (mi_seq (kcall h_orders mkF_len hr (kacons (kcallB cr_len (ok_len _) Z.len bb_len (kacons (kvar 0) ma_nil)) ma_nil))) (fun _ _ _ _ _ => (kname 2 sc_best_permutation.nd)) (fun _ _ _ _ _ => (mts_one (ktcmp (op_eqD hr.units) (ok_eq _) (kcall h_worth_of mkF_len hr (kacons (kvar 0) (kacons (kvar 2) ma_nil))) (kvar 1)))) (fun _ _ _ _ _ => (kvar 2)))) me_int)))))
theorem sc_worth_block : FnScope ["matrix"] ["matrix"] (defScope (top 84)) := fnSc
theorem p_worth_block (F : FunD K "worth_block" "worth_block" (defArgs (top 84)) (defBody (top 84)) (defScope (top 84)) [] [] f fd) (Z : Bt mg) (h_check_matrix : Has P w K mg base "check_matrix" 4 1 false m_check_matrix) (h_free_lines : Has P w K mg base "free_lines" 9 2 false m_free_lines) (h_best_worth : Has P w K mg base "best_worth" 2 1 false m_best_worth) : FnOk P w K mg base (L2.CX P w) 10 f fd ["matrix"] (spX K mg 1 false m_worth_block) :=
  kfn (fb := b_worth_block) F sc_worth_block fun cdv A outer s H E hr tk po =>
  (mss_cons (kcallS h_check_matrix mkF_len hr tk (kacons (kvar 0) ma_nil))
  (mss_one (ms_ret (kcall h_free_lines mkF_len hr (kacons (kvar 0) (kacons (kcall h_best_worth mkF_len hr (kacons (kvar 0) ma_nil)) ma_nil))))))
theorem sc_is_worth_block : FnScope ["matrix", "value"] ["matrix", "value"] (defScope (top 85)) := fnSc
theorem p_is_worth_block (F : FunD K "is_worth_block" "is_worth_block" (defArgs (top 85)) (defBody (top 85)) (defScope (top 85)) [] [] f fd) (Z : Bt mg) (h_check_matrix : Has P w K mg base "check_matrix" 4 1 false m_check_matrix) (h_at_most : Has P w K mg base "at_most" 3 3 false m_at_most) (h_best_worth : Has P w K mg base "best_worth" 2 1 false m_best_worth) : FnOk P w K mg base (L2.CX P w) 5 f fd ["matrix", "value"] (spX K mg 2 false m_is_worth_block) :=
  kfn (fb := b_is_worth_block) F sc_is_worth_block fun cdv A outer s H E hr tk po =>
  (mss_cons (kcallS h_check_matrix mkF_len hr tk (kacons (kvar 0) ma_nil))
  (mss_one (ms_ret (kcall h_at_most mkF_len hr (kacons (kvar 0) (kacons (kvar 1) (kacons (kcall h_best_worth mkF_len hr (kacons (kvar 0) ma_nil)) ma_nil)))))))
theorem sc__law_cell_at : FnScope ["script", "k", "spare", "again"] ["script", "k"] (defScope (top 87)) := fnSc
theorem p__law_cell_at (F : FunD K "_law_cell_at" "_law_cell_at" (defArgs (top 87)) (defBody (top 87)) (defScope (top 87)) [] [] f fd) (Z : Bt mg) : FnOk P w K mg base (L2.CX P w) 1 f fd ["script", "k"] (spX K mg 2 false m__law_cell_at) :=
  kfn (fb := b__law_cell_at) F sc__law_cell_at fun cdv A outer s H E hr tk po =>
  (mss_cons (ms_if (ktcmp op_lt (ok_cmp _) (kvar 1) (kcallB cr_len (ok_lenS _) Z.len bb_len (kacons (kvar 0) ma_nil)))
  (mss_one (ms_ret (kix ix_seq (ok_ixS _) (kvar 0) (kvar 1))))
  mss_nil)
  (mss_cons (ms_if (ktcmp (op_eqD hr.units) (ok_eqS _) (kvar 0) (me_lst ma_nil))
  (mss_one (ms_ret me_int))
  mss_nil)
  (mss_cons (kset 2 sc__law_cell_at.nd (kix ix_seq (ok_ixS _) (kvar 0) (me_op op_mod (ok_mod _) (kvar 1) (kcallB cr_len (ok_lenS _) Z.len bb_len (kacons (kvar 0) ma_nil)))))
  (mss_cons (kfor (.nm 3) po (krange1 Z.range (kacons (kcallB (call_min2 rfl) (ok_min2 _) Z.min bb_min (kacons (me_op op_fdiv (ok_fdiv _) (kvar 1) (kcallB cr_len (ok_lenS _) Z.len bb_len (kacons (kvar 0) ma_nil))) (kacons me_int ma_nil))) ma_nil)) (kname 3 sc__law_cell_at.nd)
  (mss_one (kset 2 sc__law_cell_at.nd (me_op op_fdiv (ok_fdiv _) (kvar 2) me_int))))
  (mss_one (ms_ret (me_op op_addA (ok_add _) (me_op op_addA (ok_add _) (me_op op_mulA (ok_mul _) (kix ix_seq (ok_ixS _) (kvar 0) (me_op op_mod (ok_mod _) (kvar 1) (kcallB cr_len (ok_lenS _) Z.len bb_len (kacons (kvar 0) ma_nil)))) me_int) (kvar 1)) (me_op op_mulA (ok_mul _) (kvar 2) me_int))))))))
theorem sc__law_mixed : FnScope ["script", "k", "many", "spun"] ["script", "k", "many"] (defScope (top 88)) := fnSc
theorem p__law_mixed (F : FunD K "_law_mixed" "_law_mixed" (defArgs (top 88)) (defBody (top 88)) (defScope (top 88)) [] [] f fd) (Z : Bt mg) (h__law_cell_at : Has P w K mg base "_law_cell_at" 1 2 false m__law_cell_at) : FnOk P w K mg base (L2.CX P w) 2 f fd ["script", "k", "many"] (spX K mg 3 false m__law_mixed) :=
  kfn (fb := b__law_mixed) F sc__law_mixed fun cdv A outer s H E hr tk po =>
  (mss_cons (kset 3 sc__law_mixed.nd (me_op op_mod (ok_mod _) (me_op op_addA (ok_add _) (me_op op_addA (ok_add _) (me_op op_mulA (ok_mul _) (kcall h__law_cell_at mkF_len hr (kacons (kvar 0) (kacons (kvar 1) ma_nil))) me_int) (me_op op_mulA (ok_mul _) me_int (kvar 1))) me_int) me_int))
  (mss_one (ms_ret (me_op op_mod (ok_mod _) (me_op op_mod (ok_mod _) (me_op op_mod (ok_mod _) (me_op op_pow (ok_pow _) (kvar 3) me_int) me_int) me_int) (kvar 2)))))
theorem sc__law_draw : FnScope ["script", "town", "many"] ["script", "town", "many"] (defScope (top 89)) := fnSc
theorem p__law_draw (F : FunD K "_law_draw" "_law_draw" (defArgs (top 89)) (defBody (top 89)) (defScope (top 89)) [] [] f fd) (Z : Bt mg) (h__law_mixed : Has P w K mg base "_law_mixed" 2 3 false m__law_mixed) : FnOk P w K mg base (L2.CX P w) 3 f fd ["script", "town", "many"] (spX K mg 3 false m__law_draw) :=
  kfn (fb := b__law_draw) F sc__law_draw fun cdv A outer s H E hr tk po =>
  (mss_cons (ktown 1 (kpv 1))
  (mss_one (ms_ret (kcall h__law_mixed mkF_len hr (kacons (kvar 0) (kacons (klenTown 1 Z.len (kpv 1)) (kacons (kvar 2) ma_nil)))))))
theorem sc__law_which : FnScope ["e", "own"] ["e"] (defScope (top 90)) := fnSc
theorem p__law_which (F : FunD K "_law_which" "_law_which" (defArgs (top 90)) (defBody (top 90)) (defScope (top 90)) [] [] f fd) (Z : Bt mg) (EA : ExAll K mg) (hve : mg "ValueError" = none) : FnE P w K mg base 1 f fd ["e"] (spW K) :=
  fnE_mk F sc__law_which (fun a cls vs H Q E h => by obtain ⟨_, _, _, _, _, rfl, _⟩ := h; rfl) fun cdv A outer s H vs Q p cls hr hz hf h => by
    obtain ⟨c, j, hc, hj, rfl, rfl, hQ⟩ := h
    exact ⟨_, (pss_cons (kpset 1 sc__law_which.nd (pe_lst (kpacons (kIsE List.mem_cons_self EA hc (by decide) hz hf Z.isinstance (kpv 0)) (kpacons (kIsE List.mem_cons_self EA hc (by decide) hz hf Z.isinstance (kpv 0)) (kpacons (kIsE List.mem_cons_self EA hc (by decide) hz hf Z.isinstance (kpv 0)) pa_nil))))) (pss_cons (kpextend (kpv 1) (pe_lst (kpacons (kIsE List.mem_cons_self EA hc (by decide) hz hf Z.isinstance (kpv 0)) (kpacons (kIsE List.mem_cons_self EA hc (by decide) hz hf Z.isinstance (kpv 0)) (kpacons (kIsE List.mem_cons_self EA hc (by decide) hz hf Z.isinstance (kpv 0)) pa_nil))))) (pss_cons (kpextend (kpv 1) (pe_lst (kpacons (kIsE List.mem_cons_self EA hc (by decide) hz hf Z.isinstance (kpv 0)) (kpacons (kIsE List.mem_cons_self EA hc (by decide) hz hf Z.isinstance (kpv 0)) (kpacons (kIsE List.mem_cons_self EA hc (by decide) hz hf Z.isinstance (kpv 0)) pa_nil))))) (pss_cons (kpextend (kpv 1) (pe_lst (kpacons (kIsE List.mem_cons_self EA hc (by decide) hz hf Z.isinstance (kpv 0)) (kpacons (kIsE List.mem_cons_self EA hc (by decide) hz hf Z.isinstance (kpv 0)) (kpacons (kIsE List.mem_cons_self EA hc (by decide) hz hf Z.isinstance (kpv 0)) pa_nil))))) (pss_cons (kpextend (kpv 1) (pe_lst (kpacons (kIsE List.mem_cons_self EA hc (by decide) hz hf Z.isinstance (kpv 0)) (kpacons (kIsE List.mem_cons_self EA hc (by decide) hz hf Z.isinstance (kpv 0)) pa_nil)))) (pss_cons (ps_if (PW.pt (pw_or (kptcmp (op_neD (unH hr)) (kbm1 PySem.F.slot_list_count PySem.F.type_list_count mt_countF (kpv 1) pe_bl) pe_int) (pw_or1 (pt_not (kptval (kIsVE List.mem_cons_self EA hc hz hf Z.isinstance hve (kpv 0))))))) (pss_one (ps_ret (pe_tup (kpacons pe_str (kpacons (pe_un un_neg pe_int) pa_nil))))) pss_nil) (pss_one (ps_ret (pe_tup (kpacons pe_str (kpacons (kbm1 PySem.F.slot_list_index PySem.F.type_list_index mt_index (kpv 1) pe_bl) pa_nil))))))))))), which_read hc hj hQ⟩
theorem sc__law_one : FnScope ["what", "own", "some", "e"] ["what", "own"] (defScope (top 91)) := fnSc
theorem p__law_one (F : FunD K "_law_one" "_law_one" (defArgs (top 91)) (defBody (top 91)) (defScope (top 91)) [] [] f fd) (Z : Bt mg) (h_P___init__ : HasI P w K mg base 5 m_check_matrix) (h_degree : Has P w K mg base "degree" 5 1 false m_degree) (h_is_even : Has P w K mg base "is_even" 5 1 false m_is_even) (h_first_permutation : Has P w K mg base "first_permutation" 5 1 false m_first_permutation) (h_block : Has P w K mg base "block" 10 1 false m_block) (h_placement : Has P w K mg base "placement" 9 1 false m_placement) (h_cover : Has P w K mg base "cover" 10 1 false m_cover) (h_permutations : Has P w K mg base "permutations" 5 1 false m_permutations) (h_count_permutations : Has P w K mg base "count_permutations" 5 1 false m_count_permutations) (h_split : Has P w K mg base "split" 6 1 false m_split) (h_fewest_parts : Has P w K mg base "fewest_parts" 15 1 false m_fewest_parts) (h_best_permutation : Has P w K mg base "best_permutation" 5 1 false m_best_permutation) (h_worth_block : Has P w K mg base "worth_block" 10 1 false m_worth_block) (h_raised : Has P w K mg base "raised" 5 1 false m_raised) (h_schedule : Has P w K mg base "schedule" 5 1 false m_schedule) (h_format_matrix : Has P w K mg base "format_matrix" 5 1 false m_format_matrix) (HW : HasW P w K mg base 1) : FnOk P w K mg base (L2.CX P w) 16 f fd ["what", "own"] (spX K mg 2 false m__law_one) :=
  kfn (fb := b__law_one) F sc__law_one fun cdv A outer s H E hr tk po =>
  (mss_one (ktryW 3 HW hr sc__law_one.nd tk fun W2 pn2 xe2 tk2 po2 =>
  (mss_cons (ms_if (ktcmp op_lt (ok_cmp _) (kvar 0) me_int)
  (kcallV (k := 10) 2 (hass_cons h_degree mkF_len (hass_cons h_is_even mkF_len (hass_cons h_first_permutation mkF_len (hass_cons h_block mkF_len (hass_cons h_placement mkF_len (hass_cons h_cover mkF_len (hass_cons h_permutations mkF_len (hass_cons h_count_permutations mkF_len hass_nil)))))))) (.cons (.cons (.cons (.cons (.cons (.cons (.cons (.cons .nil)))))))) hr tk2 sc__law_one.nd (kpv 2) (kvar 0) (kacons (kvar 1) ma_nil))
  mss_nil)
  (mss_cons (ms_if (ktcmp op_lt (ok_cmp _) (kvar 0) me_int)
  (kcallV (k := 15) 2 (hass_cons h_split mkF_len (hass_cons h_fewest_parts mkF_len (hass_cons h_best_permutation mkF_len (hass_cons h_worth_block mkF_len (hass_cons h_raised mkF_len (hass_cons h_schedule mkF_len (hass_cons h_format_matrix mkF_len hass_nil))))))) (.cons (.cons (.cons (.cons (.cons (.cons (.cons .nil))))))) hr tk2 sc__law_one.nd (kpv 2) (me_op op_sub (ok_sub _) (kvar 0) me_int) (kacons (kvar 1) ma_nil))
  mss_nil)
  (mss_one (ms_retX2 (mx_makeE h_P___init__ hr tk2 (kacons (kvar 1) ma_nil))))))))
theorem sc__law_two : FnScope ["what", "own", "other", "e"] ["what", "own", "other"] (defScope (top 92)) := fnSc
theorem p__law_two (F : FunD K "_law_two" "_law_two" (defArgs (top 92)) (defBody (top 92)) (defScope (top 92)) [] [] f fd) (Z : Bt mg) (h_is_timetable : Has P w K mg base "is_timetable" 6 3 false m_is_timetable) (h_is_block : Has P w K mg base "is_block" 5 2 false m_is_block) (h_is_placement : Has P w K mg base "is_placement" 5 2 false m_is_placement) (h_is_cover : Has P w K mg base "is_cover" 5 2 false m_is_cover) (h_is_split : Has P w K mg base "is_split" 6 2 false m_is_split) (h_is_worth_block : Has P w K mg base "is_worth_block" 5 2 false m_is_worth_block) (h_is_raised : Has P w K mg base "is_raised" 5 2 false m_is_raised) (h_is_schedule : Has P w K mg base "is_schedule" 5 2 false m_is_schedule) (h_worth : Has P w K mg base "worth" 5 2 false m_worth) (h_least_slots : Has P w K mg base "least_slots" 6 2 false m_least_slots) (h_timetable : Has P w K mg base "timetable" 6 2 false m_timetable) (HW : HasW P w K mg base 1) : FnOk P w K mg base (L2.CX P w) 7 f fd ["what", "own", "other"] (spX K mg 3 false m__law_two) :=
  kfn (fb := b__law_two) F sc__law_two fun cdv A outer s H E hr tk po =>
  (mss_one (ktryW 3 HW hr sc__law_two.nd tk fun W2 pn2 xe2 tk2 po2 =>
  (mss_cons (ms_if (ktcmp op_lt (ok_cmp _) (kvar 0) me_int)
  (mss_one (ms_retX2 (kcallAt (k := 6) (hass_cons h_is_block mkF_len (hass_cons h_is_placement mkF_len (hass_cons h_is_cover mkF_len (hass_cons h_is_split mkF_len (hass_cons h_is_worth_block mkF_len (hass_cons h_is_raised mkF_len hass_nil)))))) (.cons (.cons (.cons (.cons (.cons (.cons .nil)))))) hr tk2 (kvar 0) (kacons (kvar 1) (kacons (kvar 2) ma_nil)))))
  mss_nil)
  (mss_cons (ms_if (ktcmp op_lt (ok_cmp _) (kvar 0) me_int)
  (mss_one (ms_retX2 (kcallAt (k := 6) (hass_cons h_is_schedule mkF_len (hass_cons h_worth mkF_len (hass_cons h_least_slots mkF_len (hass_cons h_timetable mkF_len hass_nil)))) (.cons (.cons (.cons (.cons .nil)))) hr tk2 (me_op op_sub (ok_sub _) (kvar 0) me_int) (kacons (kvar 1) (kacons (kvar 2) ma_nil)))))
  mss_nil)
  (mss_one (ms_retX2 (mx_call h_is_timetable mkF_len hr tk2 (kacons (kvar 1) (kacons (kvar 2) (kacons (me_lst ma_nil) ma_nil))))))))))
theorem sc_law : FnScope ["script", "town", "k", "some", "bad", "what", "odd", "own", "off"] ["script"] (defScope (top 93)) := fnSc
theorem p_law (F : FunD K "law" "law" (defArgs (top 93)) (defBody (top 93)) (defScope (top 93)) [] [] f fd) (Z : Bt mg) (h__law_draw : Has P w K mg base "_law_draw" 3 3 false m__law_draw) (h__law_two : Has P w K mg base "_law_two" 7 3 false m__law_two) (h__law_one : Has P w K mg base "_law_one" 16 2 false m__law_one) (h_is_matrix : Has P w K mg base "is_matrix" 3 1 false m_is_matrix) (hT : ∀ ns : List Int, ns.length ≤ 63 → ∃ n', b_law (some (.val (scrD ns)) :: some (.val townD) :: List.replicate 7 none) n0 = some (.rt (.bool true), n')) : FnOk P w K mg base (L2.CX P w) 17 f fd ["script"] (spLaw K) :=
  klaw (fb := b_law) (show FunD K "law" "law" (defArgs (top 93)) ((defBody (top 93)).headD (.Pass ⟨0, 0, 0, 0⟩) :: (defBody (top 93)).tail) (defScope (top 93)) [] [] f fd from F) sc_law (fun cdv A outer s H E => ktown0 sc_law.nd) (fun cdv A outer s H E hr tk po =>
  (mss_cons (kset 2 sc_law.nd (me_op op_addA (ok_add _) me_int (kcall h__law_draw mkF_len hr (kacons (kvar 0) (kacons (kvar 1) (kacons me_int ma_nil))))))
  (mss_cons (ksetOH 3 sc_law.nd (mf_lst (kacons me_non (kacons me_int (kacons (me_tup ma_nil) (kacons (me_lst (kacons (me_lst (kacons (kvar 2) ma_nil)) ma_nil)) (kacons (me_tup (kacons (me_tup (kacons (kvar 2) (kacons me_int ma_nil))) ma_nil)) (kacons (me_tup (kacons (me_tup (kacons (kvar 2) ma_nil)) (kacons (me_tup (kacons me_int ma_nil)) ma_nil))) (kacons (me_tup (kacons (me_tup (kacons (kvar 2) (kacons me_int ma_nil))) (kacons (me_tup (kacons me_int ma_nil)) ma_nil))) (kacons (me_tup (kacons (me_tup (kacons (kvar 2) (kacons me_int ma_nil))) (kacons (me_lst (kacons me_int (kacons (kvar 2) ma_nil))) ma_nil))) (kacons (me_tup (kacons (me_tup (kacons me_int ma_nil)) ma_nil)) (kacons (me_tup (kacons (me_tup (kacons (me_un un_neg (ok_neg _) me_int) ma_nil)) ma_nil)) ma_nil))))))))))))
  (mss_cons (ms_extH (kextend 3 (kpv 3) (me_lst (kacons (me_tup (kacons (me_tup (kacons me_bl ma_nil)) ma_nil)) (kacons (me_tup (kacons (me_tup (kacons kstr ma_nil)) ma_nil)) (kacons (me_tup (kacons (me_tup (kacons me_non ma_nil)) ma_nil)) (kacons (me_op op_mulA (ok_mul _) (me_tup (kacons (me_op op_mulA (ok_mul _) (me_tup (kacons me_int ma_nil)) me_int) ma_nil)) me_int) (kacons (kvar 2) (kacons (me_tup (kacons (kvar 2) ma_nil)) (kacons (me_lst (kacons (me_tup (kacons (kvar 2) ma_nil)) ma_nil)) (kacons (me_tup (kacons (me_tup (kacons (kvar 2) (kacons (kvar 2) ma_nil))) (kacons (me_tup (kacons (kvar 2) (kacons (kvar 2) ma_nil))) (kacons (me_tup (kacons (kvar 2) (kacons (kvar 2) ma_nil))) ma_nil)))) ma_nil)))))))))))
  (mss_cons (ms_frz (i := 3) (kfor (.nm 4) po (mi_seq (kvar 3)) (kname 4 sc_law.nd)
  (mss_cons (ms_if (PW.pt (mw_or (ktcmp op_isNotA (ok_isNot _) (kcall h_is_matrix mkF_len hr (kacons (kvar 4) ma_nil)) me_bl) (mw_or1 (ktcmp (op_neD hr.units) (ok_ne _) (MF.me (klc [("what", 5)] sc_law.nd (krange1 Z.range (kacons me_int ma_nil)) (fun _ _ _ _ _ => (kname 5 sc_law.nd)) (fun _ _ _ _ _ => mts_nil) (fun _ _ _ _ _ => (kcall h__law_one mkF_len hr (kacons (kvar 5) (kacons (kvar 4) ma_nil)))))) (me_op op_mulA (ok_mul _) (me_lst (kacons (me_tup (kacons kstr (kacons me_int ma_nil))) ma_nil)) me_int)))))
  (mss_one (ms_ret me_bl))
  mss_nil)
  (mss_one (ms_if (ktcmp (op_neD hr.units) (ok_ne _) (MF.me (klc [("what", 5)] sc_law.nd (krange1 Z.range (kacons me_int ma_nil)) (fun _ _ _ _ _ => (kname 5 sc_law.nd)) (fun _ _ _ _ _ => mts_nil) (fun _ _ _ _ _ => (kcall h__law_two mkF_len hr (kacons (kvar 5) (kacons (kvar 4) (kacons me_non ma_nil))))))) (me_op op_mulA (ok_mul _) (me_lst (kacons (me_tup (kacons kstr (kacons me_int ma_nil))) ma_nil)) me_int))
  (mss_one (ms_ret me_bl))
  mss_nil)))))
  (mss_cons (kset 6 sc_law.nd (me_tup (kacons (me_tup (kacons (kvar 2) (kacons me_int ma_nil))) (kacons (me_tup (kacons me_int (kacons (me_op op_addA (ok_add _) (kvar 2) me_int) ma_nil))) ma_nil))))
  (mss_cons (ms_if (PW.pt (mw_or (ktcmp (op_neD hr.units) (ok_ne _) (MF.me (klc [("what", 5)] sc_law.nd (mi_seq (me_tup (kacons me_int (kacons me_int ma_nil)))) (fun _ _ _ _ _ => (kname 5 sc_law.nd)) (fun _ _ _ _ _ => mts_nil) (fun _ _ _ _ _ => (kcall h__law_one mkF_len hr (kacons (kvar 5) (kacons (kvar 6) ma_nil)))))) (me_op op_mulA (ok_mul _) (me_lst (kacons (me_tup (kacons kstr (kacons me_int ma_nil))) ma_nil)) me_int)) (mw_or1 (ktcmp (op_neD hr.units) (ok_ne _) (kcall h__law_two mkF_len hr (kacons me_int (kacons (kvar 6) (kacons me_non ma_nil)))) (me_tup (kacons kstr (kacons me_int ma_nil)))))))
  (mss_one (ms_ret me_bl))
  mss_nil)
  (mss_cons (kset 7 sc_law.nd (me_tup (kacons (me_tup (kacons (kvar 2) (kacons me_int ma_nil))) (kacons (me_tup (kacons me_int (kacons (kvar 2) ma_nil))) ma_nil))))
  (mss_cons (kfor (.nm 8) po (mi_seq (me_lst (kacons me_non (kacons (me_tup ma_nil) (kacons (me_tup (kacons me_int ma_nil)) (kacons (me_tup (kacons me_int (kacons me_int ma_nil))) (kacons (me_tup (kacons me_int (kacons me_int ma_nil))) (kacons (me_lst (kacons me_int (kacons me_int ma_nil))) (kacons (me_tup (kacons me_int (kacons me_int (kacons me_int ma_nil)))) (kacons (me_tup (kacons me_int (kacons me_bl ma_nil))) (kacons (me_tup (kacons kstr (kacons me_int ma_nil))) (kacons (me_tup (kacons (me_un un_neg (ok_neg _) me_int) (kacons me_int ma_nil))) ma_nil)))))))))))) (kname 8 sc_law.nd)
  (mss_one (ms_if (ktcmp (op_neD hr.units) (ok_ne _) (kcall h__law_two mkF_len hr (kacons me_int (kacons (kvar 7) (kacons (kvar 8) ma_nil)))) (me_tup (kacons kstr (kacons me_int ma_nil))))
  (mss_one (ms_ret me_bl))
  mss_nil)))
  (mss_cons (kfor (.nm 8) po (mi_seq (me_lst (kacons me_non (kacons me_int (kacons me_int (kacons kstr (kacons me_bl (kacons (me_tup (kacons me_int ma_nil)) ma_nil)))))))) (kname 8 sc_law.nd)
  (mss_one (ms_if (ktcmp (op_neD hr.units) (ok_ne _) (MF.me (klc [("what", 5)] sc_law.nd (mi_seq (me_tup (kacons me_int (kacons me_int (kacons me_int ma_nil))))) (fun _ _ _ _ _ => (kname 5 sc_law.nd)) (fun _ _ _ _ _ => mts_nil) (fun _ _ _ _ _ => (kcall h__law_two mkF_len hr (kacons (kvar 5) (kacons (kvar 7) (kacons (kvar 8) ma_nil))))))) (me_op op_mulA (ok_mul _) (me_lst (kacons (me_tup (kacons kstr (kacons me_int ma_nil))) ma_nil)) me_int))
  (mss_one (ms_ret me_bl))
  mss_nil)))
  (mss_cons (ms_if (PW.pt (mw_or (ktcmp (op_neD hr.units) (ok_ne _) (kcall h__law_one mkF_len hr (kacons me_int (kacons (me_tup (kacons (me_tup (kacons me_int ma_nil)) ma_nil)) ma_nil))) (me_tup (kacons kstr (kacons me_int ma_nil)))) (mw_or1 (ktcmp (op_neD hr.units) (ok_ne _) (kcall h__law_one mkF_len hr (kacons me_int (kacons (me_op op_mulA (ok_mul _) (me_tup (kacons (me_op op_mulA (ok_mul _) (me_tup (kacons me_int ma_nil)) me_int) ma_nil)) me_int) ma_nil))) (me_tup (kacons kstr (kacons me_int ma_nil)))))))
  (mss_one (ms_ret me_bl))
  mss_nil)
  (mss_one (ms_ret (me_and (kcmp (op_eqD hr.units) (ok_eq _) (kcall h__law_one mkF_len hr (kacons me_int (kacons (me_tup (kacons (me_tup (kacons me_int ma_nil)) ma_nil)) ma_nil))) me_int) (me_one (kcmp (op_eqD hr.units) (ok_eq _) (MF.me (klc [("what", 5)] sc_law.nd (krange1 Z.range (kacons me_int ma_nil)) (fun _ _ _ _ _ => (kname 5 sc_law.nd)) (fun _ _ _ _ _ => mts_nil) (fun _ _ _ _ _ => (kcall h__law_two mkF_len hr (kacons (kvar 5) (kacons (kvar 7) (kacons me_non ma_nil))))))) (me_op op_mulA (ok_mul _) (me_lst (kacons me_bl ma_nil)) me_int))))))))))))))))) hT
end

theorem facts {P : Program} {w : World} {K : PySem.W.Frag} {h : Heap} {mg : Str → Option Value} {f : Addr} (X : K.In h) (G : h.Ns mainGlobals mg) (hfa0 : mg ("law" : Str) = some (.ref f)) (c : He.SaysD hfa hfn K) (cx : hex1 K = true) :
    ∃ fd : FuncData, (∀ (s : Shared) (v : Value), BindsTo s fd ⟨[v], []⟩ [("script", v)]) ∧ ∀ base : Heap, K.In base → base.Ns mainGlobals mg → FnOk P w K mg base (L2.CX P w) 17 f fd ["script"] (spLaw K) := by
  obtain ⟨fd_is_integer, F_is_integer⟩ := c.def_ 0 (d := dd_is_integer) rfl
  obtain ⟨fd_is_square_of, F_is_square_of⟩ := c.def_ 1 (d := dd_is_square_of) rfl
  obtain ⟨fd_is_matrix, F_is_matrix⟩ := c.def_ 2 (d := dd_is_matrix) rfl
  obtain ⟨fd_check_matrix, F_check_matrix⟩ := c.def_ 3 (d := dd_check_matrix) rfl
  obtain ⟨fd_line_sums, F_line_sums⟩ := c.def_ 4 (d := dd_line_sums) rfl
  obtain ⟨fd_degree_of, F_degree_of⟩ := c.def_ 5 (d := dd_degree_of) rfl
  obtain ⟨fd_degree, F_degree⟩ := c.def_ 6 (d := dd_degree) rfl
  obtain ⟨fd_even, F_even⟩ := c.def_ 7 (d := dd_even) rfl
  obtain ⟨fd_is_even, F_is_even⟩ := c.def_ 8 (d := dd_is_even) rfl
  obtain ⟨fd_orders, F_orders⟩ := c.def_ 9 (d := dd_orders) rfl
  obtain ⟨fd_worth_of, F_worth_of⟩ := c.def_ 10 (d := dd_worth_of) rfl
  obtain ⟨fd_minus, F_minus⟩ := c.def_ 11 (d := dd_minus) rfl
  obtain ⟨fd_permutations, F_permutations⟩ := c.def_ 12 (d := dd_permutations) rfl
  obtain ⟨fd_count_permutations, F_count_permutations⟩ := c.def_ 13 (d := dd_count_permutations) rfl
  obtain ⟨fd_text_of, F_text_of⟩ := c.def_ 14 (d := dd_text_of) rfl
  obtain ⟨fd_format_matrix, F_format_matrix⟩ := c.def_ 15 (d := dd_format_matrix) rfl
  obtain ⟨fd_first_permutation, F_first_permutation⟩ := c.def_ 16 (d := dd_first_permutation) rfl
  obtain ⟨fd_improved, F_improved⟩ := c.def_ 17 (d := dd_improved) rfl
  obtain ⟨fd_owners, F_owners⟩ := c.def_ 18 (d := dd_owners) rfl
  obtain ⟨fd_above, F_above⟩ := c.def_ 19 (d := dd_above) rfl
  obtain ⟨fd_free_lines, F_free_lines⟩ := c.def_ 20 (d := dd_free_lines) rfl
  obtain ⟨fd_block, F_block⟩ := c.def_ 21 (d := dd_block) rfl
  obtain ⟨fd_are_lines, F_are_lines⟩ := c.def_ 22 (d := dd_are_lines) rfl
  obtain ⟨fd_at_most, F_at_most⟩ := c.def_ 23 (d := dd_at_most) rfl
  obtain ⟨fd_is_block, F_is_block⟩ := c.def_ 24 (d := dd_is_block) rfl
  obtain ⟨fd_placement, F_placement⟩ := c.def_ 25 (d := dd_placement) rfl
  obtain ⟨fd_cover, F_cover⟩ := c.def_ 26 (d := dd_cover) rfl
  obtain ⟨fd_are_positions, F_are_positions⟩ := c.def_ 27 (d := dd_are_positions) rfl
  obtain ⟨fd_is_placement, F_is_placement⟩ := c.def_ 28 (d := dd_is_placement) rfl
  obtain ⟨fd_is_cover, F_is_cover⟩ := c.def_ 29 (d := dd_is_cover) rfl
  obtain ⟨fd_lifted, F_lifted⟩ := c.def_ 30 (d := dd_lifted) rfl
  obtain ⟨fd_raised, F_raised⟩ := c.def_ 31 (d := dd_raised) rfl
  obtain ⟨fd_is_raised, F_is_raised⟩ := c.def_ 32 (d := dd_is_raised) rfl
  obtain ⟨fd_check_even, F_check_even⟩ := c.def_ 33 (d := dd_check_even) rfl
  obtain ⟨fd_parts_of, F_parts_of⟩ := c.def_ 34 (d := dd_parts_of) rfl
  obtain ⟨fd_split, F_split⟩ := c.def_ 35 (d := dd_split) rfl
  obtain ⟨fd_is_part, F_is_part⟩ := c.def_ 36 (d := dd_is_part) rfl
  obtain ⟨fd_is_split, F_is_split⟩ := c.def_ 37 (d := dd_is_split) rfl
  obtain ⟨fd_most_entries, F_most_entries⟩ := c.def_ 38 (d := dd_most_entries) rfl
  obtain ⟨fd_is_enough, F_is_enough⟩ := c.def_ 39 (d := dd_is_enough) rfl
  obtain ⟨fd_fewest_parts, F_fewest_parts⟩ := c.def_ 40 (d := dd_fewest_parts) rfl
  obtain ⟨fd_schedule, F_schedule⟩ := c.def_ 41 (d := dd_schedule) rfl
  obtain ⟨fd_is_phase, F_is_phase⟩ := c.def_ 42 (d := dd_is_phase) rfl
  obtain ⟨fd_is_schedule, F_is_schedule⟩ := c.def_ 43 (d := dd_is_schedule) rfl
  obtain ⟨fd_P___init__, F_P___init__⟩ := c.def_ 44 (d := dd_P___init__) rfl
  obtain ⟨fd_check_rooms, F_check_rooms⟩ := c.def_ 45 (d := dd_check_rooms) rfl
  obtain ⟨fd_slots_for, F_slots_for⟩ := c.def_ 46 (d := dd_slots_for) rfl
  obtain ⟨fd_least_slots, F_least_slots⟩ := c.def_ 47 (d := dd_least_slots) rfl
  obtain ⟨fd_exchanged, F_exchanged⟩ := c.def_ 48 (d := dd_exchanged) rfl
  obtain ⟨fd_placed, F_placed⟩ := c.def_ 49 (d := dd_placed) rfl
  obtain ⟨fd_levelled, F_levelled⟩ := c.def_ 50 (d := dd_levelled) rfl
  obtain ⟨fd_timetable, F_timetable⟩ := c.def_ 51 (d := dd_timetable) rfl
  obtain ⟨fd_is_timetable, F_is_timetable⟩ := c.def_ 52 (d := dd_is_timetable) rfl
  obtain ⟨fd_worth, F_worth⟩ := c.def_ 53 (d := dd_worth) rfl
  obtain ⟨fd_best_worth, F_best_worth⟩ := c.def_ 54 (d := dd_best_worth) rfl
  obtain ⟨fd_best_permutation, F_best_permutation⟩ := c.def_ 55 (d := dd_best_permutation) rfl
  obtain ⟨fd_worth_block, F_worth_block⟩ := c.def_ 56 (d := dd_worth_block) rfl
  obtain ⟨fd_is_worth_block, F_is_worth_block⟩ := c.def_ 57 (d := dd_is_worth_block) rfl
  obtain ⟨fd__law_cell_at, F__law_cell_at⟩ := c.def_ 58 (d := dd__law_cell_at) rfl
  obtain ⟨fd__law_mixed, F__law_mixed⟩ := c.def_ 59 (d := dd__law_mixed) rfl
  obtain ⟨fd__law_draw, F__law_draw⟩ := c.def_ 60 (d := dd__law_draw) rfl
  obtain ⟨fd__law_which, F__law_which⟩ := c.def_ 61 (d := dd__law_which) rfl
  obtain ⟨fd__law_one, F__law_one⟩ := c.def_ 62 (d := dd__law_one) rfl
  obtain ⟨fd__law_two, F__law_two⟩ := c.def_ 63 (d := dd__law_two) rfl
  obtain ⟨fd_law, F_law⟩ := c.def_ 64 (d := dd_law) rfl
  have g_is_integer := He.glo_ok X G (c.fact 0 (f := .glo "is_integer") rfl)
  have g_is_square_of := He.glo_ok X G (c.fact 1 (f := .glo "is_square_of") rfl)
  have g_is_matrix := He.glo_ok X G (c.fact 2 (f := .glo "is_matrix") rfl)
  have g_check_matrix := He.glo_ok X G (c.fact 3 (f := .glo "check_matrix") rfl)
  have g_line_sums := He.glo_ok X G (c.fact 4 (f := .glo "line_sums") rfl)
  have g_degree_of := He.glo_ok X G (c.fact 5 (f := .glo "degree_of") rfl)
  have g_degree := He.glo_ok X G (c.fact 6 (f := .glo "degree") rfl)
  have g_even := He.glo_ok X G (c.fact 7 (f := .glo "even") rfl)
  have g_is_even := He.glo_ok X G (c.fact 8 (f := .glo "is_even") rfl)
  have g_orders := He.glo_ok X G (c.fact 9 (f := .glo "orders") rfl)
  have g_worth_of := He.glo_ok X G (c.fact 10 (f := .glo "worth_of") rfl)
  have g_minus := He.glo_ok X G (c.fact 11 (f := .glo "minus") rfl)
  have g_permutations := He.glo_ok X G (c.fact 12 (f := .glo "permutations") rfl)
  have g_count_permutations := He.glo_ok X G (c.fact 13 (f := .glo "count_permutations") rfl)
  have g_text_of := He.glo_ok X G (c.fact 14 (f := .glo "text_of") rfl)
  have g_format_matrix := He.glo_ok X G (c.fact 15 (f := .glo "format_matrix") rfl)
  have g_first_permutation := He.glo_ok X G (c.fact 16 (f := .glo "first_permutation") rfl)
  have g_improved := He.glo_ok X G (c.fact 17 (f := .glo "improved") rfl)
  have g_owners := He.glo_ok X G (c.fact 18 (f := .glo "owners") rfl)
  have g_above := He.glo_ok X G (c.fact 19 (f := .glo "above") rfl)
  have g_free_lines := He.glo_ok X G (c.fact 20 (f := .glo "free_lines") rfl)
  have g_block := He.glo_ok X G (c.fact 21 (f := .glo "block") rfl)
  have g_are_lines := He.glo_ok X G (c.fact 22 (f := .glo "are_lines") rfl)
  have g_at_most := He.glo_ok X G (c.fact 23 (f := .glo "at_most") rfl)
  have g_is_block := He.glo_ok X G (c.fact 24 (f := .glo "is_block") rfl)
  have g_placement := He.glo_ok X G (c.fact 25 (f := .glo "placement") rfl)
  have g_cover := He.glo_ok X G (c.fact 26 (f := .glo "cover") rfl)
  have g_are_positions := He.glo_ok X G (c.fact 27 (f := .glo "are_positions") rfl)
  have g_is_placement := He.glo_ok X G (c.fact 28 (f := .glo "is_placement") rfl)
  have g_is_cover := He.glo_ok X G (c.fact 29 (f := .glo "is_cover") rfl)
  have g_lifted := He.glo_ok X G (c.fact 30 (f := .glo "lifted") rfl)
  have g_raised := He.glo_ok X G (c.fact 31 (f := .glo "raised") rfl)
  have g_is_raised := He.glo_ok X G (c.fact 32 (f := .glo "is_raised") rfl)
  have g_check_even := He.glo_ok X G (c.fact 33 (f := .glo "check_even") rfl)
  have g_parts_of := He.glo_ok X G (c.fact 34 (f := .glo "parts_of") rfl)
  have g_split := He.glo_ok X G (c.fact 35 (f := .glo "split") rfl)
  have g_is_part := He.glo_ok X G (c.fact 36 (f := .glo "is_part") rfl)
  have g_is_split := He.glo_ok X G (c.fact 37 (f := .glo "is_split") rfl)
  have g_most_entries := He.glo_ok X G (c.fact 38 (f := .glo "most_entries") rfl)
  have g_is_enough := He.glo_ok X G (c.fact 39 (f := .glo "is_enough") rfl)
  have g_fewest_parts := He.glo_ok X G (c.fact 40 (f := .glo "fewest_parts") rfl)
  have g_schedule := He.glo_ok X G (c.fact 41 (f := .glo "schedule") rfl)
  have g_is_phase := He.glo_ok X G (c.fact 42 (f := .glo "is_phase") rfl)
  have g_is_schedule := He.glo_ok X G (c.fact 43 (f := .glo "is_schedule") rfl)
  have g_P___init__ := He.meth_ok (c.fact 44 (f := .meth "Planner" "__init__") rfl)
  have g_check_rooms := He.glo_ok X G (c.fact 45 (f := .glo "check_rooms") rfl)
  have g_slots_for := He.glo_ok X G (c.fact 46 (f := .glo "slots_for") rfl)
  have g_least_slots := He.glo_ok X G (c.fact 47 (f := .glo "least_slots") rfl)
  have g_exchanged := He.glo_ok X G (c.fact 48 (f := .glo "exchanged") rfl)
  have g_placed := He.glo_ok X G (c.fact 49 (f := .glo "placed") rfl)
  have g_levelled := He.glo_ok X G (c.fact 50 (f := .glo "levelled") rfl)
  have g_timetable := He.glo_ok X G (c.fact 51 (f := .glo "timetable") rfl)
  have g_is_timetable := He.glo_ok X G (c.fact 52 (f := .glo "is_timetable") rfl)
  have g_worth := He.glo_ok X G (c.fact 53 (f := .glo "worth") rfl)
  have g_best_worth := He.glo_ok X G (c.fact 54 (f := .glo "best_worth") rfl)
  have g_best_permutation := He.glo_ok X G (c.fact 55 (f := .glo "best_permutation") rfl)
  have g_worth_block := He.glo_ok X G (c.fact 56 (f := .glo "worth_block") rfl)
  have g_is_worth_block := He.glo_ok X G (c.fact 57 (f := .glo "is_worth_block") rfl)
  have g__law_cell_at := He.glo_ok X G (c.fact 58 (f := .glo "_law_cell_at") rfl)
  have g__law_mixed := He.glo_ok X G (c.fact 59 (f := .glo "_law_mixed") rfl)
  have g__law_draw := He.glo_ok X G (c.fact 60 (f := .glo "_law_draw") rfl)
  have g__law_which := He.glo_ok X G (c.fact 61 (f := .glo "_law_which") rfl)
  have g__law_one := He.glo_ok X G (c.fact 62 (f := .glo "_law_one") rfl)
  have g__law_two := He.glo_ok X G (c.fact 63 (f := .glo "_law_two") rfl)
  have g_law := He.glo_ok X G (c.fact 64 (f := .glo "law") rfl)
  have Z : Bt mg := ⟨He.free_ok X G (c.fact 65 (f := .free "len") rfl), He.free_ok X G (c.fact 66 (f := .free "min") rfl), He.free_ok X G (c.fact 67 (f := .free "max") rfl), He.free_ok X G (c.fact 68 (f := .free "sum") rfl), He.free_ok X G (c.fact 69 (f := .free "range") rfl), He.free_ok X G (c.fact 70 (f := .free "zip") rfl), He.free_ok X G (c.fact 71 (f := .free "enumerate") rfl), He.free_ok X G (c.fact 72 (f := .free "sorted") rfl), He.free_ok X G (c.fact 73 (f := .free "set") rfl), He.free_ok X G (c.fact 74 (f := .free "list") rfl), He.free_ok X G (c.fact 75 (f := .free "tuple") rfl), He.free_ok X G (c.fact 76 (f := .free "isinstance") rfl), He.free_ok X G (c.fact 77 (f := .free "all") rfl), He.free_ok X G (c.fact 78 (f := .free "any") rfl), He.free_ok X G (c.fact 79 (f := .free "int") rfl), He.free_ok X G (c.fact 80 (f := .free "bool") rfl), He.free_ok X G (c.fact 81 (f := .free "str") rfl), He.free_ok X G (c.fact 82 (f := .free "dict") rfl)⟩
  have X_InvalidMatrix : ExF K mg "InvalidMatrix" := ⟨_, He.glo_ok X G (c.fact 83 (f := .glo "InvalidMatrix") rfl), He.exc_ok (c.fact 84 (f := .exc "InvalidMatrix") rfl)⟩
  have X_InvalidPermutation : ExF K mg "InvalidPermutation" := ⟨_, He.glo_ok X G (c.fact 85 (f := .glo "InvalidPermutation") rfl), He.exc_ok (c.fact 86 (f := .exc "InvalidPermutation") rfl)⟩
  have X_InvalidRooms : ExF K mg "InvalidRooms" := ⟨_, He.glo_ok X G (c.fact 87 (f := .glo "InvalidRooms") rfl), He.exc_ok (c.fact 88 (f := .exc "InvalidRooms") rfl)⟩
  have X_InvalidSize : ExF K mg "InvalidSize" := ⟨_, He.glo_ok X G (c.fact 89 (f := .glo "InvalidSize") rfl), He.exc_ok (c.fact 90 (f := .exc "InvalidSize") rfl)⟩
  have X_InvalidRectangle : ExF K mg "InvalidRectangle" := ⟨_, He.glo_ok X G (c.fact 91 (f := .glo "InvalidRectangle") rfl), He.exc_ok (c.fact 92 (f := .exc "InvalidRectangle") rfl)⟩
  have X_InvalidPhase : ExF K mg "InvalidPhase" := ⟨_, He.glo_ok X G (c.fact 93 (f := .glo "InvalidPhase") rfl), He.exc_ok (c.fact 94 (f := .exc "InvalidPhase") rfl)⟩
  have X_NotEven : ExF K mg "NotEven" := ⟨_, He.glo_ok X G (c.fact 95 (f := .glo "NotEven") rfl), He.exc_ok (c.fact 96 (f := .exc "NotEven") rfl)⟩
  have X_NoPermutation : ExF K mg "NoPermutation" := ⟨_, He.glo_ok X G (c.fact 97 (f := .glo "NoPermutation") rfl), He.exc_ok (c.fact 98 (f := .exc "NoPermutation") rfl)⟩
  have X_HasPermutation : ExF K mg "HasPermutation" := ⟨_, He.glo_ok X G (c.fact 99 (f := .glo "HasPermutation") rfl), He.exc_ok (c.fact 100 (f := .exc "HasPermutation") rfl)⟩
  have X_NotExtendable : ExF K mg "NotExtendable" := ⟨_, He.glo_ok X G (c.fact 101 (f := .glo "NotExtendable") rfl), He.exc_ok (c.fact 102 (f := .exc "NotExtendable") rfl)⟩
  have X_TooLarge : ExF K mg "TooLarge" := ⟨_, He.glo_ok X G (c.fact 103 (f := .glo "TooLarge") rfl), He.exc_ok (c.fact 104 (f := .exc "TooLarge") rfl)⟩
  have X_Finished : ExF K mg "Finished" := ⟨_, He.glo_ok X G (c.fact 105 (f := .glo "Finished") rfl), He.exc_ok (c.fact 106 (f := .exc "Finished") rfl)⟩
  have X_NothingToUndo : ExF K mg "NothingToUndo" := ⟨_, He.glo_ok X G (c.fact 107 (f := .glo "NothingToUndo") rfl), He.exc_ok (c.fact 108 (f := .exc "NothingToUndo") rfl)⟩
  have X_ParseError : ExF K mg "ParseError" := ⟨_, He.glo_ok X G (c.fact 109 (f := .glo "ParseError") rfl), He.exc_ok (c.fact 110 (f := .exc "ParseError") rfl)⟩
  have C_LARGEST := He.int_ok X G (c.fact 113 (f := .int "LARGEST" 9) rfl)
  have hve := He.free_ok X G (c.fact 111 (f := .free "ValueError") rfl)
  have gs := He.glo_ok X G (c.fact 112 (f := .glo "SplitError") rfl)
  have EA : ExAll K mg := exB_ok cx (exn_all (He.glo_ok X G (c.fact 83 (f := .glo "InvalidMatrix") rfl)) (He.glo_ok X G (c.fact 85 (f := .glo "InvalidPermutation") rfl)) (He.glo_ok X G (c.fact 87 (f := .glo "InvalidRooms") rfl)) (He.glo_ok X G (c.fact 89 (f := .glo "InvalidSize") rfl)) (He.glo_ok X G (c.fact 91 (f := .glo "InvalidRectangle") rfl)) (He.glo_ok X G (c.fact 93 (f := .glo "InvalidPhase") rfl)) (He.glo_ok X G (c.fact 95 (f := .glo "NotEven") rfl)) (He.glo_ok X G (c.fact 97 (f := .glo "NoPermutation") rfl)) (He.glo_ok X G (c.fact 99 (f := .glo "HasPermutation") rfl)) (He.glo_ok X G (c.fact 101 (f := .glo "NotExtendable") rfl)) (He.glo_ok X G (c.fact 103 (f := .glo "TooLarge") rfl)) (He.glo_ok X G (c.fact 105 (f := .glo "Finished") rfl)) (He.glo_ok X G (c.fact 107 (f := .glo "NothingToUndo") rfl)) (He.glo_ok X G (c.fact 109 (f := .glo "ParseError") rfl))) gs
  have gP := He.glo_ok X G (c.fact 114 (f := .glo "Planner") rfl)
  have eC : clsA mg = He.ga K "Planner" := by unfold clsA; rw [gP]
  have PC : PlC K mg := ⟨by rw [eC]; exact He.cls_ok (c.fact 115 (f := .cls "Planner") rfl), by rw [eC]; exact He.noat_ok (c.fact 116 (f := .noat "Planner" "matrix") rfl), by rw [eC]; exact He.noat_ok (c.fact 117 (f := .noat "Planner" "worked") rfl), by rw [eC]; exact He.noat_ok (c.fact 118 (f := .noat "Planner" "kept") rfl)⟩
  have mkP := He.mkr_ok (c.fact 119 (f := .mkr "Planner") rfl)
  cases hfa0.symm.trans g_law
  have b := FunD.bindsA (ps := ["script"]) F_law fun _ _ _ _ _ _ us hl => match us, hl with | [_], _ => rfl
  refine ⟨fd_law, fun s v => b s [v] rfl, fun base _ _ => ?_⟩
  have HW : HasW P w K mg base 1 := ⟨EA, _, _, p__law_which F__law_which Z EA hve, g__law_which, F__law_which.kp, F__law_which.bindsN fun _ _ _ _ _ _ us hl => match us, hl with | [_], _ => rfl⟩
  have h_is_integer : Has P w K mg base "is_integer" 1 3 false m_is_integer := has_mk (ps := ["value", "low", "high"]) F_is_integer g_is_integer (p_is_integer F_is_integer Z ) (F_is_integer.bindsN fun _ _ _ _ _ _ us hl => match us, hl with | [_, _, _], _ => rfl)
  have h_line_sums : Has P w K mg base "line_sums" 1 1 false m_line_sums := has_mk (ps := ["matrix"]) F_line_sums g_line_sums (p_line_sums F_line_sums Z ) (F_line_sums.bindsN fun _ _ _ _ _ _ us hl => match us, hl with | [_], _ => rfl)
  have h_orders : Has P w K mg base "orders" 1 1 false m_orders := has_mk (ps := ["count"]) F_orders g_orders (p_orders F_orders Z ) (F_orders.bindsN fun _ _ _ _ _ _ us hl => match us, hl with | [_], _ => rfl)
  have h_worth_of : Has P w K mg base "worth_of" 1 2 false m_worth_of := has_mk (ps := ["matrix", "order"]) F_worth_of g_worth_of (p_worth_of F_worth_of Z ) (F_worth_of.bindsN fun _ _ _ _ _ _ us hl => match us, hl with | [_, _], _ => rfl)
  have h_minus : Has P w K mg base "minus" 1 3 false m_minus := has_mk (ps := ["matrix", "weight", "positions"]) F_minus g_minus (p_minus F_minus Z ) (F_minus.bindsN fun _ _ _ _ _ _ us hl => match us, hl with | [_, _, _], _ => rfl)
  have h_text_of : Has P w K mg base "text_of" 1 1 false m_text_of := has_mk (ps := ["matrix"]) F_text_of g_text_of (p_text_of F_text_of Z ) (F_text_of.bindsN fun _ _ _ _ _ _ us hl => match us, hl with | [_], _ => rfl)
  have h_above : Has P w K mg base "above" 1 2 false m_above := has_mk (ps := ["matrix", "limit"]) F_above g_above (p_above F_above Z ) (F_above.bindsN fun _ _ _ _ _ _ us hl => match us, hl with | [_, _], _ => rfl)
  have h_most_entries : Has P w K mg base "most_entries" 1 1 false m_most_entries := has_mk (ps := ["matrix"]) F_most_entries g_most_entries (p_most_entries F_most_entries Z ) (F_most_entries.bindsN fun _ _ _ _ _ _ us hl => match us, hl with | [_], _ => rfl)
  have h_exchanged : Has P w K mg base "exchanged" 1 4 false m_exchanged := has_mk (ps := ["slots", "one", "other", "start"]) F_exchanged g_exchanged (p_exchanged F_exchanged Z ) (F_exchanged.bindsN fun _ _ _ _ _ _ us hl => match us, hl with | [_, _, _, _], _ => rfl)
  have h__law_cell_at : Has P w K mg base "_law_cell_at" 1 2 false m__law_cell_at := has_mk (ps := ["script", "k"]) F__law_cell_at g__law_cell_at (p__law_cell_at F__law_cell_at Z ) (F__law_cell_at.bindsN fun _ _ _ _ _ _ us hl => match us, hl with | [_, _], _ => rfl)
  have h_is_square_of : Has P w K mg base "is_square_of" 2 4 false m_is_square_of := has_mk (ps := ["value", "count", "low", "high"]) F_is_square_of g_is_square_of (p_is_square_of F_is_square_of Z h_is_integer) (F_is_square_of.bindsN fun _ _ _ _ _ _ us hl => match us, hl with | [_, _, _, _], _ => rfl)
  have h_degree_of : Has P w K mg base "degree_of" 2 1 false m_degree_of := has_mk (ps := ["matrix"]) F_degree_of g_degree_of (p_degree_of F_degree_of Z h_line_sums) (F_degree_of.bindsN fun _ _ _ _ _ _ us hl => match us, hl with | [_], _ => rfl)
  have h_are_lines : Has P w K mg base "are_lines" 2 2 false m_are_lines := has_mk (ps := ["value", "count"]) F_are_lines g_are_lines (p_are_lines F_are_lines Z h_is_integer) (F_are_lines.bindsN fun _ _ _ _ _ _ us hl => match us, hl with | [_, _], _ => rfl)
  have h_are_positions : Has P w K mg base "are_positions" 2 2 false m_are_positions := has_mk (ps := ["value", "count"]) F_are_positions g_are_positions (p_are_positions F_are_positions Z h_is_integer) (F_are_positions.bindsN fun _ _ _ _ _ _ us hl => match us, hl with | [_, _], _ => rfl)
  have h_is_part : Has P w K mg base "is_part" 2 2 false m_is_part := has_mk (ps := ["value", "count"]) F_is_part g_is_part (p_is_part F_is_part Z h_is_integer) (F_is_part.bindsN fun _ _ _ _ _ _ us hl => match us, hl with | [_, _], _ => rfl)
  have h_placed : Has P w K mg base "placed" 2 3 false m_placed := has_mk (ps := ["slots", "row", "column"]) F_placed g_placed (p_placed F_placed Z h_exchanged) (F_placed.bindsN fun _ _ _ _ _ _ us hl => match us, hl with | [_, _, _], _ => rfl)
  have h_levelled : Has P w K mg base "levelled" 2 2 false m_levelled := has_mk (ps := ["slots", "rooms"]) F_levelled g_levelled (p_levelled F_levelled Z h_exchanged) (F_levelled.bindsN fun _ _ _ _ _ _ us hl => match us, hl with | [_, _], _ => rfl)
  have h_best_worth : Has P w K mg base "best_worth" 2 1 false m_best_worth := has_mk (ps := ["matrix"]) F_best_worth g_best_worth (p_best_worth F_best_worth Z h_worth_of h_orders) (F_best_worth.bindsN fun _ _ _ _ _ _ us hl => match us, hl with | [_], _ => rfl)
  have h__law_mixed : Has P w K mg base "_law_mixed" 2 3 false m__law_mixed := has_mk (ps := ["script", "k", "many"]) F__law_mixed g__law_mixed (p__law_mixed F__law_mixed Z h__law_cell_at) (F__law_mixed.bindsN fun _ _ _ _ _ _ us hl => match us, hl with | [_, _, _], _ => rfl)
  have h_is_matrix : Has P w K mg base "is_matrix" 3 1 false m_is_matrix := has_mk (ps := ["value"]) F_is_matrix g_is_matrix (p_is_matrix F_is_matrix Z h_is_square_of C_LARGEST) (F_is_matrix.bindsN fun _ _ _ _ _ _ us hl => match us, hl with | [_], _ => rfl)
  have h_even : Has P w K mg base "even" 3 1 false m_even := has_mk (ps := ["matrix"]) F_even g_even (p_even F_even Z h_degree_of h_line_sums) (F_even.bindsN fun _ _ _ _ _ _ us hl => match us, hl with | [_], _ => rfl)
  have h_at_most : Has P w K mg base "at_most" 3 3 false m_at_most := has_mk (ps := ["matrix", "value", "limit"]) F_at_most g_at_most (p_at_most F_at_most Z h_are_lines) (F_at_most.bindsN fun _ _ _ _ _ _ us hl => match us, hl with | [_, _, _], _ => rfl)
  have h_lifted : Has P w K mg base "lifted" 3 1 false m_lifted := has_mk (ps := ["matrix"]) F_lifted g_lifted (p_lifted F_lifted Z h_degree_of) (F_lifted.bindsN fun _ _ _ _ _ _ us hl => match us, hl with | [_], _ => rfl)
  have h_parts_of : Has P w K mg base "parts_of" 3 1 false m_parts_of := has_mk (ps := ["matrix"]) F_parts_of g_parts_of (p_parts_of F_parts_of Z h_degree_of h_minus h_worth_of h_orders) (F_parts_of.bindsN fun _ _ _ _ _ _ us hl => match us, hl with | [_], _ => rfl)
  have h_is_phase : Has P w K mg base "is_phase" 3 2 false m_is_phase := has_mk (ps := ["value", "count"]) F_is_phase g_is_phase (p_is_phase F_is_phase Z h_are_positions h_is_integer) (F_is_phase.bindsN fun _ _ _ _ _ _ us hl => match us, hl with | [_, _], _ => rfl)
  have h_slots_for : Has P w K mg base "slots_for" 3 2 false m_slots_for := has_mk (ps := ["matrix", "rooms"]) F_slots_for g_slots_for (p_slots_for F_slots_for Z h_degree_of) (F_slots_for.bindsN fun _ _ _ _ _ _ us hl => match us, hl with | [_, _], _ => rfl)
  have h__law_draw : Has P w K mg base "_law_draw" 3 3 false m__law_draw := has_mk (ps := ["script", "town", "many"]) F__law_draw g__law_draw (p__law_draw F__law_draw Z h__law_mixed) (F__law_draw.bindsN fun _ _ _ _ _ _ us hl => match us, hl with | [_, _, _], _ => rfl)
  have h_check_matrix : Has P w K mg base "check_matrix" 4 1 false m_check_matrix := has_mk (ps := ["matrix"]) F_check_matrix g_check_matrix (p_check_matrix F_check_matrix Z h_is_matrix X_InvalidMatrix) (F_check_matrix.bindsN fun _ _ _ _ _ _ us hl => match us, hl with | [_], _ => rfl)
  have h_degree : Has P w K mg base "degree" 5 1 false m_degree := has_mk (ps := ["matrix"]) F_degree g_degree (p_degree F_degree Z h_check_matrix h_degree_of) (F_degree.bindsN fun _ _ _ _ _ _ us hl => match us, hl with | [_], _ => rfl)
  have h_is_even : Has P w K mg base "is_even" 5 1 false m_is_even := has_mk (ps := ["matrix"]) F_is_even g_is_even (p_is_even F_is_even Z h_check_matrix h_even) (F_is_even.bindsN fun _ _ _ _ _ _ us hl => match us, hl with | [_], _ => rfl)
  have h_permutations : Has P w K mg base "permutations" 5 1 false m_permutations := has_mk (ps := ["matrix"]) F_permutations g_permutations (p_permutations F_permutations Z h_check_matrix h_orders h_worth_of) (F_permutations.bindsN fun _ _ _ _ _ _ us hl => match us, hl with | [_], _ => rfl)
  have h_count_permutations : Has P w K mg base "count_permutations" 5 1 false m_count_permutations := has_mk (ps := ["matrix"]) F_count_permutations g_count_permutations (p_count_permutations F_count_permutations Z h_check_matrix) (F_count_permutations.bindsN fun _ _ _ _ _ _ us hl => match us, hl with | [_], _ => rfl)
  have h_format_matrix : Has P w K mg base "format_matrix" 5 1 false m_format_matrix := has_mk (ps := ["matrix"]) F_format_matrix g_format_matrix (p_format_matrix F_format_matrix Z h_check_matrix h_text_of) (F_format_matrix.bindsN fun _ _ _ _ _ _ us hl => match us, hl with | [_], _ => rfl)
  have h_first_permutation : Has P w K mg base "first_permutation" 5 1 false m_first_permutation := has_mk (ps := ["matrix"]) F_first_permutation g_first_permutation (p_first_permutation F_first_permutation Z h_check_matrix h_orders h_worth_of X_NoPermutation) (F_first_permutation.bindsN fun _ _ _ _ _ _ us hl => match us, hl with | [_], _ => rfl)
  have h_is_block : Has P w K mg base "is_block" 5 2 false m_is_block := has_mk (ps := ["matrix", "value"]) F_is_block g_is_block (p_is_block F_is_block Z h_check_matrix h_at_most) (F_is_block.bindsN fun _ _ _ _ _ _ us hl => match us, hl with | [_, _], _ => rfl)
  have h_is_placement : Has P w K mg base "is_placement" 5 2 false m_is_placement := has_mk (ps := ["matrix", "value"]) F_is_placement g_is_placement (p_is_placement F_is_placement Z h_check_matrix h_are_positions) (F_is_placement.bindsN fun _ _ _ _ _ _ us hl => match us, hl with | [_, _], _ => rfl)
  have h_is_cover : Has P w K mg base "is_cover" 5 2 false m_is_cover := has_mk (ps := ["matrix", "value"]) F_is_cover g_is_cover (p_is_cover F_is_cover Z h_check_matrix h_are_lines) (F_is_cover.bindsN fun _ _ _ _ _ _ us hl => match us, hl with | [_, _], _ => rfl)
  have h_raised : Has P w K mg base "raised" 5 1 false m_raised := has_mk (ps := ["matrix"]) F_raised g_raised (p_raised F_raised Z h_check_matrix h_lifted) (F_raised.bindsN fun _ _ _ _ _ _ us hl => match us, hl with | [_], _ => rfl)
  have h_is_raised : Has P w K mg base "is_raised" 5 2 false m_is_raised := has_mk (ps := ["matrix", "value"]) F_is_raised g_is_raised (p_is_raised F_is_raised Z h_check_matrix h_is_square_of h_degree_of h_line_sums) (F_is_raised.bindsN fun _ _ _ _ _ _ us hl => match us, hl with | [_, _], _ => rfl)
  have h_check_even : Has P w K mg base "check_even" 5 1 false m_check_even := has_mk (ps := ["matrix"]) F_check_even g_check_even (p_check_even F_check_even Z h_check_matrix h_even X_NotEven) (F_check_even.bindsN fun _ _ _ _ _ _ us hl => match us, hl with | [_], _ => rfl)
  have h_schedule : Has P w K mg base "schedule" 5 1 false m_schedule := has_mk (ps := ["matrix"]) F_schedule g_schedule (p_schedule F_schedule Z h_check_matrix h_parts_of h_lifted h_minus) (F_schedule.bindsN fun _ _ _ _ _ _ us hl => match us, hl with | [_], _ => rfl)
  have h_is_schedule : Has P w K mg base "is_schedule" 5 2 false m_is_schedule := has_mk (ps := ["matrix", "value"]) F_is_schedule g_is_schedule (p_is_schedule F_is_schedule Z h_check_matrix h_minus h_is_phase) (F_is_schedule.bindsN fun _ _ _ _ _ _ us hl => match us, hl with | [_, _], _ => rfl)
  have h_P___init__ : HasI P w K mg base 5 m_check_matrix := ⟨⟨_, _, _, p_P___init__ F_P___init__ Z PC h_check_matrix, by rw [eC]; exact mkP, (F_P___init__.bindsN fun _ _ _ _ _ _ us hl => match us, hl with | [_, _], _ => rfl)⟩, by rw [eC]; exact gP⟩
  have h_check_rooms : Has P w K mg base "check_rooms" 5 2 false m_check_rooms := has_mk (ps := ["matrix", "rooms"]) F_check_rooms g_check_rooms (p_check_rooms F_check_rooms Z h_check_matrix h_is_integer X_InvalidRooms) (F_check_rooms.bindsN fun _ _ _ _ _ _ us hl => match us, hl with | [_, _], _ => rfl)
  have h_worth : Has P w K mg base "worth" 5 2 false m_worth := has_mk (ps := ["matrix", "permutation"]) F_worth g_worth (p_worth F_worth Z h_check_matrix h_worth_of h_is_integer X_InvalidPermutation) (F_worth.bindsN fun _ _ _ _ _ _ us hl => match us, hl with | [_, _], _ => rfl)
  have h_best_permutation : Has P w K mg base "best_permutation" 5 1 false m_best_permutation := has_mk (ps := ["matrix"]) F_best_permutation g_best_permutation (p_best_permutation F_best_permutation Z h_check_matrix h_best_worth h_orders h_worth_of) (F_best_permutation.bindsN fun _ _ _ _ _ _ us hl => match us, hl with | [_], _ => rfl)
  have h_is_worth_block : Has P w K mg base "is_worth_block" 5 2 false m_is_worth_block := has_mk (ps := ["matrix", "value"]) F_is_worth_block g_is_worth_block (p_is_worth_block F_is_worth_block Z h_check_matrix h_at_most h_best_worth) (F_is_worth_block.bindsN fun _ _ _ _ _ _ us hl => match us, hl with | [_, _], _ => rfl)
  have h_split : Has P w K mg base "split" 6 1 false m_split := has_mk (ps := ["matrix"]) F_split g_split (p_split F_split Z h_check_even h_parts_of) (F_split.bindsN fun _ _ _ _ _ _ us hl => match us, hl with | [_], _ => rfl)
  have h_is_split : Has P w K mg base "is_split" 6 2 false m_is_split := has_mk (ps := ["matrix", "value"]) F_is_split g_is_split (p_is_split F_is_split Z h_check_even h_minus h_is_part) (F_is_split.bindsN fun _ _ _ _ _ _ us hl => match us, hl with | [_, _], _ => rfl)
  have h_least_slots : Has P w K mg base "least_slots" 6 2 false m_least_slots := has_mk (ps := ["matrix", "rooms"]) F_least_slots g_least_slots (p_least_slots F_least_slots Z h_check_rooms h_slots_for) (F_least_slots.bindsN fun _ _ _ _ _ _ us hl => match us, hl with | [_, _], _ => rfl)
  have h_timetable : Has P w K mg base "timetable" 6 2 false m_timetable := has_mk (ps := ["matrix", "rooms"]) F_timetable g_timetable (p_timetable F_timetable Z h_check_rooms h_levelled h_slots_for h_placed) (F_timetable.bindsN fun _ _ _ _ _ _ us hl => match us, hl with | [_, _], _ => rfl)
  have h_is_timetable : Has P w K mg base "is_timetable" 6 3 false m_is_timetable := has_mk (ps := ["matrix", "rooms", "value"]) F_is_timetable g_is_timetable (p_is_timetable F_is_timetable Z h_check_rooms h_minus h_are_positions) (F_is_timetable.bindsN fun _ _ _ _ _ _ us hl => match us, hl with | [_, _, _], _ => rfl)
  have h_improved : Has P w K mg base "improved" 7 4 false m_improved := p_improved F_improved Z  g_improved (F_improved.bindsN fun _ _ _ _ _ _ us hl => match us, hl with | [_, _, _, _], _ => rfl) 7
  have h__law_two : Has P w K mg base "_law_two" 7 3 false m__law_two := has_mk (ps := ["what", "own", "other"]) F__law_two g__law_two (p__law_two F__law_two Z h_is_timetable h_is_block h_is_placement h_is_cover h_is_split h_is_worth_block h_is_raised h_is_schedule h_worth h_least_slots h_timetable HW) (F__law_two.bindsN fun _ _ _ _ _ _ us hl => match us, hl with | [_, _, _], _ => rfl)
  have h_owners : Has P w K mg base "owners" 8 2 false m_owners := has_mk (ps := ["allowed", "count"]) F_owners g_owners (p_owners F_owners Z h_improved) (F_owners.bindsN fun _ _ _ _ _ _ us hl => match us, hl with | [_, _], _ => rfl)
  have h_free_lines : Has P w K mg base "free_lines" 9 2 false m_free_lines := has_mk (ps := ["matrix", "limit"]) F_free_lines g_free_lines (p_free_lines F_free_lines Z h_above h_owners) (F_free_lines.bindsN fun _ _ _ _ _ _ us hl => match us, hl with | [_, _], _ => rfl)
  have h_placement : Has P w K mg base "placement" 9 1 false m_placement := has_mk (ps := ["matrix"]) F_placement g_placement (p_placement F_placement Z h_check_matrix h_owners h_above) (F_placement.bindsN fun _ _ _ _ _ _ us hl => match us, hl with | [_], _ => rfl)
  have h_block : Has P w K mg base "block" 10 1 false m_block := has_mk (ps := ["matrix"]) F_block g_block (p_block F_block Z h_check_matrix h_free_lines X_HasPermutation) (F_block.bindsN fun _ _ _ _ _ _ us hl => match us, hl with | [_], _ => rfl)
  have h_cover : Has P w K mg base "cover" 10 1 false m_cover := has_mk (ps := ["matrix"]) F_cover g_cover (p_cover F_cover Z h_check_matrix h_free_lines) (F_cover.bindsN fun _ _ _ _ _ _ us hl => match us, hl with | [_], _ => rfl)
  have h_worth_block : Has P w K mg base "worth_block" 10 1 false m_worth_block := has_mk (ps := ["matrix"]) F_worth_block g_worth_block (p_worth_block F_worth_block Z h_check_matrix h_free_lines h_best_worth) (F_worth_block.bindsN fun _ _ _ _ _ _ us hl => match us, hl with | [_], _ => rfl)
  have h_is_enough : Has P w K mg base "is_enough" 14 3 false m_is_enough := p_is_enough F_is_enough Z h_degree_of h_most_entries h_orders h_worth_of h_minus g_is_enough (F_is_enough.bindsN fun _ _ _ _ _ _ us hl => match us, hl with | [_, _, _], _ => rfl) 12
  have h_fewest_parts : Has P w K mg base "fewest_parts" 15 1 false m_fewest_parts := has_mk (ps := ["matrix"]) F_fewest_parts g_fewest_parts (p_fewest_parts F_fewest_parts Z h_check_even h_is_enough h_degree_of X_TooLarge) (F_fewest_parts.bindsN fun _ _ _ _ _ _ us hl => match us, hl with | [_], _ => rfl)
  have h__law_one : Has P w K mg base "_law_one" 16 2 false m__law_one := has_mk (ps := ["what", "own"]) F__law_one g__law_one (p__law_one F__law_one Z h_P___init__ h_degree h_is_even h_first_permutation h_block h_placement h_cover h_permutations h_count_permutations h_split h_fewest_parts h_best_permutation h_worth_block h_raised h_schedule h_format_matrix HW) (F__law_one.bindsN fun _ _ _ _ _ _ us hl => match us, hl with | [_, _], _ => rfl)
  exact p_law F_law Z h__law_draw h__law_two h__law_one h_is_matrix law_true

end Pm
open PySem PySem.W PySem.Calls PyProof.Rows
set_option maxHeartbeats 0
theorem PySem.Challenge.cw_permsplits_k20_invalid_matrices_holds : PySem.Challenge.rw_permsplits_k20_invalid_matrices.Holds := by
  w_on; o_law
  refine HandSHeadRun.head_any (r := OpenLaw.row PySem.Challenge.rw_permsplits_k20_invalid_matrices) (q := view (OpenLaw.row PySem.Challenge.rw_permsplits_k20_invalid_matrices).prog [93]) (H := Pm.hk) (ob := Pm.hob) (M := 20000) (loose := Pm.loose) (d := HandSHeadRun.topDef (OpenLaw.row PySem.Challenge.rw_permsplits_k20_invalid_matrices).prog 93) (kwd := []) Pm.hob_eq
    (by kernel_rfl) (fun s => by kernel_rfl) Pm.hrun (by kernel_rfl) (by kernel_rfl) (by kernel_rfl) (by rfl) (by first | assumption | decide +kernel) (by decide +kernel) ⟨rfl, rfl, rfl, rfl, rfl, by decide +kernel⟩ ?hw ?hc
  case hw => w_witness2
  case hc =>
    refine Pm.walk_ofW (l := PySem.Challenge.rw_permsplits_k20_invalid_matrices) (n := 63) (k := 17) (x := "script") (CX := L2.CX (PySem.Challenge.rw_permsplits_k20_invalid_matrices).prog) rfl (by decide) (by kernel_rfl) ⟨rfl, by decide, by decide⟩ ?F ?X
    · intro w mg fa h Y G hmg0
      obtain ⟨K, KX, c, cx⟩ := Y
      have hmg : mg ("law" : PySem.Str) = some (.ref fa) := by
        have e : (HandSHeadRun.topDef (OpenLaw.row PySem.Challenge.rw_permsplits_k20_invalid_matrices).prog 93).name = ("law" : PySem.Str) := by kernel_rfl
        rw [← e]
        exact hmg0
      obtain ⟨fd, hb, hF⟩ := Pm.facts (P := (PySem.Challenge.rw_permsplits_k20_invalid_matrices).prog) (w := w) KX G hmg c cx
      exact ⟨K, fd, Pm.spLaw K, KX, hb, fun H a ns hl _ hS => ⟨a, ns, rfl, hS, hl, fun _ => rfl⟩, hF⟩
    · intro w H s e s' z
      obtain ⟨_, _, _, _, _, _, _, _, _, _, _, _, z⟩ := z
      exact z

