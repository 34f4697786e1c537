import PyProof.Rows.All
import Wide.All
import OpenK.AllK
import Wide.FinOn
import KE.KStateDown
import Lean
import HandS.ForMost
import HandS.More
import HandS.Flow
import HandS.Wide
import HandS.Codes
import HandS.IsInst
import HandS.TupAny
import HandS.Zip
import HandS.Rev
import HandS.RevRange
import HandS.StrMore
import HandS.Defaults
import HandS.WordsExc
import HandS.Deep
import HandS.Steps
import HandS.Style
import HandS.NoneIn
import HandS.RaiseMore
import HandS.TupMul
import HandS.Small
import HandS.Conv
import HandS.Dict
import HandS.Head0
import HandS.Head1
import HandS.Head2
import HandS.HeadEnd
import HandS.HeadHook1
import HandS.HeadHook2
import HandS.Iter
import HandS.NamedTupSort
import HandS.Replace
import HandS.SetFor
import HandS.Sort
import HandS.SortKw
import HandS.SortOrd
import HandS.SortRule
import HandS.Strs
import HandS.TupLe
import HandS.Walk
import KE.GoesMore
import PyProof.CallType
import PyProof.CollectStr
import PyProof.ListRange
import PyProof.P3Eq
import PyProof.ReprLen
import PyProof.ReprRoads
import PyProof.Rows.SortStr
import PyProof.WalkInts
import PySem.Challenge.RW_anyfont_k11_fonts_reckoned_by_hand
set_option linter.all false
set_option maxRecDepth 100000
set_option autoImplicit false
namespace G
open PySem PySem.Spec PyProof.Rows L2
/-! ### what the head needs ahead of all else -/
def clsBody : Stmt → List Stmt
  | .ClassDef _ _ _ b _ _ _ _ _ _ _ => b
  | _ => []
end G

set_option Elab.async false
set_option linter.all false
set_option autoImplicit false
set_option maxRecDepth 100000
set_option maxHeartbeats 0
namespace G
open PySem PySem.Spec PyProof.Rows L2
def topS (i : Nat) : Stmt := PySem.Challenge.pw_anyfont_k11_fonts_reckoned_by_hand.main.body.getD i (.Pass ⟨0, 0, 0, 0⟩)
abbrev s_common_divisor : Stmt := topS 2
abbrev s_divisor_of : Stmt := topS 3
abbrev s_weighted : Stmt := topS 4
abbrev s_unit_row : Stmt := topS 6
abbrev s_with_slack : Stmt := topS 9
abbrev s_Table_init : Stmt := (clsBody (topS 8)).getD 0 (.Pass ⟨0, 0, 0, 0⟩)
abbrev s_Table_entering : Stmt := (clsBody (topS 8)).getD 3 (.Pass ⟨0, 0, 0, 0⟩)
abbrev s_Table_reduced : Stmt := (clsBody (topS 8)).getD 1 (.Pass ⟨0, 0, 0, 0⟩)
abbrev s_Table_exchange : Stmt := (clsBody (topS 8)).getD 2 (.Pass ⟨0, 0, 0, 0⟩)
abbrev s_Table_limits_more : Stmt := (clsBody (topS 8)).getD 5 (.Pass ⟨0, 0, 0, 0⟩)
abbrev s_Table_leaving : Stmt := (clsBody (topS 8)).getD 4 (.Pass ⟨0, 0, 0, 0⟩)
abbrev s_Table_improve : Stmt := (clsBody (topS 8)).getD 6 (.Pass ⟨0, 0, 0, 0⟩)
abbrev s_goal_row : Stmt := topS 12
abbrev s_without_slack : Stmt := topS 11
abbrev s_Table_multipliers : Stmt := (clsBody (topS 8)).getD 8 (.Pass ⟨0, 0, 0, 0⟩)
abbrev s_feasible_table : Stmt := topS 10
abbrev s_solve : Stmt := topS 13
abbrev s_Table_point : Stmt := (clsBody (topS 8)).getD 7 (.Pass ⟨0, 0, 0, 0⟩)
abbrev s_decide : Stmt := topS 15
abbrev s_high_rows : Stmt := topS 16
abbrev s_all_conditions : Stmt := topS 17
abbrev s_font_of : Stmt := topS 18
abbrev s_find_font : Stmt := topS 19
abbrev s_find_refutation : Stmt := topS 20
abbrev s_has_font : Stmt := topS 21
abbrev s_law_open : Stmt := topS 23
abbrev s_law_spread : Stmt := topS 24
abbrev s_law_take : Stmt := topS 25
abbrev s_law_same : Stmt := topS 26
abbrev s_law_one_of : Stmt := topS 27
abbrev s_law_divisor : Stmt := topS 28
abbrev s_law_plain : Stmt := topS 29
abbrev s_law_draw_font : Stmt := topS 30
abbrev s_law_sum : Stmt := topS 31
abbrev s_law_holds : Stmt := topS 32
abbrev s_law_draw_condition : Stmt := topS 33
abbrev s_law_draw_letters : Stmt := topS 34
abbrev s_law_draw_knowledge : Stmt := topS 35
abbrev s_law_draw_text : Stmt := topS 36
abbrev s_law_counts : Stmt := topS 37
abbrev s_law_fits : Stmt := topS 38
abbrev s_law_is_font : Stmt := topS 39
abbrev s_law_rows : Stmt := topS 40
abbrev s_law_refutes : Stmt := topS 41
abbrev s_law_unit : Stmt := topS 42
abbrev s_law_spans : Stmt := topS 43
abbrev s_law_chain : Stmt := topS 44
abbrev s_law_sums : Stmt := topS 45
abbrev s_law : Stmt := topS 46
/-! ### the head -/
def dd_common_divisor : He.DefD := ⟨("common_divisor", none), "common_divisor", "common_divisor", defArgs s_common_divisor, defBody s_common_divisor, defScope s_common_divisor, [], []⟩
def dd_divisor_of : He.DefD := ⟨("divisor_of", none), "divisor_of", "divisor_of", defArgs s_divisor_of, defBody s_divisor_of, defScope s_divisor_of, [], []⟩
def dd_weighted : He.DefD := ⟨("weighted", none), "weighted", "weighted", defArgs s_weighted, defBody s_weighted, defScope s_weighted, [], []⟩
def dd_unit_row : He.DefD := ⟨("unit_row", none), "unit_row", "unit_row", defArgs s_unit_row, defBody s_unit_row, defScope s_unit_row, [], []⟩
def dd_with_slack : He.DefD := ⟨("with_slack", none), "with_slack", "with_slack", defArgs s_with_slack, defBody s_with_slack, defScope s_with_slack, [], []⟩
def dd_Table_init : He.DefD := ⟨("Table", some "__init__"), "__init__", "Table.__init__", defArgs s_Table_init, defBody s_Table_init, defScope s_Table_init, [], []⟩
def dd_Table_entering : He.DefD := ⟨("Table", some "entering"), "entering", "Table.entering", defArgs s_Table_entering, defBody s_Table_entering, defScope s_Table_entering, [], []⟩
def dd_Table_reduced : He.DefD := ⟨("Table", some "reduced"), "reduced", "Table.reduced", defArgs s_Table_reduced, defBody s_Table_reduced, defScope s_Table_reduced, [], []⟩
def dd_Table_exchange : He.DefD := ⟨("Table", some "exchange"), "exchange", "Table.exchange", defArgs s_Table_exchange, defBody s_Table_exchange, defScope s_Table_exchange, [], []⟩
def dd_Table_limits_more : He.DefD := ⟨("Table", some "limits_more"), "limits_more", "Table.limits_more", defArgs s_Table_limits_more, defBody s_Table_limits_more, defScope s_Table_limits_more, [], []⟩
def dd_Table_leaving : He.DefD := ⟨("Table", some "leaving"), "leaving", "Table.leaving", defArgs s_Table_leaving, defBody s_Table_leaving, defScope s_Table_leaving, [], []⟩
def dd_Table_improve : He.DefD := ⟨("Table", some "improve"), "improve", "Table.improve", defArgs s_Table_improve, defBody s_Table_improve, defScope s_Table_improve, [], []⟩
def dd_goal_row : He.DefD := ⟨("goal_row", none), "goal_row", "goal_row", defArgs s_goal_row, defBody s_goal_row, defScope s_goal_row, [], []⟩
def dd_without_slack : He.DefD := ⟨("without_slack", none), "without_slack", "without_slack", defArgs s_without_slack, defBody s_without_slack, defScope s_without_slack, [], []⟩
def dd_Table_multipliers : He.DefD := ⟨("Table", some "multipliers"), "multipliers", "Table.multipliers", defArgs s_Table_multipliers, defBody s_Table_multipliers, defScope s_Table_multipliers, [], []⟩
def dd_feasible_table : He.DefD := ⟨("feasible_table", none), "feasible_table", "feasible_table", defArgs s_feasible_table, defBody s_feasible_table, defScope s_feasible_table, [], []⟩
def dd_solve : He.DefD := ⟨("solve", none), "solve", "solve", defArgs s_solve, defBody s_solve, defScope s_solve, [], []⟩
def dd_Table_point : He.DefD := ⟨("Table", some "point"), "point", "Table.point", defArgs s_Table_point, defBody s_Table_point, defScope s_Table_point, [], []⟩
def dd_decide : He.DefD := ⟨("decide", none), "decide", "decide", defArgs s_decide, defBody s_decide, defScope s_decide, [], []⟩
def dd_high_rows : He.DefD := ⟨("high_rows", none), "high_rows", "high_rows", defArgs s_high_rows, defBody s_high_rows, defScope s_high_rows, [], []⟩
def dd_all_conditions : He.DefD := ⟨("all_conditions", none), "all_conditions", "all_conditions", defArgs s_all_conditions, defBody s_all_conditions, defScope s_all_conditions, [], []⟩
def dd_font_of : He.DefD := ⟨("font_of", none), "font_of", "font_of", defArgs s_font_of, defBody s_font_of, defScope s_font_of, [], []⟩
def dd_find_font : He.DefD := ⟨("find_font", none), "find_font", "find_font", defArgs s_find_font, defBody s_find_font, defScope s_find_font, [], []⟩
def dd_find_refutation : He.DefD := ⟨("find_refutation", none), "find_refutation", "find_refutation", defArgs s_find_refutation, defBody s_find_refutation, defScope s_find_refutation, [], []⟩
def dd_has_font : He.DefD := ⟨("has_font", none), "has_font", "has_font", defArgs s_has_font, defBody s_has_font, defScope s_has_font, [], []⟩
def dd_law_open : He.DefD := ⟨("_law_open", none), "_law_open", "_law_open", defArgs s_law_open, defBody s_law_open, defScope s_law_open, [], []⟩
def dd_law_spread : He.DefD := ⟨("_law_spread", none), "_law_spread", "_law_spread", defArgs s_law_spread, defBody s_law_spread, defScope s_law_spread, [], []⟩
def dd_law_take : He.DefD := ⟨("_law_take", none), "_law_take", "_law_take", defArgs s_law_take, defBody s_law_take, defScope s_law_take, [], []⟩
def dd_law_same : He.DefD := ⟨("_law_same", none), "_law_same", "_law_same", defArgs s_law_same, defBody s_law_same, defScope s_law_same, [], []⟩
def dd_law_one_of : He.DefD := ⟨("_law_one_of", none), "_law_one_of", "_law_one_of", defArgs s_law_one_of, defBody s_law_one_of, defScope s_law_one_of, [], []⟩
def dd_law_divisor : He.DefD := ⟨("_law_divisor", none), "_law_divisor", "_law_divisor", defArgs s_law_divisor, defBody s_law_divisor, defScope s_law_divisor, [], []⟩
def dd_law_plain : He.DefD := ⟨("_law_plain", none), "_law_plain", "_law_plain", defArgs s_law_plain, defBody s_law_plain, defScope s_law_plain, [], []⟩
def dd_law_draw_font : He.DefD := ⟨("_law_draw_font", none), "_law_draw_font", "_law_draw_font", defArgs s_law_draw_font, defBody s_law_draw_font, defScope s_law_draw_font, [], []⟩
def dd_law_sum : He.DefD := ⟨("_law_sum", none), "_law_sum", "_law_sum", defArgs s_law_sum, defBody s_law_sum, defScope s_law_sum, [], []⟩
def dd_law_holds : He.DefD := ⟨("_law_holds", none), "_law_holds", "_law_holds", defArgs s_law_holds, defBody s_law_holds, defScope s_law_holds, [], []⟩
def dd_law_draw_condition : He.DefD := ⟨("_law_draw_condition", none), "_law_draw_condition", "_law_draw_condition", defArgs s_law_draw_condition, defBody s_law_draw_condition, defScope s_law_draw_condition, [], []⟩
def dd_law_draw_letters : He.DefD := ⟨("_law_draw_letters", none), "_law_draw_letters", "_law_draw_letters", defArgs s_law_draw_letters, defBody s_law_draw_letters, defScope s_law_draw_letters, [], []⟩
def dd_law_draw_knowledge : He.DefD := ⟨("_law_draw_knowledge", none), "_law_draw_knowledge", "_law_draw_knowledge", defArgs s_law_draw_knowledge, defBody s_law_draw_knowledge, defScope s_law_draw_knowledge, [], []⟩
def dd_law_draw_text : He.DefD := ⟨("_law_draw_text", none), "_law_draw_text", "_law_draw_text", defArgs s_law_draw_text, defBody s_law_draw_text, defScope s_law_draw_text, [], []⟩
def dd_law_counts : He.DefD := ⟨("_law_counts", none), "_law_counts", "_law_counts", defArgs s_law_counts, defBody s_law_counts, defScope s_law_counts, [], []⟩
def dd_law_fits : He.DefD := ⟨("_law_fits", none), "_law_fits", "_law_fits", defArgs s_law_fits, defBody s_law_fits, defScope s_law_fits, [], []⟩
def dd_law_is_font : He.DefD := ⟨("_law_is_font", none), "_law_is_font", "_law_is_font", defArgs s_law_is_font, defBody s_law_is_font, defScope s_law_is_font, [], []⟩
def dd_law_rows : He.DefD := ⟨("_law_rows", none), "_law_rows", "_law_rows", defArgs s_law_rows, defBody s_law_rows, defScope s_law_rows, [], []⟩
def dd_law_refutes : He.DefD := ⟨("_law_refutes", none), "_law_refutes", "_law_refutes", defArgs s_law_refutes, defBody s_law_refutes, defScope s_law_refutes, [], []⟩
def dd_law_unit : He.DefD := ⟨("_law_unit", none), "_law_unit", "_law_unit", defArgs s_law_unit, defBody s_law_unit, defScope s_law_unit, [], []⟩
def dd_law_spans : He.DefD := ⟨("_law_spans", none), "_law_spans", "_law_spans", defArgs s_law_spans, defBody s_law_spans, defScope s_law_spans, [], []⟩
def dd_law_chain : He.DefD := ⟨("_law_chain", none), "_law_chain", "_law_chain", defArgs s_law_chain, defBody s_law_chain, defScope s_law_chain, [], []⟩
def dd_law_sums : He.DefD := ⟨("_law_sums", none), "_law_sums", "_law_sums", defArgs s_law_sums, defBody s_law_sums, defScope s_law_sums, [], []⟩
def dd_law : He.DefD := ⟨("law", none), "law", "law", defArgs s_law, defBody s_law, defScope s_law, [], []⟩
def fnL : List He.DefD := [dd_common_divisor, dd_divisor_of, dd_weighted, dd_unit_row, dd_with_slack, dd_Table_init, dd_Table_entering, dd_Table_reduced, dd_Table_exchange, dd_Table_limits_more, dd_Table_leaving, dd_Table_improve, dd_goal_row, dd_without_slack, dd_Table_multipliers, dd_feasible_table, dd_solve, dd_Table_point, dd_decide, dd_high_rows, dd_all_conditions, dd_font_of, dd_find_font, dd_find_refutation, dd_has_font, dd_law_open, dd_law_spread, dd_law_take, dd_law_same, dd_law_one_of, dd_law_divisor, dd_law_plain, dd_law_draw_font, dd_law_sum, dd_law_holds, dd_law_draw_condition, dd_law_draw_letters, dd_law_draw_knowledge, dd_law_draw_text, dd_law_counts, dd_law_fits, dd_law_is_font, dd_law_rows, dd_law_refutes, dd_law_unit, dd_law_spans, dd_law_chain, dd_law_sums, dd_law]
def faL : List He.Fa := [.glo "common_divisor", .glo "divisor_of", .glo "weighted", .glo "unit_row", .glo "with_slack", .glo "goal_row", .glo "without_slack", .glo "feasible_table", .glo "solve", .glo "decide", .glo "high_rows", .glo "all_conditions", .glo "font_of", .glo "find_font", .glo "find_refutation", .glo "has_font", .glo "_law_open", .glo "_law_spread", .glo "_law_take", .glo "_law_same", .glo "_law_one_of", .glo "_law_divisor", .glo "_law_plain", .glo "_law_draw_font", .glo "_law_sum", .glo "_law_holds", .glo "_law_draw_condition", .glo "_law_draw_letters", .glo "_law_draw_knowledge", .glo "_law_draw_text", .glo "_law_counts", .glo "_law_fits", .glo "_law_is_font", .glo "_law_rows", .glo "_law_refutes", .glo "_law_unit", .glo "_law_spans", .glo "_law_chain", .glo "_law_sums", .glo "law", .free "zip", .free "sum", .free "range", .free "tuple", .free "list", .free "len", .free "enumerate", .free "min", .free "abs", .free "int", .free "isinstance", .free "bool", .free "str", .free "max", .free "sorted", .int "MAX_WIDTH" 20, .glo "Table", .cls "Table", .noat "Table" "size", .noat "Table" "rows", .noat "Table" "goal", .noat "Table" "columns", .noat "Table" "basis", .noat "Table" "denominator", .mkr "Table", .meth "Table" "entering", .meth "Table" "reduced", .meth "Table" "exchange", .meth "Table" "limits_more", .meth "Table" "leaving", .meth "Table" "improve", .meth "Table" "multipliers", .meth "Table" "point"]
abbrev RR : PySem.W.OpenRow := PySem.W.OpenLaw.row PySem.Challenge.rw_anyfont_k11_fonts_reckoned_by_hand
abbrev hkL : PySem.W.Hook := He.hookD 4 faL fnL
def obL (s : PySem.W.SharedT) : He.AlD := He.obsDG 4 faL fnL (HandSHeadRun.getT s)
theorem obL_eq (s : PySem.W.SharedT) : obL s = hkL.obs s.abs := He.obsDG_eq (HandSHeadRun.getT_eq s)
def looseL : List Str := (["MAX_WIDTH", "common_divisor", "divisor_of", "weighted", "unit_row", "Table", "with_slack", "feasible_table", "without_slack", "goal_row", "solve", "decide", "high_rows", "all_conditions", "font_of", "find_font"] : List Str) ++ (["find_refutation", "has_font", "_law_open", "_law_spread", "_law_take", "_law_same", "_law_one_of", "_law_divisor", "_law_plain", "_law_draw_font", "_law_sum", "_law_holds", "_law_draw_condition", "_law_draw_letters", "_law_draw_knowledge", "_law_draw_text"] : List Str) ++ (["_law_counts", "_law_fits", "_law_is_font", "_law_rows", "_law_refutes", "_law_unit", "_law_spans", "_law_chain", "_law_sums"] : List Str)
theorem runL (w : World) : HandSHeadRun.RunEq RR (PySem.W.view RR.prog [46]) hkL obL 4000 looseL w := by
  intro os
  kernel_rfl
end G
section
open PySem PySem.W PySem.Calls PyProof.Rows
theorem G.frontL (hc : PySem.W.WalkO (PySem.W.view G.RR.prog [46]) G.looseL (PySem.W.XL (PySem.W.view G.RR.prog [46]) []) G.hkL.says G.RR.toRowW (HandSHeadRun.topDef G.RR.prog 46) [] fun f vs => PySem.call f vs) : PySem.Challenge.rw_anyfont_k11_fonts_reckoned_by_hand.Holds := by
  w_on; o_law
  refine HandSHeadRun.head_any (r := OpenLaw.row PySem.Challenge.rw_anyfont_k11_fonts_reckoned_by_hand) (q := view (OpenLaw.row PySem.Challenge.rw_anyfont_k11_fonts_reckoned_by_hand).prog [46]) (H := G.hkL) (ob := G.obL) (M := 4000) (loose := G.looseL) (d := HandSHeadRun.topDef (OpenLaw.row PySem.Challenge.rw_anyfont_k11_fonts_reckoned_by_hand).prog 46) (kwd := []) G.obL_eq
    (by kernel_rfl) (fun s => by kernel_rfl) G.runL (by kernel_rfl) (by kernel_rfl) (by kernel_rfl) (by rfl) (by first | assumption | decide +kernel) (by decide +kernel) ⟨rfl, rfl, rfl, rfl, rfl, by decide +kernel⟩ ?hw hc
  case hw => w_witness2
end

set_option Elab.async false
set_option linter.all false
set_option maxRecDepth 100000
set_option autoImplicit false
namespace G
open PySem PySem.Spec PyProof.Rows L2

/-! ### values as trees -/
inductive D where
  | non
  | bl (b : Bool)
  | int (i : Int)
  | str (x : Str)
  | tup (l : List D)
  | lst (l : List D)
  | dic (l : List (D × D))
  | cell (a : Addr)
  | fn (a : Addr)
  | ty (n : String)
  | scr (F : PySem.W.Frag) (l : List Int)

inductive Cell where
  | lst (l : List D)
  | dic (l : List (D × D))
  | obj (C : Addr) (fs : List (Str × D))

abbrev Sto := Addr → Option Cell
def Sto.set (S : Sto) (a : Addr) (c : Cell) : Sto := fun b => if b = a then some c else S b
def Sto.del (S : Sto) (a : Addr) : Sto := fun b => if b = a then none else S b
def Sto.nil : Sto := fun _ => none
theorem Sto.set_same {S : Sto} {a : Addr} {c : Cell} : S.set a c a = some c := if_pos rfl
theorem Sto.set_ne {S : Sto} {a b : Addr} {c : Cell} (h : b ≠ a) : S.set a c b = S b := if_neg h
theorem Sto.del_same {S : Sto} {a : Addr} : S.del a a = none := if_pos rfl
theorem Sto.del_ne {S : Sto} {a b : Addr} (h : b ≠ a) : S.del a b = S b := if_neg h
theorem Sto.set_set {S : Sto} {a : Addr} {c e : Cell} : (S.set a c).set a e = S.set a e := by
  funext b; unfold Sto.set; split <;> rfl
theorem Sto.set_del {S : Sto} {a : Addr} {c : Cell} (h : S a = none) : (S.set a c).del a = S := by
  funext b
  by_cases e : b = a
  · rw [e, h]; exact if_pos rfl
  · exact (if_neg e).trans (if_neg e)
/-- a part of a store -/
def Sub (S' S : Sto) : Prop := ∀ a c, S' a = some c → S a = some c
theorem Sub.refl (S : Sto) : Sub S S := fun _ _ h => h
theorem Sub.trans {A B C : Sto} (h : Sub A B) (k : Sub B C) : Sub A C := fun a c e => k a c (h a c e)
/-- the key of a dict as a value -/
def kD : Key → D
  | .inl i => .int i
  | .inr x => .str x

/-- what may change: hidden objects (N), cells -/
abbrev Hid := Addr → Prop
def alive (N : Hid) (S : Sto) : Addr → Prop := fun a => N a ∨ S a ≠ none

/-- the script: a list of ints, locked or written -/
inductive ScrAt (H : Hp) (A : Addr → Prop) (F : PySem.W.Frag) (a : Addr) (l : List Int) : Prop
  | rd : Rd H a (.lst (l.map V.int)) → ¬ A a → ScrAt H A F a l
  | kn : (∃ (o : Obj) (its : Array Value) (n : Nat), F.lookup a = some o ∧ o.cls = .type "list" ∧ o.dict = none ∧ o.data = .seq its n ∧ its.size ≤ sizeLine ∧ Vals (l.map V.int) its.toList) → ScrAt H A F a l
theorem ScrAt.sq {H : Hp} {A : Addr → Prop} {F : PySem.W.Frag} {a : Addr} {l : List Int} (h : ScrAt H A F a l) : SqL F H a (l.map V.int) := by
  cases h with
  | rd h _ => exact .inl h
  | kn h => exact .inr h
theorem ScrAt.of {H : Hp} {A : Addr → Prop} {F : PySem.W.Frag} {a : Addr} {l : List Int} (h : SqL F H a (l.map V.int)) (n : ¬ A a) : ScrAt H A F a l := by
  rcases h with h | h
  · exact .rd h n
  · exact .kn h
mutual
inductive Rep (H : Hp) (A : Addr → Prop) : V → D → Prop
  | non : Rep H A .non .non
  | bl (b : Bool) : Rep H A (.bl b) (.bl b)
  | int (i : Int) : Rep H A (.int i) (.int i)
  | str (x : Str) : Rep H A (.str x) (.str x)
  | ty (n : String) : Rep H A (.ty n) (.ty n)
  | cell (a : Addr) : Rep H A (.ref a) (.cell a)
  | fn (a : Addr) : Rep H A (.ref a) (.fn a)
  | scr {a : Addr} {F : PySem.W.Frag} {l : List Int} : ScrAt H A F a l → Rep H A (.ref a) (.scr F l)
  | tup {a : Addr} {vs : List V} {ds : List D} : Rd H a (.tup vs) → ¬ A a → Reps H A vs ds → Rep H A (.ref a) (.tup ds)
  | lst {a : Addr} {vs : List V} {ds : List D} : H a = some (.lst vs) → ¬ A a → Reps H A vs ds → Rep H A (.ref a) (.lst ds)
  | dic {a : Addr} {kvs : List (Key × V)} {es : List (D × D)} : H a = some (.dK kvs) → ¬ A a → RepK H A kvs es → Rep H A (.ref a) (.dic es)
inductive Reps (H : Hp) (A : Addr → Prop) : List V → List D → Prop
  | nil : Reps H A [] []
  | cons {v : V} {d : D} {vs : List V} {ds : List D} : Rep H A v d → Reps H A vs ds → Reps H A (v :: vs) (d :: ds)
inductive RepK (H : Hp) (A : Addr → Prop) : List (Key × V) → List (D × D) → Prop
  | nil : RepK H A [] []
  | cons {k : Key} {v : V} {d : D} {vs : List (Key × V)} {ds : List (D × D)} : Rep H A v d → RepK H A vs ds → RepK H A ((k, v) :: vs) ((kD k, d) :: ds)
end

/-- the attributes of an object -/
inductive RepF (H : Hp) (A : Addr → Prop) : List (Str × V) → List (Str × D) → Prop
  | nil : RepF H A [] []
  | cons {k : Str} {v : V} {d : D} {vs : List (Str × V)} {ds : List (Str × D)} : Rep H A v d → RepF H A vs ds → RepF H A ((k, v) :: vs) ((k, d) :: ds)

/-- what is kept between two moments: all that is tracked and not alive -/
structure Tr0 (H : Hp) (A : Addr → Prop) (H' : Hp) (A' : Addr → Prop) : Prop where
  keep : ∀ a o, H a = some o → ¬ A a → H' a = some o
  old : ∀ a o, H a = some o → ¬ A a → ¬ A' a
theorem Tr0.rd {H H' : Hp} {A A' : Addr → Prop} (t : Tr0 H A H' A') {a : Addr} {u : HO} (h : Rd H a u) (k : ¬ A a) : Rd H' a u ∧ ¬ A' a := by
  rcases h with h | ⟨o, h⟩
  · exact ⟨.inl (t.keep _ _ h k), t.old _ _ h k⟩
  · exact ⟨.inr ⟨o, t.keep _ _ h k⟩, t.old _ _ h k⟩

section
variable {H H' : Hp} {A A' : Addr → Prop}
theorem ScrAt.mono0 (t : Tr0 H A H' A') {F : PySem.W.Frag} {a : Addr} {l : List Int} (h : ScrAt H A F a l) : ScrAt H' A' F a l := by
  cases h with
  | rd r k => exact .rd (t.rd r k).1 (t.rd r k).2
  | kn r => exact .kn r
mutual
theorem Rep.mono0 (t : Tr0 H A H' A') : ∀ {v : V} {d : D}, Rep H A v d → Rep H' A' v d
  | _, _, .non => .non
  | _, _, .bl b => .bl b
  | _, _, .int i => .int i
  | _, _, .str x => .str x
  | _, _, .ty n => .ty n
  | _, _, .cell a => .cell a
  | _, _, .fn a => .fn a
  | _, _, .scr h => .scr (h.mono0 t)
  | _, _, .tup r k q => .tup (t.rd r k).1 (t.rd r k).2 (Reps.mono0 t q)
  | _, _, .lst r k q => .lst (t.keep _ _ r k) (t.old _ _ r k) (Reps.mono0 t q)
  | _, _, .dic r k q => .dic (t.keep _ _ r k) (t.old _ _ r k) (RepK.mono0 t q)
theorem Reps.mono0 (t : Tr0 H A H' A') : ∀ {vs : List V} {ds : List D}, Reps H A vs ds → Reps H' A' vs ds
  | _, _, .nil => .nil
  | _, _, .cons r q => .cons (Rep.mono0 t r) (Reps.mono0 t q)
theorem RepK.mono0 (t : Tr0 H A H' A') : ∀ {vs : List (Key × V)} {ds : List (D × D)}, RepK H A vs ds → RepK H' A' vs ds
  | _, _, .nil => .nil
  | _, _, .cons r q => .cons (Rep.mono0 t r) (RepK.mono0 t q)
end
theorem RepF.mono0 (t : Tr0 H A H' A') {vs : List (Str × V)} {ds : List (Str × D)} (h : RepF H A vs ds) : RepF H' A' vs ds := by
  induction h with
  | nil => exact .nil
  | cons r _ ih => exact .cons (r.mono0 t) ih
end

/-- .. with what is hidden -/
structure Tr (N : Hid) (H : Hp) (S : Sto) (H' : Hp) (S' : Sto) : Prop where
  t0 : Tr0 H (alive N S) H' (alive N S')
  hid : ∀ a, N a → H' a = H a
  there : ∀ a o, H a = some o → ∃ o', H' a = some o'
theorem Tr.refl (N : Hid) (H : Hp) (S : Sto) : Tr N H S H S := ⟨⟨fun _ _ h _ => h, fun _ _ _ h => h⟩, fun _ _ => rfl, fun _ o h => ⟨o, h⟩⟩
theorem Tr.trans {N : Hid} {H H1 H2 : Hp} {S S1 S2 : Sto} (a : Tr N H S H1 S1) (b : Tr N H1 S1 H2 S2) : Tr N H S H2 S2 := by
  refine ⟨⟨fun c o h k => b.t0.keep c o (a.t0.keep c o h k) (a.t0.old c o h k), fun c o h k => b.t0.old c o (a.t0.keep c o h k) (a.t0.old c o h k)⟩, fun c n => (b.hid c n).trans (a.hid c n), fun c o h => ?_⟩
  obtain ⟨o', e⟩ := a.there c o h
  exact b.there c o' e
theorem Tr.fresh {N : Hid} {H H' : Hp} {S S' : Sto} (t : Tr N H S H' S') {p : Addr} (h : H' p = none) : H p = none := by
  cases q : H p with
  | none => rfl
  | some o =>
    obtain ⟨o', e⟩ := t.there p o q
    rw [h] at e; cases e
section
variable {N : Hid} {H H' : Hp} {S S' : Sto}
abbrev Rp (N : Hid) (H : Hp) (S : Sto) : V → D → Prop := Rep H (alive N S)
abbrev Rps (N : Hid) (H : Hp) (S : Sto) : List V → List D → Prop := Reps H (alive N S)
theorem Rep.mono (t : Tr N H S H' S') {v : V} {d : D} (h : Rep H (alive N S) v d) : Rep H' (alive N S') v d := h.mono0 t.t0
theorem Reps.mono (t : Tr N H S H' S') {vs : List V} {ds : List D} (h : Reps H (alive N S) vs ds) : Reps H' (alive N S') vs ds := h.mono0 t.t0
theorem RepK.mono (t : Tr N H S H' S') {vs : List (Key × V)} {ds : List (D × D)} (h : RepK H (alive N S) vs ds) : RepK H' (alive N S') vs ds := h.mono0 t.t0
theorem RepF.mono (t : Tr N H S H' S') {vs : List (Str × V)} {ds : List (Str × D)} (h : RepF H (alive N S) vs ds) : RepF H' (alive N S') vs ds := h.mono0 t.t0
end

def CellOk (N : Hid) (H : Hp) (S : Sto) (c : Addr) : Cell → Prop
  | .lst ds => ∃ vs, H c = some (.lst vs) ∧ Reps H (alive N S) vs ds
  | .dic es => ∃ kvs, H c = some (.dK kvs) ∧ RepK H (alive N S) kvs es
  | .obj C fs => ∃ dx fvs, H c = some (.ins C dx fvs) ∧ RepF H (alive N S) fvs fs
structure CellsOk (N : Hid) (H : Hp) (S : Sto) : Prop where
  at_ : ∀ c x, S c = some x → CellOk N H S c x
  hid : ∀ a, N a → S a = none ∧ ∃ o, H a = some o

section
variable {N : Hid} {H H' : Hp} {S S' : Sto} {c p : Addr} {x : Cell}
theorem CellOk.there (h : CellOk N H S c x) : ∃ o, H c = some o ∧ Mut (some o) := by
  cases x with
  | lst ds => obtain ⟨vs, e, _⟩ := h; exact ⟨_, e, trivial⟩
  | dic es => obtain ⟨vs, e, _⟩ := h; exact ⟨_, e, trivial⟩
  | obj C fs => obtain ⟨dx, vs, e, _⟩ := h; exact ⟨_, e, trivial⟩
theorem CellsOk.free (h : CellsOk N H S) (n : H p = none) : S p = none := by
  cases q : S p with
  | none => rfl
  | some x =>
    obtain ⟨o, e, _⟩ := (h.at_ p x q).there
    rw [n] at e; cases e
theorem CellsOk.dead (h : CellsOk N H S) (n : H p = none) : ¬ alive N S p := fun z => by
  rcases z with z | z
  · obtain ⟨_, o, e⟩ := h.hid p z
    rw [n] at e; cases e
  · exact z (h.free n)
theorem CellOk.mono (t : Tr N H S H' S') (e : H' c = H c) (h : CellOk N H S c x) : CellOk N H' S' c x := by
  cases x with
  | lst ds => obtain ⟨vs, k, r⟩ := h; exact ⟨vs, e.trans k, r.mono t⟩
  | dic es => obtain ⟨vs, k, r⟩ := h; exact ⟨vs, e.trans k, r.mono t⟩
  | obj C fs => obtain ⟨dx, vs, k, r⟩ := h; exact ⟨dx, vs, e.trans k, r.mono t⟩
/-- a new object that is not a cell -/
theorem Tr.new (c : CellsOk N H S) (n : H p = none) {o : HO} : Tr N H S (upd H p o) S := by
  refine ⟨⟨fun a u h _ => by rw [upd_ne (ne_of_none h n)]; exact h, fun _ _ _ k => k⟩, fun a k => ?_, fun a u h => ⟨u, by rw [upd_ne (ne_of_none h n)]; exact h⟩⟩
  obtain ⟨_, u, e⟩ := c.hid a k
  exact upd_ne (ne_of_none e n)
theorem CellsOk.new (h : CellsOk N H S) (n : H p = none) {o : HO} : CellsOk N (upd H p o) S := by
  refine ⟨fun c x e => ?_, fun a k => ⟨(h.hid a k).1, ?_⟩⟩
  · have k := h.at_ c x e
    obtain ⟨u, hu, _⟩ := k.there
    exact k.mono (Tr.new h n) (upd_ne (ne_of_none hu n))
  · obtain ⟨u, e⟩ := (h.hid a k).2
    exact ⟨u, by rw [upd_ne (ne_of_none e n)]; exact e⟩
theorem alive_set {a : Addr} (h : ¬ alive N S a) (n : a ≠ p) : ¬ alive N (S.set p x) a := fun z => by
  rcases z with z | z
  · exact h (.inl z)
  · rw [Sto.set_ne n] at z; exact h (.inr z)
theorem alive_del {a : Addr} (h : ¬ alive N S a) : ¬ alive N (S.del p) a := fun z => by
  rcases z with z | z
  · exact h (.inl z)
  · by_cases w : a = p
    · rw [w] at z; exact z Sto.del_same
    · rw [Sto.del_ne w] at z; exact h (.inr z)
/-- a new cell -/
theorem Tr.newC (c : CellsOk N H S) (n : H p = none) {o : HO} {x : Cell} : Tr N H S (upd H p o) (S.set p x) := by
  refine ⟨⟨fun a u h _ => by rw [upd_ne (ne_of_none h n)]; exact h, fun a u h k => alive_set k (ne_of_none h n)⟩, fun a k => ?_, fun a u h => ⟨u, by rw [upd_ne (ne_of_none h n)]; exact h⟩⟩
  obtain ⟨_, u, e⟩ := c.hid a k
  exact upd_ne (ne_of_none e n)
theorem CellsOk.newC (h : CellsOk N H S) (n : H p = none) {o : HO} {x : Cell} (k : CellOk N (upd H p o) (S.set p x) p x) : CellsOk N (upd H p o) (S.set p x) := by
  refine ⟨fun c y e => ?_, fun a m => ?_⟩
  · by_cases z : c = p
    · rw [z, Sto.set_same] at e
      cases e
      rw [z]; exact k
    · rw [Sto.set_ne z] at e
      exact (h.at_ c y e).mono (Tr.newC h n) (upd_ne z)
  · obtain ⟨e0, u, e⟩ := h.hid a m
    have ne := ne_of_none e n
    exact ⟨by rw [Sto.set_ne ne]; exact e0, u, by rw [upd_ne ne]; exact e⟩
/-- a cell is written -/
theorem Tr.put (k : CellsOk N H S) {y : Cell} (e : S c = some y) {o : HO} {x : Cell} : Tr N H S (upd H c o) (S.set c x) := by
  have ne : ∀ a, ¬ alive N S a → a ≠ c := fun a k z => k (.inr (by rw [z, e]; exact fun w => nomatch w))
  refine ⟨⟨fun a u h k => by rw [upd_ne (ne a k)]; exact h, fun a u h k => alive_set k (ne a k)⟩, fun a m => ?_, fun a u h => ?_⟩
  · refine upd_ne fun z => ?_
    have := (k.hid a m).1
    rw [z, e] at this; cases this
  · by_cases z : a = c
    · rw [z]; exact ⟨o, upd_same⟩
    · exact ⟨u, by rw [upd_ne z]; exact h⟩
theorem CellsOk.put (h : CellsOk N H S) {y : Cell} (e : S c = some y) {o : HO} {x : Cell} (k : CellOk N (upd H c o) (S.set c x) c x) : CellsOk N (upd H c o) (S.set c x) := by
  refine ⟨fun b z q => ?_, fun a m => ?_⟩
  · by_cases w : b = c
    · rw [w, Sto.set_same] at q
      cases q
      rw [w]; exact k
    · rw [Sto.set_ne w] at q
      exact (h.at_ b z q).mono (Tr.put h e) (upd_ne w)
  · obtain ⟨e0, u, e1⟩ := h.hid a m
    have ne : a ≠ c := fun z => by rw [z, e] at e0; cases e0
    exact ⟨by rw [Sto.set_ne ne]; exact e0, u, by rw [upd_ne ne]; exact e1⟩
/-- a cell is a cell no more -/
theorem Tr.del : Tr N H S H (S.del c) := ⟨⟨fun _ _ h _ => h, fun _ _ _ k => alive_del k⟩, fun _ _ => rfl, fun _ o h => ⟨o, h⟩⟩
theorem CellsOk.del (h : CellsOk N H S) : CellsOk N H (S.del c) := by
  refine ⟨fun b z q => ?_, fun a m => ⟨?_, (h.hid a m).2⟩⟩
  · by_cases w : b = c
    · rw [w, Sto.del_same] at q; cases q
    · rw [Sto.del_ne w] at q
      exact (h.at_ b z q).mono Tr.del rfl
  · by_cases w : a = c
    · rw [w]; exact Sto.del_same
    · rw [Sto.del_ne w]; exact (h.hid a m).1
/-- cells are forgotten -/
theorem Tr.sub (s : Sub S' S) : Tr N H S H S' := by
  refine ⟨⟨fun _ _ h _ => h, fun a _ _ k z => ?_⟩, fun _ _ => rfl, fun a o h => ⟨o, h⟩⟩
  rcases z with z | z
  · exact k (.inl z)
  · cases q : S' a with
    | none => exact z q
    | some c => exact k (.inr (by rw [s a c q]; exact fun w => nomatch w))
theorem CellsOk.sub (h : CellsOk N H S) (s : Sub S' S) : CellsOk N H S' := by
  refine ⟨fun b z q => (h.at_ b z (s b z q)).mono (Tr.sub s) rfl, fun a m => ⟨?_, (h.hid a m).2⟩⟩
  cases q : S' a with
  | none => rfl
  | some c =>
    have := (h.hid a m).1
    rw [s a c q] at this; cases this
/-- one object more is hidden -/
def hidP (N : Hid) (p : Addr) : Hid := fun a => N a ∨ a = p
theorem alive_hidP {a : Addr} : alive (hidP N p) S a → alive N S a ∨ a = p := fun z => by
  rcases z with (z | z) | z
  · exact .inl (.inl z)
  · exact .inr z
  · exact .inl (.inr z)
/-- without the object at p -/
def und (H : Hp) (p : Addr) : Hp := fun b => if b = p then none else H b
theorem und_same {H : Hp} : und H p p = none := if_pos rfl
theorem und_ne {H : Hp} {a : Addr} (h : a ≠ p) : und H p a = H a := if_neg h
theorem upd_und {H : Hp} {o : HO} (h : H p = some o) : upd (und H p) p o = H := by
  funext b
  by_cases e : b = p
  · rw [e, upd_same, h]
  · rw [upd_ne e, und_ne e]
theorem Tr0.hide {N : Hid} {H : Hp} {S : Sto} {o : HO} (n : H p = none) : Tr0 H (alive N S) (upd H p o) (alive (hidP N p) S) :=
  ⟨fun a u h _ => by rw [upd_ne (ne_of_none h n)]; exact h, fun a u h l z => (alive_hidP z).elim l fun e => by rw [e, n] at h; cases h⟩
theorem Tr0.unhide {N : Hid} {H : Hp} {S : Sto} : Tr0 H (alive (hidP N p) S) (und H p) (alive N S) :=
  ⟨fun a u h k => by rw [und_ne fun z => k (.inl (.inr z))]; exact h, fun a u h k z => k (z.elim (fun w => .inl (.inl w)) .inr)⟩
theorem CellsOk.hide (k : CellsOk N H S) (n : H p = none) {o : HO} : CellsOk (hidP N p) (upd H p o) S := by
  refine ⟨fun c x e => ?_, fun a m => ?_⟩
  · have q := k.at_ c x e
    obtain ⟨u, hu, _⟩ := q.there
    have ec : upd H p o c = H c := upd_ne (ne_of_none hu n)
    cases x with
    | lst ds => obtain ⟨vs, z, r⟩ := q; exact ⟨vs, ec.trans z, r.mono0 (Tr0.hide n)⟩
    | dic es => obtain ⟨vs, z, r⟩ := q; exact ⟨vs, ec.trans z, r.mono0 (Tr0.hide n)⟩
    | obj C fs => obtain ⟨dx, vs, z, r⟩ := q; exact ⟨dx, vs, ec.trans z, r.mono0 (Tr0.hide n)⟩
  · rcases m with m | m
    · obtain ⟨e0, u, e1⟩ := k.hid a m
      exact ⟨e0, u, by rw [upd_ne (ne_of_none e1 n)]; exact e1⟩
    · rw [m]; exact ⟨k.free n, o, upd_same⟩
theorem CellsOk.unhide (k : CellsOk (hidP N p) H S) (m : ∀ a, N a → a ≠ p) : CellsOk N (und H p) S := by
  refine ⟨fun c x e => ?_, fun a ma => ?_⟩
  · have q := k.at_ c x e
    have ne : c ≠ p := fun z => by
      have := (k.hid p (.inr rfl)).1
      rw [← z, e] at this; cases this
    have ec : und H p c = H c := und_ne ne
    cases x with
    | lst ds => obtain ⟨vs, z, r⟩ := q; exact ⟨vs, ec.trans z, r.mono0 Tr0.unhide⟩
    | dic es => obtain ⟨vs, z, r⟩ := q; exact ⟨vs, ec.trans z, r.mono0 Tr0.unhide⟩
    | obj C fs => obtain ⟨dx, vs, z, r⟩ := q; exact ⟨dx, vs, ec.trans z, r.mono0 Tr0.unhide⟩
  · obtain ⟨e0, u, e1⟩ := k.hid a (.inl ma)
    exact ⟨e0, u, by rw [und_ne (m a ma)]; exact e1⟩
theorem Tr.unhide {o : HO} (t : Tr (hidP N p) (upd H p o) S H' S') (n : H p = none) (m : ∀ a, N a → a ≠ p) : Tr N H S (und H' p) S' := by
  refine ⟨⟨fun a u h k => ?_, fun a u h k z => ?_⟩, fun a ma => ?_, fun a u h => ?_⟩
  · have ne := ne_of_none h n
    rw [und_ne ne]
    exact t.t0.keep a u (by rw [upd_ne ne]; exact h) fun z => (alive_hidP z).elim k ne
  · have ne := ne_of_none h n
    refine t.t0.old a u (by rw [upd_ne ne]; exact h) (fun w => (alive_hidP w).elim k ne) ?_
    exact z.elim (fun w => .inl (.inl w)) .inr
  · rw [und_ne (m a ma), t.hid a (.inl ma), upd_ne (m a ma)]
  · have ne := ne_of_none h n
    obtain ⟨u', e⟩ := t.there a u (by rw [upd_ne ne]; exact h)
    exact ⟨u', by rw [und_ne ne]; exact e⟩
theorem CellsOk.hid_ne (k : CellsOk N H S) (n : H p = none) : ∀ a, N a → a ≠ p := fun a m => by
  obtain ⟨_, u, e⟩ := k.hid a m
  exact ne_of_none e n
end

/-! ### states -/
abbrev Rho := List (Option D)
structure Abs (N : Hid) (S : Sto) (H : Hp) (σ : L2.St) (ρ : Rho) : Prop where
  len : σ.length = ρ.length
  slot : ∀ (i : Nat) (d : D), ρ[i]? = some (some d) → ∃ v, σ[i]? = some (some v) ∧ Rep H (alive N S) v d
  cells : CellsOk N H S
theorem Abs.mono {N : Hid} {S S' : Sto} {H H' : Hp} {σ : L2.St} {ρ : Rho} (a : Abs N S H σ ρ) (t : Tr N H S H' S') (c : CellsOk N H' S') : Abs N S' H' σ ρ :=
  ⟨a.len, fun i d e => by obtain ⟨v, h, r⟩ := a.slot i d e; exact ⟨v, h, r.mono t⟩, c⟩
theorem Abs.put {N : Hid} {S : Sto} {H : Hp} {σ : L2.St} {ρ : Rho} (a : Abs N S H σ ρ) {i : Nat} {v : V} {d : D} (r : Rep H (alive N S) v d) : Abs N S H (σ.set i (some v)) (ρ.set i (some d)) := by
  refine ⟨by rw [List.length_set, List.length_set]; exact a.len, fun j e h => ?_, a.cells⟩
  by_cases z : i = j
  · subst z
    by_cases l : i < ρ.length
    · rw [List.getElem?_set_self l] at h
      cases h
      exact ⟨v, List.getElem?_set_self (by rw [a.len]; exact l), r⟩
    · rw [List.getElem?_eq_none (by rw [List.length_set]; omega)] at h
      cases h
  · rw [List.getElem?_set_ne z] at h
    obtain ⟨u, h1, h2⟩ := a.slot j e h
    exact ⟨u, by rw [List.getElem?_set_ne z]; exact h1, h2⟩

abbrev KE := D → Sto → Prop
abbrev WE := Rho → Sto → KE → Prop
abbrev WA := Rho → Sto → (List D → Sto → Prop) → Prop
abbrev WT := Rho → Sto → (Bool → Sto → Prop) → Prop
structure EndsG where
  nx : Rho → Sto → Prop
  rt : D → Sto → Prop
  bk : Rho → Sto → Prop
  ct : Rho → Sto → Prop
abbrev WS := EndsG → Rho → Sto → Prop

def liftK (N : Hid) (H : Hp) (S : Sto) (K : KE) (Q : VK) : Prop := ∀ d S', K d S' → ∀ v H', Tr N H S H' S' → CellsOk N H' S' → Rep H' (alive N S') v d → Q v H'
def liftE (w : WE) : TE := fun σ H Q => ∃ N ρ S K, Abs N S H σ ρ ∧ w ρ S K ∧ liftK N H S K Q
def liftA (w : WA) : TA := fun σ H Q => ∃ N ρ S K, Abs N S H σ ρ ∧ w ρ S K ∧ ∀ ds S', K ds S' → ∀ vs H', Tr N H S H' S' → CellsOk N H' S' → Reps H' (alive N S') vs ds → Q vs H'
def liftT (w : WT) : TT := fun σ H Q => ∃ N ρ S K, Abs N S H σ ρ ∧ w ρ S K ∧ ∀ b S', K b S' → ∀ H', Tr N H S H' S' → CellsOk N H' S' → Q b H'
structure EndsOk (N : Hid) (H : Hp) (S : Sto) (E : EndsG) (D : Ends) : Prop where
  nx : ∀ ρ' S', E.nx ρ' S' → ∀ σ' H', Tr N H S H' S' → Abs N S' H' σ' ρ' → D.nx σ' H'
  rt : ∀ d S', E.rt d S' → ∀ v H', Tr N H S H' S' → CellsOk N H' S' → Rep H' (alive N S') v d → D.rt v H'
  bk : ∀ ρ' S', E.bk ρ' S' → ∀ σ' H', Tr N H S H' S' → Abs N S' H' σ' ρ' → D.bk σ' H'
  ct : ∀ ρ' S', E.ct ρ' S' → ∀ σ' H', Tr N H S H' S' → Abs N S' H' σ' ρ' → D.ct σ' H'
theorem EndsOk.of {N : Hid} {H H1 : Hp} {S S1 : Sto} {E : EndsG} {D : Ends} (k : EndsOk N H S E D) (t : Tr N H S H1 S1) : EndsOk N H1 S1 E D :=
  ⟨fun r s e σ h u a => k.nx r s e σ h (t.trans u) a, fun d s e v h u c r => k.rt d s e v h (t.trans u) c r, fun r s e σ h u a => k.bk r s e σ h (t.trans u) a, fun r s e σ h u a => k.ct r s e σ h (t.trans u) a⟩
def liftS (w : WS) : TS := fun D σ H => ∃ N ρ S E, Abs N S H σ ρ ∧ w E ρ S ∧ EndsOk N H S E D

abbrev GE (X : Cx) (e : Expr) (w : WE) : Prop := PE X e (liftE w)
abbrev GAs (X : Cx) (es : List Expr) (w : WA) : Prop := PA X es (liftA w)
abbrev GT (X : Cx) (e : Expr) (w : WT) : Prop := PT X e (liftT w)
abbrev GW (X : Cx) (e : Expr) (w : WT) : Prop := PW X e (liftT w)
abbrev GS (X : Cx) (st : Stmt) (w : WS) : Prop := PS X st (liftS w)
abbrev GSs (X : Cx) (sts : List Stmt) (w : WS) : Prop := PSs X sts (liftS w)

theorem PE.imp {X : Cx} {e : Expr} {t t' : TE} (h : PE X e t) (k : ∀ σ H Q, t' σ H Q → t σ H Q) : PE X e t' := ⟨fun pins s σ H Q I q => h.run pins s σ H Q I (k _ _ _ q)⟩
theorem PT.imp {X : Cx} {e : Expr} {t t' : TT} (h : PT X e t) (k : ∀ σ H Q, t' σ H Q → t σ H Q) : PT X e t' := ⟨fun pins s σ H Q I q => h.run pins s σ H Q I (k _ _ _ q)⟩
theorem PW.imp {X : Cx} {e : Expr} {t t' : TT} (h : PW X e t) (k : ∀ σ H Q, t' σ H Q → t σ H Q) : PW X e t' := ⟨fun wh pins s σ H Q I q => h.run wh pins s σ H Q I (k _ _ _ q)⟩
theorem PA.imp {X : Cx} {es : List Expr} {t t' : TA} (h : PA X es t) (k : ∀ σ H Q, t' σ H Q → t σ H Q) : PA X es t' := ⟨fun pos pins s σ H Q I q => h.run pos pins s σ H Q I (k _ _ _ q)⟩
theorem PS.imp {X : Cx} {st : Stmt} {t t' : TS} (h : PS X st t) (k : ∀ D σ H, t' D σ H → t D σ H) : PS X st t' := ⟨fun pins s σ H D I q => h.run pins s σ H D I (k _ _ _ q)⟩
theorem PSs.imp {X : Cx} {sts : List Stmt} {t t' : TS} (h : PSs X sts t) (k : ∀ D σ H, t' D σ H → t D σ H) : PSs X sts t' := ⟨fun pins s σ H D I q => h.run pins s σ H D I (k _ _ _ q)⟩

/-! ### names and constants -/
def Rho.get (ρ : Rho) (i : Nat) : Option D := (ρ[i]?).join
theorem Rho.get_some {ρ : Rho} {i : Nat} {d : D} (h : Rho.get ρ i = some d) : ρ[i]? = some (some d) := by
  unfold Rho.get at h
  cases q : ρ[i]? with
  | none => rw [q] at h; cases h
  | some o => rw [q] at h; cases o with
    | none => cases h
    | some x => cases h; rfl
def wVar (i : Nat) : WE := fun ρ S K => match Rho.get ρ i with
  | some d => K d S
  | none => False
theorem ge_var {X : Cx} (i : Nat) {x : Str} {pos : Pos} (hN : X.N[i]? = some x := by rfl) (hv : Vis X.env.scope x := by first | exact Or.inl rfl | exact Or.inr (Or.inl rfl) | exact Or.inr (Or.inr rfl)) (hd : (x == ("__debug__" : Str)) = false := by decide)
    (hcd : (x == ("__classdict__" : Str)) = false := by decide) : GE X (.Name x pos) (wVar i) := by
  refine PE.imp (pe_var hN hv hd hcd) fun σ H Q ⟨N, ρ, S, K, a, h, q⟩ => ?_
  unfold wVar at h
  split at h
  · rename_i d e
    obtain ⟨v, h1, r⟩ := a.slot i d (Rho.get_some e)
    exact ⟨v, h1, q d S h v H (.refl N H S) a.cells r⟩
  · exact h.elim
def wC (d : D) : WE := fun _ S K => K d S
section
variable {X : Cx}
theorem lift_const {d : D} {v : V} (r : ∀ H A, Rep H A v d) : ∀ σ H Q, liftE (wC d) σ H Q → tC v σ H Q := fun σ H Q ⟨N, ρ, S, K, a, h, q⟩ => q d S h v H (.refl N H S) a.cells (r H _)
theorem ge_int {i j pos} : GE X (.Constant (.int i) j pos) (wC (.int i)) := PE.imp pe_int (lift_const fun _ _ => .int i)
theorem ge_bl {b j pos} : GE X (.Constant (.bool b) j pos) (wC (.bl b)) := PE.imp pe_bl (lift_const fun _ _ => .bl b)
theorem ge_non {j pos} : GE X (.Constant .none j pos) (wC .non) := PE.imp pe_non (lift_const fun _ _ => .non)
theorem ge_str {x j pos} : GE X (.Constant (.str x) j pos) (wC (.str x)) := PE.imp pe_str (lift_const fun _ _ => .str x)
/-- a module's constant: an int, a text -/
theorem ge_gint {x : Str} {i : Int} {pos : Pos} (hm : ∃ t, X.mg x = some (.int i t)) (hg : Gl X x := by rfl) (hd : (x == ("__debug__" : Str)) = false := by decide) : GE X (.Name x pos) (wC (.int i)) := by
  obtain ⟨t, e⟩ := hm
  exact PE.imp (pe_glob (v := .int i) hg e ⟨t, rfl⟩ hd) (lift_const fun _ _ => .int i)
/-- a built-in type as a value -/
theorem ge_ty {x : Str} {T : String} {pos : Pos} (hm : X.mg x = none) (hv : bootBuiltins x = some (.type T)) (hg : Gl X x := by rfl) (hn : x ≠ "__name__" := by decide) (hd : (x == ("__debug__" : Str)) = false := by decide) : GE X (.Name x pos) (wC (.ty T)) :=
  PE.imp (pe_bltn (v := .ty T) hg hm hv rfl hn hd) (lift_const fun _ _ => .ty T)
end

/-! ### steps of the lift -/
theorem liftK.of {N : Hid} {H : Hp} {S : Sto} {K : KE} {Q : VK} (q : liftK N H S K Q) {H1 : Hp} {S1 : Sto} (t : Tr N H S H1 S1) : liftK N H1 S1 K Q := fun d S' k v H' t' c r => q d S' k v H' (t.trans t') c r
/-- to run a part: its own end handed on -/
theorem liftE.mk {w : WE} {σ : L2.St} {H : Hp} {Q : VK} {N : Hid} {ρ : Rho} {S : Sto} {K : KE} (a : Abs N S H σ ρ) (h : w ρ S K) (q : liftK N H S K Q) : liftE w σ H Q := ⟨N, ρ, S, K, a, h, q⟩

/-! ### two-place operations -/
abbrev Op2 := D → D → Sto → KE → Prop
def liftO (o : Op2) : R2 := fun x y H Q => ∃ N S dx dy K, CellsOk N H S ∧ Rep H (alive N S) x dx ∧ Rep H (alive N S) y dy ∧ o dx dy S K ∧ liftK N H S K Q
def wOp2 (o : Op2) (a b : WE) : WE := fun ρ S K => a ρ S fun x S1 => b ρ S1 fun y S2 => o x y S2 K
theorem OpR.imp {X : Cx} {f : Value → Value → Sem Value} {r r' : R2} (h : OpR X f r) (k : ∀ x y H Q, r' x y H Q → r x y H Q) : OpR X f r' := fun pins s σ H x y v u Q I rx ry q => h pins s σ H x y v u Q I rx ry (k _ _ _ _ q)
theorem OpR.or {X : Cx} {f : Value → Value → Sem Value} {r r' : R2} (h : OpR X f r) (h' : OpR X f r') : OpR X f (fun x y H Q => r x y H Q ∨ r' x y H Q) := fun pins s σ H x y v u Q I rx ry q => by
  rcases q with q | q
  · exact h pins s σ H x y v u Q I rx ry q
  · exact h' pins s σ H x y v u Q I rx ry q
theorem lift_op2 {o : Op2} {wa wb : WE} : ∀ σ H Q, liftE (wOp2 o wa wb) σ H Q → tOp (liftO o) (liftE wa) (liftE wb) σ H Q := by
  intro σ H Q ⟨N, ρ, S, K, a, h, q⟩
  refine liftE.mk a h fun x S1 h1 v H1 t1 c1 r1 => ?_
  refine liftE.mk (a.mono t1 c1) h1 fun y S2 h2 u H2 t2 c2 r2 => ?_
  exact ⟨N, S2, x, y, K, c2, r1.mono t2, r2, h2, q.of (t1.trans t2)⟩
section
variable {X : Cx} {o : Op2} {wa wb : WE} {a b : Expr} {pos : Pos}
theorem ge_bin {op : Operator} (ho : OpR X (binaryOp op) (liftO o)) (ha : GE X a wa) (hb : GE X b wb) : GE X (.BinOp a op b pos) (wOp2 o wa wb) := PE.imp (pe_op ho ha hb) lift_op2
theorem ge_cmp {op : CmpOp} (ho : OpR X (compareOp op) (liftO o)) (ha : GE X a wa) (hb : GE X b wb) (hm : behindInMarks op b = false := by rfl) : GE X (.Compare a [op] [b] pos) (wOp2 o wa wb) := PE.imp (pe_cmpR ho ha hb hm) lift_op2
/-- a test of a bool -/
def wTest (w : WE) : WT := fun ρ S K => w ρ S fun d S' => ∃ b, d = .bl b ∧ K b S'
theorem lift_test {w : WE} {t : TE} (k : ∀ σ H Q, liftE w σ H Q → t σ H Q) : ∀ σ H Q, liftT (wTest w) σ H Q → (∃ t', t' = t) ∧ t σ H (fun x H' => ∃ k, x = .bl k ∧ Q k H') := by
  intro σ H Q ⟨N, ρ, S, K, a, h, q⟩
  refine ⟨⟨t, rfl⟩, k _ _ _ (liftE.mk a h fun d S' hd v H' t' c r => ?_)⟩
  obtain ⟨b, rfl, hk⟩ := hd
  cases r
  exact ⟨b, rfl, q b S' hk H' t' c⟩
theorem gt_cmp {op : CmpOp} (ho : OpR X (compareOp op) (liftO o)) (ha : GE X a wa) (hb : GE X b wb) (hm : behindInMarks op b = false := by rfl) : GT X (.Compare a [op] [b] pos) (wTest (wOp2 o wa wb)) :=
  PT.imp (pt_cmpR ho ha hb hm) fun σ H Q h => (lift_test lift_op2 σ H Q h).2
theorem gt_val {e : Expr} {w : WE} (h : GE X e w) (he : ∀ whole, isTrue e X.env whole = (do let v ← whole; standAt e.pos; holding [v] (truthy v)) := by intro _; rfl) : GT X e (wTest w) :=
  PT.imp (pt_val h he) fun σ H Q h => (lift_test (fun _ _ _ z => z) σ H Q h).2
end

/-! ### and, or, not -/
def wAnd (a b : WT) : WT := fun ρ S K => a ρ S fun c S1 => (c = true → b ρ S1 K) ∧ (c = false → K false S1)
def wOr (a b : WT) : WT := fun ρ S K => a ρ S fun c S1 => (c = true → K true S1) ∧ (c = false → b ρ S1 K)
def wNot (a : WT) : WT := fun ρ S K => a ρ S fun c S1 => K (!c) S1
def wVal (a : WT) : WE := fun ρ S K => a ρ S fun c S1 => K (.bl c) S1
section
variable {X : Cx} {ta tb : WT} {a b c : Expr} {rest : List Expr} {pos : Pos}
theorem gw_and1 (ha : GT X a ta) : GW X (.BoolOp .And [a] pos) ta := pw_and1 ha
theorem gw_or1 (ha : GT X a ta) : GW X (.BoolOp .Or [a] pos) ta := pw_or1 ha
theorem gw_and (ha : GT X a ta) (hb : GW X (.BoolOp .And (b :: rest) pos) tb) : GW X (.BoolOp .And (a :: b :: rest) pos) (wAnd ta tb) := by
  refine PW.imp (pw_and ha hb) fun σ H Q ⟨N, ρ, S, K, ab, h, q⟩ => ?_
  refine ⟨N, ρ, S, _, ab, h, fun x S1 h1 H1 t1 c1 => ?_⟩
  cases x with
  | true => exact ⟨N, ρ, S1, K, ab.mono t1 c1, h1.1 rfl, fun y S2 h2 H2 t2 c2 => q y S2 h2 H2 (t1.trans t2) c2⟩
  | false => exact q false S1 (h1.2 rfl) H1 t1 c1
theorem gw_or (ha : GT X a ta) (hb : GW X (.BoolOp .Or (b :: rest) pos) tb) : GW X (.BoolOp .Or (a :: b :: rest) pos) (wOr ta tb) := by
  refine PW.imp (pw_or ha hb) fun σ H Q ⟨N, ρ, S, K, ab, h, q⟩ => ?_
  refine ⟨N, ρ, S, _, ab, h, fun x S1 h1 H1 t1 c1 => ?_⟩
  cases x with
  | true => exact q true S1 (h1.1 rfl) H1 t1 c1
  | false => exact ⟨N, ρ, S1, K, ab.mono t1 c1, h1.2 rfl, fun y S2 h2 H2 t2 c2 => q y S2 h2 H2 (t1.trans t2) c2⟩
theorem gt_w (h : GW X a ta) : GT X a ta := h.pt
theorem gt_not (ha : GT X a ta) : GT X (.UnaryOp .Not a pos) (wNot ta) := by
  refine PT.imp (pt_not ha) fun σ H Q ⟨N, ρ, S, K, ab, h, q⟩ => ?_
  exact ⟨N, ρ, S, _, ab, h, fun x S1 h1 H1 t1 c1 => q _ S1 h1 H1 t1 c1⟩
/-- the same as values: each part a bool -/
def wAndV (a b : WE) : WE := fun ρ S K => a ρ S fun x S1 => ∃ c, x = .bl c ∧ (c = true → b ρ S1 K) ∧ (c = false → K (.bl false) S1)
def wOrV (a b : WE) : WE := fun ρ S K => a ρ S fun x S1 => ∃ c, x = .bl c ∧ (c = true → K (.bl true) S1) ∧ (c = false → b ρ S1 K)
def wNotV (a : WE) : WE := fun ρ S K => a ρ S fun x S1 => ∃ c, x = .bl c ∧ K (.bl (!c)) S1
variable {wa wb : WE}
theorem ge_one {op} (h : GE X a wa) : GE X (.BoolOp op [a] pos) wa := pe_one h
theorem ge_and (ha : GE X a wa) (hb : GE X (.BoolOp .And (b :: rest) pos) wb) : GE X (.BoolOp .And (a :: b :: rest) pos) (wAndV wa wb) := by
  refine PE.imp (pe_and ha hb) fun σ H Q ⟨N, ρ, S, K, ab, h, q⟩ => ?_
  refine liftE.mk ab h fun x S1 h1 v H1 t1 c1 r1 => ?_
  obtain ⟨c, rfl, h2, h3⟩ := h1
  cases r1
  refine ⟨c, rfl, ?_⟩
  cases c with
  | true => exact iteT (liftE.mk (ab.mono t1 c1) (h2 rfl) (q.of t1))
  | false => exact iteF (q _ S1 (h3 rfl) _ H1 t1 c1 (.bl false))
theorem ge_or (ha : GE X a wa) (hb : GE X (.BoolOp .Or (b :: rest) pos) wb) : GE X (.BoolOp .Or (a :: b :: rest) pos) (wOrV wa wb) := by
  refine PE.imp (pe_or ha hb) fun σ H Q ⟨N, ρ, S, K, ab, h, q⟩ => ?_
  refine liftE.mk ab h fun x S1 h1 v H1 t1 c1 r1 => ?_
  obtain ⟨c, rfl, h2, h3⟩ := h1
  cases r1
  refine ⟨c, rfl, ?_⟩
  cases c with
  | true => exact iteT (q _ S1 (h2 rfl) _ H1 t1 c1 (.bl true))
  | false => exact iteF (liftE.mk (ab.mono t1 c1) (h3 rfl) (q.of t1))
theorem ge_not (ha : GE X a wa) : GE X (.UnaryOp .Not a pos) (wNotV wa) := by
  refine PE.imp (pe_not ha) fun σ H Q ⟨N, ρ, S, K, ab, h, q⟩ => ?_
  refine liftE.mk ab h fun x S1 h1 v H1 t1 c1 r1 => ?_
  obtain ⟨c, rfl, h2⟩ := h1
  cases r1
  exact ⟨c, rfl, q _ S1 h2 _ H1 t1 c1 (.bl _)⟩
def wIfE (t : WT) (a b : WE) : WE := fun ρ S K => t ρ S fun c S1 => (c = true → a ρ S1 K) ∧ (c = false → b ρ S1 K)
theorem ge_if (hc : GT X c ta) (ha : GE X a wa) (hb : GE X b wb) : GE X (.IfExp c a b pos) (wIfE ta wa wb) := by
  refine PE.imp (pe_ifExp hc ha hb) fun σ H Q ⟨N, ρ, S, K, ab, h, q⟩ => ?_
  refine ⟨N, ρ, S, _, ab, h, fun x S1 h1 H1 t1 c1 => ?_⟩
  cases x with
  | true => exact iteT (liftE.mk (ab.mono t1 c1) (h1.1 rfl) (q.of t1))
  | false => exact iteF (liftE.mk (ab.mono t1 c1) (h1.2 rfl) (q.of t1))
end

/-! ### argument lists, displays -/
def wNil : WA := fun _ S K => K [] S
def wCons (a : WE) (r : WA) : WA := fun ρ S K => a ρ S fun x S1 => r ρ S1 fun xs S2 => K (x :: xs) S2
/-- a new list: its items; fr: not a cell; lv: a cell -/
abbrev WF := Rho → Sto → (List D → Sto → Prop) → Prop
def wFr (w : WF) : WE := fun ρ S K => w ρ S fun ds S1 => K (.lst ds) S1
def wLv (w : WF) : WE := fun ρ S K => w ρ S fun ds S1 => ∀ p, S1 p = none → K (.cell p) (S1.set p (.lst ds))
/-- what is wanted of a new list at p -/
def newL (N : Hid) (H : Hp) (S : Sto) (K : List D → Sto → Prop) (Q : VK) : Prop := ∀ ds S', K ds S' → ∀ p H' vs, Tr N H S H' S' → CellsOk N H' S' → Reps H' (alive N S') vs ds → H' p = none → Q (.ref p) (upd H' p (.lst vs))
def liftF (w : WF) : TE := fun σ H Q => ∃ N ρ S K, Abs N S H σ ρ ∧ w ρ S K ∧ newL N H S K Q
abbrev GF (X : Cx) (e : Expr) (w : WF) : Prop := PE X e (liftF w)
section
variable {X : Cx} {e : Expr} {es : List Expr} {pos : Pos} {wa : WE} {wr : WA} {w : WF}
theorem ga_nil : GAs X [] wNil := PA.imp pa_nil fun σ H Q ⟨N, ρ, S, K, ab, h, q⟩ => q [] S h [] H (.refl N H S) ab.cells .nil
theorem ga_cons (ha : GE X e wa) (hr : GAs X es wr) (hs : starEach (e :: es) X.env = (false, eval e X.env) :: starEach es X.env := by rfl) : GAs X (e :: es) (wCons wa wr) := by
  refine PA.imp (pa_cons ha hr hs) fun σ H Q ⟨N, ρ, S, K, ab, h, q⟩ => ?_
  refine liftE.mk ab h fun x S1 h1 v H1 t1 c1 r1 => ?_
  exact ⟨N, ρ, S1, _, ab.mono t1 c1, h1, fun xs S2 h2 vs H2 t2 c2 r2 => q _ S2 h2 _ H2 (t1.trans t2) c2 (.cons (r1.mono t2) r2)⟩
theorem ge_fr (h : GF X e w) : GE X e (wFr w) := by
  refine PE.imp h fun σ H Q ⟨N, ρ, S, K, ab, h, q⟩ => ?_
  exact ⟨N, ρ, S, _, ab, h, fun ds S' k p H' vs t c r n => q _ S' k _ _ (t.trans (Tr.new c n)) (c.new n) (.lst upd_same (c.dead n) (r.mono (Tr.new c n)))⟩
theorem ge_lv (h : GF X e w) : GE X e (wLv w) := by
  refine PE.imp h fun σ H Q ⟨N, ρ, S, K, ab, h, q⟩ => ?_
  exact ⟨N, ρ, S, _, ab, h, fun ds S' k p H' vs t c r n => q _ _ (k p (c.free n)) _ _ (t.trans (Tr.newC c n)) (c.newC n ⟨vs, upd_same, r.mono (Tr.newC c n)⟩) (.cell p)⟩
def wTup (w : WA) : WE := fun ρ S K => w ρ S fun ds S1 => ds.length ≤ sizeLine ∧ K (.tup ds) S1
def wLst (w : WA) : WF := fun ρ S K => w ρ S fun ds S1 => ds.length ≤ sizeLine ∧ K ds S1
theorem Reps.length {H : Hp} {A : Addr → Prop} : ∀ {vs : List V} {ds : List D}, Reps H A vs ds → vs.length = ds.length
  | _, _, .nil => rfl
  | _, _, .cons _ q => congrArg Nat.succ (Reps.length q)
theorem ge_tup {k : Nat} (h : GAs X es wr) : GE X (.Tuple es k pos) (wTup wr) := by
  refine PE.imp (pe_tup h) fun σ H Q ⟨N, ρ, S, K, ab, h, q⟩ => ?_
  refine ⟨N, ρ, S, _, ab, h, fun ds S1 ⟨l, k⟩ vs H1 t1 c1 r1 => ⟨by rw [r1.length]; exact l, fun p n => ?_⟩⟩
  exact q _ S1 k _ _ (t1.trans (Tr.new c1 n)) (c1.new n) (.tup (.inl upd_same) (c1.dead n) (r1.mono (Tr.new c1 n)))
theorem gf_lst (h : GAs X es wr) : GF X (.List es pos) (wLst wr) := by
  refine PE.imp (pe_lst h) fun σ H Q ⟨N, ρ, S, K, ab, h, q⟩ => ?_
  refine ⟨N, ρ, S, _, ab, h, fun ds S1 ⟨l, k⟩ vs H1 t1 c1 r1 => ⟨by rw [r1.length]; exact l, fun p n => ?_⟩⟩
  exact q ds S1 k p H1 vs t1 c1 r1 n
/-- what is read of a value: a cell's list stands for it -/
def top (S : Sto) (d : D) : D := match d with
  | .cell c => match S c with
    | some (.lst ds) => .lst ds
    | some (.dic es) => .dic es
    | _ => .cell c
  | d => d
/-- a cell given up: the list that it is from now on -/
def wFrz (w : WE) : WE := fun ρ S K => w ρ S fun d S1 => ∃ c, d = .cell c ∧ ((∃ ds, S1 c = some (.lst ds) ∧ K (.lst ds) (S1.del c)) ∨ (∃ es, S1 c = some (.dic es) ∧ K (.dic es) (S1.del c)))
theorem CellsOk.undead {N : Hid} {H : Hp} {S : Sto} {c : Addr} {x : Cell} (h : CellsOk N H S) (e : S c = some x) : ¬ alive N (S.del c) c := fun z => by
  rcases z with z | z
  · have := (h.hid c z).1
    rw [e] at this; cases this
  · exact z Sto.del_same
theorem ge_frz (h : GE X e wa) : GE X e (wFrz wa) := by
  refine PE.imp h fun σ H Q ⟨N, ρ, S, K, ab, h, q⟩ => ?_
  refine liftE.mk ab h fun d S1 h1 v H1 t1 c1 r1 => ?_
  obtain ⟨c, rfl, h1⟩ := h1
  rcases h1 with ⟨ds, e1, h1⟩ | ⟨ds, e1, h1⟩
  · cases r1
    obtain ⟨vs, e2, r2⟩ := c1.at_ c _ e1
    exact q _ _ h1 _ H1 (t1.trans Tr.del) c1.del (.lst e2 (c1.undead e1) (r2.mono Tr.del))
  · cases r1
    obtain ⟨vs, e2, r2⟩ := c1.at_ c _ e1
    exact q _ _ h1 _ H1 (t1.trans Tr.del) c1.del (.dic e2 (c1.undead e1) (r2.mono Tr.del))
end
end G

set_option Elab.async false
set_option linter.all false
set_option maxRecDepth 100000
set_option autoImplicit false
namespace G
open PySem PySem.Spec PyProof.Rows L2

/-! ### blocks and small statements -/
def wSkip : WS := fun E ρ S => E.nx ρ S
def wSeq (t u : WS) : WS := fun E ρ S => ∃ M : Rho → Sto → Prop, t { E with nx := M } ρ S ∧ ∀ ρ' S', M ρ' S' → u E ρ' S'
theorem wSeq.of {t u : WS} {E : EndsG} {ρ : Rho} {S : Sto} (h : t { E with nx := u E } ρ S) : wSeq t u E ρ S := ⟨_, h, fun _ _ z => z⟩
def wRet (e : WE) : WS := fun E ρ S => e ρ S E.rt
def wRetN : WS := fun E _ S => E.rt .non S
def wDo (e : WE) : WS := fun E ρ S => e ρ S fun _ S1 => E.nx ρ S1
def wIf (c : WT) (a b : WS) : WS := fun E ρ S => c ρ S fun k S1 => (k = true → a E ρ S1) ∧ (k = false → b E ρ S1)
def wBreak : WS := fun E ρ S => E.bk ρ S
def wCont : WS := fun E ρ S => E.ct ρ S
def wNo : WS := fun _ _ _ => False
section
variable {X : Cx} {st : Stmt} {rest sa sb : List Stmt} {t u : WS} {e c : Expr} {w : WE} {wc : WT} {pos : Pos}
theorem gss_nil : GSs X [] wSkip := PSs.imp pss_nil fun D σ H ⟨N, ρ, S, E, a, h, q⟩ => q.nx ρ S h σ H (.refl N H S) a
theorem gss_cons (h1 : GS X st t) (h2 : GSs X rest u) : GSs X (st :: rest) (wSeq t u) := by
  refine PSs.imp (pss_cons h1 h2) fun D σ H ⟨N, ρ, S, E, a, ⟨M, hm, hn⟩, q⟩ => ?_
  exact ⟨N, ρ, S, _, a, hm, ⟨fun ρ1 S1 k σ1 H1 t1 a1 => ⟨N, ρ1, S1, E, a1, hn _ _ k, q.of t1⟩, q.rt, q.bk, q.ct⟩⟩
theorem gss_one (h1 : GS X st t) : GSs X [st] t := pss_one h1
theorem gs_ret (he : GE X e w) : GS X (.Return (some e) pos) (wRet w) := by
  refine PS.imp (ps_ret he) fun D σ H ⟨N, ρ, S, E, a, h, q⟩ => ?_
  exact liftE.mk a h fun d S' k v H' t' c r => q.rt d S' k v H' t' c r
theorem gs_expr (he : GE X e w) (hs : swapsWith e none pos.line X.env = pure false := by rfl) : GS X (.Expr e pos) (wDo w) := by
  refine PS.imp (ps_expr he hs) fun D σ H ⟨N, ρ, S, E, a, h, q⟩ => ?_
  exact liftE.mk a h fun d S' k v H' t' c r => q.nx ρ S' k σ H' t' (a.mono t' c)
theorem gs_if (hc : GT X c wc) (ha : GSs X sa t) (hb : GSs X sb u) : GS X (.If c sa sb pos) (wIf wc t u) := by
  refine PS.imp (ps_if hc ha hb) fun D σ H ⟨N, ρ, S, E, a, h, q⟩ => ?_
  refine ⟨N, ρ, S, _, a, h, fun k S1 h1 H1 t1 c1 => ?_⟩
  cases k with
  | true => exact iteT ⟨N, ρ, S1, E, a.mono t1 c1, h1.1 rfl, q.of t1⟩
  | false => exact iteF ⟨N, ρ, S1, E, a.mono t1 c1, h1.2 rfl, q.of t1⟩
end

/-! ### targets -/
abbrev WG := D → Rho → Sto → (Rho → Sto → Prop) → Prop
abbrev WGs := List D → Rho → Sto → (Rho → Sto → Prop) → Prop
def liftG (g : WG) : TG := fun v σ H Q => ∃ N ρ S d K, Abs N S H σ ρ ∧ Rep H (alive N S) v d ∧ g d ρ S K ∧ ∀ ρ' S', K ρ' S' → ∀ σ' H', Tr N H S H' S' → Abs N S' H' σ' ρ' → Q σ' H'
def liftGs (g : WGs) : TGs := fun vs σ H Q => ∃ N ρ S ds K, Abs N S H σ ρ ∧ Reps H (alive N S) vs ds ∧ g ds ρ S K ∧ ∀ ρ' S', K ρ' S' → ∀ σ' H', Tr N H S H' S' → Abs N S' H' σ' ρ' → Q σ' H'
abbrev GG (X : Cx) (tg : Expr) (g : WG) : Prop := PG X tg (liftG g)
abbrev GGs (X : Cx) (ts : List Expr) (g : WGs) : Prop := PGs X ts (liftGs g)
theorem PG.imp {X : Cx} {tg : Expr} {t t' : TG} (h : PG X tg t) (k : ∀ v σ H Q, t' v σ H Q → t v σ H Q) : PG X tg t' := ⟨fun pins s σ H v u Q I r q => h.run pins s σ H v u Q I r (k _ _ _ _ q)⟩
theorem PGs.imp {X : Cx} {ts : List Expr} {t t' : TGs} (h : PGs X ts t) (k : ∀ v σ H Q, t' v σ H Q → t v σ H Q) : PGs X ts t' := ⟨fun pins s σ H v u Q I r q => h.run pins s σ H v u Q I r (k _ _ _ _ q)⟩
def gN (i : Nat) : WG := fun d ρ S K => K (ρ.set i (some d)) S
def gsN : WGs := fun ds ρ S K => ds = [] ∧ K ρ S
def gsC (g : WG) (r : WGs) : WGs := fun ds ρ S K => ∃ d es, ds = d :: es ∧ g d ρ S fun ρ1 S1 => r es ρ1 S1 K
/-- a tuple taken apart -/
def gT (n : Nat) (g : WGs) : WG := fun d ρ S K => ∃ ds, d = .tup ds ∧ ds.length = n ∧ g ds ρ S K
/-- a list taken apart -/
def gL (n : Nat) (g : WGs) : WG := fun d ρ S K => ∃ ds, (d = .lst ds ∨ ∃ c, d = .cell c ∧ S c = some (.lst ds)) ∧ ds.length = n ∧ g ds ρ S K
section
variable {X : Cx} {e : Expr} {es : List Expr} {pos : Pos} {g : WG} {gs : WGs}
theorem gg_name (i : Nat) {x : Str} (hN : X.N.Nodup) (hi : X.N[i]? = some x := by rfl) (hx : Loc X.env.scope x := by first | exact Or.inl rfl | exact Or.inr rfl) (hf : X.fn x = true ∨ X.env.scope.names.lookup x = some .local := by first | exact Or.inl rfl | exact Or.inr rfl) : GG X (.Name x pos) (gN i) := by
  refine PG.imp (pg_name hN hi hx hf) fun v σ H Q ⟨N, ρ, S, d, K, a, r, h, q⟩ => ?_
  exact q _ _ h _ H (.refl N H S) (a.put r)
theorem ggs_nil : GGs X [] gsN := by
  refine PGs.imp pgs_nil fun vs σ H Q ⟨N, ρ, S, ds, K, a, r, ⟨e, h⟩, q⟩ => ?_
  subst e
  cases r
  exact ⟨rfl, q _ _ h _ H (.refl N H S) a⟩
theorem ggs_cons (h1 : GG X e g) (h2 : GGs X es gs) (hs : (assignEach (e :: es) X.env).map (·.2) = assign e X.env :: (assignEach es X.env).map (·.2) := by rfl) : GGs X (e :: es) (gsC g gs) := by
  refine PGs.imp (pgs_cons h1 h2 hs) fun vs σ H Q ⟨N, ρ, S, ds, K, a, r, ⟨d, ds', e, h⟩, q⟩ => ?_
  subst e
  cases r with
  | cons r rr =>
    refine ⟨_, _, rfl, N, ρ, S, d, _, a, r, h, fun ρ1 S1 k σ1 H1 t1 a1 => ?_⟩
    exact ⟨N, ρ1, S1, ds', K, a1, rr.mono t1, k, fun ρ2 S2 k2 σ2 H2 t2 a2 => q _ _ k2 _ _ (t1.trans t2) a2⟩
theorem gg_tup {k n : Nat} (hc : X.calm = true) (h : GGs X es gs) (hn : (assignEach es X.env).length = n := by rfl) (hst : (assignEach es X.env).findIdx? (·.1) = none := by rfl) : GG X (.Tuple es k pos) (gT n gs) := by
  refine PG.imp (pg_tup hc h hn hst) fun v σ H Q ⟨N, ρ, S, d, K, a, r, ⟨ds, e, l, h⟩, q⟩ => ?_
  subst e
  cases r with
  | tup rd na rs => exact ⟨_, _, rfl, .inl rd, rs.length.trans l, N, ρ, S, ds, K, a, rs, h, q⟩
end

/-! ### assignments -/
def wAsg (e : WE) (g : WG) : WS := fun E ρ S => e ρ S fun d S1 => g d ρ S1 E.nx
def wSet (i : Nat) (e : WE) : WS := fun E ρ S => e ρ S fun d S1 => E.nx (ρ.set i (some d)) S1
def wPar (i j : Nat) (a b : WE) : WS := fun E ρ S => a ρ S fun x S1 => b ρ S1 fun y S2 => E.nx ((ρ.set i (some x)).set j (some y)) S2
def wPar3 (i j k : Nat) (a b c : WE) : WS := fun E ρ S => a ρ S fun x S1 => b ρ S1 fun y S2 => c ρ S2 fun z S3 => E.nx (((ρ.set i (some x)).set j (some y)).set k (some z)) S3
section
variable {X : Cx} {tg e a b c : Expr} {pos : Pos} {w wa wb wc : WE} {g : WG}
theorem gs_asg (he : GE X e w) (hg : GG X tg g) (hs : swapsWithSole [tg] e pos.line X.env = pure false := by rfl) (hw : swappedStores [tg] e X.env = pure none := by rfl)
    (h1 : (assignEach [tg] X.env).map (·.2) = [assign tg X.env] := by rfl) : GS X (.Assign [tg] e pos) (wAsg w g) := by
  refine PS.imp (ps_asg he hg hs hw h1) fun D σ H ⟨N, ρ, S, E, a, h, q⟩ => ?_
  refine liftE.mk a h fun d S' k v H' t' c r => ?_
  exact ⟨N, ρ, S', d, _, a.mono t' c, r, k, fun ρ1 S1 k1 σ1 H1 t1 a1 => q.nx _ _ k1 _ _ (t'.trans t1) a1⟩
theorem gs_set (i : Nat) {x : Str} {pos' : Pos} (hN : X.N.Nodup) (he : GE X e w) (hi : X.N[i]? = some x := by rfl) (hx : Loc X.env.scope x := by first | exact Or.inl rfl | exact Or.inr rfl) (hs : swapsWith e (some (.Name x pos')) pos.line X.env = pure false := by rfl)
    (hf : X.fn x = true ∨ X.env.scope.names.lookup x = some .local := by first | exact Or.inl rfl | exact Or.inr rfl) : GS X (.Assign [.Name x pos'] e pos) (wSet i w) := by
  refine PS.imp (ps_set hN hi hx he hs hf) fun D σ H ⟨N, ρ, S, E, a, h, q⟩ => ?_
  exact liftE.mk a h fun d S' k v H' t' c r => q.nx _ _ k _ _ t' ((a.mono t' c).put r)
theorem lift_args1 {σ : L2.St} {H : Hp} {N : Hid} {ρ : Rho} {S : Sto} {K : D → Sto → Prop} {Q : List V → Hp → Prop} (ab : Abs N S H σ ρ) (h : wa ρ S fun x S1 => K x S1)
    (q : ∀ x S', K x S' → ∀ v H', Tr N H S H' S' → CellsOk N H' S' → Rep H' (alive N S') v x → Q [v] H') : liftA (wCons wa wNil) σ H Q :=
  ⟨N, ρ, S, fun ds S' => match ds with | [x] => K x S' | _ => False, ab, h, fun ds S' k vs H' t' c r => by
    dsimp only at k
    split at k
    · cases r with
      | cons r1 r =>
        cases r
        exact q _ S' k _ H' t' c r1
    · exact k.elim⟩
theorem lift_args2 {σ : L2.St} {H : Hp} {N : Hid} {ρ : Rho} {S : Sto} {K : D → D → Sto → Prop} {Q : List V → Hp → Prop} (ab : Abs N S H σ ρ) (h : wa ρ S fun x S1 => wb ρ S1 fun y S2 => K x y S2)
    (q : ∀ x y S', K x y S' → ∀ v u H', Tr N H S H' S' → CellsOk N H' S' → Rep H' (alive N S') v x → Rep H' (alive N S') u y → Q [v, u] H') : liftA (wCons wa (wCons wb wNil)) σ H Q :=
  ⟨N, ρ, S, fun ds S' => match ds with | [x, y] => K x y S' | _ => False, ab, h, fun ds S' k vs H' t' c r => by
    dsimp only at k
    split at k
    · cases r with
      | cons r1 r =>
        cases r with
        | cons r2 r =>
          cases r
          exact q _ _ S' k _ _ H' t' c r1 r2
    · exact k.elim⟩
theorem lift_args3 {σ : L2.St} {H : Hp} {N : Hid} {ρ : Rho} {S : Sto} {K : D → D → D → Sto → Prop} {Q : List V → Hp → Prop} (ab : Abs N S H σ ρ) (h : wa ρ S fun x S1 => wb ρ S1 fun y S2 => wc ρ S2 fun z S3 => K x y z S3)
    (q : ∀ x y z S', K x y z S' → ∀ v u w H', Tr N H S H' S' → CellsOk N H' S' → Rep H' (alive N S') v x → Rep H' (alive N S') u y → Rep H' (alive N S') w z → Q [v, u, w] H') : liftA (wCons wa (wCons wb (wCons wc wNil))) σ H Q :=
  ⟨N, ρ, S, fun ds S' => match ds with | [x, y, z] => K x y z S' | _ => False, ab, h, fun ds S' k vs H' t' c r => by
    dsimp only at k
    split at k
    · cases r with
      | cons r1 r =>
        cases r with
        | cons r2 r =>
          cases r with
          | cons r3 r =>
            cases r
            exact q _ _ _ S' k _ _ _ H' t' c r1 r2 r3
    · exact k.elim⟩
theorem gs_par (i j : Nat) {x y : Str} {px py pt : Pos} {kt k2 : Nat} {pt2 : Pos} (hN : X.N.Nodup) (ha : GE X a wa) (hb : GE X b wb) (hc : X.calm = true := by rfl) (hi : X.N[i]? = some x := by rfl) (hj : X.N[j]? = some y := by rfl) (hij : i ≠ j := by decide)
    (hx : X.env.scope.names.lookup x = some .local := by rfl) (hy : X.env.scope.names.lookup y = some .local := by rfl)
    (hw : swappedStores [.Tuple [.Name x px, .Name y py] kt pt] (.Tuple [a, b] k2 pt2) X.env = pure (some [x, y]) := by rfl)
    (hs : swapsWithSole [.Tuple [.Name x px, .Name y py] kt pt] (.Tuple [a, b] k2 pt2) pos.line X.env = pure false := by rfl)
    (s1 : starEach [a, b] X.env = (false, eval a X.env) :: starEach [b] X.env := by rfl) (s2 : starEach [b] X.env = (false, eval b X.env) :: starEach [] X.env := by rfl) :
    GS X (.Assign [.Tuple [.Name x px, .Name y py] kt pt] (.Tuple [a, b] k2 pt2) pos) (wPar i j wa wb) := by
  refine PS.imp (ps_par hc hN hi hj hij hx hy (ga_cons ha (ga_cons hb ga_nil s2) s1) hw hs) fun D σ H ⟨N, ρ, S, E, ab, h, q⟩ => ?_
  refine lift_args2 ab h fun x y S' k v u H' t' c r1 r2 => ?_
  exact ⟨v, u, rfl, q.nx _ _ k _ _ t' (((ab.mono t' c).put r1).put r2)⟩
end

/-! ### what a for walks -/
structure IT where
  items : List D
  keep : Sto → Prop
structure ItAt (N : Hid) (J : It) (H : Hp) (S : Sto) (items : List D) : Prop where
  go : ∀ i, i < items.length → J.go i H
  stop : J.stop items.length H
  yld : ∀ i x H', i < items.length → J.yld i H x H' → ∃ d, items[i]? = some d ∧ Tr N H S H' S ∧ CellsOk N H' S ∧ Rep H' (alive N S) x d
/-- more is hidden, all of it new -/
def Ext (N N' : Hid) (H : Hp) : Prop := ∀ a, N' a → N a ∨ H a = none
def ItOk (N : Hid) (J : It) (H0 : Hp) (S0 : Sto) (it : IT) : Prop := ∀ N' H S, Ext N N' H0 → Tr N H0 S0 H S → CellsOk N' H S → it.keep S → ItAt N' J H S it.items
theorem Tr.ext {N N' : Hid} {H H' : Hp} {S S' : Sto} (t : Tr N H S H' S') (x : Ext N N' H) : Tr0 H (alive N S) H' (alive N' S') := by
  refine ⟨t.t0.keep, fun a o h k z => ?_⟩
  rcases z with z | z
  · rcases x a z with w | w
    · exact k (.inl w)
    · rw [h] at w; cases w
  · exact t.t0.old a o h k (.inr z)
abbrev WI := Rho → Sto → (IT → Sto → Prop) → Prop
def liftI (w : WI) : TI := fun σ H R => ∃ N ρ S K, Abs N S H σ ρ ∧ w ρ S K ∧ ∀ it S', K it S' → ∀ J H', Tr N H S H' S' → CellsOk N H' S' → ItOk N J H' S' it → R J H'
abbrev GI (X : Cx) (tg iter : Expr) (w : WI) : Prop := PI X tg iter (liftI w)
theorem PI.imp {X : Cx} {tg e : Expr} {t t' : TI} (h : PI X tg e t) (k : ∀ σ H Q, t' σ H Q → t σ H Q) : PI X tg e t' := ⟨fun pins s σ H R I q => h.run pins s σ H R I (k _ _ _ q)⟩

/-- the turns of a for -/
def forW (keep : Sto → Prop) (g : WG) (body : WS) (E : EndsG) : List D → Rho → Sto → Prop
  | [], ρ, S => keep S ∧ E.nx ρ S
  | d :: ds, ρ, S => keep S ∧ g d ρ S fun ρ1 S1 => body { E with nx := forW keep g body E ds, ct := forW keep g body E ds, bk := E.nx } ρ1 S1
def wFor (w : WI) (g : WG) (body : WS) : WS := fun E ρ S => w ρ S fun it S1 => forW it.keep g body E it.items ρ S1
section
variable {X : Cx} {tg iter : Expr} {body : List Stmt} {w : WI} {g : WG} {wb : WS} {pos : Pos}
theorem gs_for (hp : PassesOwn (model X.prog X.w) X.A X.env X.xe) (hi : GI X tg iter w) (hg : GG X tg g) (hb : GSs X body wb) (hc : X.calm = true := by rfl) (hs : ∀ x, foldedSetIterable iter X.env x = pure x := by intro _; rfl) :
    GS X (.For tg iter body [] pos) (wFor w g wb) := by
  refine PS.imp (ps_for hp hc hi hg hb hs) fun D σ H ⟨N, ρ, S, E, ab, h, q⟩ => ?_
  refine ⟨N, ρ, S, _, ab, h, fun it S1 k J H1 t1 c1 ok => ?_⟩
  refine ⟨fun i m σ2 H2 => ∃ ρ2 S2, m = it.items.length - i ∧ i ≤ it.items.length ∧ Abs N S2 H2 σ2 ρ2 ∧ Tr N H1 S1 H2 S2 ∧ forW it.keep g wb E (it.items.drop i) ρ2 S2,
    ⟨it.items.length, ρ, S1, rfl, Nat.zero_le _, ab.mono t1 c1, .refl N H1 S1, k⟩, ?_⟩
  intro i m σ2 H2 ⟨ρ2, S2, em, hle, a2, t2, f2⟩
  by_cases hlt : i < it.items.length
  · have ed : it.items.drop i = it.items[i] :: it.items.drop (i + 1) := List.drop_eq_getElem_cons hlt
    rw [ed] at f2
    obtain ⟨kp, f2⟩ := f2
    have at2 := ok N H2 S2 (fun _ z => .inl z) t2 a2.cells kp
    refine .inr ⟨at2.go i hlt, fun σ3 H3 => ∃ ρ3 S3, Abs N S3 H3 σ3 ρ3 ∧ Tr N H1 S1 H3 S3 ∧ forW it.keep g wb E (it.items.drop (i + 1)) ρ3 S3, fun σ3 H3 ⟨ρ3, S3, a3, t3, f3⟩ => ⟨it.items.length - (i + 1), by omega, ρ3, S3, rfl, hlt, a3, t3, f3⟩, fun x H3 y => ?_⟩
    obtain ⟨d, e1, t3, c3, r3⟩ := at2.yld i x H3 hlt y
    have e2 : it.items[i] = d := by rw [List.getElem?_eq_getElem hlt] at e1; exact Option.some.inj e1
    rw [e2] at f2
    refine ⟨N, ρ2, S2, d, _, a2.mono t3 c3, r3, f2, fun ρ4 S4 k4 σ4 H4 t4 a4 => ?_⟩
    have tt : Tr N H1 S1 H4 S4 := (t2.trans t3).trans t4
    have qq := q.of (t1.trans tt)
    exact ⟨N, ρ4, S4, _, a4, k4, ⟨fun ρ5 S5 k5 σ5 H5 t5 a5 => ⟨ρ5, S5, a5, tt.trans t5, k5⟩, qq.rt, fun ρ5 S5 k5 σ5 H5 t5 a5 => qq.nx _ _ k5 _ _ t5 a5, fun ρ5 S5 k5 σ5 H5 t5 a5 => ⟨ρ5, S5, a5, tt.trans t5, k5⟩⟩⟩
  · have e : i = it.items.length := by omega
    rw [e, List.drop_length] at f2
    obtain ⟨kp, f2⟩ := f2
    have at2 := ok N H2 S2 (fun _ z => .inl z) t2 a2.cells kp
    rw [e]
    exact .inl ⟨at2.stop, q.nx _ _ f2 _ _ (t1.trans t2) a2⟩
end

/-! ### while -/
def whileN (c : WT) (body : WS) (E : EndsG) : Nat → Rho → Sto → Prop
  | 0, _, _ => False
  | n + 1, ρ, S => c ρ S fun k S1 => (k = true → body { E with nx := whileN c body E n, ct := whileN c body E n, bk := E.nx } ρ S1) ∧ (k = false → E.nx ρ S1)
def wWhile (c : WT) (body : WS) : WS := fun E ρ S => ∃ n, whileN c body E n ρ S
section
variable {X : Cx} {c : Expr} {body : List Stmt} {wc : WT} {wb : WS} {pos : Pos}
theorem gs_while (hp : PassesOwn (model X.prog X.w) X.A X.env X.xe) (hc : GT X c wc) (hb : GSs X body wb) : GS X (.While c body [] pos) (wWhile wc wb) := by
  refine PS.imp (ps_while hp hc hb) fun D σ H ⟨N, ρ, S, E, ab, ⟨n, h⟩, q⟩ => ?_
  refine ⟨fun m σ2 H2 => ∃ ρ2 S2, Abs N S2 H2 σ2 ρ2 ∧ Tr N H S H2 S2 ∧ whileN wc wb E m ρ2 S2, ⟨n, ρ, S, ab, .refl N H S, h⟩, ?_⟩
  intro m σ2 H2 ⟨ρ2, S2, a2, t2, h2⟩
  cases m with
  | zero => exact h2.elim
  | succ m =>
    refine ⟨N, ρ2, S2, _, a2, h2, fun k S3 h3 H3 t3 c3 => ?_⟩
    have tt := t2.trans t3
    have qq := q.of tt
    cases k with
    | true =>
      refine iteT ⟨fun σ4 H4 => ∃ ρ4 S4, Abs N S4 H4 σ4 ρ4 ∧ Tr N H S H4 S4 ∧ whileN wc wb E m ρ4 S4, fun σ4 H4 h4 => ⟨m, Nat.lt_succ_self m, h4⟩, ?_⟩
      exact ⟨N, ρ2, S3, _, a2.mono t3 c3, h3.1 rfl, ⟨fun ρ5 S5 k5 σ5 H5 t5 a5 => ⟨ρ5, S5, a5, tt.trans t5, k5⟩, qq.rt, fun ρ5 S5 k5 σ5 H5 t5 a5 => qq.nx _ _ k5 _ _ t5 a5, fun ρ5 S5 k5 σ5 H5 t5 a5 => ⟨ρ5, S5, a5, tt.trans t5, k5⟩⟩⟩
    | false => exact iteF (qq.nx _ _ (h3.2 rfl) _ _ (.refl N H3 S3) (a2.mono t3 c3))
end
end G

set_option Elab.async false
set_option linter.all false
set_option maxRecDepth 100000
set_option autoImplicit false
namespace G
open PySem PySem.Spec PyProof.Rows L2

/-! ### iterators over what is held -/
section
variable {X : Cx} {tg : Expr} {pins : List (Addr × Obj)} {σ : L2.St} {H : Hp} {s : Shared} {R : It → Hp → Prop} {a : Addr} {xs : List V}
theorem fresh_fp (I : Inv X pins σ H s) : ∀ b ∈ [s.heap.objs.size], FpOk X pins H b := fun b hb => by
  rw [List.mem_singleton.mp hb]
  exact I.fpOk (Nat.le_refl _) (I.hok.fresh (Nat.le_refl _))
theorem iter_list (I : Inv X pins σ H s) (hq : SqL X.K H a xs) (q : R (Itl X.K a) H) : wpAny (model X.prog X.w) X.A (pyIter (.ref a)) (PIE X pins σ tg R) X.xe s := by
  obtain ⟨its, rv, pl, _⟩ := I.list hq
  refine wpAny_pyIter_list pl.isList ?_
  have I' := I.kept (t' := s.toks) (h' := s.heap.push ⟨.type "list_iterator", none, .fields #[.ref a, .int 0 0], #[]⟩) fun b o e => Heap.get?_push_of_some _ e
  exact ⟨_, [_], _, _, H, rfl, I', turn_list a _, ⟨_, Heap.get?_push_size _ rfl, rfl, rfl⟩, fresh_fp I, q⟩
theorem iter_tup (I : Inv X pins σ H s) (hq : SqT X.K H a xs) (q : R (Itt X.K a) H) : wpAny (model X.prog X.w) X.A (pyIter (.ref a)) (PIE X pins σ tg R) X.xe s := by
  obtain ⟨its, rv, pl, _⟩ := I.tuple hq
  refine wpAny_pyIter_tuple (show s.heap.IsTuple a its.toArray from pl) ?_
  have I' := I.kept (t' := s.toks) (h' := s.heap.push ⟨.type "tuple_iterator", none, .fields #[.ref a, .int 0 0], #[]⟩) fun b o e => Heap.get?_push_of_some _ e
  exact ⟨_, [_], _, _, H, rfl, I', turn_tuple a _, ⟨_, Heap.get?_push_size _ rfl, rfl, rfl⟩, fresh_fp I, q⟩
theorem iter_str {x : Str} {t : Tok} (I : Inv X pins σ H s) (q : R (Its x) H) : wpAny (model X.prog X.w) X.A (pyIter (.str x t)) (PIE X pins σ tg R) X.xe s := by
  cases ha : x.cps.all (· < 128)
  · exact wpAny_pyIter_wide ha (pi_one (tk := s.toks) I _ (turn_str _ x t "str_iterator" (.inr rfl)) ⟨_, Heap.get?_push_size _ rfl, rfl, rfl⟩ q)
  · exact wpAny_pyIter_ascii ha (pi_one (tk := s.toks) I _ (turn_str _ x t "str_ascii_iterator" (.inl rfl)) ⟨_, Heap.get?_push_size _ rfl, rfl, rfl⟩ q)
end

/-- the items of a value and what keeps them -/
def itemsOf (S : Sto) (d : D) : Option IT := match d with
  | .lst ds => some ⟨ds, fun _ => True⟩
  | .tup ds => some ⟨ds, fun _ => True⟩
  | .str x => some ⟨x.cps.toList.map fun c => .str ⟨#[c]⟩, fun _ => True⟩
  | .cell c => match S c with
    | some (.lst ds) => some ⟨ds, fun S' => S' c = some (.lst ds)⟩
    | _ => none
  | _ => none
def wIt (w : WE) : WI := fun ρ S K => w ρ S fun d S1 => match itemsOf S1 d with
  | some it => K it S1
  | none => False

section
variable {N : Hid} {H : Hp} {S : Sto}
theorem Reps.get {A : Addr → Prop} : ∀ {vs : List V} {ds : List D} {i : Nat} {x : V}, Reps H A vs ds → vs[i]? = some x → ∃ d, ds[i]? = some d ∧ Rep H A x d
  | _, _, _, _, .nil, e => by simp at e
  | _, _, 0, _, .cons r _, e => by simp at e; subst e; exact ⟨_, rfl, r⟩
  | _, _, i + 1, x, .cons _ t, e => by
    obtain ⟨d, h1, h2⟩ := Reps.get (i := i) (x := x) t (by simpa using e)
    exact ⟨d, by simpa using h1, h2⟩
theorem Reps.getD {A : Addr → Prop} : ∀ {vs : List V} {ds : List D} {i : Nat} {d : D}, Reps H A vs ds → ds[i]? = some d → ∃ v, vs[i]? = some v ∧ Rep H A v d
  | _, _, _, _, .nil, e => by simp at e
  | _, _, 0, _, .cons r _, e => by simp at e; subst e; exact ⟨_, rfl, r⟩
  | _, _, i + 1, x, .cons _ t, e => by
    obtain ⟨d, h1, h2⟩ := Reps.getD (i := i) (d := x) t (by simpa using e)
    exact ⟨d, by simpa using h1, h2⟩
/-- a walk over known items -/
theorem ItAt.walk {J : It} {n : Nat} {Gp : Hp → Prop} {Y : Nat → Hp → V → Hp → Prop} {ds : List D} (w : Walk J n Gp Y) (hn : ds.length = n) (hG : Gp H)
    (hy : ∀ i x H', i < n → Y i H x H' → ∃ d, ds[i]? = some d ∧ Tr N H S H' S ∧ CellsOk N H' S ∧ Rep H' (alive N S) x d) : ItAt N J H S ds := by
  subst hn
  exact ⟨fun i hi => w.goes i H hi hG, w.stops H hG, fun i x H' hi y => hy i x H' hi (w.yields i H x H' hi hG y)⟩
theorem ItAt.list {K : PySem.W.Frag} {a : Addr} {vs : List V} {ds : List D} (hq : SqL K H a vs) (rs : Reps H (alive N S) vs ds) (c : CellsOk N H S) : ItAt N (Itl K a) H S ds := by
  refine ItAt.walk walk_list rs.length.symm hq fun i x H' hi y => ?_
  obtain ⟨rfl, e⟩ := y
  obtain ⟨d, e2, r⟩ := rs.get e
  exact ⟨d, e2, .refl _ _ _, c, r⟩
theorem ItAt.tup {K : PySem.W.Frag} {a : Addr} {vs : List V} {ds : List D} (hq : SqT K H a vs) (rs : Reps H (alive N S) vs ds) (c : CellsOk N H S) : ItAt N (Itt K a) H S ds := by
  refine ItAt.walk walk_tup rs.length.symm hq fun i x H' hi y => ?_
  obtain ⟨rfl, e⟩ := y
  obtain ⟨d, e2, r⟩ := rs.get e
  exact ⟨d, e2, .refl _ _ _, c, r⟩
/-- a tracked pair made in a turn -/
theorem ItAt.pair {J : It} {n : Nat} {Gp : Hp → Prop} {fx fy : Nat → Option V} {ds : List D} (w : Walk J n Gp (YPair fx fy)) (hn : ds.length = n) (hG : Gp H) (c : CellsOk N H S)
    (hy : ∀ i x y, i < n → fx i = some x → fy i = some y → ∃ d e, ds[i]? = some (.tup [d, e]) ∧ Rep H (alive N S) x d ∧ Rep H (alive N S) y e) : ItAt N J H S ds := by
  refine ItAt.walk w hn hG fun i x H' hi y => ?_
  obtain ⟨T, u, v, rfl, nT, rfl, e1, e2⟩ := y
  obtain ⟨d, e, e3, r1, r2⟩ := hy i u v hi e1 e2
  have t := Tr.new c nT (o := .tup [u, v])
  exact ⟨_, e3, t, c.new nT, .tup (.inl upd_same) (c.dead nT) (.cons (r1.mono t) (.cons (r2.mono t) .nil))⟩
end
section
variable {X : Cx} {tg e : Expr} {w : WE} {pos p : Pos}
theorem gi_val (h : GE X e w) : GI X tg e (wIt w) := by
  refine ⟨fun pins s σ H R I ⟨N, ρ, S, K, ab, hw, q⟩ => ?_⟩
  have step := h.run pins s σ H (fun v H1 => ∃ d S1 it, itemsOf S1 d = some it ∧ K it S1 ∧ Tr N H S H1 S1 ∧ CellsOk N H1 S1 ∧ Rep H1 (alive N S1) v d) I
    (liftE.mk ab hw fun d S1 k v H1 t c r => by
      split at k
      · rename_i it e
        exact ⟨d, S1, it, e, k, t, c, r⟩
      · exact k.elim)
  refine thn step fun v s1 ⟨x, H1, I1, r1, d, S1, it, ei, k, t, c, r⟩ => ?_
  have qq := q it S1 k
  clear q k step
  cases r with
  | lst rd na rs =>
    cases r1
    injection ei with ei
    subst ei
    exact iter_list I1 (.inl (.inl rd)) (qq _ H1 t c fun N2 H2 S2 x2 t2 c2 _ => ItAt.list (.inl (.inl (t2.t0.keep _ _ rd na))) (rs.mono0 (t2.ext x2)) c2)
  | tup rd na rs =>
    cases r1
    injection ei with ei
    subst ei
    exact iter_tup I1 (.inl rd) (qq _ H1 t c fun N2 H2 S2 x2 t2 c2 _ => ItAt.tup (.inl (t2.t0.rd rd na).1) (rs.mono0 (t2.ext x2)) c2)
  | str z =>
    obtain ⟨tk, rfl⟩ := r1
    injection ei with ei
    subst ei
    refine iter_str I1 (qq _ H1 t c fun N2 H2 S2 x2 t2 c2 _ => ItAt.walk walk_str (by simp) trivial fun i y H' hi hy => ?_)
    obtain ⟨rfl, ch, e1, rfl⟩ := hy
    refine ⟨.str ⟨#[ch]⟩, ?_, .refl _ _ _, c2, .str _⟩
    rw [List.getElem?_map, show z.cps.toList[i]? = some ch by simpa using e1]
    rfl
  | cell cc =>
    cases r1
    have ee : itemsOf S1 (.cell cc) = match S1 cc with
      | some (.lst ds) => some ⟨ds, fun S' => S' cc = some (.lst ds)⟩
      | _ => none := rfl
    rw [ee] at ei
    split at ei <;> try (cases ei; done)
    rename_i ds e1
    injection ei with ei
    subst ei
    obtain ⟨vs, e2, rs⟩ := c.at_ _ _ e1
    refine iter_list I1 (.inl (.inl e2)) (qq _ H1 t c fun N2 H2 S2 x2 t2 c2 kp => ?_)
    obtain ⟨vs2, e3, rs2⟩ := c2.at_ _ _ kp
    exact ItAt.list (.inl (.inl e3)) rs2 c2
  | non => cases ei
  | bl b => cases ei
  | int i => cases ei
  | ty n => cases ei
  | fn a => cases ei
  | scr z => cases ei
  | dic r k z => cases ei

/-- range -/
def irange (lo : Int) (n : Nat) : List D := (List.range n).map fun i => .int (lo + (i : Nat))
theorem ItAt.range {N : Hid} {H : Hp} {S : Sto} {lo : Int} {n : Nat} (c : CellsOk N H S) : ItAt N (Itr lo n) H S (irange lo n) := by
  refine ItAt.walk walk_range (by simp [irange]) trivial fun i x H' hi y => ?_
  obtain ⟨rfl, rfl⟩ := y
  refine ⟨.int (lo + (i : Nat)), ?_, .refl _ _ _, c, .int _⟩
  unfold irange
  rw [List.getElem?_map, List.getElem?_range hi]
  rfl
def wRange1 (a : WE) : WI := fun ρ S K => a ρ S fun x S1 => ∃ j : Int, x = .int j ∧ -(2 ^ 62) ≤ j ∧ j < 2 ^ 62 ∧ K ⟨irange 0 j.toNat, fun _ => True⟩ S1
def wRange2 (a b : WE) : WI := fun ρ S K => a ρ S fun x S1 => b ρ S1 fun y S2 => ∃ i j : Int, x = .int i ∧ y = .int j ∧ (-(2 ^ 62) ≤ i ∧ i < 2 ^ 62 ∧ -(2 ^ 62) ≤ j ∧ j < 2 ^ 62) ∧ K ⟨irange i (j - i).toNat, fun _ => True⟩ S2
variable {e2 : Expr} {w2 : WE}
theorem gi_range1 (h : GE X e w) (hm : X.mg "range" = none) (hg : Gl X "range" := by rfl) (hs : starEach [e] X.env = [(false, eval e X.env)] := by rfl) : GI X tg (.Call (.Name "range" p) [e] [] pos) (wRange1 w) := by
  refine PI.imp (pi_range1 hg hm (ga_cons h ga_nil hs) hs) fun σ H R ⟨N, ρ, S, K, ab, hw, q⟩ => ?_
  refine lift_args1 ab hw fun x S1 ⟨j, ex, h1, h2, k⟩ v H1 t1 c1 r1 => ?_
  subst ex
  cases r1
  exact ⟨j, rfl, h1, h2, q _ _ k _ H1 t1 c1 fun N2 H2 S2 x2 t2 c2 _ => ItAt.range c2⟩
theorem gi_range2 (h : GE X e w) (h2 : GE X e2 w2) (hm : X.mg "range" = none) (hg : Gl X "range" := by rfl) (hs : starEach [e, e2] X.env = [(false, eval e X.env), (false, eval e2 X.env)] := by rfl) (hs2 : starEach [e2] X.env = [(false, eval e2 X.env)] := by rfl) :
    GI X tg (.Call (.Name "range" p) [e, e2] [] pos) (wRange2 w w2) := by
  refine PI.imp (pi_range2 hg hm (ga_cons h (ga_cons h2 ga_nil hs2) (by rw [hs, hs2])) hs hs2) fun σ H R ⟨N, ρ, S, K, ab, hw, q⟩ => ?_
  refine lift_args2 ab hw fun x y S' ⟨i, j, ex, ey, hb, k⟩ v u H' t' c r1 r2 => ?_
  subst ex ey
  cases r1
  cases r2
  exact ⟨i, j, rfl, hb, q _ _ k _ H' t' c fun N2 H2 S2 x2 t2 c2 _ => ItAt.range c2⟩
end
end G

set_option Elab.async false
set_option linter.all false
set_option maxRecDepth 100000
set_option autoImplicit false
namespace G
open PySem PySem.Spec PyProof.Rows L2

/-! ### targets within a comprehension: own slots alone -/
def liftGc (vs : List Nat) (g : WG) : TG := fun v σ H Q => ∃ N ρ S d K, Abs N S H σ ρ ∧ Rep H (alive N S) v d ∧ g d ρ S K ∧ ∀ ρ' S', K ρ' S' → ∀ σ' H', Tr N H S H' S' → Abs N S' H' σ' ρ' → wipe σ' vs = wipe σ vs → Q σ' H'
def liftGcs (vs : List Nat) (g : WGs) : TGs := fun us σ H Q => ∃ N ρ S ds K, Abs N S H σ ρ ∧ Reps H (alive N S) us ds ∧ g ds ρ S K ∧ ∀ ρ' S', K ρ' S' → ∀ σ' H', Tr N H S H' S' → Abs N S' H' σ' ρ' → wipe σ' vs = wipe σ vs → Q σ' H'
abbrev GC (X : Cx) (vs : List Nat) (tg : Expr) (g : WG) : Prop := PG X tg (liftGc vs g)
abbrev GCs (X : Cx) (vs : List Nat) (ts : List Expr) (g : WGs) : Prop := PGs X ts (liftGcs vs g)
theorem wipe_get {σ : L2.St} {i : Nat} {vs : List Nat} (h : i ∈ vs) (l : i < σ.length) : (wipe σ vs)[i]? = some none := by
  induction vs with
  | nil => cases h
  | cons v vs ih =>
    unfold wipe
    by_cases e : v = i
    · rw [e]; exact List.getElem?_set_self (by rw [wipe_length]; exact l)
    · rw [List.getElem?_set_ne e]
      rcases List.mem_cons.mp h with z | z
      · exact absurd z.symm e
      · exact ih z
theorem wipe_other {σ : L2.St} {i : Nat} {vs : List Nat} (h : i ∉ vs) : (wipe σ vs)[i]? = σ[i]? := by
  induction vs with
  | nil => rfl
  | cons v vs ih =>
    unfold wipe
    rw [List.getElem?_set_ne fun z => h (by rw [z]; exact List.mem_cons_self ..)]
    exact ih fun z => h (List.mem_cons_of_mem _ z)
theorem wipe_set {σ : L2.St} {i : Nat} {v : Option V} {vs : List Nat} (h : i ∈ vs) : wipe (σ.set i v) vs = wipe σ vs := by
  refine List.ext_getElem? fun j => ?_
  by_cases m : j ∈ vs
  · by_cases l : j < σ.length
    · rw [wipe_get m l, wipe_get m (by rw [List.length_set]; exact l)]
    · rw [List.getElem?_eq_none (by rw [wipe_length, List.length_set]; omega), List.getElem?_eq_none (by rw [wipe_length]; omega)]
  · rw [wipe_other m, wipe_other m, List.getElem?_set_ne fun z => m (by rw [← z]; exact h)]
theorem wipe_wipe {σ : L2.St} {vs : List Nat} : wipe (wipe σ vs) vs = wipe σ vs := by
  refine List.ext_getElem? fun j => ?_
  by_cases m : j ∈ vs
  · by_cases l : j < σ.length
    · rw [wipe_get m l, wipe_get m (by rw [wipe_length]; exact l)]
    · rw [List.getElem?_eq_none (by rw [wipe_length, wipe_length]; omega), List.getElem?_eq_none (by rw [wipe_length]; omega)]
  · rw [wipe_other m, wipe_other m]
def wipeR (ρ : Rho) : List Nat → Rho
  | [] => ρ
  | v :: vs => (wipeR ρ vs).set v none
theorem Abs.wipe {N : Hid} {S : Sto} {H : Hp} {σ : L2.St} {ρ : Rho} (a : Abs N S H σ ρ) : ∀ vs, Abs N S H (L2.wipe σ vs) (wipeR ρ vs)
  | [] => a
  | v :: vs => by
    have b := Abs.wipe a vs
    refine ⟨?_, fun j e h => ?_, a.cells⟩
    · show (List.set (L2.wipe σ vs) v none).length = (List.set (wipeR ρ vs) v none).length
      rw [List.length_set, List.length_set]; exact b.len
    · have h : (List.set (wipeR ρ vs) v none)[j]? = some (some e) := h
      show ∃ u, (List.set (L2.wipe σ vs) v none)[j]? = some (some u) ∧ _
      by_cases z : v = j
      · subst z
        by_cases l : v < (wipeR ρ vs).length
        · rw [List.getElem?_set_self l] at h; cases h
        · rw [List.getElem?_eq_none (by rw [List.length_set]; omega)] at h; cases h
      · rw [List.getElem?_set_ne z] at h ⊢
        exact b.slot j e h
section
variable {X : Cx} {e : Expr} {es : List Expr} {pos : Pos} {g : WG} {gs : WGs} {vs : List Nat}
theorem gc_name (i : Nat) {x : Str} (hN : X.N.Nodup) (hi : X.N[i]? = some x := by rfl) (hm : i ∈ vs := by decide) (hx : Loc X.env.scope x := by first | exact Or.inl rfl | exact Or.inr rfl) (hf : X.fn x = true ∨ X.env.scope.names.lookup x = some .local := by first | exact Or.inr rfl | exact Or.inl rfl) : GC X vs (.Name x pos) (gN i) := by
  refine PG.imp (pg_name hN hi hx hf) fun v σ H Q ⟨N, ρ, S, d, K, a, r, h, q⟩ => ?_
  exact q _ _ h _ H (.refl N H S) (a.put r) (wipe_set hm)
theorem gcs_nil : GCs X vs [] gsN := by
  refine PGs.imp pgs_nil fun us σ H Q ⟨N, ρ, S, ds, K, a, r, ⟨e, h⟩, q⟩ => ?_
  subst e
  cases r
  exact ⟨rfl, q _ _ h _ H (.refl N H S) a rfl⟩
theorem gcs_cons (h1 : GC X vs e g) (h2 : GCs X vs es gs) (hs : (assignEach (e :: es) X.env).map (·.2) = assign e X.env :: (assignEach es X.env).map (·.2) := by rfl) : GCs X vs (e :: es) (gsC g gs) := by
  refine PGs.imp (pgs_cons h1 h2 hs) fun us σ H Q ⟨N, ρ, S, ds, K, a, r, ⟨d, ds', e, h⟩, q⟩ => ?_
  subst e
  cases r with
  | cons r rr =>
    refine ⟨_, _, rfl, N, ρ, S, d, _, a, r, h, fun ρ1 S1 k σ1 H1 t1 a1 w1 => ?_⟩
    exact ⟨N, ρ1, S1, ds', K, a1, rr.mono t1, k, fun ρ2 S2 k2 σ2 H2 t2 a2 w2 => q _ _ k2 _ _ (t1.trans t2) a2 (w2.trans w1)⟩
theorem gc_tup {k n : Nat} (hc : X.calm = true) (h : GCs X vs es gs) (hn : (assignEach es X.env).length = n := by rfl) (hst : (assignEach es X.env).findIdx? (·.1) = none := by rfl) : GC X vs (.Tuple es k pos) (gT n gs) := by
  refine PG.imp (pg_tup hc h hn hst) fun v σ H Q ⟨N, ρ, S, d, K, a, r, ⟨ds, e, l, h⟩, q⟩ => ?_
  subst e
  cases r with
  | tup rd na rs => exact ⟨_, _, rfl, .inl rd, rs.length.trans l, N, ρ, S, ds, K, a, rs, h, q⟩
end

/-! ### tests of a comprehension -/
abbrev GIf (X : Cx) (ifs : List Expr) (w : WT) : Prop := PTs X ifs (liftT w)
def wYes : WT := fun _ S K => K true S
section
variable {X : Cx} {c : Expr} {w : WT}
theorem gif_nil : GIf X [] wYes := ⟨fun pins s σ H Q I ⟨N, ρ, S, K, ab, h, q⟩ => (pts_nil (X := X)).run pins s σ H Q I (q true S h H (.refl N H S) ab.cells)⟩
theorem gif_one (h : GT X c w) : GIf X [c] w := pts_one h
end

/-! ### list comprehensions -/
def compW (keep : Sto → Prop) (g : WG) (t : WT) (e : WE) (ρ : Rho) : List D → List D → Sto → (List D → Sto → Prop) → Prop
  | [], acc, S, K => keep S ∧ K acc S
  | d :: ds, acc, S, K => keep S ∧ g d ρ S fun ρ1 S1 => t ρ1 S1 fun b S2 => (b = true → e ρ1 S2 fun y S3 => acc.length < sizeLine ∧ compW keep g t e ρ ds (acc ++ [y]) S3 K) ∧ (b = false → compW keep g t e ρ ds acc S2 K)
def wComp (wi : WI) (g : WG) (t : WT) (e : WE) (vs : List Nat) : WF := fun ρ S K => wi ρ S fun it S1 => compW it.keep g t e (wipeR ρ vs) it.items [] S1 K

theorem Reps.snoc {H : Hp} {A : Addr → Prop} {v : V} {d : D} : ∀ {vs : List V} {ds : List D}, Reps H A vs ds → Rep H A v d → Reps H A (vs ++ [v]) (ds ++ [d])
  | _, _, .nil, r => .cons r .nil
  | _, _, .cons a b, r => .cons a (Reps.snoc b r)
section
variable {X : Cx} {elt tg iter : Expr} {ifs : List Expr} {scope : Scope} {own : List (Str × Nat)} {pos : Pos} {w : WI} {g : WG} {t : WT} {we : WE}
theorem lift_comp {vs : List Nat} : ∀ σ H Q, liftF (wComp w g t we vs) σ H Q → tLc (liftI w) (liftGc vs g) (liftT t) (liftE we) vs σ H Q := by
  intro σ H Q ⟨N, ρ, S, K, ab, h, q⟩
  refine ⟨N, ρ, S, _, ab, h, fun it S1 k J H1 t1 c1 ok D nD => ?_⟩
  refine ⟨fun i m H => ∃ Hm S2 aV aD, H = upd Hm D (.lst aV) ∧ Hm D = none ∧ m = it.items.length - i ∧ i ≤ it.items.length ∧ Tr N H1 S1 Hm S2 ∧ CellsOk N Hm S2 ∧ Reps Hm (alive N S2) aV aD ∧ compW it.keep g t we (wipeR ρ vs) (it.items.drop i) aD S2 K,
    ⟨it.items.length, H1, S1, [], [], rfl, nD, rfl, Nat.zero_le _, .refl N H1 S1, c1, .nil, k⟩, ?_⟩
  intro i m H2 ⟨Hm, S2, aV, aD, eH, nm, em, hle, t2, c2, ra, f2⟩
  subst eH
  have cn := c2.new nm (o := .lst aV)
  have tn := Tr.new c2 nm (o := .lst aV)
  by_cases hlt : i < it.items.length
  · have ed : it.items.drop i = it.items[i] :: it.items.drop (i + 1) := List.drop_eq_getElem_cons hlt
    rw [ed] at f2
    obtain ⟨kp, f2⟩ := f2
    have ch := c2.hide nm (o := .lst aV)
    have ex : Ext N (hidP N D) H1 := fun a z => z.imp id fun e => by rw [e]; exact nD
    have at2 := ok (hidP N D) _ S2 ex (t2.trans tn) ch kp
    refine .inr ⟨at2.go i hlt, fun H3 => ∃ Hm S3 aV aD, H3 = upd Hm D (.lst aV) ∧ Hm D = none ∧ Tr N H1 S1 Hm S3 ∧ CellsOk N Hm S3 ∧ Reps Hm (alive N S3) aV aD ∧ compW it.keep g t we (wipeR ρ vs) (it.items.drop (i + 1)) aD S3 K,
      fun H3 ⟨Hm3, S3, aV3, aD3, e3, n3, t3, c3, r3, f3⟩ => ⟨it.items.length - (i + 1), by omega, Hm3, S3, aV3, aD3, e3, n3, rfl, hlt, t3, c3, r3, f3⟩, fun x H3 y => ?_⟩
    obtain ⟨d, e1, t3, c3, r3⟩ := at2.yld i x H3 hlt y
    have e2 : it.items[i] = d := by rw [List.getElem?_eq_getElem hlt] at e1; exact Option.some.inj e1
    rw [e2] at f2
    have abw : Abs (hidP N D) S2 H3 (wipe σ vs) (wipeR ρ vs) := by
      have a1 := ((ab.mono (t1.trans t2) c2).wipe vs)
      have a2 : Abs (hidP N D) S2 (upd Hm D (.lst aV)) (wipe σ vs) (wipeR ρ vs) := ⟨a1.len, fun j e h => by
        obtain ⟨v, h1, h2⟩ := a1.slot j e h
        exact ⟨v, h1, h2.mono0 (Tr0.hide nm)⟩, ch⟩
      exact a2.mono t3 c3
    have m2 : ∀ a, N a → a ≠ D := c2.hid_ne nm
    refine ⟨hidP N D, _, S2, d, _, abw, r3, f2, fun ρ4 S4 k4 σ4 H4 t4 a4 w4 => ⟨w4.trans wipe_wipe, ?_⟩⟩
    refine ⟨hidP N D, ρ4, S4, _, a4, k4, fun b S5 h5 H5 t5 c5 => ?_⟩
    have tt := (t3.trans t4).trans t5
    cases b with
    | true =>
      refine iteT ⟨hidP N D, ρ4, S5, _, a4.mono t5 c5, h5.1 rfl, fun z S6 ⟨l6, h6⟩ v H6 t6 c6 r6 => ?_⟩
      have t36 := tt.trans t6
      have eD : H6 D = some (.lst aV) := by rw [t36.hid D (.inr rfl)]; exact upd_same
      have u6 := t36.unhide nm m2
      refine ⟨aV, eD, by rw [ra.length]; exact l6, und H6 D, S6, aV ++ [v], aD ++ [z], ?_, und_same, t2.trans u6, c6.unhide m2, (ra.mono u6).snoc (r6.mono0 Tr0.unhide), h6⟩
      funext c
      by_cases e : c = D
      · rw [e, upd_same, upd_same]
      · rw [upd_ne e, upd_ne e, und_ne e]
    | false =>
      have eD : H5 D = some (.lst aV) := by rw [tt.hid D (.inr rfl)]; exact upd_same
      have u5 := tt.unhide nm m2
      exact iteF ⟨und H5 D, S5, aV, aD, (upd_und eD).symm, und_same, t2.trans u5, c5.unhide m2, ra.mono u5, h5.2 rfl⟩
  · have e : i = it.items.length := by omega
    rw [e, List.drop_length] at f2
    obtain ⟨kp, f2⟩ := f2
    have at2 := ok N _ S2 (fun _ z => .inl z) (t2.trans tn) cn kp
    rw [e]
    exact .inl ⟨at2.stop, q _ _ f2 D Hm aV (t1.trans t2) c2 ra nm⟩
theorem gf_comp (hN : X.N.Nodup) (hi : GI X tg iter w) (ok : BlkOk X.N X.env.scope scope own)
    (hg : ∀ (s : Shared) (H : Hp) (C : Addr) (cl : List (Str × Addr)) (fp : List Addr), GC (X.blk s H scope (compEnvC scope cl C X.env) fp) (own.map (·.2)) tg g)
    (ht : ∀ (s : Shared) (H : Hp) (C : Addr) (cl : List (Str × Addr)) (fp : List Addr), GIf (X.blk s H scope (compEnvC scope cl C X.env) fp) ifs t)
    (he : ∀ (s : Shared) (H : Hp) (C : Addr) (cl : List (Str × Addr)) (fp : List Addr), GE (X.blk s H scope (compEnvC scope cl C X.env) fp) elt we) (hc : X.calm = true := by rfl)
    (hs : ∀ x, foldedSetIterable iter X.env x = pure x := by intro _; rfl) : GF X (.ListComp elt [⟨tg, iter, ifs, 0⟩] scope pos) (wComp w g t we (own.map (·.2))) :=
  PE.imp (pe_lc hc hN hi ok hg ht he hs) lift_comp
/-- name = [..] -/
theorem gs_setLc (i : Nat) {y : Str} {py spos : Pos} (hN : X.N.Nodup) (hi : GI X tg iter w) (ok : BlkOk X.N X.env.scope scope own)
    (hg : ∀ (s : Shared) (H : Hp) (C : Addr) (cl : List (Str × Addr)) (fp : List Addr), GC (X.blk s H scope (compEnvC scope cl C X.env) fp) (own.map (·.2)) tg g)
    (ht : ∀ (s : Shared) (H : Hp) (C : Addr) (cl : List (Str × Addr)) (fp : List Addr), GIf (X.blk s H scope (compEnvC scope cl C X.env) fp) ifs t)
    (he : ∀ (s : Shared) (H : Hp) (C : Addr) (cl : List (Str × Addr)) (fp : List Addr), GE (X.blk s H scope (compEnvC scope cl C X.env) fp) elt we)
    (hsw : swapsWith (.ListComp elt [⟨tg, iter, ifs, 0⟩] scope pos) (some (.Name y py)) spos.line X.env = pure true) (hc : X.calm = true := by rfl) (hy : X.N[i]? = some y := by rfl) (hyl : X.env.scope.names.lookup y = some .local := by rfl)
    (hs : ∀ x, foldedSetIterable iter X.env x = pure x := by intro _; rfl) : GS X (.Assign [.Name y py] (.ListComp elt [⟨tg, iter, ifs, 0⟩] scope pos) spos) (wSet i (wFr (wComp w g t we (own.map (·.2))))) := by
  refine PS.imp (ps_setLc hc hN hy hyl hsw hi ok hg ht he hs) fun D σ H ⟨N, ρ, S, E, ab, h, q⟩ => ?_
  refine lift_comp σ H _ ⟨N, ρ, S, _, ab, h, fun ds S' k p H' vs t' c r n => ?_⟩
  have tt := t'.trans (Tr.new c n (o := .lst vs))
  exact q.nx _ _ k _ _ tt ((ab.mono tt (c.new n)).put (.lst upd_same (c.dead n) (r.mono (Tr.new c n))))
theorem gs_setLcL (i : Nat) {y : Str} {py spos : Pos} (hN : X.N.Nodup) (hi : GI X tg iter w) (ok : BlkOk X.N X.env.scope scope own)
    (hg : ∀ (s : Shared) (H : Hp) (C : Addr) (cl : List (Str × Addr)) (fp : List Addr), GC (X.blk s H scope (compEnvC scope cl C X.env) fp) (own.map (·.2)) tg g)
    (ht : ∀ (s : Shared) (H : Hp) (C : Addr) (cl : List (Str × Addr)) (fp : List Addr), GIf (X.blk s H scope (compEnvC scope cl C X.env) fp) ifs t)
    (he : ∀ (s : Shared) (H : Hp) (C : Addr) (cl : List (Str × Addr)) (fp : List Addr), GE (X.blk s H scope (compEnvC scope cl C X.env) fp) elt we)
    (hsw : swapsWith (.ListComp elt [⟨tg, iter, ifs, 0⟩] scope pos) (some (.Name y py)) spos.line X.env = pure true) (hc : X.calm = true := by rfl) (hy : X.N[i]? = some y := by rfl) (hyl : X.env.scope.names.lookup y = some .local := by rfl)
    (hs : ∀ x, foldedSetIterable iter X.env x = pure x := by intro _; rfl) : GS X (.Assign [.Name y py] (.ListComp elt [⟨tg, iter, ifs, 0⟩] scope pos) spos) (wSet i (wLv (wComp w g t we (own.map (·.2))))) := by
  refine PS.imp (ps_setLc hc hN hy hyl hsw hi ok hg ht he hs) fun D σ H ⟨N, ρ, S, E, ab, h, q⟩ => ?_
  refine lift_comp σ H _ ⟨N, ρ, S, _, ab, h, fun ds S' k p H' vs t' c r n => ?_⟩
  have tn := Tr.newC c n (o := .lst vs) (x := .lst ds)
  have tt := t'.trans tn
  exact q.nx _ _ (k p (c.free n)) _ _ tt ((ab.mono tt (c.newC n ⟨vs, upd_same, r.mono tn⟩)).put (.cell p))
end
end G

set_option Elab.async false
set_option linter.all false
set_option maxRecDepth 100000
set_option autoImplicit false
namespace G
open PySem PySem.Spec PyProof.Rows L2

section
variable {N : Hid} {H : Hp} {S : Sto} {K : KE} {Q : VK}
theorem liftK.here (q : liftK N H S K Q) (c : CellsOk N H S) {d : D} (k : K d S) {v : V} (r : Rep H (alive N S) v d) : Q v H := q d S k v H (.refl N H S) c r
theorem liftK.newT (q : liftK N H S K Q) (c : CellsOk N H S) {ds : List D} (k : K (.tup ds) S) {vs : List V} (r : Reps H (alive N S) vs ds) {p : Addr} (n : H p = none) : Q (.ref p) (upd H p (.tup vs)) :=
  q _ S k _ _ (Tr.new c n) (c.new n) (.tup (.inl upd_same) (c.dead n) (r.mono (Tr.new c n)))
theorem liftK.newL (q : liftK N H S K Q) (c : CellsOk N H S) {ds : List D} (k : K (.lst ds) S) {vs : List V} (r : Reps H (alive N S) vs ds) {p : Addr} (n : H p = none) : Q (.ref p) (upd H p (.lst vs)) :=
  q _ S k _ _ (Tr.new c n) (c.new n) (.lst upd_same (c.dead n) (r.mono (Tr.new c n)))
theorem newL.here {K : List D → Sto → Prop} (q : newL N H S K Q) (c : CellsOk N H S) {ds : List D} (k : K ds S) {vs : List V} (r : Reps H (alive N S) vs ds) {p : Addr} (n : H p = none) : Q (.ref p) (upd H p (.lst vs)) :=
  q ds S k p H vs (.refl N H S) c r n
theorem Reps.append {A : Addr → Prop} : ∀ {vs us : List V} {ds es : List D}, Reps H A vs ds → Reps H A us es → Reps H A (vs ++ us) (ds ++ es)
  | _, _, _, _, .nil, r => r
  | _, _, _, _, .cons a b, r => .cons a (Reps.append b r)
theorem Reps.take {A : Addr → Prop} : ∀ (n : Nat) {vs : List V} {ds : List D}, Reps H A vs ds → Reps H A (vs.take n) (ds.take n)
  | 0, _, _, _ => .nil
  | _ + 1, _, _, .nil => .nil
  | n + 1, _, _, .cons a b => .cons a (Reps.take n b)
theorem Reps.drop {A : Addr → Prop} : ∀ (n : Nat) {vs : List V} {ds : List D}, Reps H A vs ds → Reps H A (vs.drop n) (ds.drop n)
  | 0, _, _, r => r
  | _ + 1, _, _, .nil => .nil
  | n + 1, _, _, .cons a b => Reps.drop n b
theorem Reps.flat {A : Addr → Prop} {vs : List V} {ds : List D} (r : Reps H A vs ds) : ∀ n, Reps H A (List.replicate n vs).flatten (List.replicate n ds).flatten
  | 0 => .nil
  | n + 1 => by
    rw [List.replicate_succ, List.replicate_succ, List.flatten_cons, List.flatten_cons]
    exact r.append (Reps.flat r n)
theorem Reps.set {A : Addr → Prop} {v : V} {d : D} (r : Rep H A v d) : ∀ (i : Nat) {vs : List V} {ds : List D}, Reps H A vs ds → Reps H A (vs.set i v) (ds.set i d)
  | _, _, _, .nil => .nil
  | 0, _, _, .cons _ b => .cons r b
  | i + 1, _, _, .cons a b => .cons a (Reps.set r i b)
end

/-! ### numbers -/
def oII (C : Int → Int → Prop) (f : Int → Int → D) (x y : D) (S : Sto) (K : KE) : Prop := match x, y with
  | .int a, .int b => C a b ∧ K (f a b) S
  | _, _ => False
theorem go_ii {X : Cx} {f : Value → Value → Sem Value} {C : Int → Int → Prop} {g : Int → Int → V} {gd : Int → Int → D} (h : OpR X f (rI C g)) (hr : ∀ H A i j, Rep H A (g i j) (gd i j)) : OpR X f (liftO (oII C gd)) :=
  OpR.imp h fun x y H Q ⟨N, S, dx, dy, K, c, r1, r2, o, q⟩ => by
    cases r1 <;> cases r2 <;> first | exact o.elim | skip
    exact ⟨_, _, rfl, rfl, o.1, q.here c o.2 (hr _ _ _ _)⟩
theorem go_ii0 {X : Cx} {f : Value → Value → Sem Value} {g : Int → Int → V} (h : OpR X f (rI0 g)) : OpR X f (rI (fun _ _ => True) g) := OpR.imp h fun x y H Q ⟨i, j, a, b, _, q⟩ => ⟨i, j, a, b, q⟩
section
variable {X : Cx}
def oSub : Op2 := oII (fun _ _ => True) fun a b => .int (a - b)
theorem go_sub : OpR X (binaryOp .Sub) (liftO oSub) := go_ii (go_ii0 op_sub) fun _ _ _ _ => .int _
/-- both below 2 ^ 400000 -/
def Med (i : Int) : Prop := i.natAbs.log2 < 400000
def oDiv : Op2 := oII (fun _ b => 0 < b ∧ b.natAbs.log2 < 9000) fun a b => .int (a / b)
theorem go_div : OpR X (binaryOp .FloorDiv) (liftO oDiv) := go_ii op_fdivW fun _ _ _ _ => .int _
def oMod : Op2 := oII (fun _ b => b ≠ 0) fun a b => .int (a.fmod b)
theorem go_mod : OpR X (binaryOp .Mod) (liftO oMod) := go_ii op_modN fun _ _ _ _ => .int _
def oPow : Op2 := oII (fun a b => 0 ≤ b ∧ b ≤ 1000000 ∧ a.natAbs < 2 ^ 64) fun a b => .int (a ^ b.toNat)
theorem go_pow : OpR X (binaryOp .Pow) (liftO oPow) := go_ii op_pow fun _ _ _ _ => .int _

/-! ### + and * -/
def lstOf (S : Sto) (d : D) : Option (List D) := match d with
  | .lst ds => some ds
  | .cell c => match S c with
    | some (.lst ds) => some ds
    | _ => none
  | _ => none
theorem lstOf_rd {N : Hid} {H : Hp} {S : Sto} {v : V} {d : D} {ds : List D} (c : CellsOk N H S) (r : Rep H (alive N S) v d) (e : lstOf S d = some ds) : ∃ a vs, v = .ref a ∧ Rd H a (.lst vs) ∧ Reps H (alive N S) vs ds := by
  cases r with
  | lst rd na rs => cases e; exact ⟨_, _, rfl, .inl rd, rs⟩
  | cell a =>
    have ee : lstOf S (.cell a) = match S a with
      | some (.lst ds) => some ds
      | _ => none := rfl
    rw [ee] at e
    split at e <;> try (cases e; done)
    rename_i es h
    cases e
    obtain ⟨vs, e2, rs⟩ := c.at_ _ _ h
    exact ⟨a, vs, rfl, .inl e2, rs⟩
  | _ => cases e
theorem op_catR : OpR X (binaryOp .Add) (fun x y H Q => ∃ l b xs zs, x = .ref l ∧ y = .ref b ∧ Rd H l (.lst xs) ∧ Rd H b (.lst zs) ∧ xs.length + zs.length ≤ sizeLine ∧ ∀ p, H p = none → Q (.ref p) (upd H p (.lst (xs ++ zs)))) := by
  intro pins s σ H x y v u Q I rx ry ⟨l, b, xs, zs, ex, ey, hl, hb, hz, q⟩
  subst ex ey
  cases rx
  cases ry
  obtain ⟨n1, its, n, r, e⟩ := hl.ok I.hok
  obtain ⟨n2, its2, n', r2, e2⟩ := hb.ok I.hok
  refine PySem.P.add_list e e2 ?_ (by rw [List.size_toArray, List.size_toArray, ← r.length, ← r2.length]; exact hz)
  rw [show its.toArray ++ its2.toArray = (its ++ its2).toArray by simp]
  have nf : H s.heap.objs.size = none := I.hok.fresh (Nat.le_refl _)
  exact ⟨.ref s.heap.objs.size, _, I.lnew (t' := s.toks) (r.append r2) (by rw [List.length_append]; exact hz), rfl, q _ nf⟩
def oAdd (x y : D) (S : Sto) (K : KE) : Prop := match x, y with
  | .int a, .int b => K (.int (a + b)) S
  | .str a, .str b => a.length + b.length ≤ sizeLine ∧ K (.str (a ++ b)) S
  | .tup a, .tup b => a.length + b.length ≤ sizeLine ∧ K (.tup (a ++ b)) S
  | x, y => match lstOf S x, lstOf S y with
    | some ds, some es => ds.length + es.length ≤ sizeLine ∧ K (.lst (ds ++ es)) S
    | _, _ => False
theorem go_add : OpR X (binaryOp .Add) (liftO oAdd) :=
  OpR.imp (OpR.or op_catR (OpR.or op_add (OpR.or op_add_str op_catA))) fun x y H Q ⟨N, S, dx, dy, K, c, r1, r2, o, q⟩ => by
    have gl : (match lstOf S dx, lstOf S dy with
      | some ds, some es => ds.length + es.length ≤ sizeLine ∧ K (.lst (ds ++ es)) S
      | _, _ => False) → ∃ l b xs zs, x = .ref l ∧ y = .ref b ∧ Rd H l (.lst xs) ∧ Rd H b (.lst zs) ∧ xs.length + zs.length ≤ sizeLine ∧ ∀ p, H p = none → Q (.ref p) (upd H p (.lst (xs ++ zs))) := fun k => by
      split at k
      · rename_i ds es e1 e2
        obtain ⟨a1, vs, rfl, rd, rs⟩ := lstOf_rd c r1 e1
        obtain ⟨a2, us, rfl, rd2, rs2⟩ := lstOf_rd c r2 e2
        exact ⟨_, _, _, _, rfl, rfl, rd, rd2, by rw [rs.length, rs2.length]; exact k.1, fun p n => q.newL c k.2 (rs.append rs2) n⟩
      · exact k.elim
    cases r1 with
    | int a =>
      cases r2 with
      | int b => exact .inr (.inl ⟨a, b, rfl, rfl, q.here c o (.int _)⟩)
      | _ => exact .inl (gl o)
    | str a =>
      cases r2 with
      | str b => exact .inr (.inr (.inl ⟨a, b, rfl, rfl, o.1, q.here c o.2 (.str _)⟩))
      | _ => exact .inl (gl o)
    | tup rd na rs =>
      cases r2 with
      | tup rd2 na2 rs2 =>
        refine .inr (.inr (.inr ⟨_, _, _, _, rfl, rfl, .inl rd, .inl rd2, by rw [rs.length, rs2.length]; exact o.1, fun e => ?_, fun _ e => ?_, fun _ _ p n => q.newT c o.2 (rs.append rs2) n⟩))
        · subst e
          cases rs
          exact q.here c o.2 (.tup rd2 na2 rs2)
        · subst e
          cases rs2
          refine q.here c (d := .tup _) o.2 ?_
          rw [List.append_nil]
          exact .tup rd na rs
      | _ => exact .inl (gl o)
    | _ => exact .inl (gl o)
/-- a list and a list: a new one -/
def wCat (a b : WE) : WF := fun ρ S K => a ρ S fun x S1 => b ρ S1 fun y S2 => ∃ ds es, lstOf S2 x = some ds ∧ lstOf S2 y = some es ∧ ds.length + es.length ≤ sizeLine ∧ K (ds ++ es) S2
/-- a list times an int -/
def wRep (a b : WE) : WF := fun ρ S K => a ρ S fun x S1 => b ρ S1 fun y S2 => ∃ ds k, lstOf S2 x = some ds ∧ y = .int k ∧ -(2 ^ 63) ≤ k ∧ k < 2 ^ 63 ∧ ds.length * k.toNat ≤ sizeLine ∧ K (List.replicate k.toNat ds).flatten S2
def repS (z : Str) (k : Int) : Str := ⟨(List.replicate k.toNat z.cps).foldl (· ++ ·) #[]⟩
theorem rep_size (z : Array Nat) : ∀ (n : Nat) (a : Array Nat), ((List.replicate n z).foldl (· ++ ·) a).size = a.size + n * z.size
  | 0, a => by simp
  | n + 1, a => by
    show ((List.replicate n z).foldl (· ++ ·) (a ++ z)).size = _
    rw [rep_size z n (a ++ z), Array.size_append, Nat.add_mul, Nat.one_mul]
    omega
theorem op_mulS : OpR X (binaryOp .Mult) (fun x y H Q => ∃ z k, x = .str z ∧ y = .int k ∧ 0 < z.length ∧ z.length ≤ 10000 ∧ 2 ≤ k ∧ k ≤ 1000 ∧ Q (.str (repS z k)) H) := by
  intro pins s σ H x y v u Q I rx ry ⟨z, k, ex, ey, l0, l1, k0, k1, q⟩
  subst ex ey
  obtain ⟨t, rfl⟩ := rx
  obtain ⟨t', rfl⟩ := ry
  have e1 : ¬ k < 1 := by omega
  have e2 : (k == 1 || z.length == 0) = false := by
    rw [Bool.or_eq_false_iff]
    exact ⟨by simpa using (show k ≠ 1 by omega), by simpa using (show z.length ≠ 0 by omega)⟩
  have m1 : z.length * k.toNat ≤ 10000 * 1000 := Nat.mul_le_mul l1 (by omega)
  refine PySem.P.mul_str ?_ (fun _ _ => ?_) (fun _ _ => ?_) ?_
  · rw [decide_eq_false (by omega), decide_eq_false (by omega)]
    rfl
  · have := Int.le_ediv_of_mul_le (a := (10000 : Int)) (b := 2 ^ 63 - 1) (c := k) (by omega) (by omega)
    omega
  · unfold Builtin.Str.tooLong
    exact decide_eq_false (by unfold sizeLine; omega)
  · rw [if_neg e1, if_neg (by rw [e2]; decide)]
    have hs : (repS z k).length ≤ sizeLine := by
      show ((List.replicate k.toNat z.cps).foldl (· ++ ·) #[]).size ≤ _
      rw [rep_size]
      show 0 + k.toNat * z.cps.size ≤ _
      have e : z.cps.size = z.length := rfl
      rw [e, Nat.mul_comm]
      unfold sizeLine
      omega
    exact ⟨hs, .str (repS z k), H, I.tok _, ⟨_, rfl⟩, q⟩
def oMul (x y : D) (S : Sto) (K : KE) : Prop := match x, y with
  | .int a, .int b => a.natAbs.log2 + b.natAbs.log2 < 1000000 ∧ K (.int (a * b)) S
  | .tup ds, .int k => ds ≠ [] ∧ 2 ≤ k ∧ k ≤ 1000 ∧ ds.length ≤ 1000 ∧ K (.tup (List.replicate k.toNat ds).flatten) S
  | .str z, .int k => 0 < z.length ∧ z.length ≤ 10000 ∧ 2 ≤ k ∧ k ≤ 1000 ∧ K (.str (repS z k)) S
  | .lst ds, .int k => -(2 ^ 63) ≤ k ∧ k < 2 ^ 63 ∧ ds.length * k.toNat ≤ sizeLine ∧ K (.lst (List.replicate k.toNat ds).flatten) S
  | _, _ => False
theorem go_mul : OpR X (binaryOp .Mult) (liftO oMul) :=
  OpR.imp (OpR.or op_rep (OpR.or op_mulW (OpR.or op_repT op_mulS))) fun x y H Q ⟨N, S, dx, dy, K, c, r1, r2, o, q⟩ => by
    cases r1 with
    | str z =>
      cases r2 with
      | int k => exact .inr (.inr (.inr ⟨z, k, rfl, rfl, o.1, o.2.1, o.2.2.1, o.2.2.2.1, q.here c o.2.2.2.2 (.str _)⟩))
      | _ => exact o.elim
    | int a =>
      cases r2 with
      | int b => exact .inr (.inl ⟨a, b, rfl, rfl, o.1, q.here c o.2 (.int _)⟩)
      | _ => exact o.elim
    | tup rd na rs =>
      cases r2 with
      | int k =>
        obtain ⟨o1, o2, o3, o4, o5⟩ := o
        refine .inr (.inr (.inl ⟨_, k, _, rfl, rfl, .inl rd, fun e => ?_, o2, o3, by rw [rs.length]; exact o4, fun p n => q.newT c o5 (rs.flat _) n⟩))
        subst e
        cases rs
        exact o1 rfl
      | _ => exact o.elim
    | lst rd na rs =>
      cases r2 with
      | int k =>
        obtain ⟨o1, o2, o3, o4⟩ := o
        exact .inl ⟨_, k, _, rfl, rfl, rd, o1, o2, by rw [rs.length]; exact o3, fun p n => q.newL c o4 (rs.flat _) n⟩
      | _ => exact o.elim
    | _ => exact o.elim

/-! ### comparisons -/
mutual
def D.pd : D → Option PyData
  | .non => some .none
  | .bl b => some (.bool b)
  | .int i => some (.int i)
  | .str x => some (.str x)
  | .tup l => (pds l).map .tuple
  | .lst l => (pds l).map .list
  | _ => none
def pds : List D → Option (List PyData)
  | [] => some []
  | d :: l => match d.pd, pds l with
    | some a, some r => some (a :: r)
    | _, _ => none
end
mutual
theorem Rep.dp {K : PySem.W.Frag} {H : Hp} {A : Addr → Prop} : ∀ (d : D) {v : V} {p : PyData}, Rep H A v d → d.pd = some p → Dp K H v p
  | .non, _, _, r, e => by cases r; cases e; exact .non
  | .bl b, _, _, r, e => by cases r; cases e; exact .bl b
  | .int b, _, _, r, e => by cases r; cases e; exact .int b
  | .str b, _, _, r, e => by cases r; cases e; exact .str b
  | .tup l, _, _, r, e => by
    unfold D.pd at e
    cases q : pds l with
    | none => rw [q] at e; cases e
    | some z =>
      rw [q] at e
      cases e
      cases r with
      | tup rd na rs => exact .tup (.inl rd) (Reps.dp l rs q)
  | .lst l, _, _, r, e => by
    unfold D.pd at e
    cases q : pds l with
    | none => rw [q] at e; cases e
    | some z =>
      rw [q] at e
      cases e
      cases r with
      | lst rd na rs => exact .lst (.inl (.inl rd)) (Reps.dp l rs q)
  | .dic _, _, _, _, e => by cases e
  | .cell _, _, _, _, e => by cases e
  | .fn _, _, _, _, e => by cases e
  | .scr _ _, _, _, _, e => by cases e
  | .ty _, _, _, _, e => by cases e
theorem Reps.dp {K : PySem.W.Frag} {H : Hp} {A : Addr → Prop} : ∀ (ds : List D) {vs : List V} {ps : List PyData}, Reps H A vs ds → pds ds = some ps → DpAll K H vs ps
  | [], _, _, r, e => by cases r; cases e; exact .nil
  | d :: ds, _, _, r, e => by
    unfold pds at e
    cases r with
    | cons r1 r2 =>
      cases q1 : d.pd with
      | none => rw [q1] at e; cases e
      | some a =>
        cases q2 : pds ds with
        | none => rw [q1, q2] at e; cases e
        | some z =>
          rw [q1, q2] at e
          cases e
          exact .cons (Rep.dp d r1 q1) (Reps.dp ds r2 q2)
end
theorem top_dp {Kf : PySem.W.Frag} {N : Hid} {H : Hp} {S : Sto} {v : V} {d : D} {p : PyData} (c : CellsOk N H S) (r : Rep H (alive N S) v d) (e : (top S d).pd = some p) : Dp Kf H v p := by
  cases r with
  | cell a =>
    have ee : top S (.cell a) = match S a with
      | some (.lst ds) => .lst ds
      | some (.dic es) => .dic es
      | _ => .cell a := rfl
    rw [ee] at e
    split at e
    · rename_i ds h
      obtain ⟨vs, e2, rs⟩ := c.at_ _ _ h
      unfold D.pd at e
      cases q : pds ds with
      | none => rw [q] at e; cases e
      | some z =>
        rw [q] at e
        cases e
        exact .lst (.inl (.inl e2)) (Reps.dp ds rs q)
    · cases e
    · cases e
  | non => exact Rep.dp (H := H) (A := alive N S) .non .non e
  | bl b => exact Rep.dp (H := H) (A := alive N S) (.bl b) (.bl b) e
  | int b => exact Rep.dp (H := H) (A := alive N S) (.int b) (.int b) e
  | str b => exact Rep.dp (H := H) (A := alive N S) (.str b) (.str b) e
  | ty n => cases e
  | fn n => cases e
  | scr n => cases e
  | tup rd na rs => exact Rep.dp _ (.tup rd na rs) e
  | lst rd na rs => exact Rep.dp _ (.lst rd na rs) e
  | dic rd na rs => cases e
def oEqB (f : Bool → Bool) (x y : D) (S : Sto) (K : KE) : Prop := (∃ a b, x = .str a ∧ y = .str b ∧ K (.bl (f (a == b))) S) ∨ ∃ p q, (top S x).pd = some p ∧ (top S y).pd = some q ∧ SeqAt.shaped p = true ∧ SeqAt.shaped q = true ∧ K (.bl (f (PyData.eqv p q))) S
def oEq : Op2 := oEqB id
def oNe : Op2 := oEqB not
theorem go_eqB {op : CmpOp} {f : Bool → Bool} {r : R2} (h1 : OpR X (compareOp op) (fun x y H Q => ∃ a b, x = .str a ∧ y = .str b ∧ Q (.bl (f (a == b))) H)) (h2 : OpR X (compareOp op) (fun x y H Q => ∃ p q, Dp X.K H x p ∧ Dp X.K H y q ∧ SeqAt.shaped p = true ∧ SeqAt.shaped q = true ∧ Q (.bl (f (PyData.eqv p q))) H)) : OpR X (compareOp op) (liftO (oEqB f)) :=
  OpR.imp (OpR.or h1 h2) fun x y H Q ⟨N, S, dx, dy, K, c, r1, r2, o, q⟩ => by
    rcases o with ⟨a, b, e1, e2, k⟩ | ⟨p, z, e1, e2, s1, s2, k⟩
    · subst e1 e2
      cases r1
      cases r2
      exact .inl ⟨a, b, rfl, rfl, q.here c k (.bl _)⟩
    · exact .inr ⟨p, z, top_dp c r1 e1, top_dp c r2 e2, s1, s2, q.here c k (.bl _)⟩
theorem go_eq (hu : X.A.units + 64 < cLine) : OpR X (compareOp .Eq) (liftO oEq) := go_eqB (r := fun _ _ _ _ => True) (OpR.imp op_eq fun x y H Q ⟨a, b, e1, e2, q⟩ => by
  subst e1 e2
  exact ⟨rfl, by rw [dec_str]; exact q⟩) (op_eqD hu)
theorem go_ne (hu : X.A.units + 64 < cLine) : OpR X (compareOp .NotEq) (liftO oNe) := go_eqB (r := fun _ _ _ _ => True) (OpR.imp op_ne fun x y H Q ⟨a, b, e1, e2, q⟩ => by
  subst e1 e2
  exact ⟨rfl, by rw [dec_str]; exact q⟩) (op_neD hu)
/-- <, <= of ints, of texts -/
def oOrd (f : Int → Int → Bool) (g : Str → Str → Bool) (x y : D) (S : Sto) (K : KE) : Prop := match x, y with
  | .int a, .int b => K (.bl (f a b)) S
  | .str a, .str b => K (.bl (g a b)) S
  | _, _ => False
theorem go_ord {op : CmpOp} {f : Int → Int → Bool} {g : Str → Str → Bool} (h1 : OpR X (compareOp op) (rI0 fun i j => .bl (f i j))) (h2 : OpR X (compareOp op) (fun x y H Q => ∃ i j, x = .str i ∧ y = .str j ∧ Q (.bl (g i j)) H)) : OpR X (compareOp op) (liftO (oOrd f g)) :=
  OpR.imp (OpR.or h1 h2) fun x y H Q ⟨N, S, dx, dy, K, c, r1, r2, o, q⟩ => by
    cases r1 with
    | int a =>
      cases r2 with
      | int b => exact .inl ⟨a, b, rfl, rfl, q.here c o (.bl _)⟩
      | _ => exact o.elim
    | str a =>
      cases r2 with
      | str b => exact .inr ⟨a, b, rfl, rfl, q.here c o (.bl _)⟩
      | _ => exact o.elim
    | _ => exact o.elim
def oLt : Op2 := oOrd (fun i j => decide (i < j)) fun i j => decide (i.cps.toList < j.cps.toList)
def oLe : Op2 := oOrd (fun i j => decide (i ≤ j)) fun i j => !decide (j.cps.toList < i.cps.toList)
def oGt : Op2 := oOrd (fun i j => decide (j < i)) fun i j => decide (j.cps.toList < i.cps.toList)
def oGe : Op2 := oOrd (fun i j => decide (j ≤ i)) fun i j => !decide (i.cps.toList < j.cps.toList)
theorem go_lt : OpR X (compareOp .Lt) (liftO oLt) := go_ord op_lt op_lt_str
theorem go_le : OpR X (compareOp .LtE) (liftO oLe) := go_ord op_le op_le_str
theorem go_gt : OpR X (compareOp .Gt) (liftO oGt) := go_ord op_gt op_gt_str
theorem go_ge : OpR X (compareOp .GtE) (liftO oGe) := go_ord op_ge op_ge_str
/-- is None, is True -/
def D.isNon : D → Bool
  | .non => true
  | _ => false
def oIsB (f : Bool → Bool) (x y : D) (S : Sto) (K : KE) : Prop := match y with
  | .non => K (.bl (f x.isNon)) S
  | .bl b => ∃ a, x = .bl a ∧ K (.bl (f (decide (a = b)))) S
  | _ => False
def oIs : Op2 := oIsB id
def oIsNot : Op2 := oIsB not
theorem isNon_of {H : Hp} {A : Addr → Prop} {v : V} {d : D} (r : Rep H A v d) : decide (v = .non) = d.isNon := by
  cases r <;> rfl
theorem go_isB {op : CmpOp} {f : Bool → Bool} (h1 : OpR X (compareOp op) (fun x y H Q => y = .non ∧ Q (.bl (f (decide (x = .non)))) H)) (h2 : OpR X (compareOp op) (fun x y H Q => ∃ a b, x = .bl a ∧ y = .bl b ∧ Q (.bl (f (decide (a = b)))) H)) : OpR X (compareOp op) (liftO (oIsB f)) :=
  OpR.imp (OpR.or h1 h2) fun x y H Q ⟨N, S, dx, dy, K, c, r1, r2, o, q⟩ => by
    cases r2 with
    | non => exact .inl ⟨rfl, by rw [isNon_of r1]; exact q.here c o (.bl _)⟩
    | bl b =>
      obtain ⟨a, rfl, o⟩ := o
      cases r1
      exact .inr ⟨a, b, rfl, rfl, q.here c o (.bl _)⟩
    | _ => exact o.elim
theorem go_is : OpR X (compareOp .Is) (liftO oIs) := go_isB op_isN op_isBl
theorem go_isNot : OpR X (compareOp .IsNot) (liftO oIsNot) := go_isB op_notN op_notBl
end
end G

set_option Elab.async false
set_option linter.all false
set_option maxRecDepth 100000
set_option autoImplicit false
namespace G
open PySem PySem.Spec PyProof.Rows L2

section
variable {X : Cx}
/-! ### in, not in -/
def seqOf (S : Sto) (d : D) : Option (List D) := match d with
  | .lst ds => some ds
  | .tup ds => some ds
  | .cell c => match S c with
    | some (.lst ds) => some ds
    | _ => none
  | _ => none
def oInB (f : Bool → Bool) (x y : D) (S : Sto) (K : KE) : Prop := match y with
  | .str z => ∃ c : Nat, x = .str ⟨#[c]⟩ ∧ K (.bl (f (decide (c ∈ z.cps.toList)))) S
  | y => ∃ ds p qs, seqOf S y = some ds ∧ (top S x).pd = some p ∧ pds ds = some qs ∧ SeqAt.shaped p = true ∧ SeqAt.shaped (.list qs) = true ∧ K (.bl (f (qs.any fun z => PyData.eqv z p))) S
def oIn : Op2 := oInB id
def oNotIn : Op2 := oInB not
theorem shaped_tup {qs : List PyData} (h : SeqAt.shaped (.list qs) = true) : SeqAt.shaped (.tuple qs) = true := by
  simpa [SeqAt.shaped, PyData.canLay0, PyData.depth] using h
def rInDT (Kf : PySem.W.Frag) (f : Bool → Bool) : R2 := fun x y H Q => ∃ d ds, Dp Kf H x d ∧ Dp Kf H y (.tuple ds) ∧ SeqAt.shaped d = true ∧ SeqAt.shaped (.tuple ds) = true ∧ Q (.bl (f (ds.any fun z => PyData.eqv z d))) H
theorem op_inDT (hu : X.A.units + 65 < cLine) : OpR X (compareOp .In) (rInDT X.K id) := by
  intro pins s σ H x y v u Q I rx ry ⟨d, ds, hd, he, sd, se, q⟩
  obtain ⟨as, ra⟩ := Dp.reads I d x v hd rx
  obtain ⟨bs, rb⟩ := Dp.reads I (.tuple ds) y u he ry
  exact SeqAt.in_tuple_reads rb ra (SeqAt.canLay_of_shaped se) (SeqAt.canLay_of_shaped sd) (room_in_shaped sd hu) ⟨.bl _, H, I, rfl, q⟩
theorem op_notInDT (hu : X.A.units + 65 < cLine) : OpR X (compareOp .NotIn) (rInDT X.K not) := by
  intro pins s σ H x y v u Q I rx ry ⟨d, ds, hd, he, sd, se, q⟩
  obtain ⟨as, ra⟩ := Dp.reads I d x v hd rx
  obtain ⟨bs, rb⟩ := Dp.reads I (.tuple ds) y u he ry
  exact SeqAt.notIn_tuple_reads rb ra (SeqAt.canLay_of_shaped se) (SeqAt.canLay_of_shaped sd) (room_in_shaped sd hu) ⟨.bl _, H, I, rfl, q⟩
theorem seq_dp {Kf : PySem.W.Frag} {N : Hid} {H : Hp} {S : Sto} {v : V} {d : D} {ds : List D} {qs : List PyData} (c : CellsOk N H S) (r : Rep H (alive N S) v d) (e : seqOf S d = some ds) (e2 : pds ds = some qs) : Dp Kf H v (.list qs) ∨ Dp Kf H v (.tuple qs) := by
  cases r with
  | lst rd na rs => cases e; exact .inl (.lst (.inl (.inl rd)) (Reps.dp _ rs e2))
  | tup rd na rs => cases e; exact .inr (.tup (.inl rd) (Reps.dp _ rs e2))
  | cell a =>
    have ee : seqOf S (.cell a) = match S a with
      | some (.lst ds) => some ds
      | _ => none := rfl
    rw [ee] at e
    split at e <;> try (cases e; done)
    rename_i es h
    cases e
    obtain ⟨vs, e3, rs⟩ := c.at_ _ _ h
    exact .inl (.lst (.inl (.inl e3)) (Reps.dp _ rs e2))
  | _ => cases e
theorem go_inB {op : CmpOp} {f : Bool → Bool} (h1 : OpR X (compareOp op) (fun x y H Q => ∃ (c : Nat) (z : Str), x = .str ⟨#[c]⟩ ∧ y = .str z ∧ Q (.bl (f (decide (c ∈ z.cps.toList)))) H))
    (h2 : OpR X (compareOp op) (fun x y H Q => ∃ d ds, Dp X.K H x d ∧ Dp X.K H y (.list ds) ∧ SeqAt.shaped d = true ∧ SeqAt.shaped (.list ds) = true ∧ Q (.bl (f (ds.any fun z => PyData.eqv z d))) H)) (h3 : OpR X (compareOp op) (rInDT X.K f)) : OpR X (compareOp op) (liftO (oInB f)) :=
  OpR.imp (OpR.or h1 (OpR.or h2 h3)) fun x y H Q ⟨N, S, dx, dy, K, c, r1, r2, o, q⟩ => by
    have go : (∃ ds p qs, seqOf S dy = some ds ∧ (top S dx).pd = some p ∧ pds ds = some qs ∧ SeqAt.shaped p = true ∧ SeqAt.shaped (.list qs) = true ∧ K (.bl (f (qs.any fun z => PyData.eqv z p))) S) → (∃ d ds, Dp X.K H x d ∧ Dp X.K H y (.list ds) ∧ SeqAt.shaped d = true ∧ SeqAt.shaped (.list ds) = true ∧ Q (.bl (f (ds.any fun z => PyData.eqv z d))) H) ∨ rInDT X.K f x y H Q := fun ⟨ds, p, qs, e1, e2, e3, s1, s2, k⟩ => by
      rcases seq_dp (Kf := X.K) c r2 e1 e3 with z | z
      · exact .inl ⟨p, qs, top_dp c r1 e2, z, s1, s2, q.here c k (.bl _)⟩
      · exact .inr ⟨p, qs, top_dp c r1 e2, z, s1, shaped_tup s2, q.here c k (.bl _)⟩
    cases r2 with
    | str z =>
      obtain ⟨ch, rfl, k⟩ := o
      cases r1
      exact .inl ⟨ch, z, rfl, rfl, q.here c k (.bl _)⟩
    | _ => exact .inr (go o)
theorem go_in (hu : X.A.units + 65 < cLine) : OpR X (compareOp .In) (liftO oIn) := go_inB op_in_sign (op_inD hu) (op_inDT hu)
theorem go_notIn (hu : X.A.units + 65 < cLine) : OpR X (compareOp .NotIn) (liftO oNotIn) := go_inB op_notIn_sign (op_notInD hu) (op_notInDT hu)

/-! ### one place -/
abbrev Op1 := D → Sto → KE → Prop
def wOp1 (o : Op1) (a : WE) : WE := fun ρ S K => a ρ S fun x S1 => o x S1 K
def oNeg (x : D) (S : Sto) (K : KE) : Prop := match x with
  | .int i => K (.int (-i)) S
  | _ => False
variable {a b e e2 e3 : Expr} {es : List Expr} {wa wb w w2 w3 : WE} {wr : WA} {pos : Pos}
theorem ge_neg (ha : GE X a wa) : GE X (.UnaryOp .USub a pos) (wOp1 oNeg wa) := by
  refine PE.imp (pe_un un_neg ha) fun σ H Q ⟨N, ρ, S, K, ab, h, q⟩ => ?_
  refine liftE.mk ab h fun x S1 h1 v H1 t1 c1 r1 => ?_
  cases r1 with
  | int i => exact ⟨i, rfl, q _ _ h1 _ H1 t1 c1 (.int _)⟩
  | _ => exact h1.elim

theorem ge_negi {i : Int} {k : Nat} {p : Pos} : GE X (.UnaryOp .USub (.Constant (.int i) k p) pos) (wC (.int (-i))) :=
  PE.imp (pe_un un_neg pe_int) fun σ H Q h => ⟨i, rfl, lift_const (fun _ _ => .int _) σ H Q h⟩
/-- a < b < c -/
def wChain (o o' : Op2) (a b c : WE) : WE := fun ρ S K => a ρ S fun x S1 => b ρ S1 fun y S2 => o x y S2 fun z S3 => ∃ k, z = .bl k ∧ (k = true → c ρ S3 fun w S4 => o' y w S4 K) ∧ (k = false → K (.bl false) S3)
variable {c : Expr} {wc : WE} {o o' : Op2} {op op' : CmpOp}
theorem lift_chain : ∀ σ H Q, liftE (wChain o o' wa wb wc) σ H Q → tChain (liftO o) (liftO o') (liftE wa) (liftE wb) (liftE wc) σ H Q := by
  intro σ H Q ⟨N, ρ, S, K, ab, h, q⟩
  refine liftE.mk ab h fun x S1 h1 v H1 t1 c1 r1 => ?_
  refine liftE.mk (ab.mono t1 c1) h1 fun y S2 h2 u H2 t2 c2 r2 => ?_
  refine ⟨N, S2, x, y, _, c2, r1.mono t2, r2, h2, fun z S3 ⟨k, ez, h3, h4⟩ z' H3 t3 c3 r3 => ?_⟩
  subst ez
  cases r3
  refine ⟨k, rfl, ?_⟩
  have t123 := (t1.trans t2).trans t3
  cases k with
  | true =>
    refine iteT (liftE.mk (ab.mono t123 c3) (h3 rfl) fun w S4 h5 u4 H4 t4 c4 r4 => ?_)
    exact ⟨N, S4, y, w, K, c4, (r2.mono t3).mono t4, r4, h5, q.of (t123.trans t4)⟩
  | false => exact iteF (q _ _ (h4 rfl) _ _ t123 c3 (.bl _))
theorem gt_chain (h1 : OpR X (compareOp op) (liftO o)) (h2 : OpR X (compareOp op') (liftO o')) (ha : GE X a wa) (hb : GE X b wb) (hc : GE X c wc) (hm : lastMarks [op, op'] [b, c] = false := by with_unfolding_all rfl) : GT X (.Compare a [op, op'] [b, c] pos) (wTest (wChain o o' wa wb wc)) :=
  PT.imp (pt_chain h1 h2 ha hb hc hm) fun σ H Q h => (lift_test lift_chain σ H Q h).2

/-! ### a[i] -/
def oIx (x y : D) (S : Sto) (K : KE) : Prop := match y with
  | .int i => (match x with
    | .str z => z.length ≤ sizeLine ∧ (match atI z.cps.toList i with
      | some c => K (.str ⟨#[c]⟩) S
      | none => False)
    | x => (match seqOf S x with
      | some ds => (match atI ds i with
        | some d => K d S
        | none => False)
      | none => False))
  | _ => False
theorem Reps.at_ {H : Hp} {A : Addr → Prop} {vs : List V} {ds : List D} {i : Int} {d : D} (r : Reps H A vs ds) (h : atI ds i = some d) : ∃ v, atI vs i = some v ∧ Rep H A v d := by
  unfold atI at h ⊢
  rw [r.length]
  cases q : ixN ds.length i with
  | none => rw [q] at h; cases h
  | some j =>
    rw [q] at h
    exact r.getD h
theorem seq_sq {Kf : PySem.W.Frag} {N : Hid} {H : Hp} {S : Sto} {v : V} {d : D} {ds : List D} (c : CellsOk N H S) (r : Rep H (alive N S) v d) (e : seqOf S d = some ds) : ∃ p vs, v = .ref p ∧ (SqL Kf H p vs ∨ SqT Kf H p vs) ∧ Reps H (alive N S) vs ds := by
  cases r with
  | lst rd na rs => cases e; exact ⟨_, _, rfl, .inl (.inl (.inl rd)), rs⟩
  | tup rd na rs => cases e; exact ⟨_, _, rfl, .inr (.inl rd), rs⟩
  | cell a =>
    have ee : seqOf S (.cell a) = match S a with
      | some (.lst ds) => some ds
      | _ => none := rfl
    rw [ee] at e
    split at e <;> try (cases e; done)
    rename_i es h
    cases e
    obtain ⟨vs, e3, rs⟩ := c.at_ _ _ h
    exact ⟨a, vs, rfl, .inl (.inl (.inl e3)), rs⟩
  | _ => cases e
theorem ge_ix (ha : GE X a wa) (hb : GE X b wb) (hs : PlainIx b := by intro _ _; rfl) : GE X (.Subscript a b pos) (wOp2 oIx wa wb) := by
  refine PE.imp (pe_ix ix_seq ha hb hs) fun σ H Q h0 => ?_
  have h0 := lift_op2 σ H Q h0
  revert h0
  have imp : ∀ x y H, liftO oIx x y H Q → rIx X.K x y H Q := fun x y H ⟨N, S, dx, dy, K, c, r1, r2, o, q⟩ => by
    have go : ∀ i, y = .int i → (match seqOf S dx with
      | some ds => (match atI ds i with
        | some d => K d S
        | none => False)
      | none => False) → rIx X.K x y H Q := fun i ey k => by
      split at k
      · rename_i ds e1
        split at k
        · rename_i d e2
          obtain ⟨p, vs, rfl, sq, rs⟩ := seq_sq (Kf := X.K) c r1 e1
          obtain ⟨v, e3, rv⟩ := rs.at_ e2
          rcases sq with sq | sq
          · exact .inl ⟨p, vs, i, v, rfl, ey, sq, e3, q.here c k rv⟩
          · exact .inr (.inl ⟨p, vs, i, v, rfl, ey, sq, e3, q.here c k rv⟩)
        · exact k.elim
      · exact k.elim
    cases r2 with
    | int i =>
      cases r1 with
      | str z =>
        obtain ⟨l, k⟩ := o
        split at k
        · rename_i ch e1
          exact .inr (.inr ⟨z, i, ch, rfl, rfl, l, e1, q.here c k (.str _)⟩)
        · exact k.elim
      | _ => exact go i rfl o
    | _ => exact o.elim
  intro ⟨N, ρ, S, K1, ab, h, q⟩
  refine ⟨N, ρ, S, K1, ab, h, fun d S' k v H' t c r => ?_⟩
  obtain ⟨N2, ρ2, S2, K2, ab2, h2, q2⟩ := q d S' k v H' t c r
  exact ⟨N2, ρ2, S2, K2, ab2, h2, fun d2 S3 k2 v2 H2 t2 c2 r2 => imp _ _ _ (q2 d2 S3 k2 v2 H2 t2 c2 r2)⟩

/-! ### a[i:j] -/
abbrev WO := Rho → Sto → (Option Int → Sto → Prop) → Prop
def liftOp (w : WO) : TO := fun σ H Q => ∃ N ρ S K, Abs N S H σ ρ ∧ w ρ S K ∧ ∀ o S', K o S' → ∀ H', Tr N H S H' S' → CellsOk N H' S' → Q o H'
abbrev GOp (X : Cx) (e : Option Expr) (w : WO) : Prop := PO X e (liftOp w)
def wONo : WO := fun _ S K => K none S
def wOSo (a : WE) : WO := fun ρ S K => a ρ S fun x S1 => match x with
  | .int i => K (some i) S1
  | _ => False
theorem PO.imp {e : Option Expr} {t t' : TO} (h : PO X e t) (k : ∀ σ H Q, t' σ H Q → t σ H Q) : PO X e t' := ⟨fun pins s σ H Q I q => h.run pins s σ H Q I (k _ _ _ q)⟩
theorem gp_no : GOp X none wONo := PO.imp po_none fun σ H Q ⟨N, ρ, S, K, ab, h, q⟩ => q none S h H (.refl N H S) ab.cells
theorem gp_so (ha : GE X a wa) : GOp X (some a) (wOSo wa) := by
  refine PO.imp (po_some ha) fun σ H Q ⟨N, ρ, S, K, ab, h, q⟩ => ?_
  refine liftE.mk ab h fun x S1 h1 v H1 t1 c1 r1 => ?_
  cases r1 with
  | int i => exact ⟨i, rfl, q _ _ h1 H1 t1 c1⟩
  | _ => exact h1.elim
def cutD {α : Type} (xs : List α) (lo hi : Option Int) : List α := (xs.drop (HT.sIx xs.length 0 lo)).take (HT.sIx xs.length xs.length hi - HT.sIx xs.length 0 lo)
theorem Reps.cut {H : Hp} {A : Addr → Prop} {vs : List V} {ds : List D} (r : Reps H A vs ds) (lo hi : Option Int) : Reps H A (cutV vs lo hi) (cutD ds lo hi) := by
  unfold cutV cutD
  rw [r.length]
  exact (r.drop _).take _
/-- of a text or a tuple -/
def oSl (x : D) (lo hi : Option Int) (S : Sto) (K : KE) : Prop := match x with
  | .str z => z.length ≤ sizeLine ∧ K (.str (cutS z lo hi)) S
  | .tup ds => K (.tup (cutD ds lo hi)) S
  | .lst ds => K (.lst (cutD ds lo hi)) S
  | .cell c => match S c with
    | some (.lst ds) => K (.lst (cutD ds lo hi)) S
    | _ => False
  | _ => False
def wSl (a : WE) (lo hi : WO) : WE := fun ρ S K => a ρ S fun x S1 => lo ρ S1 fun l S2 => hi ρ S2 fun h S3 => oSl x l h S3 K
variable {lo hi : Option Expr} {wl wh : WO} {p2 : Pos}
theorem ge_sl (ha : GE X a wa) (hl : GOp X lo wl) (hh : GOp X hi wh) : GE X (.Subscript a (.Slice lo hi none p2) pos) (wSl wa wl wh) := by
  refine PE.imp (pe_slice (SlR.or sl_list (SlR.or sl_tupA sl_str)) ha hl hh) fun σ H Q ⟨N, ρ, S, K, ab, h, q⟩ => ?_
  refine liftE.mk ab h fun x S1 h1 v H1 t1 c1 r1 => ?_
  refine ⟨N, ρ, S1, _, ab.mono t1 c1, h1, fun l S2 h2 H2 t2 c2 => ?_⟩
  refine ⟨N, ρ, S2, _, (ab.mono t1 c1).mono t2 c2, h2, fun u S3 h3 H3 t3 c3 => ?_⟩
  have r3 := (r1.mono t2).mono t3
  have qq := q.of ((t1.trans t2).trans t3)
  cases r3 with
  | lst rd na rs => exact .inl ⟨_, _, rfl, .inl (.inl rd), fun p n => qq.newL c3 h3 (rs.cut l u) n⟩
  | cell a =>
    have h3 : (match S3 a with
      | some (.lst ds) => K (.lst (cutD ds l u)) S3
      | _ => False) := h3
    split at h3
    · rename_i ds e
      obtain ⟨vs, e3, rs⟩ := c3.at_ _ _ e
      exact .inl ⟨_, _, rfl, .inl (.inl e3), fun p n => qq.newL c3 h3 (rs.cut l u) n⟩
    · exact h3.elim
  | @tup a vs ds rd na rs =>
    refine .inr (.inl ⟨_, _, rfl, .inl rd, fun e => qq.here c3 h3 ?_, fun e p n => qq.newT c3 h3 (rs.cut l u) n⟩)
    have ed : cutD ds l u = ds := by
      unfold cutD
      rw [rs.length] at e
      rw [e.1, e.2, List.drop_zero, Nat.sub_zero, List.take_length]
    rw [ed]
    exact .tup rd na rs
  | str z => exact .inr (.inr ⟨z, rfl, h3.1, qq.here c3 h3.2 (.str _)⟩)
  | _ => exact h3.elim
/-- of a list: a new one -/
def LstK (F : PySem.W.Frag) (S : Sto) (d : D) (ds : List D) : Prop := lstOf S d = some ds ∨ ∃ ns, d = .scr F ns ∧ ds = ns.map D.int
theorem Reps.ints {H : Hp} {A : Addr → Prop} : ∀ ns : List Int, Reps H A (ns.map V.int) (ns.map D.int)
  | [] => .nil
  | n :: ns => .cons (.int n) (Reps.ints ns)
theorem lstK_sq {F : PySem.W.Frag} {N : Hid} {H : Hp} {S : Sto} {v : V} {d : D} {ds : List D} (c : CellsOk N H S) (r : Rep H (alive N S) v d) (e : LstK F S d ds) : ∃ a vs, v = .ref a ∧ SqL F H a vs ∧ Reps H (alive N S) vs ds := by
  rcases e with e | ⟨ns, rfl, rfl⟩
  · obtain ⟨a, vs, e1, rd, rs⟩ := lstOf_rd c r e
    exact ⟨a, vs, e1, .inl rd, rs⟩
  · cases r with
    | scr h => exact ⟨_, _, rfl, h.sq, Reps.ints ns⟩
def wSlF (F : PySem.W.Frag) (a : WE) (lo hi : WO) : WF := fun ρ S K => a ρ S fun x S1 => lo ρ S1 fun l S2 => hi ρ S2 fun h S3 => ∃ ds, LstK F S3 x ds ∧ K (cutD ds l h) S3
theorem gf_sl (ha : GE X a wa) (hl : GOp X lo wl) (hh : GOp X hi wh) : GF X (.Subscript a (.Slice lo hi none p2) pos) (wSlF X.K wa wl wh) := by
  refine PE.imp (pe_slice sl_list ha hl hh) fun σ H Q ⟨N, ρ, S, K, ab, h, q⟩ => ?_
  refine liftE.mk ab h fun x S1 h1 v H1 t1 c1 r1 => ?_
  refine ⟨N, ρ, S1, _, ab.mono t1 c1, h1, fun l S2 h2 H2 t2 c2 => ?_⟩
  refine ⟨N, ρ, S2, _, (ab.mono t1 c1).mono t2 c2, h2, fun u S3 ⟨ds, e, k⟩ H3 t3 c3 => ?_⟩
  obtain ⟨a, vs, rfl, sq, rs⟩ := lstK_sq c3 ((r1.mono t2).mono t3) e
  exact ⟨a, vs, rfl, sq, fun p n => q _ _ k p H3 _ ((t1.trans t2).trans t3) c3 (rs.cut l u) n⟩

/-! ### calls of what is built in -/
abbrev OpC := List D → Sto → KE → Prop
def wCall (o : OpC) (args : WA) : WE := fun ρ S K => args ρ S fun ds S1 => o ds S1 K
def liftC (o : OpC) : List V → Hp → VK → Prop := fun xs H Q => ∃ N S ds K, CellsOk N H S ∧ Reps H (alive N S) xs ds ∧ o ds S K ∧ liftK N H S K Q
theorem CallR.imp {f : Value} {r r' : List V → Hp → VK → Prop} (h : CallR X f r) (k : ∀ xs H Q, r' xs H Q → r xs H Q) : CallR X f r' := fun pins s σ H xs us Q I rs q => h pins s σ H xs us Q I rs (k _ _ _ q)
theorem lift_call {o : OpC} {w : WA} : ∀ σ H Q, liftE (wCall o w) σ H Q → tCB (liftC o) (liftA w) σ H Q := fun σ H Q ⟨N, ρ, S, K, ab, h, q⟩ =>
  ⟨N, ρ, S, _, ab, h, fun ds S1 k vs H1 t1 c1 r1 => ⟨N, S1, ds, K, c1, r1, k, q.of t1⟩⟩
variable {x : Str} {id T : String} {o : OpC} {p : Pos}
theorem ge_callB (hc : CallR X (.builtin id) (liftC o)) (hm : X.mg x = none) (hv : bootBuiltins x = some (.builtin id)) (ha : GAs X (e :: es) wr) (hg : Gl X x := by rfl) (hn : x ≠ "__name__" := by decide) (hdb : (x == ("__debug__" : Str)) = false := by decide)
    (hs : starEach (e :: es) X.env = (false, eval e X.env) :: starEach es X.env := by rfl) (hpl : (backTo pos (starEach es X.env)).any (·.1) = false := by rfl) : GE X (.Call (.Name x p) (e :: es) [] pos) (wCall o wr) :=
  PE.imp (pe_callB hc hg hm hv ha hn hdb hs hpl) lift_call
theorem ge_callT (hc : CallR X (.type T) (liftC o)) (hm : X.mg x = none) (hv : bootBuiltins x = some (.type T)) (ha : GAs X (e :: es) wr) (hg : Gl X x := by rfl) (hn : x ≠ "__name__" := by decide) (hdb : (x == ("__debug__" : Str)) = false := by decide)
    (hs : starEach (e :: es) X.env = (false, eval e X.env) :: starEach es X.env := by rfl) (hpl : (backTo pos (starEach es X.env)).any (·.1) = false := by rfl) : GE X (.Call (.Name x p) (e :: es) [] pos) (wCall o wr) :=
  PE.imp (pe_callTy hc hg hm hv ha hn hdb hs hpl) lift_call
end
end G

set_option Elab.async false
set_option linter.all false
set_option maxRecDepth 100000
set_option autoImplicit false
namespace G
open PySem PySem.Spec PyProof.Rows L2

section
variable {X : Cx}
/-! ### one argument -/
def one (o : Op1) : OpC := fun ds S K => match ds with
  | [d] => o d S K
  | _ => False
def two (o : Op2) : OpC := fun ds S K => match ds with
  | [d, e] => o d e S K
  | _ => False
theorem gc_one {f : Value} {o : Op1} {r : List V → Hp → VK → Prop} (h : CallR X f r) (k : ∀ N H S v d K Q, CellsOk N H S → Rep H (alive N S) v d → o d S K → liftK N H S K Q → r [v] H Q) : CallR X f (liftC (one o)) :=
  CallR.imp h fun xs H Q ⟨N, S, ds, K, c, rs, o1, q⟩ => by
    cases rs with
    | nil => exact o1.elim
    | cons r1 rr =>
      cases rr with
      | nil => exact k N H S _ _ K Q c r1 o1 q
      | cons _ _ => exact o1.elim
theorem gc_two {f : Value} {o : Op2} {r : List V → Hp → VK → Prop} (h : CallR X f r) (k : ∀ N H S v d u e K Q, CellsOk N H S → Rep H (alive N S) v d → Rep H (alive N S) u e → o d e S K → liftK N H S K Q → r [v, u] H Q) : CallR X f (liftC (two o)) :=
  CallR.imp h fun xs H Q ⟨N, S, ds, K, c, rs, o1, q⟩ => by
    cases rs with
    | nil => exact o1.elim
    | cons r1 rr =>
      cases rr with
      | nil => exact o1.elim
      | cons r2 rr =>
        cases rr with
        | nil => exact k N H S _ _ _ _ K Q c r1 r2 o1 q
        | cons _ _ => exact o1.elim
def oLen (d : D) (S : Sto) (K : KE) : Prop := match d with
  | .str z => z.length ≤ sizeLine ∧ K (.int (z.length : Nat)) S
  | .dic es => K (.int (es.length : Nat)) S
  | d => match seqOf S d with
    | some ds => K (.int (ds.length : Nat)) S
    | none => ∃ c es, d = .cell c ∧ S c = some (.dic es) ∧ K (.int (es.length : Nat)) S
theorem RepK.length {H : Hp} {A : Addr → Prop} : ∀ {vs : List (Key × V)} {ds : List (D × D)}, RepK H A vs ds → vs.length = ds.length
  | _, _, .nil => rfl
  | _, _, .cons _ q => congrArg Nat.succ (RepK.length q)
theorem gc_len : CallR X (.builtin "len") (liftC (one oLen)) :=
  gc_one (CallR.or call_len call_lenD) fun N H S v d K Q c r o q => by
    have go : (match seqOf S d with
      | some ds => K (.int (ds.length : Nat)) S
      | none => ∃ c es, d = .cell c ∧ S c = some (.dic es) ∧ K (.int (es.length : Nat)) S) → (∃ x n, [v] = [x] ∧ LenV X.K x H n ∧ Q (.int n) H) ∨ ∃ a kvs, [v] = [.ref a] ∧ H a = some (.dK kvs) ∧ Q (.int kvs.length) H := fun k => by
      split at k
      · rename_i ds e
        obtain ⟨p, vs, rfl, sq, rs⟩ := seq_sq (Kf := X.K) c r e
        refine .inl ⟨.ref p, ds.length, rfl, ?_, q.here c k (.int _)⟩
        rcases sq with sq | sq
        · exact .inl ⟨vs, sq, rs.length.symm⟩
        · exact .inr ⟨vs, sq, rs.length.symm⟩
      · obtain ⟨a, es, rfl, e, k⟩ := k
        cases r
        obtain ⟨kvs, e2, rs⟩ := c.at_ _ _ e
        exact .inr ⟨a, kvs, rfl, e2, by rw [rs.length]; exact q.here c k (.int _)⟩
    cases r with
    | str z => exact .inl ⟨.str z, z.length, rfl, ⟨o.1, rfl⟩, q.here c o.2 (.int _)⟩
    | dic rd na rs =>
      obtain rd := rd
      exact .inr ⟨_, _, rfl, rd, by rw [rs.length]; exact q.here c o (.int _)⟩
    | _ => exact go o
def oAbs (d : D) (S : Sto) (K : KE) : Prop := match d with
  | .int i => K (.int (if i < 0 then -i else i)) S
  | _ => False
theorem gc_abs : CallR X (.builtin "abs") (liftC (one oAbs)) := gc_one call_abs fun N H S v d K Q c r o q => by
  cases r with
  | int i => exact ⟨i, rfl, q.here c o (.int _)⟩
  | _ => exact o.elim
def oInt (d : D) (S : Sto) (K : KE) : Prop := match d with
  | .int i => K (.int i) S
  | .bl b => K (.int (if b then 1 else 0)) S
  | _ => False
theorem gc_int : CallR X (.type "int") (liftC (one oInt)) := gc_one call_int1 fun N H S v d K Q c r o q => by
  cases r with
  | int i => exact .inl ⟨i, rfl, q.here c o (.int _)⟩
  | bl b => exact .inr ⟨b, rfl, q.here c o (.int _)⟩
  | _ => exact o.elim
def oMax2 (x y : D) (S : Sto) (K : KE) : Prop := match x, y with
  | .int i, .int j => K (.int (if j > i then j else i)) S
  | _, _ => False
def oMin2 (x y : D) (S : Sto) (K : KE) : Prop := match x, y with
  | .int i, .int j => K (.int (if j < i then j else i)) S
  | _, _ => False
theorem gc_min2 (hc : X.calm = true) : CallR X (.builtin "min") (liftC (two oMin2)) := gc_two (call_min2 hc) fun N H S v d u e K Q c r r2 o q => by
  cases r with
  | int i =>
    cases r2 with
    | int j => exact ⟨i, j, rfl, q.here c o (.int _)⟩
    | _ => exact o.elim
  | _ => exact o.elim
/-- ints of a list -/
def D.int? : D → Option Int
  | .int i => some i
  | _ => none
def ints? : List D → Option (List Int)
  | [] => some []
  | d :: l => match d.int?, ints? l with
    | some a, some r => some (a :: r)
    | _, _ => none
theorem ints_map : ∀ ns : List Int, ints? (ns.map D.int) = some ns
  | [] => rfl
  | n :: ns => by
    show (match some n, ints? (ns.map D.int) with
      | some a, some r => some (a :: r)
      | _, _ => none) = _
    rw [ints_map ns]
theorem Reps.intsV {H : Hp} {A : Addr → Prop} : ∀ {ds : List D} {vs : List V} {ns : List Int}, Reps H A vs ds → ints? ds = some ns → vs = ns.map V.int
  | [], _, _, .nil, e => by cases e; rfl
  | d :: ds, _, ns, .cons r1 r2, e => by
    unfold ints? at e
    cases q1 : d.int? with
    | none => rw [q1] at e; cases e
    | some a =>
      cases q2 : ints? ds with
      | none => rw [q1, q2] at e; cases e
      | some z =>
        rw [q1, q2] at e
        cases e
        cases d <;> try (cases q1; done)
        cases q1
        cases r1
        rw [Reps.intsV r2 q2]
        rfl
def bools? : List D → Option (List Bool)
  | [] => some []
  | .bl b :: l => (bools? l).map fun r => b :: r
  | _ => none
theorem sum_tup (hc : X.calm = true) : CallR X (.builtin "sum") (fun vs H Q => ∃ (a : Addr) (ns : List Int), vs = [V.ref a] ∧ SqT X.K H a (ns.map V.int) ∧ Q (.int ns.sum) H) := by
  intro pins s σ H vs us Q I r ⟨a, ns, ev, hs, q⟩
  subst ev
  obtain ⟨its, rv, hl, _⟩ := I.tuple hs
  obtain ⟨u0, rfl, rfl⟩ := r.one
  obtain ⟨xs, e⟩ := rv.ints.allInts.items
  have hn : numsOf (intItems xs).toList = ns := by rw [← e]; exact rv.ints.numsOf
  rw [nums_intItems] at hn
  have hT : s.heap.IsTuple a (intItems xs) := by rw [← e]; exact hl
  have hlt : a < s.heap.objs.size := hl.lt
  refine call_sum_walkG (wpAny_pyIter_tuple hT ?_)
  refine ⟨_, [_, a], [_], _, _, _, numAt xs, rfl, Walks.tuple (A := X.A.in1) (I.ok.hd hc) _ a (Nat.ne_of_lt hlt) (intItems xs), ⟨⟨_, Heap.get?_push_size _ rfl, rfl, rfl⟩, hT.push _⟩, fun b hb => ?_, fun _ _ => intItems_at, fun h' tk t' hk => ?_⟩
  · show b < (s.heap.push _).objs.size
    rw [Heap.size_push]
    rcases List.mem_cons.mp hb with z | z
    · rw [z]; exact Nat.lt_succ_self _
    · rw [List.mem_singleton.mp z]; exact Nat.lt_succ_of_lt hlt
  · refine ⟨.int ns.sum, H, I.kept fun b o e => hk b o (fun z => ?_) (Heap.get?_push_of_some _ e), ⟨t', ?_⟩, q⟩
    · rw [List.mem_singleton.mp z] at e
      exact Nat.lt_irrefl _ (Heap.lt_size e)
    · rw [preSum_eq, List.take_of_length_le (by simp [intItems]), hn]
def oSum (d : D) (S : Sto) (K : KE) : Prop := ∃ ds ns, seqOf S d = some ds ∧ ints? ds = some ns ∧ K (.int ns.sum) S
theorem gc_sum (hc : X.calm = true) : CallR X (.builtin "sum") (liftC (one oSum)) := gc_one (CallR.or (cr_sum hc) (sum_tup hc)) fun N H S v d K Q c r ⟨ds, ns, e1, e2, k⟩ q => by
  obtain ⟨p, vs, rfl, sq, rs⟩ := seq_sq (Kf := X.K) c r e1
  have ev := rs.intsV e2
  subst ev
  rcases sq with sq | sq
  · exact .inl ⟨p, ns, rfl, sq, q.here c k (.int _)⟩
  · exact .inr ⟨p, ns, rfl, sq, q.here c k (.int _)⟩
/-- of a list of ints -/
def oMaxL (d : D) (S : Sto) (K : KE) : Prop := ∃ ds ns, lstOf S d = some ds ∧ ints? ds = some ns ∧ 0 < ns.length ∧ ∀ m, m ∈ ns → (∀ y, y ∈ ns → y ≤ m) → K (.int m) S
def oMinL (d : D) (S : Sto) (K : KE) : Prop := ∃ ds ns, lstOf S d = some ds ∧ ints? ds = some ns ∧ 0 < ns.length ∧ ∀ m, m ∈ ns → (∀ y, y ∈ ns → m ≤ y) → K (.int m) S
theorem gc_minL (hc : X.calm = true) : CallR X (.builtin "min") (liftC (one oMinL)) := gc_one (cr_min hc) fun N H S v d K Q c r ⟨ds, ns, e1, e2, l, k⟩ q => by
  obtain ⟨p, vs, rfl, rd, rs⟩ := lstOf_rd c r e1
  have ev := rs.intsV e2
  subst ev
  exact ⟨p, ns, rfl, .inl rd, l, fun m h1 h2 => q.here c (k m h1 h2) (.int _)⟩
def oAll (d : D) (S : Sto) (K : KE) : Prop := ∃ ds bs, lstOf S d = some ds ∧ bools? ds = some bs ∧ K (.bl (bs.all id)) S
def oAny (d : D) (S : Sto) (K : KE) : Prop := ∃ ds bs, lstOf S d = some ds ∧ bools? ds = some bs ∧ K (.bl (bs.any id)) S
/-- tuple(x) -/
def oTuple (d : D) (S : Sto) (K : KE) : Prop := match seqOf S d with
  | some ds => K (.tup ds) S
  | none => False
theorem gc_tuple : CallR X (.type "tuple") (liftC (one oTuple)) := gc_one call_tuple_of fun N H S v d K Q c r o q => by
  cases r with
  | tup rd na rs => exact ⟨_, _, rfl, .inr ⟨.inl rd, q.here c o (.tup rd na rs)⟩⟩
  | lst rd na rs => exact ⟨_, _, rfl, .inl ⟨.inl (.inl rd), fun l n => q.newT c o rs n⟩⟩
  | cell a =>
    unfold oTuple at o
    split at o
    · rename_i ds e
      obtain ⟨p, vs, ep, rd, rs⟩ := lstOf_rd (d := .cell a) c (.cell a) (ds := ds) (by
        have ee : seqOf S (.cell a) = lstOf S (.cell a) := rfl
        rw [← ee]; exact e)
      cases ep
      exact ⟨_, _, rfl, .inl ⟨.inl rd, fun l n => q.newT c o rs n⟩⟩
    · exact o.elim
  | _ => exact o.elim
/-- list(x): a new list -/
def charsD (z : Str) : List D := z.cps.toList.map fun c => .str ⟨#[c]⟩
def charsV (z : Str) : List V := z.cps.toList.map fun c => .str ⟨#[c]⟩
theorem reps_chars {H : Hp} {A : Addr → Prop} : ∀ l : List Nat, Reps H A (l.map fun c => V.str ⟨#[c]⟩) (l.map fun c => D.str ⟨#[c]⟩)
  | [] => .nil
  | _ :: l => .cons (.str _) (reps_chars l)
theorem vals_get : ∀ {vs : List V} {us : List Value}, us.length = vs.length → (∀ (j : Nat) (u : Value), us[j]? = some u → ∃ v, vs[j]? = some v ∧ RelV v u) → Vals vs us
  | [], [], _, _ => .nil
  | [], _ :: _, h, _ => by simp at h
  | _ :: _, [], h, _ => by simp at h
  | v :: vs, u :: us, h, k => by
    obtain ⟨v', e, r⟩ := k 0 u rfl
    cases e
    exact .cons r (vals_get (by simpa using h) fun j x e => by
      obtain ⟨v'', e2, r2⟩ := k (j + 1) x (by simpa using e)
      exact ⟨v'', by simpa using e2, r2⟩)
/-- list(text) -/
theorem call_listS (hc : X.calm = true) : CallR X (.type "list") (fun xs H Q => ∃ z, xs = [.str z] ∧ z.length ≤ sizeLine ∧ ∀ l, H l = none → Q (.ref l) (upd H l (.lst (charsV z)))) := by
  intro pins s σ H xs us Q I r h
  obtain ⟨z, rfl, hz, q⟩ := h
  obtain ⟨u, rfl, rx⟩ := vals1 r
  obtain ⟨t, rfl⟩ := rx
  have hsz : z.cps.size ≤ sizeLine := hz
  refine call_list_str (I.ok.hd hc) z t (hn := hsz) fun h' tk acc c kp e ha => ?_
  have rv : Vals (charsV z) acc.toList := vals_get (by unfold charsV; rw [List.length_map, Array.length_toList, Array.length_toList, ha.1]) fun j u ej => by
    obtain ⟨ch, k, ec, rfl⟩ := ha.2 j u (by simpa using ej)
    refine ⟨.str ⟨#[ch]⟩, ?_, ⟨k, rfl⟩⟩
    unfold charsV
    rw [List.getElem?_map, show z.cps.toList[j]? = some ch by simpa using ec]
    rfl
  have hl : (charsV z).length ≤ sizeLine := by unfold charsV; rw [List.length_map, Array.length_toList]; exact hsz
  exact ⟨.ref s.heap.objs.size, _, I.laid (t' := tk) kp (Nat.le_refl _) (show ObjOk X.prog X.w _ h' _ (.lst (charsV z)) from ⟨hl, acc.toList, c, rv, by rw [Array.toArray_toList]; exact e⟩), rfl, q _ (I.hok.fresh (Nat.le_refl _))⟩
def listOf (S : Sto) (d : D) : Option (List D) := match d with
  | .str z => if z.length ≤ sizeLine then some (charsD z) else none
  | d => seqOf S d
theorem list_of {S : Sto} {d : D} {ds : List D} (e : listOf S d = some ds) : (∃ z, d = .str z ∧ z.length ≤ sizeLine ∧ ds = charsD z) ∨ seqOf S d = some ds := by
  cases d with
  | str z =>
    have e' : (if z.length ≤ sizeLine then some (charsD z) else none) = some ds := e
    by_cases hz : z.length ≤ sizeLine
    · rw [if_pos hz] at e'
      cases e'
      exact .inl ⟨z, rfl, hz, rfl⟩
    · rw [if_neg hz] at e'
      cases e'
  | _ => exact .inr e
def wList (a : WE) : WF := fun ρ S K => a ρ S fun x S1 => match listOf S1 x with
  | some ds => K ds S1
  | none => False
variable {a b e e2 e3 : Expr} {es : List Expr} {wa wb w w2 w3 : WE} {wr : WA} {pos p : Pos} {x : Str}
theorem gf_list (ha : GE X a wa) (hm : X.mg "list" = none) (hg : Gl X "list" := by rfl) (hs : starEach [a] X.env = (false, eval a X.env) :: starEach [] X.env := by rfl) (hpl : (backTo pos (starEach [] X.env)).any (·.1) = false := by rfl) (hc : X.calm = true := by rfl) : GF X (.Call (.Name "list" p) [a] [] pos) (wList wa) := by
  refine PE.imp (pe_callTy (CallR.or call_list_of (call_listS hc)) hg hm (by decide +kernel) (ga_cons ha ga_nil hs) (by decide) (by decide) hs hpl) fun σ H Q ⟨N, ρ, S, K, ab, h, q⟩ => ?_
  refine lift_args1 ab h fun d S1 k v H1 t1 c1 r1 => ?_
  split at k
  · rename_i ds e
    rcases list_of e with ⟨z, ed, hz, es⟩ | e'
    · subst ed es
      cases r1
      exact .inr ⟨z, rfl, hz, fun l n => q _ _ k l H1 (charsV z) t1 c1 (reps_chars _) n⟩
    · obtain ⟨p, vs, rfl, sq, rs⟩ := seq_sq (Kf := X.K) c1 r1 e'
      exact .inl ⟨p, vs, rfl, sq, fun l n => q _ _ k l H1 vs t1 c1 rs n⟩
  · exact k.elim

/-! ### isinstance -/
inductive Kind where
  | non | bl | int | str | tup | lst | dic
  deriving DecidableEq
def Kind.name : Kind → String
  | .non => "NoneType"
  | .bl => "bool"
  | .int => "int"
  | .str => "str"
  | .tup => "tuple"
  | .lst => "list"
  | .dic => "dict"
def Kind.isa (k T : Kind) : Bool := decide (k = T) || (decide (k = .bl) && decide (T = .int))
def kindOf (S : Sto) (d : D) : Option Kind := match d with
  | .non => some .non
  | .bl _ => some .bl
  | .int _ => some .int
  | .str _ => some .str
  | .tup _ => some .tup
  | .lst _ => some .lst
  | .dic _ => some .dic
  | .cell c => match S c with
    | some (.lst _) => some .lst
    | some (.dic _) => some .dic
    | _ => none
  | _ => none
theorem kit_kind {K : PySem.W.Frag} : ∀ k T : Kind, PySem.W.kitOne K (.type k.name) (.type T.name) = some (k.isa T)
  | .non, .non => kit_ty (by decide +kernel) | .non, .bl => kit_ty (by decide +kernel) | .non, .int => kit_ty (by decide +kernel) | .non, .str => kit_ty (by decide +kernel) | .non, .tup => kit_ty (by decide +kernel) | .non, .lst => kit_ty (by decide +kernel) | .non, .dic => kit_ty (by decide +kernel)
  | .bl, .non => kit_ty (by decide +kernel) | .bl, .bl => kit_ty (by decide +kernel) | .bl, .int => kit_ty (by decide +kernel) | .bl, .str => kit_ty (by decide +kernel) | .bl, .tup => kit_ty (by decide +kernel) | .bl, .lst => kit_ty (by decide +kernel) | .bl, .dic => kit_ty (by decide +kernel)
  | .int, .non => kit_ty (by decide +kernel) | .int, .bl => kit_ty (by decide +kernel) | .int, .int => kit_ty (by decide +kernel) | .int, .str => kit_ty (by decide +kernel) | .int, .tup => kit_ty (by decide +kernel) | .int, .lst => kit_ty (by decide +kernel) | .int, .dic => kit_ty (by decide +kernel)
  | .str, .non => kit_ty (by decide +kernel) | .str, .bl => kit_ty (by decide +kernel) | .str, .int => kit_ty (by decide +kernel) | .str, .str => kit_ty (by decide +kernel) | .str, .tup => kit_ty (by decide +kernel) | .str, .lst => kit_ty (by decide +kernel) | .str, .dic => kit_ty (by decide +kernel)
  | .tup, .non => kit_ty (by decide +kernel) | .tup, .bl => kit_ty (by decide +kernel) | .tup, .int => kit_ty (by decide +kernel) | .tup, .str => kit_ty (by decide +kernel) | .tup, .tup => kit_ty (by decide +kernel) | .tup, .lst => kit_ty (by decide +kernel) | .tup, .dic => kit_ty (by decide +kernel)
  | .lst, .non => kit_ty (by decide +kernel) | .lst, .bl => kit_ty (by decide +kernel) | .lst, .int => kit_ty (by decide +kernel) | .lst, .str => kit_ty (by decide +kernel) | .lst, .tup => kit_ty (by decide +kernel) | .lst, .lst => kit_ty (by decide +kernel) | .lst, .dic => kit_ty (by decide +kernel)
  | .dic, .non => kit_ty (by decide +kernel) | .dic, .bl => kit_ty (by decide +kernel) | .dic, .int => kit_ty (by decide +kernel) | .dic, .str => kit_ty (by decide +kernel) | .dic, .tup => kit_ty (by decide +kernel) | .dic, .lst => kit_ty (by decide +kernel) | .dic, .dic => kit_ty (by decide +kernel)
theorem kind_ty {Kf : PySem.W.Frag} {N : Hid} {H : Hp} {S : Sto} {v : V} {d : D} {k : Kind} (c : CellsOk N H S) (r : Rep H (alive N S) v d) (e : kindOf S d = some k) : TyX Kf H v (.type k.name) := by
  cases r with
  | non => cases e; exact .base .non
  | bl b => cases e; exact .base (.bl b)
  | int b => cases e; exact .base (.int b)
  | str b => cases e; exact .base (.str b)
  | tup rd na rs =>
    cases e
    rcases rd with rd | ⟨o, rd⟩
    · exact .base (.tup rd)
    · exact .fTuple rd
  | lst rd na rs => cases e; exact .base (.lst rd)
  | dic rd na rs => cases e; exact .base (.dK rd)
  | cell a =>
    have ee : kindOf S (.cell a) = match S a with
      | some (.lst _) => some .lst
      | some (.dic _) => some .dic
      | _ => none := rfl
    rw [ee] at e
    split at e
    · rename_i ds h
      cases e
      obtain ⟨vs, e3, rs⟩ := c.at_ _ _ h
      exact .base (.lst e3)
    · rename_i ds h
      cases e
      obtain ⟨vs, e3, rs⟩ := c.at_ _ _ h
      exact .base (.dK e3)
    · cases e
  | _ => cases e
def oIsi (Ts : List Kind) (d : D) (S : Sto) (K : KE) : Prop := match kindOf S d with
  | some k => K (.bl (Ts.any k.isa)) S
  | none => False
theorem ge_isi (T : Kind) {t : Str} (ha : GE X a wa) (hm : X.mg "isinstance" = none) (ht : X.mg t = none) (hv : bootBuiltins t = some (.type T.name)) (hg : Gl X "isinstance" := by rfl) (hgt : Gl X t := by rfl) {pt : Pos} (hn : t ≠ "__name__" := by decide) (hd : (t == ("__debug__" : Str)) = false := by decide)
    (hs : starEach [a, .Name t pt] X.env = (false, eval a X.env) :: starEach [.Name t pt] X.env := by rfl) (hs2 : starEach [.Name t pt] X.env = (false, eval (.Name t pt) X.env) :: starEach [] X.env := by rfl) (hpl : (backTo pos (starEach [.Name t pt] X.env)).any (·.1) = false := by rfl) :
    GE X (.Call (.Name "isinstance" p) [a, .Name t pt] [] pos) (wOp1 (oIsi [T]) wa) := by
  refine PE.imp (pe_callB call_isi hg hm (by decide +kernel) (ga_cons ha (ga_cons (ge_ty ht hv hgt hn hd) ga_nil hs2) hs) (by decide) (by decide) hs hpl) fun σ H Q ⟨N, ρ, S, K, ab, h, q⟩ => ?_
  refine lift_args2 (K := fun x y S1 => y = .ty T.name ∧ oIsi [T] x S1 K) (wb := wC (.ty T.name)) ab (by
    have e : (fun (x : D) (S1 : Sto) => D.ty T.name = D.ty T.name ∧ oIsi [T] x S1 K) = fun x S1 => oIsi [T] x S1 K := by
      funext x S1
      exact propext ⟨fun z => z.2, fun z => ⟨rfl, z⟩⟩
    show wa ρ S fun x S1 => D.ty T.name = D.ty T.name ∧ oIsi [T] x S1 K
    rw [e]; exact h) fun x y S' ⟨ey, k⟩ v u H' t' c r1 r2 => ?_
  subst ey
  cases r2
  unfold oIsi at k
  split at k
  · rename_i kd e
    refine ⟨v, .ty T.name, _, _, kd.isa T, rfl, .ty _, kind_ty c r1 e, kit_kind kd T, ?_⟩
    have eb : [T].any kd.isa = kd.isa T := by simp
    rw [eb] at k
    exact q _ _ k _ _ t' c (.bl _)
  · exact k.elim
/-- isinstance(x, (A, B)) -/
theorem ge_isi2 (T U : Kind) {t u : Str} (ha : GE X a wa) (hm : X.mg "isinstance" = none) (ht : X.mg t = none) (hv : bootBuiltins t = some (.type T.name)) (hu : X.mg u = none) (hw : bootBuiltins u = some (.type U.name)) (hg : Gl X "isinstance" := by rfl) (hgt : Gl X t := by rfl) (hgu : Gl X u := by rfl) {pt pu pp : Pos} {kk : Nat}
    (hn : t ≠ "__name__" := by decide) (hd : (t == ("__debug__" : Str)) = false := by decide) (hn2 : u ≠ "__name__" := by decide) (hd2 : (u == ("__debug__" : Str)) = false := by decide)
    (hs0 : starEach [.Name t pt, .Name u pu] X.env = (false, eval (.Name t pt) X.env) :: starEach [.Name u pu] X.env := by rfl) (hs1 : starEach [.Name u pu] X.env = (false, eval (.Name u pu) X.env) :: starEach [] X.env := by rfl)
    (hs : starEach [a, .Tuple [.Name t pt, .Name u pu] kk pp] X.env = (false, eval a X.env) :: starEach [.Tuple [.Name t pt, .Name u pu] kk pp] X.env := by rfl) (hs2 : starEach [.Tuple [.Name t pt, .Name u pu] kk pp] X.env = (false, eval (.Tuple [.Name t pt, .Name u pu] kk pp) X.env) :: starEach [] X.env := by rfl)
    (hpl : (backTo pos (starEach [.Tuple [.Name t pt, .Name u pu] kk pp] X.env)).any (·.1) = false := by rfl) :
    GE X (.Call (.Name "isinstance" p) [a, .Tuple [.Name t pt, .Name u pu] kk pp] [] pos) (wOp1 (oIsi [T, U]) wa) := by
  have ht1 : PE X (.Tuple [.Name t pt, .Name u pu] kk pp) (tTup (tCons (tC (.ty T.name)) (tCons (tC (.ty U.name)) tNil))) := pe_tup (pa_cons (pe_bltn hgt ht hv rfl hn hd) (pa_cons (pe_bltn hgu hu hw rfl hn2 hd2) pa_nil hs1) hs0)
  refine PE.imp (pe_callB call_isiT hg hm (by decide +kernel) (pa_cons ha (pa_cons ht1 pa_nil hs2) hs) (by decide) (by decide) hs hpl) fun σ H Q ⟨N, ρ, S, K, ab, h, q⟩ => ?_
  refine liftE.mk ab h fun x S1 k v H1 t1 c1 r1 => ?_
  refine ⟨by show 2 ≤ sizeLine; decide, fun pn n => ?_⟩
  unfold oIsi at k
  split at k
  · rename_i kd e
    have tn := Tr.new c1 n (o := .tup [.ty T.name, .ty U.name])
    refine ⟨v, pn, _, _, [.type T.name, .type U.name], kd.isa T || kd.isa U, rfl, upd_same, .cons (.ty _) (.cons (.ty _) .nil), kind_ty (c1.new n) (r1.mono tn) e, ?_, ?_⟩
    · refine kitAny_cons (kit_kind kd T) (fun z => kitAny_cons (kit_kind kd U) (fun w => ?_) fun w => ?_) fun z => ?_
      · rw [z, w]; exact kitAny_nil
      · rw [w, Bool.or_true]
      · rw [z, Bool.true_or]
    · have eb : [T, U].any kd.isa = (kd.isa T || kd.isa U) := by simp
      rw [eb] at k
      exact q _ _ k _ _ (t1.trans tn) (c1.new n) (.bl _)
  · exact k.elim
end
end G

set_option Elab.async false
set_option linter.all false
set_option maxRecDepth 100000
set_option autoImplicit false
namespace G
open PySem PySem.Spec PyProof.Rows L2

section
variable {X : Cx}
variable {o a b e e2 e3 : Expr} {es : List Expr} {wo wa wb w w2 w3 : WE} {wr : WA} {pos apos cpos p : Pos} {x : Str}
/-! ### methods of lists -/
/-- o.append(a) -/
def wApp (o a : WE) : WE := fun ρ S K => o ρ S fun d S1 => ∃ c, d = .cell c ∧ (∃ ds, S1 c = some (.lst ds)) ∧ a ρ S1 fun y S2 => ∃ ds, S2 c = some (.lst ds) ∧ ds.length < sizeLine ∧ K .non (S2.set c (.lst (ds ++ [y])))
theorem tyV_cell {Kf : PySem.W.Frag} {N : Hid} {H : Hp} {S : Sto} {c : Addr} {ds : List D} (k : CellsOk N H S) (e : S c = some (.lst ds)) : tyV Kf "list" (.ref c) H := by
  obtain ⟨vs, e2, _⟩ := k.at_ _ _ e
  exact .inl ⟨rfl, vs, .inl (.inl e2)⟩
theorem liftK.put {N : Hid} {H : Hp} {S : Sto} {K : KE} {Q : VK} (q : liftK N H S K Q) (c : CellsOk N H S) {l : Addr} {ds ds' : List D} {vs' : List V} (e : S l = some (.lst ds)) (rs : Reps H (alive N S) vs' ds') {d : D} (k : K d (S.set l (.lst ds'))) {v : V} (r : Rep H (alive N S) v d) : Q v (upd H l (.lst vs')) :=
  q _ _ k _ _ (Tr.put c e) (c.put e ⟨vs', upd_same, rs.mono (Tr.put c e)⟩) (r.mono (Tr.put c e))
theorem ge_app (ho : GE X o wo) (ha : GE X a wa)
    (hbase : attributeBase o "append" X.env (eval o X.env) = eval o X.env := by rfl)
    (hfew : ((backTo cpos (starEach [a] X.env)).all (fun x => !x.1) && (backToKw cpos (keywordEach [] X.env)).all (fun x => x.1.isSome)
      && decide ([a].length + ([] : List Keyword).length + (if ([] : List Keyword).isEmpty then 0 else 1) < 30)) = true := by rfl)
    (hline : (apos.endLine == cpos.line) = true := by rfl) (hs : starEach [a] X.env = (false, eval a X.env) :: starEach [] X.env := by rfl) (hplain : (backTo cpos (starEach [] X.env)).any (·.1) = false := by rfl) :
    GE X (.Call (.Attribute o "append" apos) [a] [] cpos) (wApp wo wa) := by
  refine PE.imp (pe_bm PySem.F.plainAttrs_list PySem.F.slot_list_append PySem.F.type_list_append mt_append ho (ga_cons ha ga_nil hs) hbase hfew hline hs hplain) fun σ H Q ⟨N, ρ, S, K, ab, h, q⟩ => ?_
  refine liftE.mk ab h fun d S1 ⟨c, ed, ⟨ds0, e0⟩, h1⟩ v H1 t1 c1 r1 => ?_
  subst ed
  cases r1
  refine ⟨tyV_cell c1 e0, ?_⟩
  refine lift_args1 (ab.mono t1 c1) h1 fun y S2 ⟨ds, e2, l, k⟩ u H2 t2 c2 r2 => ?_
  obtain ⟨vs, e3, rs⟩ := c2.at_ _ _ e2
  exact ⟨c, vs, u, rfl, rfl, e3, by rw [rs.length]; exact l, (q.of (t1.trans t2)).put c2 e2 (rs.snoc r2) k .non⟩
/-- o.extend(a) -/
def wExt (o a : WE) : WE := fun ρ S K => o ρ S fun d S1 => ∃ c, d = .cell c ∧ (∃ ds, S1 c = some (.lst ds)) ∧ a ρ S1 fun y S2 => ∃ ds es, S2 c = some (.lst ds) ∧ lstOf S2 y = some es ∧ ds.length + es.length ≤ sizeLine ∧ K .non (S2.set c (.lst (ds ++ es)))
theorem lstOf_pl {N : Hid} {H : Hp} {S : Sto} {v : V} {d : D} {ds : List D} (c : CellsOk N H S) (r : Rep H (alive N S) v d) (e : lstOf S d = some ds) : ∃ a vs, v = .ref a ∧ H a = some (.lst vs) ∧ Reps H (alive N S) vs ds := by
  cases r with
  | lst rd na rs => cases e; exact ⟨_, _, rfl, rd, rs⟩
  | cell a =>
    have ee : lstOf S (.cell a) = match S a with
      | some (.lst ds) => some ds
      | _ => none := rfl
    rw [ee] at e
    split at e <;> try (cases e; done)
    rename_i es h
    cases e
    obtain ⟨vs, e2, rs⟩ := c.at_ _ _ h
    exact ⟨a, vs, rfl, e2, rs⟩
  | _ => cases e
/-- o.pop() -/
def wPop (o : WE) : WE := fun ρ S K => o ρ S fun d S1 => ∃ c ds y, d = .cell c ∧ S1 c = some (.lst ds) ∧ ds[ds.length - 1]? = some y ∧ K y (S1.set c (.lst ds.dropLast))
theorem Reps.dropLast {H : Hp} {A : Addr → Prop} : ∀ {vs : List V} {ds : List D}, Reps H A vs ds → Reps H A vs.dropLast ds.dropLast
  | _, _, .nil => .nil
  | _, _, .cons a .nil => .nil
  | _, _, .cons a (.cons b c) => .cons a (Reps.dropLast (.cons b c))
/-! ### o[i] = v of a list -/
def gIx (o i : WE) : WG := fun d ρ S K => o ρ S fun x S1 => i ρ S1 fun y S2 => ∃ c ds k j, x = .cell c ∧ S2 c = some (.lst ds) ∧ y = .int k ∧ ixN ds.length k = some j ∧ K ρ (S2.set c (.lst (ds.set j d)))
theorem gg_ix (ho : GE X o wo) (hi : GE X a wa)
    (ha : ∀ v, assign (.Subscript o a pos) X.env v = (do
      let ov ← holding [v] (eval o X.env)
      let iv ← holding [v, ov] (eval a X.env)
      standAt pos
      holding [v, ov, iv] (setItem ov iv v)
      release [v, ov, iv] []) := by intro _; rfl) : GG X (.Subscript o a pos) (gIx wo wa) := by
  refine PG.imp (pg_sub ho hi set_list ha) fun v σ H Q ⟨N, ρ, S, d, K, ab, r, h, q⟩ => ?_
  refine liftE.mk ab h fun x S1 h1 u H1 t1 c1 r1 => ?_
  refine liftE.mk (ab.mono t1 c1) h1 fun y S2 ⟨c, ds, k, j, ex, e2, ey, ej, kk⟩ z H2 t2 c2 r2 => ?_
  subst ex ey
  cases r1
  cases r2
  obtain ⟨vs, e3, rs⟩ := c2.at_ _ _ e2
  have tt := t1.trans t2
  have tp := Tr.put c2 e2 (o := .lst (vs.set j v)) (x := .lst (ds.set j d))
  have cp := c2.put e2 (o := .lst (vs.set j v)) (x := .lst (ds.set j d)) ⟨_, upd_same, ((Reps.set (r.mono tt) j rs)).mono tp⟩
  exact ⟨c, vs, k, j, rfl, rfl, e3, by rw [rs.length]; exact ej, q _ _ kk _ _ (tt.trans tp) (ab.mono (tt.trans tp) cp)⟩
/-- x op= e, x a name, of ints -/
def wAug (i : Nat) (f : Int → Int → Int) (a : WE) : WS := fun E ρ S => match Rho.get ρ i with
  | some (.int m) => a ρ S fun y S1 => match y with
    | .int n => E.nx (ρ.set i (some (.int (f m n)))) S1
    | _ => False
  | _ => False
/-! ### methods of texts -/
def rM1 (f : Str → Str → Sto → KE → Prop) : D → List D → Sto → KE → Prop := fun x ds S K => match x, ds with
  | .str a, [.str b] => f a b S K
  | _, _ => False
/-- o.m(e), a method of a text by values -/
def wMeth (f : D → List D → Sto → KE → Prop) (o : WE) (t : WA) : WE := fun ρ S K => o ρ S fun x S1 => (∃ z, x = .str z) ∧ t ρ S1 fun ds S2 => f x ds S2 K
variable {name : Str} {id : String} {r : V → List V → Hp → VK → Prop} {f : D → List D → Sto → KE → Prop}
theorem ge_strM (slot : Slot "str" name id) (hty : typeOf (.builtin id) = pure (.type "method_descriptor")) (hm : MtR X id r) (k : ∀ N H S v d vs ds K Q, CellsOk N H S → Rep H (alive N S) v d → Reps H (alive N S) vs ds → f d ds S K → liftK N H S K Q → r v vs H Q)
    (ho : GE X o wo) (ha : GAs X (e :: es) wr)
    (hbase : attributeBase o name X.env (eval o X.env) = eval o X.env := by rfl)
    (hfew : ((backTo cpos (starEach (e :: es) X.env)).all (fun x => !x.1) && (backToKw cpos (keywordEach [] X.env)).all (fun x => x.1.isSome)
      && decide ((e :: es).length + ([] : List Keyword).length + (if ([] : List Keyword).isEmpty then 0 else 1) < 30)) = true := by rfl)
    (hline : (apos.endLine == cpos.line) = true := by rfl) (hs : starEach (e :: es) X.env = (false, eval e X.env) :: starEach es X.env := by rfl) (hplain : (backTo cpos (starEach es X.env)).any (·.1) = false := by rfl) :
    GE X (.Call (.Attribute o name apos) (e :: es) [] cpos) (wMeth f wo wr) := by
  refine PE.imp (pe_bm PySem.F.plainAttrs_str slot hty hm ho ha hbase hfew hline hs hplain) fun σ H Q ⟨N, ρ, S, K, ab, h, q⟩ => ?_
  refine liftE.mk ab h fun d S1 ⟨⟨z, ed⟩, h1⟩ v H1 t1 c1 r1 => ?_
  subst ed
  cases r1
  refine ⟨rfl, N, ρ, S1, _, ab.mono t1 c1, h1, fun ds S2 h2 vs H2 t2 c2 r2 => ?_⟩
  exact k N H2 S2 _ _ _ _ K Q c2 (.str z) r2 h2 (q.of (t1.trans t2))
/-- sep.join(list or tuple of texts) -/
def D.str? : D → Option Str
  | .str i => some i
  | _ => none
def strs? : List D → Option (List Str)
  | [] => some []
  | d :: l => match d.str?, strs? l with
    | some a, some r => some (a :: r)
    | _, _ => none
theorem strs_map : ∀ ns : List Str, strs? (ns.map D.str) = some ns
  | [] => rfl
  | n :: ns => by
    show (match some n, strs? (ns.map D.str) with
      | some a, some r => some (a :: r)
      | _, _ => none) = _
    rw [strs_map ns]
theorem Reps.strsV {H : Hp} {A : Addr → Prop} : ∀ {ds : List D} {vs : List V} {ns : List Str}, Reps H A vs ds → strs? ds = some ns → vs = ns.map V.str
  | [], _, _, .nil, e => by cases e; rfl
  | d :: ds, _, ns, .cons r1 r2, e => by
    unfold strs? at e
    cases q1 : d.str? with
    | none => rw [q1] at e; cases e
    | some a =>
      cases q2 : strs? ds with
      | none => rw [q1, q2] at e; cases e
      | some z =>
        rw [q1, q2] at e
        cases e
        cases d <;> try (cases q1; done)
        cases q1
        cases r1
        rw [Reps.strsV r2 q2]
        rfl
def fJoin (x : D) (ds : List D) (S : Sto) (K : KE) : Prop := match x, ds with
  | .str a, [d] => ∃ es ys, seqOf S d = some es ∧ strs? es = some ys ∧ (ys.map (·.length)).sum + ys.length * a.length ≤ 16777216 ∧ K (.str (Txt.join a ys)) S
  | _, _ => False
theorem gm_join : ∀ N H S v d vs ds K Q, CellsOk N H S → Rep H (alive N S) v d → Reps H (alive N S) vs ds → fJoin d ds S K → liftK N H S K Q →
    (fun x xs H Q => ∃ a p, ∃ ys : List Str, x = V.str a ∧ xs = [V.ref p] ∧ (SqL X.K H p (ys.map V.str) ∨ SqT X.K H p (ys.map V.str)) ∧ (ys.map (·.length)).sum + ys.length * a.length ≤ 16777216 ∧ Q (.str (Txt.join a ys)) H) v vs H Q := by
  intro N H S v d vs ds K Q c r rs h q
  cases r with
  | str a =>
    cases rs with
    | nil => exact h.elim
    | cons r1 rr =>
      cases rr with
      | cons _ _ => exact h.elim
      | nil =>
        obtain ⟨es, ys, e1, e2, l, k⟩ := h
        obtain ⟨p, us, rfl, sq, rs⟩ := seq_sq (Kf := X.K) c r1 e1
        have ev := rs.strsV e2
        subst ev
        exact ⟨a, p, ys, rfl, rfl, sq, l, q.here c k (.str _)⟩
  | _ => exact h.elim
theorem ge_join (ho : GE X o wo) (ha : GAs X [e] wr)
    (hbase : attributeBase o "join" X.env (eval o X.env) = eval o X.env := by rfl)
    (hfew : ((backTo cpos (starEach [e] X.env)).all (fun x => !x.1) && (backToKw cpos (keywordEach [] X.env)).all (fun x => x.1.isSome)
      && decide ([e].length + ([] : List Keyword).length + (if ([] : List Keyword).isEmpty then 0 else 1) < 30)) = true := by rfl)
    (hline : (apos.endLine == cpos.line) = true := by rfl) (hs : starEach [e] X.env = (false, eval e X.env) :: starEach [] X.env := by rfl) (hplain : (backTo cpos (starEach [] X.env)).any (·.1) = false := by rfl) :
    GE X (.Call (.Attribute o "join" apos) [e] [] cpos) (wMeth fJoin wo wr) :=
  ge_strM PySem.F.slot_str_join PySem.F.type_str_join mt_join gm_join ho ha hbase hfew hline hs hplain
/-- s.count(t) -/
def fCount (x : D) (ds : List D) (S : Sto) (K : KE) : Prop := match x, ds with
  | .str a, [.str b] => K (.int (Txt.count a b)) S
  | _, _ => False
/-- s.split(t): a new list -/
def wSplit (o a : WE) : WF := fun ρ S K => o ρ S fun x S1 => ∃ z, x = .str z ∧ a ρ S1 fun y S2 => ∃ b, y = .str b ∧ (b.length == 0) = false ∧ z.length + 2 ≤ sizeLine ∧ K ((Txt.split z b).map D.str) S2
end
end G

set_option Elab.async false
set_option linter.all false
set_option maxRecDepth 100000
set_option autoImplicit false
namespace G
open PySem PySem.Spec PyProof.Rows L2

/-! ### what is never come to -/
def wNoE : WE := fun _ _ _ => False
def wNoI : WI := fun _ _ _ => False
/-! ### defs and their calls -/
abbrev CS := OpC
def spOf (c : CS) : Sp := fun vs H Q _ => ∃ N S ds K, CellsOk N H S ∧ Reps H (alive N S) vs ds ∧ c ds S K ∧ liftK N H S K Q
/-- a def's end: cells may be forgotten -/
def fin (K : KE) : KE := fun d S' => ∃ S'', Sub S'' S' ∧ K d S''
theorem fin.of {K : KE} {d : D} {S : Sto} (h : K d S) : fin K d S := ⟨S, Sub.refl S, h⟩
def wDef (n m : Nat) (w : WS) : CS := fun ds S K => ds.length = n ∧ w ⟨fun _ S' => fin K .non S', fin K, fun _ _ => False, fun _ _ => False⟩ (ds.map some ++ List.replicate (m - n) none) S
theorem start_abs {N : Hid} {H : Hp} {S : Sto} {vs : List V} {ds : List D} {Nm : List Str} (rs : Reps H (alive N S) vs ds) (c : CellsOk N H S) : Abs N S H (L2.start Nm vs) (ds.map some ++ List.replicate (Nm.length - ds.length) none) := by
  have l := rs.length
  refine ⟨by simp [L2.start, l], fun i d h => ?_, c⟩
  by_cases hi : i < ds.length
  · rw [List.getElem?_append_left (by simpa using hi), List.getElem?_map] at h
    cases q : ds[i]? with
    | none => rw [q] at h; cases h
    | some e =>
      rw [q] at h
      cases h
      obtain ⟨v, ev, r⟩ := rs.getD q
      refine ⟨v, ?_, r⟩
      unfold L2.start
      rw [List.getElem?_append_left (by rw [List.length_map, l]; exact hi), List.getElem?_map, ev]
      rfl
  · rw [List.getElem?_append_right (by simpa using Nat.le_of_not_lt hi)] at h
    rw [List.getElem?_replicate] at h
    split at h <;> cases h
/-- room, and no repr under way -/
structure RoomG (k : Nat) (A : Around) : Prop extends Room k A where
  gd : A.guards = some []
theorem RoomG.mono {j k : Nat} {A : Around} (r : RoomG k A) (h : j ≤ k) : RoomG j A := ⟨r.toRoom.mono h, r.gd⟩
/-- a def's promise where no repr is under way -/
structure FnG (P : Program) (w : World) (K : PySem.W.Frag) (mg : Str → Option Value) (base : Heap) (k : Nat) (f : Addr) (fd : FuncData) (ps : List Str) (sp : Sp) : Prop where
  len : ∀ vs H Q E, sp vs H Q E → vs.length = ps.length
  run : ∀ (A : Around) (outer : List Env) (s : Shared) (H : Hp) (args : Args) (us : List Value) (vs : List V) (Q : VK) (E : XK), RoomG k A → Env0 P w K mg base A outer s H → BindsTo s fd args (ps.zip us) → Vals vs us → sp vs H Q E →
    codeAny (model P w) A (.call (.ref f) args) (CR CX0 outer P w H s Q E) s
theorem FnG.mono {P : Program} {w : World} {K : PySem.W.Frag} {mg : Str → Option Value} {base : Heap} {j k : Nat} {f : Addr} {fd : FuncData} {ps : List Str} {sp : Sp} (F : FnG P w K mg base j f fd ps sp) (h : j ≤ k) : FnG P w K mg base k f fd ps sp :=
  ⟨F.len, fun A o s H ar us vs Q E r => F.run A o s H ar us vs Q E (r.mono h)⟩
theorem FnG.imp {P : Program} {w : World} {K : PySem.W.Frag} {mg : Str → Option Value} {base : Heap} {k : Nat} {f : Addr} {fd : FuncData} {ps : List Str} {sp sp' : Sp} (F : FnG P w K mg base k f fd ps sp) (h : ∀ vs H Q E, sp' vs H Q E → sp vs H Q E) : FnG P w K mg base k f fd ps sp' :=
  ⟨fun vs H Q E q => F.len vs H Q E (h _ _ _ _ q), fun A o s H ar us vs Q E r e b v q => F.run A o s H ar us vs Q E r e b v (h _ _ _ _ q)⟩
section
variable {P : Program} {w : World} {K : PySem.W.Frag} {mg : Str → Option Value} {base : Heap} {x qual : Str} {params : Arguments} {body : List Stmt} {scope : Scope} {f : Addr} {fd : FuncData} {Nm ps : List Str} {k : Nat} {ws : WS}
/-- the rule for a def -/
theorem fn_run {sp : Sp} (F : FunD K x qual params body scope [] [] f fd) (Sc : FnScope Nm ps scope) (len : ∀ vs H Q E, sp vs H Q E → vs.length = ps.length)
    (hb : ∀ (cdv : Value) (A : Around) (outer : List Env) (s : Shared) (H : Hp) (vs : List V) (Q : VK) (E : XK), RoomG k (A.deeper (envOfC qual scope s.heap.objs.size f cdv)) → sp vs H Q E →
      ∃ t, PSs (cxOf CX0 P w K mg base Nm qual scope f cdv A outer s H E) body t ∧ t { nx := fun _ H' => Q .non H', rt := Q } (L2.start Nm vs) H) : FnG P w K mg base (k + 1) f fd ps sp := by
  obtain ⟨oc, od, dV, kV, doc, pm, an, cdv, ct, osl, ef, lk, hcd, _, _⟩ := F.ex
  subst ef
  refine ⟨len, fun A o s H ar us vs Q E r e b v q => ?_⟩
  have hl := len _ _ _ _ q
  have kin : K.In s.heap := e.mod.kin.keeps fun c m z => (e.bs c m z).1
  have lim : s.heap.NoLimit := e.mod.nolimit.keeps fun c m z => (e.bs c m z).1
  have kinds : ∀ y ∈ ps.zip us, scope.names.lookup y.1 = some .local ∨ (scope.names.lookup y.1 = some .cell ∧ ((cellsFrom (s.heap.objs.size + 1) scope.names []).lookup y.1).isSome = true) := fun y hy =>
    (Sc.par y.1 (List.of_mem_zip (show (y.1, y.2) ∈ ps.zip us from hy)).1).elim .inl fun z => .inr ⟨z, PySem.W.cellsFrom_some _ _ _ (.inl z)⟩
  refine codeAny_call_function r.depth (kin _ _ lk) rfl Sc.co Sc.gen rfl (PySem.W.codeRec_of kin hcd) (b _ _ _ _ ?_)
  refine wpAny_newFunctionEnv_cells Sc.kind kinds fun env he s1 z => ?_
  subst he
  refine ⟨lim.keeps z.toInCall.keep, codeAny_func ?_⟩
  obtain ⟨t, ht, hq⟩ := hb cdv A o s H vs Q E ⟨r.toRoom.deeper _, r.gd⟩ q
  have I : Inv (cxOf CX0 P w K mg base Nm qual scope f cdv A o s H E) [] (L2.start Nm vs) H s1 := inv_start Sc r.hd e hl v z
  refine wpAny_mono (ht.run [] s1 (L2.start Nm vs) H _ I hq) (fun fl s2 hs => ?_) fun _ _ hs => hs
  have ends : ∀ {σ2 : L2.St} {H2 : Hp} {y : V} {u : Value}, Inv (cxOf CX0 P w K mg base Nm qual scope f cdv A o s H E) [] σ2 H2 s2 → RelV y u → Q y H2 → CE o P w H s Q u s2 := fun {σ2 H2 y u} J ry qy => ⟨y, H2, J.os, J.bare, J.base, J.hok, ry, qy⟩
  cases fl with
  | ret u =>
    obtain ⟨y, σ2, H2, J, ry, qy⟩ := hs
    exact ends J ry qy
  | next =>
    obtain ⟨σ2, H2, J, qy⟩ := hs
    exact ends (y := V.non) (u := Value.none) J rfl qy
  | brk => exact hs.elim fun _ z => z.elim fun _ z => False.elim z.2
  | cont => exact hs.elim fun _ z => z.elim fun _ z => False.elim z.2
theorem fn_ok (F : FunD K x qual params body scope [] [] f fd) (Sc : FnScope Nm ps scope)
    (hb : ∀ (cdv : Value) (A : Around) (outer : List Env) (s : Shared) (H : Hp) (E : XK), RoomG k (A.deeper (envOfC qual scope s.heap.objs.size f cdv)) → GSs (cxOf CX0 P w K mg base Nm qual scope f cdv A outer s H E).nox body ws) :
    FnG P w K mg base (k + 1) f fd ps (spOf (wDef ps.length Nm.length ws)) := by
  refine fn_run F Sc (fun vs H Q E ⟨N, S, ds, K, c, rs, h, q⟩ => by rw [rs.length]; exact h.1) fun cdv A outer s H vs Q E hr h => ⟨liftS ws, PSs.nox (hb cdv A outer s H E hr), ?_⟩
  obtain ⟨N, S, ds, K1, c, rs, ⟨hl, h⟩, q⟩ := h
  rw [← hl] at h
  refine ⟨N, _, S, _, start_abs rs c, h, ?_, ?_, ?_, ?_⟩
  · intro ρ' S' ⟨S2, sb, kk⟩ σ' H' t' a'
    exact q _ _ kk .non H' (t'.trans (Tr.sub sb)) (a'.cells.sub sb) .non
  · intro d S' ⟨S2, sb, kk⟩ v H' t' c' r'
    exact q _ _ kk v H' (t'.trans (Tr.sub sb)) (c'.sub sb) (r'.mono (Tr.sub sb))
  · intro _ _ z; exact z.elim
  · intro _ _ z; exact z.elim
theorem fn_no {n : Nat} : FnG P w K mg base n f fd ps (spOf fun _ _ _ => False) :=
  ⟨fun vs H Q E ⟨_, _, _, _, _, _, h, _⟩ => h.elim, fun _ _ _ _ _ _ _ _ _ _ _ _ _ ⟨_, _, _, _, _, _, h, _⟩ => h.elim⟩
end
section
variable {X : Cx} {x : Str} {e : Expr} {es : List Expr} {wr : WA} {p pos : Pos} {k : Nat} {f : Addr} {fd : FuncData} {ps : List Str} {c : CS}
theorem ge_call (F : FnG X.prog X.w X.K X.mg X.base k f fd ps (spOf c)) (hr : RoomG k X.A) (hm : X.mg x = some (.ref f)) (hk : PySem.W.keepIn X.K (.ref f) = true) (hb : Binds X.K fd ps []) (ha : GAs X (e :: es) wr) (hg : Gl X x := by rfl)
    (hdb : (x == ("__debug__" : Str)) = false := by decide) (he : starEach (e :: es) X.env = (false, eval e X.env) :: starEach es X.env := by rfl) (hpl : (backTo pos (starEach es X.env)).any (·.1) = false := by rfl) :
    GE X (.Call (.Name x p) (e :: es) [] pos) (wCall c wr) := by
  refine ⟨fun pins s σ H Q I ⟨N, ρ, S, K, ab, h, q⟩ => ?_⟩
  have la : liftA wr σ H fun vs H1 => spOf c vs H1 Q E0 := ⟨N, ρ, S, _, ab, h, fun ds S1 k vs H1 t1 c1 r1 => ⟨N, S1, ds, K, c1, r1, k, q.of t1⟩⟩
  refine wpAny_Call_Name_kw (ld_glob I hg hm ?_ hdb)
  refine PySem.W.callWith_K (h₀ := X.base) I.ok.mod.kin hk (thn (ha.run pos pins s σ H _ I la) fun us s1 ⟨vs, H1, I1, r, q1⟩ => ⟨I1.kIn, ?_⟩) he hpl
  have hl : (us ++ []).length = ps.length := by rw [List.append_nil, ← r.length]; exact F.len _ _ _ _ q1
  have hbi := hb s1 us I1.kIn hl
  rw [List.append_nil] at hbi
  refine wpAny_call (codeAny_mono (F.run X.A X.stack s1 H1 ⟨us, []⟩ us vs Q E0 hr I1.env0 hbi r q1) fun r2 s2 hq => ?_)
  cases r2 with
  | error y => exact pass0 pins σ H1 s1 y s2 I1 hq
  | ok fl =>
    cases fl with
    | ret u => exact I1.after hq
    | _ => exact False.elim hq
end

/-! ### enumerate(list) -/
def ienum : Nat → List D → List D
  | _, [] => []
  | i, d :: ds => .tup [.int (i : Nat), d] :: ienum (i + 1) ds
theorem ienum_length : ∀ (i : Nat) (ds : List D), (ienum i ds).length = ds.length
  | _, [] => rfl
  | i, d :: ds => congrArg Nat.succ (ienum_length (i + 1) ds)
theorem ienum_get : ∀ (k : Nat) (ds : List D) (i : Nat) (d : D), ds[i]? = some d → (ienum k ds)[i]? = some (.tup [.int ((k + i : Nat)), d])
  | _, [], _, _, h => by simp at h
  | k, e :: ds, 0, d, h => by
    have h : e = d := by simpa using h
    rw [h]; rfl
  | k, e :: ds, i + 1, d, h => by
    show (ienum (k + 1) ds)[i]? = _
    rw [ienum_get (k + 1) ds i d (by simpa using h), show k + 1 + i = k + (i + 1) by omega]
def wEnum (a : WE) : WI := fun ρ S K => a ρ S fun x S1 => match x with
  | .lst ds => K ⟨ienum 0 ds, fun _ => True⟩ S1
  | .cell c => (match S1 c with
    | some (.lst ds) => K ⟨ienum 0 ds, fun S' => S' c = some (.lst ds)⟩ S1
    | _ => False)
  | _ => False
section
variable {X : Cx} {e : Expr} {w : WE} {p pos tpos : Pos} {elts : List Expr} {kk : Nat}
theorem ItAt.enum {N : Hid} {H : Hp} {S : Sto} {K : PySem.W.Frag} {a : Addr} {vs : List V} {ds : List D} (hq : SqL K H a vs) (rs : Reps H (alive N S) vs ds) (c : CellsOk N H S) : ItAt N (Ite K a) H S (ienum 0 ds) := by
  refine ItAt.pair (walk_enum (K := K) (a := a) (xs := vs)) (by rw [ienum_length, rs.length]) hq c fun i x y hi e1 e2 => ?_
  obtain ⟨d, e3, r⟩ := rs.get e2
  cases e1
  refine ⟨.int (i : Nat), d, ?_, .int _, r⟩
  rw [ienum_get 0 ds i d e3, Nat.zero_add]
theorem gi_enum (h : GE X e w) (hm : X.mg "enumerate" = none) (hg : Gl X "enumerate" := by rfl) (hs : starEach [e] X.env = [(false, eval e X.env)] := by rfl) : GI X (.Tuple elts kk tpos) (.Call (.Name "enumerate" p) [e] [] pos) (wEnum w) := by
  refine PI.imp (pi_enum hg hm (ga_cons h ga_nil hs) hs) fun σ H R ⟨N, ρ, S, K, ab, hw, q⟩ => ?_
  refine lift_args1 ab hw fun x S1 k v H1 t1 c1 r1 => ?_
  cases r1 with
  | lst rd na rs =>
    exact ⟨_, _, rfl, .inl (.inl rd), q _ _ k _ H1 t1 c1 fun N2 H2 S2 x2 t2 c2 _ => ItAt.enum (.inl (.inl (t2.t0.keep _ _ rd na))) (rs.mono0 (t2.ext x2)) c2⟩
  | cell a =>
    have k : (match S1 a with
      | some (.lst ds) => K ⟨ienum 0 ds, fun S' => S' a = some (.lst ds)⟩ S1
      | _ => False) := k
    split at k
    · rename_i ds ec
      obtain ⟨vs, e2, rs⟩ := c1.at_ _ _ ec
      refine ⟨a, vs, rfl, .inl (.inl e2), q _ _ k _ H1 t1 c1 fun N2 H2 S2 x2 t2 c2 kp => ?_⟩
      obtain ⟨vs2, e3, rs2⟩ := c2.at_ _ _ kp
      exact ItAt.enum (.inl (.inl e3)) rs2 c2
    · exact k.elim
  | _ => exact k.elim
end

/-! ### defs by name -/
def Callee (P : Program) (w : World) (K : PySem.W.Frag) (mg : Str → Option Value) (base : Heap) (x : Str) (k : Nat) (c : CS) : Prop :=
  ∃ (f : Addr) (fd : FuncData) (ps : List Str), mg x = some (.ref f) ∧ PySem.W.keepIn K (.ref f) = true ∧ Binds K fd ps [] ∧ FnG P w K mg base k f fd ps (spOf c)
/-- a def as the head tells it -/
def DefAt (K : PySem.W.Frag) (mg : Str → Option Value) (x : Str) (st : Stmt) : Prop := ∃ fd : FuncData, mg x = some (.ref (He.ga K x)) ∧ FunD K x x (defArgs st) (defBody st) (defScope st) [] [] (He.ga K x) fd
section
variable {P : Program} {w : World} {K : PySem.W.Frag} {mg : Str → Option Value} {base : Heap} {x : Str} {st : Stmt} {k : Nat} {c : CS}
theorem callee_of {Nm ps : List Str} {ws : WS} (h : DefAt K mg x st) (Sc : FnScope Nm ps (defScope st))
    (hb : ∀ (kV doc pm : Value) (an : Option Addr) (cdv ct : Value) (us : List Value), us.length = ps.length → bindArgs (PySem.W.fnOf x x (defArgs st) (defBody st) (defScope st) .none kV doc pm an cdv ct) ⟨us, []⟩ = pure (ps.zip us))
    (body : ∀ (f : Addr) (cdv : Value) (A : Around) (outer : List Env) (s : Shared) (H : Hp) (E : XK), RoomG k (A.deeper (envOfC x (defScope st) s.heap.objs.size f cdv)) → GSs (cxOf CX0 P w K mg base Nm x (defScope st) f cdv A outer s H E).nox (defBody st) ws) :
    Callee P w K mg base x (k + 1) (wDef ps.length Nm.length ws) := by
  obtain ⟨fd, hm, F⟩ := h
  exact ⟨_, fd, ps, hm, F.kp, F.bindsN hb, fn_ok F Sc (body _)⟩
theorem callee_no {k : Nat} (h : DefAt K mg x st) (Sc : ∃ ps : List Str, ∀ (kV doc pm : Value) (an : Option Addr) (cdv ct : Value) (us : List Value), us.length = ps.length → bindArgs (PySem.W.fnOf x x (defArgs st) (defBody st) (defScope st) .none kV doc pm an cdv ct) ⟨us, []⟩ = pure (ps.zip us)) :
    Callee P w K mg base x k (fun _ _ _ => False) := by
  obtain ⟨fd, hm, F⟩ := h
  obtain ⟨ps, hb⟩ := Sc
  exact ⟨_, fd, ps, hm, F.kp, F.bindsN hb, fn_no⟩
theorem callee_mono {j : Nat} (C : Callee P w K mg base x k c) (h : k ≤ j) : Callee P w K mg base x j c := by
  obtain ⟨f, fd, ps, a, b, d, e⟩ := C
  exact ⟨f, fd, ps, a, b, d, e.mono h⟩
end
section
variable {X : Cx} {x : Str} {e : Expr} {es : List Expr} {wr : WA} {p pos : Pos} {k j : Nat} {c : CS}
theorem ge_callee (C : Callee X.prog X.w X.K X.mg X.base x k c) (hr : RoomG j X.A) (ha : GAs X (e :: es) wr) (hj : k ≤ j := by decide) (hg : Gl X x := by rfl)
    (hdb : (x == ("__debug__" : Str)) = false := by decide) (he : starEach (e :: es) X.env = (false, eval e X.env) :: starEach es X.env := by rfl) (hpl : (backTo pos (starEach es X.env)).any (·.1) = false := by rfl) :
    GE X (.Call (.Name x p) (e :: es) [] pos) (wCall c wr) := by
  obtain ⟨f, fd, ps, hm, hk, hb, F⟩ := C
  exact ge_call F (hr.mono hj) hm hk hb ha hg hdb he hpl
end

/-! ### the law -/
def spLaw (K : PySem.W.Frag) : Sp := fun vs H Q _ => ∃ (a : Addr) (ns : List Int), vs = [.ref a] ∧ SqL K H a (ns.map V.int) ∧ ns.length ≤ 63 ∧ ∀ H', Q (.bl true) H'
theorem law_fn {P : Program} {w : World} {K : PySem.W.Frag} {mg : Str → Option Value} {base : Heap} {k : Nat} {f : Addr} {fd : FuncData} {c : CS} (F : FnG P w K mg base k f fd ["script"] (spOf c))
    (h : ∀ ns : List Int, ns.length ≤ 63 → c [.scr K ns] Sto.nil fun d _ => d = .bl true) : FnG P w K mg base k f fd ["script"] (spLaw K) := by
  refine F.imp fun vs H Q E ⟨a, ns, ev, hS, hl, q⟩ => ?_
  subst ev
  have hd : ¬ alive (fun _ => False) Sto.nil a := fun z => by
    rcases z with z | z
    · exact z
    · exact z rfl
  refine ⟨fun _ => False, Sto.nil, [.scr K ns], _, ⟨fun c x e => (nomatch e), fun _ z => False.elim z⟩, .cons (.scr (.of hS hd)) .nil, h ns hl, fun d S' e v H' t cc r => ?_⟩
  rw [e] at r
  cases r
  exact q H'

/-! ### the end: the law's def at the heap behind the top -/
theorem head_call {P : Program} {w : World} {K : PySem.W.Frag} {mg mb : Str → Option Value} {k : Nat} {fa a : Addr} {fd : FuncData} {x : Str} {sp : Sp} {s1 : Shared} {us : List Value} {ns : List Int}
    (kin : K.In s1.heap) (gn : s1.heap.Ns mainGlobals mg) (gb : s1.heap.Ns builtinsNs mb) (gbb : ∀ y : Str, y ≠ "__name__" → mb y = bootBuiltins y) (lim : s1.heap.NoLimit) (gg : s1.gens = #[])
    (ga : s1.heap.get? a = some { cls := .type "list", data := .seq us.toArray }) (gi : IntsAre us ns) (gl : ns.length ≤ sizeLine) (gr : Room k callerA)
    (F : ∀ base : Heap, K.In base → base.Ns mainGlobals mg → FnG P w K mg base k fa fd [x] sp) (bi : ∀ (s : Shared) (u : Value), BindsTo s fd ⟨[u], []⟩ [(x, u)])
    (gs : ∀ H : Hp, Only H → SqL K H a (ns.map V.int) → sp [.ref a] H (fun v _ => v = .bl true) fun _ _ _ => False) :
    codeAny (model P w) callerA (.call (.ref fa) ⟨[.ref a], []⟩) (fun r s2 => r = .ok (.ret (.bool true)) ∧ OldK s1.heap s2.heap ∧ s2.os = s1.os ∧ AllBare s2.gens) s1 := by
  have rv := vals_ints gi
  have lu := gi.length
  have core : ∀ H : Hp, Only H → SqL K H a (ns.map V.int) → HOk P w H s1.heap → (∀ c, H c ≠ none → c = a) → (H a ≠ none → K.lookup a = none) →
      codeAny (model P w) callerA (.call (.ref fa) ⟨[.ref a], []⟩) (fun r s2 => r = .ok (.ret (.bool true)) ∧ OldK s1.heap s2.heap ∧ s2.os = s1.os ∧ AllBare s2.gens) s1 := by
    intro H onl sq ok oa ok2
    have lay : ∀ {c : Addr} {m : Obj}, s1.heap.get? c = some m → H c = none → (hidT s1.heap H).get? c = some m := fun e n => hidT_get e n
    have nd : ∀ {c : Addr} {m : Obj} {es : Array DictEntry} {ep : Nat}, s1.heap.get? c = some m → m.data = .dict es ep → H c = none := fun {c m es ep} e d => by
      cases z : H c with
      | none => rfl
      | some y =>
        have e1 : c = a := oa c (by rw [z]; simp)
        rw [e1, ga] at e
        cases e
        cases (show Data.seq us.toArray _ = Data.dict es ep from d)
    have nsk : ∀ {c : Addr} {m : Str → Option Value}, s1.heap.Ns c m → (hidT s1.heap H).Ns c m := fun {c m} ⟨o, es, ep, e, d, r⟩ => ⟨o, es, ep, lay e (nd e d), d, r⟩
    have kb : K.In (hidT s1.heap H) := fun c o e => lay (kin c o e) (by
      cases z : H c with
      | none => rfl
      | some y =>
        have e1 : c = a := oa c (by rw [z]; simp)
        rw [e1, ok2 (by rw [← e1, z]; simp)] at e
        cases e)
    have md : Mod K mg (hidT s1.heap H) := ⟨kb, nsk gn, ⟨mb, nsk gb, gbb⟩, let ⟨mc, z1, z2⟩ := lim; ⟨mc, nsk z1, z2⟩⟩
    have e0 : Env0 P w K mg (hidT s1.heap H) callerA [] s1 H := ⟨rfl, md, fun c o e => of_hidT e, Nat.le_of_eq (hidT_size _ _), trivial, fun c hc => absurd (show c ∈ ([] : List Addr) from hc) (by simp), ok, .of_eq gg⟩
    refine codeAny_mono ((F _ kb (nsk gn)).run callerA [] s1 H ⟨[.ref a], []⟩ [.ref a] [.ref a] _ _ ⟨gr, rfl⟩ e0 (bi s1 (.ref a)) (.cons rfl .nil) (gs H onl sq)) fun r s2 h => ?_
    cases r with
    | error y => exact False.elim h
    | ok fl =>
      cases fl with
      | ret u =>
        obtain ⟨v, H2, eos, bare, un, ok3, rv2, qv⟩ := h
        obtain rfl : v = .bl true := qv
        obtain rfl : u = Value.bool true := rv2
        refine ⟨rfl, OldK.of_keep fun c m e => ?_, eos, bare⟩
        cases z : H c with
        | none => exact un.keep c m e z (by intro t; exact absurd (show c ∈ ([] : List Addr) from t) (by simp)) (by simp)
        | some y =>
          rcases onl c with t | ⟨ob, xs, t⟩
          · rw [z] at t
            cases t
          · obtain ⟨g1, _⟩ := ok c _ t
            obtain ⟨g2, _⟩ := ok3 c _ (un.frzs c ob _ t)
            rw [e] at g1
            cases g1
            exact g2
      | _ => exact False.elim h
  cases hk : K.lookup a with
  | some m =>
    have e := kin a m hk
    rw [ga] at e
    cases e
    refine core (fun _ => none) (fun _ => .inl rfl) (.inr ⟨_, us.toArray, _, hk, rfl, rfl, rfl, by rw [List.size_toArray, lu]; exact gl, by simpa using rv⟩) (fun c y t => (nomatch (show (none : Option HO) = some y from t))) (fun c t => absurd rfl t) fun t => absurd rfl t
  | none =>
    have at_ : ∀ c, c ≠ a → (if c = a then some (HO.frz { cls := .type "list", data := .seq us.toArray } (.lst (ns.map V.int))) else none) = none := fun c n => if_neg n
    refine core (fun c => if c = a then some (.frz { cls := .type "list", data := .seq us.toArray } (.lst (ns.map V.int))) else none) (fun c => ?_) (.inl (.inr ⟨{ cls := .type "list", data := .seq us.toArray }, if_pos rfl⟩)) (fun c y t => ?_) (fun c t => ?_) fun _ => hk
    · by_cases n : c = a
      · exact .inr ⟨_, _, if_pos n⟩
      · exact .inl (at_ c n)
    · by_cases n : c = a
      · have t2 := (if_pos n).symm.trans t
        cases t2
        rw [n]
        exact ⟨ga, by rw [List.length_map]; exact gl, us, _, rv, ga⟩
      · cases (at_ c n).symm.trans t
    · by_cases n : c = a
      · exact n
      · exact absurd (at_ c n) t
theorem walk_ofG {l : PySem.W.OpenLaw} {n k : Nat} {q : Program} {loose : List Str} {XP : (Str → Option Value) → Heap → Prop} {YP : World → Heap → Prop} {d : DefRec} {x : Str}
    (hn : l.most = some n) (hn2 : n ≤ sizeLine) (hdf : d.params.defaults = []) (hr : Room k callerA)
    (F : ∀ (w : World) (mg : Str → Option Value) (fa : Addr) (h : Heap), YP w h → h.Ns mainGlobals mg → mg d.name = some (.ref fa) →
      ∃ (K : PySem.W.Frag) (fd : FuncData) (sp : Sp), K.In h ∧ (∀ (s : Shared) (u : Value), BindsTo s fd ⟨[u], []⟩ [(x, u)]) ∧
        (∀ (H : Hp) (a : Addr) (ns : List Int), ns.length ≤ n → Only H → SqL K H a (ns.map V.int) → sp [.ref a] H (fun v _ => v = .bl true) fun _ _ _ => False) ∧
        ∀ base : Heap, K.In base → base.Ns mainGlobals mg → FnG l.prog w K mg base k fa fd [x] sp) :
    PySem.W.WalkO q loose XP YP l.row.toRowW d [] (fun f vs => PySem.call f vs) := by
  refine Att.attach_call hn hdf fun w s0 s1 mg mb fa o pm cd doc a vs ns gT gY ho hd hcd hmg hob hin hle hge => ?_
  obtain ⟨K, fd, sp, kx, hb, hsp, hF⟩ := F w mg fa _ gY gT.T.g hmg
  exact head_call kx gT.T.g gT.T.b gT.T.builtins gT.T.nolimit hge hob hin (Nat.le_trans hle hn2) hr hF hb fun H hO hS => hsp H a ns hle hO hS
end G

set_option linter.all false
set_option maxRecDepth 100000
set_option autoImplicit false
namespace G
open PySem PySem.Spec PyProof.Rows L2

/-! ### steps, from the goal backwards -/
section
variable {E : EndsG} {ρ : Rho} {S : Sto} {K : KE} {i : Nat} {d : D} {a b c : WE} {ta tb : WT} {s t u : WS}
theorem st_seq {na ba ca : Rho → Sto → Prop} {ra : D → Sto → Prop} (h : t ⟨u ⟨na, ra, ba, ca⟩, ra, ba, ca⟩ ρ S) : wSeq t u ⟨na, ra, ba, ca⟩ ρ S := ⟨_, h, fun _ _ z => z⟩
theorem st_skip {na ba ca : Rho → Sto → Prop} {ra : D → Sto → Prop} (h : na ρ S) : wSkip ⟨na, ra, ba, ca⟩ ρ S := h
theorem st_ret {na ba ca : Rho → Sto → Prop} {ra : D → Sto → Prop} (h : a ρ S ra) : wRet a ⟨na, ra, ba, ca⟩ ρ S := h
theorem st_retN {na ba ca : Rho → Sto → Prop} {ra : D → Sto → Prop} (h : ra .non S) : wRetN ⟨na, ra, ba, ca⟩ ρ S := h
theorem st_do {na ba ca : Rho → Sto → Prop} {ra : D → Sto → Prop} (h : a ρ S fun _ S1 => na ρ S1) : wDo a ⟨na, ra, ba, ca⟩ ρ S := h
theorem st_if (h : ta ρ S fun k S1 => (k = true → t E ρ S1) ∧ (k = false → u E ρ S1)) : wIf ta t u E ρ S := h
theorem st_set {na ba ca : Rho → Sto → Prop} {ra : D → Sto → Prop} (h : a ρ S fun d S1 => na (ρ.set i (some d)) S1) : wSet i a ⟨na, ra, ba, ca⟩ ρ S := h
theorem st_asg {na ba ca : Rho → Sto → Prop} {ra : D → Sto → Prop} {g : WG} (h : a ρ S fun d S1 => g d ρ S1 na) : wAsg a g ⟨na, ra, ba, ca⟩ ρ S := h
theorem st_par {na ba ca : Rho → Sto → Prop} {ra : D → Sto → Prop} {j : Nat} (h : a ρ S fun x S1 => b ρ S1 fun y S2 => na ((ρ.set i (some x)).set j (some y)) S2) : wPar i j a b ⟨na, ra, ba, ca⟩ ρ S := h
theorem st_var (e : Rho.get ρ i = some d) (h : K d S) : wVar i ρ S K := by
  unfold wVar
  rw [e]
  exact h
theorem st_c (h : K d S) : wC d ρ S K := h
theorem st_op2 {o : Op2} (h : a ρ S fun x S1 => b ρ S1 fun y S2 => o x y S2 K) : wOp2 o a b ρ S K := h
theorem st_op1 {o : Op1} (h : a ρ S fun x S1 => o x S1 K) : wOp1 o a ρ S K := h
theorem st_test {K : Bool → Sto → Prop} (h : a ρ S fun d S' => ∃ b, d = .bl b ∧ K b S') : wTest a ρ S K := h
theorem st_tbl {K : Bool → Sto → Prop} {k : Bool} (h : K k S) : ∃ b, D.bl k = .bl b ∧ K b S := ⟨k, rfl, h⟩
theorem st_and {K : Bool → Sto → Prop} (h : ta ρ S fun c S1 => (c = true → tb ρ S1 K) ∧ (c = false → K false S1)) : wAnd ta tb ρ S K := h
theorem st_or {K : Bool → Sto → Prop} (h : ta ρ S fun c S1 => (c = true → K true S1) ∧ (c = false → tb ρ S1 K)) : wOr ta tb ρ S K := h
theorem st_not {K : Bool → Sto → Prop} (h : ta ρ S fun c S1 => K (!c) S1) : wNot ta ρ S K := h
theorem st_andV (h : a ρ S fun x S1 => ∃ c, x = .bl c ∧ (c = true → b ρ S1 K) ∧ (c = false → K (.bl false) S1)) : wAndV a b ρ S K := h
theorem st_orV (h : a ρ S fun x S1 => ∃ c, x = .bl c ∧ (c = true → K (.bl true) S1) ∧ (c = false → b ρ S1 K)) : wOrV a b ρ S K := h
theorem st_notV (h : a ρ S fun x S1 => ∃ c, x = .bl c ∧ K (.bl (!c)) S1) : wNotV a ρ S K := h
theorem st_bl {k : Bool} {P : Bool → Prop} (h : P k) : ∃ c, D.bl k = .bl c ∧ P c := ⟨k, rfl, h⟩
theorem st_ifE (h : ta ρ S fun c S1 => (c = true → a ρ S1 K) ∧ (c = false → b ρ S1 K)) : wIfE ta a b ρ S K := h
theorem st_chain {o o' : Op2} (h : a ρ S fun x S1 => b ρ S1 fun y S2 => o x y S2 fun z S3 => ∃ k, z = .bl k ∧ (k = true → c ρ S3 fun w S4 => o' y w S4 K) ∧ (k = false → K (.bl false) S3)) : wChain o o' a b c ρ S K := h
theorem st_nil {K : List D → Sto → Prop} (h : K [] S) : wNil ρ S K := h
theorem st_cons {r : WA} {K : List D → Sto → Prop} (h : a ρ S fun x S1 => r ρ S1 fun xs S2 => K (x :: xs) S2) : wCons a r ρ S K := h
theorem st_call {o : OpC} {r : WA} (h : r ρ S fun ds S1 => o ds S1 K) : wCall o r ρ S K := h
theorem st_fr {w : WF} (h : w ρ S fun ds S1 => K (.lst ds) S1) : wFr w ρ S K := h
theorem st_lv {w : WF} (h : w ρ S fun ds S1 => ∀ p, S1 p = none → K (.cell p) (S1.set p (.lst ds))) : wLv w ρ S K := h
theorem st_lst {r : WA} {K : List D → Sto → Prop} (h : r ρ S fun ds S1 => ds.length ≤ sizeLine ∧ K ds S1) : wLst r ρ S K := h
theorem st_tup {r : WA} (h : r ρ S fun ds S1 => ds.length ≤ sizeLine ∧ K (.tup ds) S1) : wTup r ρ S K := h
theorem st_list {K : List D → Sto → Prop} (h : a ρ S fun x S1 => match listOf S1 x with
  | some ds => K ds S1
  | none => False) : wList a ρ S K := h
theorem st_one {o : Op1} (h : o d S K) : one o [d] S K := h
theorem st_two {o : Op2} {e : D} (h : o d e S K) : two o [d, e] S K := h
theorem st_for {w : WI} {g : WG} (h : w ρ S fun it S1 => forW it.keep g t E it.items ρ S1) : wFor w g t E ρ S := h
theorem st_gN {K : Rho → Sto → Prop} (h : K (ρ.set i (some d)) S) : gN i d ρ S K := h
theorem st_gsC {K : Rho → Sto → Prop} {es : List D} {g : WG} {gs : WGs} (h : g d ρ S fun ρ1 S1 => gs es ρ1 S1 K) : gsC g gs (d :: es) ρ S K := ⟨d, es, rfl, h⟩
theorem st_gsN {K : Rho → Sto → Prop} (h : K ρ S) : gsN [] ρ S K := ⟨rfl, h⟩
theorem st_frz (h : a ρ S fun d S1 => ∃ c, d = .cell c ∧ ((∃ ds, S1 c = some (.lst ds) ∧ K (.lst ds) (S1.del c)) ∨ (∃ es, S1 c = some (.dic es) ∧ K (.dic es) (S1.del c)))) : wFrz a ρ S K := h
/-! ### values -/
theorem st_add {x y : Int} (h : K (.int (x + y)) S) : oAdd (.int x) (.int y) S K := h
theorem st_addT {x y : List D} (l : x.length + y.length ≤ sizeLine) (h : K (.tup (x ++ y)) S) : oAdd (.tup x) (.tup y) S K := ⟨l, h⟩
theorem st_sub {x y : Int} (h : K (.int (x - y)) S) : oSub (.int x) (.int y) S K := ⟨trivial, h⟩
theorem st_mul {x y : Int} (l : x.natAbs.log2 + y.natAbs.log2 < 1000000) (h : K (.int (x * y)) S) : oMul (.int x) (.int y) S K := ⟨l, h⟩
theorem st_div {x y : Int} (l : 0 < y) (l2 : y.natAbs.log2 < 9000) (h : K (.int (x / y)) S) : oDiv (.int x) (.int y) S K := ⟨⟨l, l2⟩, h⟩
theorem st_mod {x y : Int} (l : 0 < y) (h : K (.int (x % y)) S) : oMod (.int x) (.int y) S K := by
  have e : x.fmod y = x % y := Int.fmod_eq_emod_of_nonneg _ (by omega)
  refine ⟨by omega, ?_⟩
  show K (.int (x.fmod y)) S
  rw [e]
  exact h
theorem st_pow {x y : Int} (l : 0 ≤ y ∧ y ≤ 1000000 ∧ x.natAbs < 2 ^ 64) (h : K (.int (x ^ y.toNat)) S) : oPow (.int x) (.int y) S K := ⟨l, h⟩
theorem st_neg {x : Int} (h : K (.int (-x)) S) : oNeg (.int x) S K := h
theorem st_lt {x y : Int} (h : K (.bl (decide (x < y))) S) : oLt (.int x) (.int y) S K := h
theorem st_le {x y : Int} (h : K (.bl (decide (x ≤ y))) S) : oLe (.int x) (.int y) S K := h
theorem st_gt {x y : Int} (h : K (.bl (decide (y < x))) S) : oGt (.int x) (.int y) S K := h
theorem st_ge {x y : Int} (h : K (.bl (decide (y ≤ x))) S) : oGe (.int x) (.int y) S K := h
theorem shaped_int (x : Int) : SeqAt.shaped (.int x) = true := by simp [SeqAt.shaped, PyData.canLay0, PyData.depth]
theorem st_eq {x y : Int} (h : K (.bl (decide (x = y))) S) : oEq (.int x) (.int y) S K := .inr ⟨_, _, rfl, rfl, shaped_int x, shaped_int y, h⟩
theorem st_ne {x y : Int} (h : K (.bl (!decide (x = y))) S) : oNe (.int x) (.int y) S K := .inr ⟨_, _, rfl, rfl, shaped_int x, shaped_int y, h⟩
theorem shaped_bl (x : Bool) : SeqAt.shaped (.bool x) = true := by simp [SeqAt.shaped, PyData.canLay0, PyData.depth]
theorem st_eqB {x y : Bool} (h : K (.bl (x == y)) S) : oEq (.bl x) (.bl y) S K := .inr ⟨_, _, rfl, rfl, shaped_bl x, shaped_bl y, h⟩
theorem st_neB {x y : Bool} (h : K (.bl (!(x == y))) S) : oNe (.bl x) (.bl y) S K := .inr ⟨_, _, rfl, rfl, shaped_bl x, shaped_bl y, h⟩
theorem st_isN {x : D} (h : K (.bl x.isNon) S) : oIs x .non S K := h
theorem st_isNotN {x : D} (h : K (.bl (!x.isNon)) S) : oIsNot x .non S K := h
theorem st_isi {x : D} {k : Kind} {Ts : List Kind} (e : kindOf S x = some k) (h : K (.bl (Ts.any k.isa)) S) : oIsi Ts x S K := by
  unfold oIsi
  rw [e]
  exact h
theorem st_int {x : Int} (h : K (.int x) S) : oInt (.int x) S K := h
theorem st_len {x : D} {ds : List D} (e : seqOf S x = some ds) (h : K (.int (ds.length : Nat)) S) : oLen x S K := by
  cases x <;> try (cases e; done)
  · cases e; exact h
  · cases e; exact h
  · rename_i c
    show match seqOf S (.cell c) with
      | some ds => K (.int (ds.length : Nat)) S
      | none => _
    rw [e]
    exact h
theorem st_lenS {x : Str} (l : x.length ≤ sizeLine) (h : K (.int (x.length : Nat)) S) : oLen (.str x) S K := ⟨l, h⟩
theorem st_ix {x : D} {ds : List D} {j : Int} (e : seqOf S x = some ds) (e2 : atI ds j = some d) (h : K d S) : oIx x (.int j) S K := by
  have go : ∀ o : Option (List D), o = some ds → (match o with
      | some ds => (match atI ds j with
        | some d => K d S
        | none => False)
      | none => False) := fun o eo => by
    subst eo
    show (match atI ds j with
        | some d => K d S
        | none => False)
    rw [e2]
    exact h
  cases x <;> first | exact go _ e | exact nomatch e
theorem st_tuple {x : D} {ds : List D} (e : seqOf S x = some ds) (h : K (.tup ds) S) : oTuple x S K := by
  unfold oTuple
  rw [e]
  exact h
/-! ### branches -/
theorem br_t {A B : Prop} (h : A) : (true = true → A) ∧ (true = false → B) := ⟨fun _ => h, fun z => nomatch z⟩
theorem br_f {A B : Prop} (h : B) : (false = true → A) ∧ (false = false → B) := ⟨fun z => (nomatch z), fun _ => h⟩
theorem br_d {p A B : Prop} [Decidable p] (h1 : p → A) (h2 : ¬ p → B) : (decide p = true → A) ∧ (decide p = false → B) := ⟨fun z => h1 (of_decide_eq_true z), fun z => h2 (of_decide_eq_false z)⟩
theorem br_n {k : Bool} {A B : Prop} (h : (k = true → B) ∧ (k = false → A)) : ((!k) = true → A) ∧ ((!k) = false → B) := by
  cases k
  · exact ⟨fun _ => h.2 rfl, fun z => nomatch z⟩
  · exact ⟨fun z => (nomatch z), fun _ => h.1 rfl⟩
theorem br_b {k : Bool} {A B : Prop} (h1 : k = true → A) (h2 : k = false → B) : (k = true → A) ∧ (k = false → B) := ⟨h1, h2⟩
end
/-! ### a whole def -/
theorem st_def {n m : Nat} {w : WS} {ds : List D} {S : Sto} {K : KE} (l : ds.length = n) (h : w ⟨fun _ S' => fin K .non S', fin K, fun _ _ => False, fun _ _ => False⟩ (ds.map some ++ List.replicate (m - n) none) S) : wDef n m w ds S K := ⟨l, h⟩
/-! ### loops -/
theorem for_ind {keep : Sto → Prop} {g : WG} {body : WS} {na ba ca : Rho → Sto → Prop} {ra : D → Sto → Prop} {I : List D → Rho → Sto → Prop} {items : List D} {ρ : Rho} {S : Sto} (h0 : I items ρ S) (hn : ∀ ρ S, I [] ρ S → keep S ∧ na ρ S)
    (hs : ∀ d ds (F : Rho → Sto → Prop), (∀ ρ S, I ds ρ S → F ρ S) → ∀ ρ S, I (d :: ds) ρ S → keep S ∧ g d ρ S fun ρ1 S1 => body ⟨F, ra, na, F⟩ ρ1 S1) : forW keep g body ⟨na, ra, ba, ca⟩ items ρ S := by
  induction items generalizing ρ S with
  | nil => exact hn ρ S h0
  | cons d ds ih => exact hs d ds _ (fun ρ S h => ih h) ρ S h0
theorem while_ind {c : WT} {body : WS} {na ba ca : Rho → Sto → Prop} {ra : D → Sto → Prop} {I : Nat → Rho → Sto → Prop} {m : Nat} {ρ : Rho} {S : Sto} (h0 : I m ρ S)
    (hs : ∀ m (F : Rho → Sto → Prop), (∀ m', m' < m → ∀ ρ S, I m' ρ S → F ρ S) → ∀ ρ S, I m ρ S → c ρ S fun k S1 => (k = true → body ⟨F, ra, na, F⟩ ρ S1) ∧ (k = false → na ρ S1)) : wWhile c body ⟨na, ra, ba, ca⟩ ρ S := by
  have go : ∀ n m, m < n → ∀ ρ S, I m ρ S → whileN c body ⟨na, ra, ba, ca⟩ n ρ S := by
    intro n
    induction n with
    | zero => intro m h; omega
    | succ n ih => intro m h ρ S i; exact hs m _ (fun m' l ρ S i' => ih m' (by omega) ρ S i') ρ S i
  exact ⟨m + 1, go (m + 1) m (Nat.lt_succ_self m) ρ S h0⟩
theorem comp_ind {keep : Sto → Prop} {g : WG} {t : WT} {e : WE} {ρ : Rho} {K : List D → Sto → Prop} {I : List D → List D → Sto → Prop} {items acc : List D} {S : Sto} (h0 : I items acc S) (hn : ∀ acc S, I [] acc S → keep S ∧ K acc S)
    (hs : ∀ d ds (F : List D → Sto → Prop), (∀ acc S, I ds acc S → F acc S) → ∀ acc S, I (d :: ds) acc S → keep S ∧ g d ρ S fun ρ1 S1 => t ρ1 S1 fun b S2 => (b = true → e ρ1 S2 fun y S3 => acc.length < sizeLine ∧ F (acc ++ [y]) S3) ∧ (b = false → F acc S2)) : compW keep g t e ρ items acc S K := by
  induction items generalizing acc S with
  | nil => exact hn acc S h0
  | cons d ds ih => exact hs d ds _ (fun acc S h => ih h) acc S h0
theorem seq_at {S : Sto} {p : Addr} {ds : List D} (h : S p = some (.lst ds)) : seqOf S (.cell p) = some ds := by
  show (match S p with
    | some (.lst ds) => some ds
    | _ => none) = some ds
  rw [h]
theorem lst_at {S : Sto} {p : Addr} {ds : List D} (h : S p = some (.lst ds)) : lstOf S (.cell p) = some ds := by
  show (match S p with
    | some (.lst ds) => some ds
    | _ => none) = some ds
  rw [h]
theorem st_isi2 {S : Sto} {K : KE} {x : D} {k : Kind} {Ts : List Kind} {b : Bool} (e : kindOf S x = some k) (eb : Ts.any k.isa = b) (h : K (.bl b) S) : oIsi Ts x S K := st_isi e (eb.symm ▸ h)
theorem br_ct {c : Bool} {A B : Prop} (e : c = true) (h : A) : (c = true → A) ∧ (c = false → B) := by
  subst e
  exact br_t h
theorem br_cf {c : Bool} {A B : Prop} (e : c = false) (h : B) : (c = true → A) ∧ (c = false → B) := by
  subst e
  exact br_f h
theorem st_len2 {S : Sto} {K : KE} {x : D} {ds : List D} {n : Int} (e : seqOf S x = some ds) (el : ((ds.length : Nat) : Int) = n) (h : K (.int n) S) : oLen x S K := st_len e (el.symm ▸ h)
theorem st_listM {x : D} {S : Sto} {ds : List D} {K : List D → Sto → Prop} (e : listOf S x = some ds) (h : K ds S) : (match listOf S x with
    | some ds => K ds S
    | none => False) := by
  rw [e]
  exact h
theorem st_itM {d : D} {S : Sto} {it : IT} {K : IT → Sto → Prop} (e : itemsOf S d = some it) (h : K it S) : (match itemsOf S d with
    | some it => K it S
    | none => False) := by
  rw [e]
  exact h
theorem st_it {w : WE} {ρ : Rho} {S : Sto} {K : IT → Sto → Prop} (h : w ρ S fun d S1 => match itemsOf S1 d with
    | some it => K it S1
    | none => False) : wIt w ρ S K := h
def itAt (p : Addr) (ds : List D) : IT := ⟨ds, fun S' => S' p = some (.lst ds)⟩
theorem it_at {S : Sto} {p : Addr} {ds : List D} (h : S p = some (.lst ds)) : itemsOf S (.cell p) = some (itAt p ds) := by
  unfold itemsOf
  dsimp only
  rw [h]
  rfl
theorem st_comp {w : WI} {g : WG} {t : WT} {e : WE} {vs : List Nat} {ρ : Rho} {S : Sto} {K : List D → Sto → Prop} (h : w ρ S fun it S1 => compW it.keep g t e (wipeR ρ vs) it.items [] S1 K) : wComp w g t e vs ρ S K := h
theorem st_gIx {o i : WE} {d : D} {ρ : Rho} {S : Sto} {K : Rho → Sto → Prop} (h : o ρ S fun x S1 => i ρ S1 fun y S2 => ∃ c ds k j, x = .cell c ∧ S2 c = some (.lst ds) ∧ y = .int k ∧ ixN ds.length k = some j ∧ K ρ (S2.set c (.lst (ds.set j d)))) : gIx o i d ρ S K := h
theorem st_ixM {c : Addr} {ds : List D} {k : Int} {j : Nat} {d : D} {ρ : Rho} {S : Sto} {K : Rho → Sto → Prop} (e : S c = some (.lst ds)) (ej : ixN ds.length k = some j) (h : K ρ (S.set c (.lst (ds.set j d)))) : ∃ (c' : Addr) (ds' : List D) (k' : Int) (j' : Nat), D.cell c = .cell c' ∧ S c' = some (.lst ds') ∧ D.int k = .int k' ∧ ixN ds'.length k' = some j' ∧ K ρ (S.set c' (.lst (ds'.set j' d))) := ⟨c, ds, k, j, rfl, e, rfl, ej, h⟩
theorem st_range1 {a : WE} {ρ : Rho} {S : Sto} {K : IT → Sto → Prop} (h : a ρ S fun x S1 => ∃ j : Int, x = .int j ∧ -(2 ^ 62) ≤ j ∧ j < 2 ^ 62 ∧ K ⟨irange 0 j.toNat, fun _ => True⟩ S1) : wRange1 a ρ S K := h
theorem st_app {o a : WE} {ρ : Rho} {S : Sto} {K : KE} (h : o ρ S fun d S1 => ∃ c, d = .cell c ∧ (∃ ds, S1 c = some (.lst ds)) ∧ a ρ S1 fun y S2 => ∃ ds, S2 c = some (.lst ds) ∧ ds.length < sizeLine ∧ K .non (S2.set c (.lst (ds ++ [y])))) : wApp o a ρ S K := h
theorem pd_ints : ∀ ns : List Int, pds (ns.map D.int) = some (ns.map PyData.int)
  | [] => rfl
  | n :: ns => by
    show (match D.pd (.int n), pds (ns.map D.int) with
      | some p, some q => some (p :: q)
      | _, _ => none) = _
    rw [pd_ints ns]
    rfl
theorem lg_lt {n k : Nat} (h : n < 2 ^ k) (hk : 0 < k) : n.log2 < k := by
  by_cases z : n = 0
  · subst z; exact hk
  · exact (Nat.log2_lt z).2 h
/-! ### equality of data -/
/-- what == may be asked of: no deeper than n -/
structure Sh (n : Nat) (p : PyData) : Prop where
  lay : p.canLay0 = true
  dp : p.depth ≤ n
theorem Sh.int (i : Int) (n : Nat) : Sh n (.int i) := ⟨by simp [PyData.canLay0], by simp [PyData.depth]⟩
theorem Sh.bl (i : Bool) (n : Nat) : Sh n (.bool i) := ⟨by simp [PyData.canLay0], by simp [PyData.depth]⟩
theorem Sh.non (n : Nat) : Sh n .none := ⟨by simp [PyData.canLay0], by simp [PyData.depth]⟩
theorem Sh.str {i : Str} (h : PyData.strOk i = true) (n : Nat) : Sh n (.str i) := ⟨by simp [PyData.canLay0, h], by simp [PyData.depth]⟩
theorem sh_all {n : Nat} : ∀ {ps : List PyData}, (∀ p, p ∈ ps → Sh n p) → PyData.canLayAll0 ps = true ∧ PyData.depthAll ps ≤ n
  | [], _ => ⟨by simp [PyData.canLayAll0], by simp [PyData.depthAll]⟩
  | p :: ps, h => by
    have a := h p (List.mem_cons_self ..)
    have b := sh_all (ps := ps) fun q hq => h q (List.mem_cons_of_mem _ hq)
    refine ⟨?_, ?_⟩
    · simp [PyData.canLayAll0, a.lay, b.1]
    · simp only [PyData.depthAll]
      have := a.dp
      have := b.2
      omega
theorem Sh.list {n : Nat} {ps : List PyData} (h : ∀ p, p ∈ ps → Sh n p) : Sh (n + 1) (.list ps) := ⟨by simp [PyData.canLay0, (sh_all h).1], by simp only [PyData.depth]; have := (sh_all h).2; omega⟩
theorem Sh.tup {n : Nat} {ps : List PyData} (h : ∀ p, p ∈ ps → Sh n p) : Sh (n + 1) (.tuple ps) := ⟨by simp [PyData.canLay0, (sh_all h).1], by simp only [PyData.depth]; have := (sh_all h).2; omega⟩
theorem Sh.shaped {n : Nat} {p : PyData} (h : Sh n p) (l : n ≤ 64) : SeqAt.shaped p = true := by
  unfold SeqAt.shaped
  rw [h.lay, decide_eq_true (Nat.le_trans h.dp l)]
  rfl
theorem eqv_ints : ∀ a b : List Int, PyData.eqvAll (a.map PyData.int) (b.map PyData.int) = decide (a = b)
  | [], [] => rfl
  | [], _ :: _ => rfl
  | _ :: _, [] => rfl
  | x :: a, y :: b => by
    show (PyData.eqv (.int x) (.int y) && PyData.eqvAll (a.map PyData.int) (b.map PyData.int)) = _
    rw [eqv_ints a b]
    show ((x == y) && _) = _
    by_cases h : x = y <;> by_cases k : a = b <;> simp [h, k]
theorem st_eqL {a b : List Int} {x y : D} {S : Sto} {K : KE} (ex : top S x = .lst (a.map D.int)) (ey : top S y = .lst (b.map D.int)) (h : K (.bl (decide (a = b))) S) : oEq x y S K := by
  refine .inr ⟨.list (a.map PyData.int), .list (b.map PyData.int), ?_, ?_, ?_, ?_, ?_⟩
  · rw [ex]
    show (pds _).map _ = _
    rw [pd_ints]
    rfl
  · rw [ey]
    show (pds _).map _ = _
    rw [pd_ints]
    rfl
  · exact (Sh.list (n := 0) fun p hp => by
      obtain ⟨i, _, e⟩ := List.mem_map.mp hp
      rw [← e]
      exact .int i 0).shaped (by decide)
  · exact (Sh.list (n := 0) fun p hp => by
      obtain ⟨i, _, e⟩ := List.mem_map.mp hp
      rw [← e]
      exact .int i 0).shaped (by decide)
  · show K (.bl (PyData.eqvAll _ _)) S
    rw [eqv_ints]
    exact h
theorem st_mulS {x y : Int} {S : Sto} {K : KE} (hx : x.natAbs < 2 ^ 250) (hy : y.natAbs < 2 ^ 250) (h : K (.int (x * y)) S) : oMul (.int x) (.int y) S K := by
  have a := lg_lt hx (by decide)
  have b := lg_lt hy (by decide)
  exact st_mul (by omega) h
theorem st_divS {x y : Int} {S : Sto} {K : KE} (l : 0 < y) (hy : y.natAbs < 2 ^ 250) (h : K (.int (x / y)) S) : oDiv (.int x) (.int y) S K := by
  have b := lg_lt hy (by decide)
  exact st_div l (by omega) h
theorem st_gT2 {n : Nat} {ρ : Rho} {S : Sto} {K : Rho → Sto → Prop} {ds : List D} {gs : WGs} (e : ds.length = n) (h : gs ds ρ S K) : gT n gs (.tup ds) ρ S K := ⟨ds, rfl, e, h⟩
theorem st_size {n : Nat} {P : Prop} (h : Nat.ble n sizeLine = true) (k : P) : n ≤ sizeLine ∧ P := ⟨Nat.le_of_ble_eq_true h, k⟩
theorem st_addLL {x y : D} {a b : List D} {S : Sto} {K : KE} (ex : lstOf S x = some a) (ey : lstOf S y = some b) (l : a.length + b.length ≤ sizeLine) (h : K (.lst (a ++ b)) S) : oAdd x y S K := by
  have go : (match lstOf S x, lstOf S y with
    | some ds, some es => ds.length + es.length ≤ sizeLine ∧ K (.lst (ds ++ es)) S
    | _, _ => False) := by
    rw [ex, ey]
    exact ⟨l, h⟩
  cases x <;> first | exact go | (cases ex; done)
theorem ixN_in {n : Nat} {j : Int} (h0 : 0 ≤ j) (h1 : j < n) : ixN n j = some j.toNat := by
  unfold ixN
  rw [if_pos h0, if_pos h1]
theorem st_ixAll {x : D} {ds : List D} {j : Int} {S : Sto} {K : KE} (e : seqOf S x = some ds) (h0 : 0 ≤ j) (h1 : j < (ds.length : Nat)) (h : ∀ d, d ∈ ds → K d S) : oIx x (.int j) S K := by
  have l : j.toNat < ds.length := by omega
  refine st_ix (d := ds[j.toNat]) e ?_ (h _ (List.getElem_mem l))
  unfold atI
  rw [ixN_in h0 h1]
  exact List.getElem?_eq_getElem l
theorem bnd_mul {x y X Y : Int} (hx : 0 ≤ x) (h1 : x ≤ X) (hy : 0 ≤ y) (h2 : y ≤ Y) : 0 ≤ x * y ∧ x * y ≤ X * Y :=
  ⟨Int.mul_nonneg hx hy, Int.mul_le_mul h1 h2 hy (Int.le_trans hx h1)⟩
section
variable {E : EndsG} {ρ : Rho} {S : Sto} {u t : WS} {a b c : WE} {g : WG} {w : WI} {tb : WT} {i j k : Nat} {f : Int → Int → Int}
theorem st_seqSet {na ba ca : Rho → Sto → Prop} {ra : D → Sto → Prop} (h : wSet i a ⟨u ⟨na, ra, ba, ca⟩, ra, ba, ca⟩ ρ S) : wSeq (wSet i a) u ⟨na, ra, ba, ca⟩ ρ S := st_seq h
theorem st_seqAsg {na ba ca : Rho → Sto → Prop} {ra : D → Sto → Prop} (h : wAsg a g ⟨u ⟨na, ra, ba, ca⟩, ra, ba, ca⟩ ρ S) : wSeq (wAsg a g) u ⟨na, ra, ba, ca⟩ ρ S := st_seq h
theorem st_seqDo {na ba ca : Rho → Sto → Prop} {ra : D → Sto → Prop} (h : wDo a ⟨u ⟨na, ra, ba, ca⟩, ra, ba, ca⟩ ρ S) : wSeq (wDo a) u ⟨na, ra, ba, ca⟩ ρ S := st_seq h
theorem st_seqPar {na ba ca : Rho → Sto → Prop} {ra : D → Sto → Prop} (h : wPar i j a b ⟨u ⟨na, ra, ba, ca⟩, ra, ba, ca⟩ ρ S) : wSeq (wPar i j a b) u ⟨na, ra, ba, ca⟩ ρ S := st_seq h
theorem st_seqPar3 {na ba ca : Rho → Sto → Prop} {ra : D → Sto → Prop} (h : wPar3 i j k a b c ⟨u ⟨na, ra, ba, ca⟩, ra, ba, ca⟩ ρ S) : wSeq (wPar3 i j k a b c) u ⟨na, ra, ba, ca⟩ ρ S := st_seq h
theorem st_seqFor {na ba ca : Rho → Sto → Prop} {ra : D → Sto → Prop} (h : wFor w g t ⟨u ⟨na, ra, ba, ca⟩, ra, ba, ca⟩ ρ S) : wSeq (wFor w g t) u ⟨na, ra, ba, ca⟩ ρ S := st_seq h
theorem st_seqWhile {na ba ca : Rho → Sto → Prop} {ra : D → Sto → Prop} (h : wWhile tb t ⟨u ⟨na, ra, ba, ca⟩, ra, ba, ca⟩ ρ S) : wSeq (wWhile tb t) u ⟨na, ra, ba, ca⟩ ρ S := st_seq h
theorem st_seqAug {na ba ca : Rho → Sto → Prop} {ra : D → Sto → Prop} (h : wAug i f a ⟨u ⟨na, ra, ba, ca⟩, ra, ba, ca⟩ ρ S) : wSeq (wAug i f a) u ⟨na, ra, ba, ca⟩ ρ S := st_seq h
theorem st_seqSkip {na ba ca : Rho → Sto → Prop} {ra : D → Sto → Prop} (h : wSkip ⟨u ⟨na, ra, ba, ca⟩, ra, ba, ca⟩ ρ S) : wSeq (wSkip) u ⟨na, ra, ba, ca⟩ ρ S := st_seq h
theorem st_seqRet {na ba ca : Rho → Sto → Prop} {ra : D → Sto → Prop} (h : wRet a ⟨u ⟨na, ra, ba, ca⟩, ra, ba, ca⟩ ρ S) : wSeq (wRet a) u ⟨na, ra, ba, ca⟩ ρ S := st_seq h
end
theorem st_ixM2 {c : Addr} {ds ds' : List D} {k : Int} {j : Nat} {d : D} {ρ : Rho} {S : Sto} {K : Rho → Sto → Prop} (e : S c = some (.lst ds)) (ej : ixN ds.length k = some j) (es : ds.set j d = ds') (h : K ρ (S.set c (.lst ds'))) : ∃ (c' : Addr) (ds' : List D) (k' : Int) (j' : Nat), D.cell c = .cell c' ∧ S c' = some (.lst ds') ∧ D.int k = .int k' ∧ ixN ds'.length k' = some j' ∧ K ρ (S.set c' (.lst (ds'.set j' d))) := st_ixM e ej (es.symm ▸ h)
theorem st_slF {F : PySem.W.Frag} {a : WE} {lo hi : WO} {ρ : Rho} {S : Sto} {K : List D → Sto → Prop} (h : a ρ S fun x S1 => lo ρ S1 fun l S2 => hi ρ S2 fun h S3 => ∃ ds, LstK F S3 x ds ∧ K (cutD ds l h) S3) : wSlF F a lo hi ρ S K := h
theorem st_oNo {ρ : Rho} {S : Sto} {K : Option Int → Sto → Prop} (h : K none S) : wONo ρ S K := h
theorem st_oS {a : WE} {ρ : Rho} {S : Sto} {K : Option Int → Sto → Prop} (h : a ρ S fun x S1 => match x with
  | .int i => K (some i) S1
  | _ => False) : wOSo a ρ S K := h
theorem st_scr {F : PySem.W.Frag} {ns : List Int} {S : Sto} {P : List D → Prop} (h : P (ns.map D.int)) : ∃ ds, LstK F S (.scr F ns) ds ∧ P ds := ⟨_, .inr ⟨ns, rfl, rfl⟩, h⟩
theorem cutD_map {α β : Type} (f : α → β) (xs : List α) (lo hi : Option Int) : cutD (xs.map f) lo hi = (cutD xs lo hi).map f := by
  unfold cutD
  rw [List.length_map, List.map_take, List.map_drop]
theorem st_enum {a : WE} {ρ : Rho} {S : Sto} {K : IT → Sto → Prop} (h : a ρ S fun x S1 => match x with
  | .lst ds => K ⟨ienum 0 ds, fun _ => True⟩ S1
  | .cell c => (match S1 c with
    | some (.lst ds) => K ⟨ienum 0 ds, fun S' => S' c = some (.lst ds)⟩ S1
    | _ => False)
  | _ => False) : wEnum a ρ S K := h
theorem cut_lo {α : Type} (xs : List α) (k : Nat) : cutD xs none (some (k : Int)) = xs.take k := by
  unfold cutD
  rw [HT.sIx_nat, HT.sIx_none, List.drop_zero, Nat.sub_zero]
  by_cases h : k ≤ xs.length
  · rw [Nat.min_eq_left h]
  · rw [Nat.min_eq_right (by omega), List.take_of_length_le (Nat.le_refl _), List.take_of_length_le (by omega)]
theorem cut_lh {α : Type} (xs : List α) (j k : Nat) : cutD xs (some (j : Int)) (some (k : Int)) = (xs.drop j).take (k - j) := by
  unfold cutD
  rw [HT.sIx_nat, HT.sIx_nat]
  by_cases h : j ≤ xs.length
  · rw [Nat.min_eq_left h]
    by_cases h2 : k ≤ xs.length
    · rw [Nat.min_eq_left h2]
    · rw [Nat.min_eq_right (by omega), List.take_of_length_le (by rw [List.length_drop]; exact Nat.le_refl _), List.take_of_length_le (by rw [List.length_drop]; omega)]
  · rw [List.drop_of_length_le (by omega), List.drop_of_length_le (l := xs) (i := j) (by omega), List.take_nil, List.take_nil]
theorem cut_l {α : Type} (xs : List α) (j : Nat) : cutD xs (some (j : Int)) none = xs.drop j := by
  unfold cutD
  rw [HT.sIx_nat, HT.sIx_none]
  by_cases h : j ≤ xs.length
  · rw [Nat.min_eq_left h, List.take_of_length_le (by rw [List.length_drop]; omega)]
  · rw [List.drop_of_length_le (by omega), List.drop_of_length_le (l := xs) (i := j) (by omega), List.take_nil]
end G

set_option Elab.async false
set_option linter.all false
set_option maxRecDepth 100000
set_option autoImplicit false
set_option maxHeartbeats 1000000
namespace G
open PySem PySem.Spec PyProof.Rows L2
open Sem (wp)

/-! ### zip over lists and tuples, strict or not -/
def itH (tp : Bool) (h : Heap) (p a : Addr) (i : Nat) : Prop := match tp with
  | true => h.IsTupleIter p a i
  | false => h.IsListIter p a i
def sqH (tp : Bool) (h : Heap) (a : Addr) (xs : Array Value) : Prop := match tp with
  | true => h.IsTuple a xs
  | false => h.IsList a xs
theorem itH.ext {tp : Bool} {h h' : Heap} {p a c : Addr} {i : Nat} (x : itH tp h p a i) (e : Heap.ExtBut c h h') (n : p ≠ c) : itH tp h' p a i := by
  cases tp
  · exact Heap.IsListIter.extBut x e n
  · exact Heap.IsTupleIter.extBut x e n
theorem sqH.ext {tp : Bool} {h h' : Heap} {a c : Addr} {xs : Array Value} (x : sqH tp h a xs) (e : Heap.ExtBut c h h') (n : a ≠ c) : sqH tp h' a xs := by
  cases tp
  · exact Heap.IsList.extBut x e n
  · exact Heap.IsTuple.extBut x e n
theorem itH.mv {tp : Bool} {h h' : Heap} {p a : Addr} {i : Nat} (x : itH tp h p a i) (e : ∀ o, h.get? p = some o → h'.get? p = some o) : itH tp h' p a i := by
  cases tp
  · exact Heap.IsListIter.at x e
  · exact Heap.IsTupleIter.at x e
theorem itH.obj {tp : Bool} {h : Heap} {p a : Addr} {i : Nat} (x : itH tp h p a i) : ∃ o, h.get? p = some o ∧ ∀ v, o.data ≠ .cell v := by
  cases tp
  · obtain ⟨o, e, _, d⟩ := x
    exact ⟨o, e, fun v q => by rw [d] at q; cases q⟩
  · obtain ⟨o, e, _, d⟩ := x
    exact ⟨o, e, fun v q => by rw [d] at q; cases q⟩
/-- the zip object -/
abbrev zipO (sb : Bool) (h : Heap) (z u o : Addr) (f : Value) : Prop := h.get? z = some { cls := .type "zip", dict := none, data := .fields #[f, .bool false, .bool sb, .ref u, .ref o], slots := #[] }
section
variable {prog : Program} {w : World} {A : Around} {E : Value → Shared → Prop} {s : Shared}
theorem nx_item {tp : Bool} {p a : Addr} {i : Nat} {xs : Array Value} {x : Value} {Q : Value → Shared → Prop} (hp : itH tp s.heap p a i) (ha : sqH tp s.heap a xs) (hx : xs[i]? = some x)
    (q : ∀ h', itH tp h' p a (i + 1) → Heap.SameBut p s.heap h' → Q x { s with heap := h' }) : wpAny (model prog w) A (Builtin.SmallTypes.nextOf (.ref p)) Q E s := by
  cases tp
  · exact wpAny_nextOf_list_item hp ha hx q
  · exact RZ.nextOf_tuple_item hp ha hx q
def stopAt (h : Heap) (e : Addr) : Prop := ∃ o, h.get? e = some o ∧ o.cls = .type "StopIteration"
theorem nx_end {tp : Bool} {p a : Addr} {i : Nat} {xs : Array Value} {Q : Value → Shared → Prop} (hh : A.handled = none) (hp : itH tp s.heap p a i) (ha : sqH tp s.heap a xs) (hx : xs[i]? = none)
    (q : ∀ h' e, Heap.ExtBut p s.heap h' → stopAt h' e → E (.ref e) { s with heap := h' }) : wpAny (model prog w) A (Builtin.SmallTypes.nextOf (.ref p)) Q E s := by
  cases tp
  · exact wpAny_nextOf_list_end hh hp ha hx q
  · exact RZ.nextOf_tuple_end hh hp ha hx q
/-- one draw -/
def drawZ (sb : Bool) (p : Addr) : Sem (Option Value) := match sb with
  | true => Builtin.SmallTypes.nextOrEnd (.ref p)
  | false => do return some (← Builtin.SmallTypes.nextOf (.ref p))
theorem dr_conv {sb : Bool} {p : Addr} {m : Sem (Option Value)} {Q : Option Value → Shared → Prop} (e : m = drawZ sb p) (h : wpAny (model prog w) A (drawZ sb p) Q E s) : wpAny (model prog w) A m Q E s := e ▸ h
theorem dr_item {sb tp : Bool} {p a : Addr} {i : Nat} {xs : Array Value} {x : Value} {Q : Option Value → Shared → Prop} (hp : itH tp s.heap p a i) (ha : sqH tp s.heap a xs) (hx : xs[i]? = some x)
    (q : ∀ h', itH tp h' p a (i + 1) → Heap.SameBut p s.heap h' → Q (some x) { s with heap := h' }) : wpAny (model prog w) A (drawZ sb p) Q E s := by
  cases sb
  · exact wpAny_bind (nx_item hp ha hx fun h' b c => wpAny_pure (q h' b c))
  · exact wpAny_bind (wpAny_attempt (nx_item hp ha hx fun h' b c => wpAny_pure (q h' b c)))
theorem dr_stop {tp : Bool} {p a : Addr} {i : Nat} {xs : Array Value} {Q : Option Value → Shared → Prop} (hh : A.handled = none) (hp : itH tp s.heap p a i) (ha : sqH tp s.heap a xs) (hx : xs[i]? = none)
    (q : ∀ h', Heap.ExtBut p s.heap h' → Q none { s with heap := h' }) : wpAny (model prog w) A (drawZ true p) Q E s :=
  wpAny_bind (wpAny_attempt (nx_end hh hp ha hx fun h' e b ⟨o, ho, hc⟩ => wpAny_bind (wpAny_isInstance (T := "StopIteration") (b := true) ⟨o, ho, hc⟩ isSubtype_stop (wpAny_pure (q h' b)))))
theorem stop_raise {Q : Fin → Shared → Prop} (hh : A.handled = none) (q : ∀ h' e, (∀ c m, s.heap.get? c = some m → h'.get? c = some m) → stopAt h' e → E (.ref e) { s with heap := h' }) :
    wpAny (model prog w) A Builtin.SmallTypes.stopIteration Q E s := by
  show wpAny _ _ (newExc (.type "StopIteration") [] >>= _) _ _ _
  refine wpAny_bind (?_ : wpAny _ _ (newExc (.type "StopIteration") []) _ _ _)
  simp only [newExc, newTuple]
  refine wpAny_bind (wpAny_newObj_type (wpAny_bind (m := firstArgMember _ _) (wpAny_of_eq (a := Value.none) (by first | rfl | (simp only [firstArgMember]; rfl)) (wpAny_newObj_type ?_ (by size_fits)))) (by size_fits))
  simp only [raiseNew]
  refine wpAny_bind (wpAny_handled ?_)
  rw [hh]
  refine wpAny_bind (wpAny_pure (wpAny_throw (q _ _ (fun c m e => Heap.get?_push_of_some _ (Heap.get?_push_of_some _ e)) ⟨_, Heap.get?_push_size _ rfl, rfl⟩)))
theorem zip_item {sb t1 t2 : Bool} {z u o i j a b : Addr} {k1 k2 : Nat} {xs ys : Array Value} {x y v1 v2 : Value} {Q : Value → Shared → Prop} (D : ZipApart z u o i j a b)
    (gz : zipO sb s.heap z u o .none) (gu : IsPair s.heap u (.ref i) (.ref j)) (go : IsPair s.heap o v1 v2)
    (gi : itH t1 s.heap i a k1) (gj : itH t2 s.heap j b k2) (ga : sqH t1 s.heap a xs) (gb : sqH t2 s.heap b ys) (ex : xs[k1]? = some x) (ey : ys[k2]? = some y)
    (q : ∀ h', zipO sb h' z u o (rawInt s.heap.objs.size) → IsPair h' o x y → itH t1 h' i a (k1 + 1) → itH t2 h' j b (k2 + 1) → IsPair h' s.heap.objs.size x y → h'.objs.size = s.heap.objs.size + 1 →
      (∀ c m, c ≠ z → c ≠ o → c ≠ i → c ≠ j → s.heap.get? c = some m → h'.get? c = some m) → Q (.ref s.heap.objs.size) { s with heap := h' }) :
    wpAny (model prog w) A (Builtin.«zip.__next__» ⟨[.ref z], []⟩) (fun f s' => ∃ v, f = .done (.ret v) ∧ Q v s') E s := by
  show wpAny _ _ (field (.ref z) 2 >>= _) _ _ _
  refine wpAny_bind (wpAny_field gz rfl (x := .bool sb) rfl ?_)
  refine wpAny_bind (wpAny_field gz rfl (x := .ref u) rfl (wpAny_bind (wpAny_seqItems gu rfl ?_)))
  show wpAny _ _ (Builtin.SmallTypes.ownedTupleIsFree (.ref z) >>= _) _ _ _
  refine wpAny_bind (?_ : wpAny _ _ (Builtin.SmallTypes.ownedTupleIsFree (.ref z)) _ _ _)
  unfold Builtin.SmallTypes.ownedTupleIsFree
  refine wpAny_bind (wpAny_field gz rfl (x := .none) rfl (wpAny_pure ?_))
  simp only [if_true]
  refine wpAny_bind (wpAny_rule (wpAny_bind (wpAny_field gz rfl (x := .ref o) rfl (wpAny_bind (wpAny_setField_rec gz (by simp) fun m1 gz1 s1 => ?_)))))
  replace gz1 : zipO sb m1 z u o .ellipsis := gz1
  refine wpAny_bind (?_ : wpAny _ _ (forIn _ _ _) _ _ _)
  simp only [List.zipIdx_cons, List.zipIdx_nil, List.forIn_cons, List.forIn_nil]
  refine wpAny_bind (wpAny_bind (wpAny_onRaise (dr_conv (sb := sb) (p := i) (by cases sb <;> rfl) (dr_item (gi.ext s1.extBut D.i1z) (ga.ext s1.extBut D.l1z) ex fun m2 gi2 s2 => ?_))))
  have go2 : IsPair m2 o v1 v2 := s2.extBut _ _ D.TOi1 (s1.extBut _ _ D.TOz go)
  refine wpAny_bind (wpAny_seqItems go2 rfl (wpAny_bind (wpAny_updateSeq_pair go2 fun m3 go3 s3 => wpAny_bind (wpAny_letGo (wpAny_pure ?_)))))
  replace go3 : IsPair m3 o x v2 := go3
  have gj3 := ((gj.ext s1.extBut D.i2z).ext s2.extBut D.i12.symm).ext s3.extBut D.TOi2.symm
  have gb3 := ((gb.ext s1.extBut D.l2z).ext s2.extBut D.l2i1).ext s3.extBut D.l2TO
  refine wpAny_bind (wpAny_bind (wpAny_onRaise (dr_conv (sb := sb) (p := j) (by cases sb <;> rfl) (dr_item gj3 gb3 ey fun m4 gj4 s4 => ?_))))
  have go4 : IsPair m4 o x v2 := s4.extBut _ _ D.TOi2 go3
  refine wpAny_bind (wpAny_seqItems go4 rfl (wpAny_bind (wpAny_updateSeq_pair go4 fun m5 go5 s5 => wpAny_bind (wpAny_letGo (wpAny_pure (wpAny_pure ?_))))))
  replace go5 : IsPair m5 o x y := go5
  refine wpAny_bind (wpAny_seqItems go5 rfl (wpAny_bind (wpAny_newTuple ?_)))
  have sz : m5.objs.size = s.heap.objs.size := by rw [s5.1, s4.1, s3.1, s2.1, s1.1]
  have gz5 : zipO sb m5 z u o .ellipsis := s5.extBut _ _ D.TOz.symm (s4.extBut _ _ D.i2z.symm (s3.extBut _ _ D.TOz.symm (s2.extBut _ _ D.i1z.symm gz1)))
  have kp : ∀ c m, c ≠ z → c ≠ o → c ≠ i → c ≠ j → s.heap.get? c = some m → m5.get? c = some m := fun c m n1 n2 n3 n4 e =>
    s5.extBut _ _ n2 (s4.extBut _ _ n4 (s3.extBut _ _ n2 (s2.extBut _ _ n3 (s1.extBut _ _ n1 e))))
  have gi5 : itH t1 m5 i a (k1 + 1) := ((gi2.ext s3.extBut D.TOi1.symm).ext s4.extBut D.i12).ext s5.extBut D.TOi1.symm
  have gj5 : itH t2 m5 j b (k2 + 1) := gj4.ext s5.extBut D.TOi2.symm
  have lz : z < m5.objs.size := Heap.lt_size gz5
  show wpAny _ _ (Builtin.SmallTypes.ownedTupleHandOut (.ref z) (.ref m5.objs.size) >>= _) _ _ _
  refine wpAny_bind (?_ : wpAny _ _ (Builtin.SmallTypes.ownedTupleHandOut (.ref z) (.ref m5.objs.size)) _ _ _)
  unfold Builtin.SmallTypes.ownedTupleHandOut
  have gz6 : zipO sb (m5.push { cls := .type "tuple", data := .seq #[x, y] }) z u o .ellipsis := Heap.get?_push_of_some _ gz5
  refine wpAny_bind (wpAny_setField_rec gz6 (by simp) fun m7 gz7 s7 => wpAny_setField_rec gz7 (by simp) fun m8 gz8 s8 => ?_)
  replace gz8 : zipO sb m8 z u o (rawInt m5.objs.size) := gz8
  have up : ∀ c m, c ≠ z → m5.get? c = some m → m8.get? c = some m := fun c m n e => s8.extBut _ _ n (s7.extBut _ _ n (Heap.get?_push_of_some _ e))
  have gt8 : IsPair m8 m5.objs.size x y := s8.extBut _ _ (Nat.ne_of_gt lz) (s7.extBut _ _ (Nat.ne_of_gt lz) (Heap.get?_push_size _ rfl))
  have sz8 : m8.objs.size = m5.objs.size + 1 := by rw [s8.1, s7.1, Heap.size_push]
  rw [sz] at gz8 gt8 sz8
  refine wpAny_pure ⟨_, rfl, ?_⟩
  show Q (.ref m5.objs.size) _
  rw [sz]
  exact q m8 gz8 (up _ _ D.TOz go5) (gi5.mv fun m e => up _ m D.i1z e) (gj5.mv fun m e => up _ m D.i2z e) gt8 sz8 fun c m n1 n2 n3 n4 e => up c m n1 (kp c m n1 n2 n3 n4 e)
/-- the end: strict ones end both at once -/
theorem zip_end {sb t1 t2 : Bool} {z u o i j a b : Addr} {k : Nat} {xs ys : Array Value} {v1 v2 : Value} {Q : Fin → Shared → Prop} (hh : A.handled = none) (D : ZipApart z u o i j a b)
    (gz : zipO sb s.heap z u o .none) (gu : IsPair s.heap u (.ref i) (.ref j)) (go : IsPair s.heap o v1 v2)
    (gi : itH t1 s.heap i a k) (gj : itH t2 s.heap j b k) (ga : sqH t1 s.heap a xs) (gb : sqH t2 s.heap b ys) (ex : xs[k]? = none ∨ ys[k]? = none) (st : sb = true → xs[k]? = none ∧ ys[k]? = none)
    (q : ∀ h' e, (∀ c m, c ≠ z → c ≠ o → c ≠ i → c ≠ j → s.heap.get? c = some m → h'.get? c = some m) → stopAt h' e → E (.ref e) { s with heap := h' }) :
    wpAny (model prog w) A (Builtin.«zip.__next__» ⟨[.ref z], []⟩) Q E s := by
  show wpAny _ _ (field (.ref z) 2 >>= _) _ _ _
  refine wpAny_bind (wpAny_field gz rfl (x := .bool sb) rfl ?_)
  refine wpAny_bind (wpAny_field gz rfl (x := .ref u) rfl (wpAny_bind (wpAny_seqItems gu rfl ?_)))
  show wpAny _ _ (Builtin.SmallTypes.ownedTupleIsFree (.ref z) >>= _) _ _ _
  refine wpAny_bind (?_ : wpAny _ _ (Builtin.SmallTypes.ownedTupleIsFree (.ref z)) _ _ _)
  unfold Builtin.SmallTypes.ownedTupleIsFree
  refine wpAny_bind (wpAny_field gz rfl (x := .none) rfl (wpAny_pure ?_))
  simp only [if_true]
  refine wpAny_bind (wpAny_rule (wpAny_bind (wpAny_field gz rfl (x := .ref o) rfl (wpAny_bind (wpAny_setField_rec gz (by simp) fun m1 gz1 s1 => ?_)))))
  replace gz1 : zipO sb m1 z u o .ellipsis := gz1
  refine wpAny_bind (?_ : wpAny _ _ (forIn _ _ _) _ _ _)
  simp only [List.zipIdx_cons, List.zipIdx_nil, List.forIn_cons, List.forIn_nil]
  have gi1 := gi.ext s1.extBut D.i1z
  have ga1 := ga.ext s1.extBut D.l1z
  have gj1 := gj.ext s1.extBut D.i2z
  have gb1 := gb.ext s1.extBut D.l2z
  cases sb with
  | true =>
    obtain ⟨e1, e2⟩ := st rfl
    refine wpAny_bind (wpAny_bind (wpAny_onRaise (dr_conv (sb := true) (p := i) rfl (dr_stop hh gi1 ga1 e1 fun m2 s2 => ?_))))
    have gz2 : zipO true m2 z u o .ellipsis := s2 _ _ D.i1z.symm gz1
    refine wpAny_bind (wpAny_setField_rec gz2 (by simp) fun m3 gz3 s3 => wpAny_bind ?_)
    have gj3 := (gj1.ext s2 D.i12.symm).ext s3.extBut D.i2z
    have gb3 := (gb1.ext s2 D.l2i1).ext s3.extBut D.l2z
    show wpAny _ _ (_ >>= _) _ _ _
    refine wpAny_bind (?_ : wpAny _ _ (forIn _ _ _) _ _ _)
    simp only [List.drop_succ_cons, List.drop_zero, List.zipIdx_cons, List.zipIdx_nil, List.forIn_cons, List.forIn_nil]
    refine wpAny_bind (wpAny_bind (dr_stop hh gj3 gb3 e2 fun m4 s4 => ?_))
    rw [if_neg (by simp)]
    refine wpAny_pure (wpAny_pure (wpAny_bind (wpAny_rule (stop_raise hh fun m5 e k5 se => q _ _ (fun c m n1 n2 n3 n4 x => k5 _ _ (s4 _ _ n4 (s3.extBut _ _ n1 (s2 _ _ n3 (s1.extBut _ _ n1 x))))) se))))
  | false =>
    refine wpAny_bind (wpAny_bind (wpAny_onRaise ?_))
    show wpAny _ _ (Builtin.SmallTypes.nextOf (.ref i) >>= _) _ _ _
    cases hx : xs[k]? with
    | none =>
      refine wpAny_bind (nx_end hh gi1 ga1 hx fun m2 e s2 ⟨oe, ho, hc⟩ => ?_)
      have gz2 : zipO false m2 z u o .ellipsis := s2 _ _ D.i1z.symm gz1
      have ne : e ≠ z := fun t => by subst t; rw [gz2] at ho; cases ho; simp at hc
      exact wpAny_setField_rec gz2 (by simp) fun m3 _ s3 => q m3 e (fun c m n1 n2 n3 n4 x => s3.extBut _ _ n1 (s2 _ _ n3 (s1.extBut _ _ n1 x))) ⟨oe, s3.extBut _ _ ne ho, hc⟩
    | some x =>
      have hy : ys[k]? = none := ex.elim (fun t => by rw [hx] at t; cases t) id
      refine wpAny_bind (nx_item gi1 ga1 hx fun m2 gi2 s2 => wpAny_pure ?_)
      have go2 : IsPair m2 o v1 v2 := s2.extBut _ _ D.TOi1 (s1.extBut _ _ D.TOz go)
      refine wpAny_bind (wpAny_seqItems go2 rfl (wpAny_bind (wpAny_updateSeq_pair go2 fun m3 go3 s3 => wpAny_bind (wpAny_letGo (wpAny_pure ?_)))))
      have gj3 := (gj1.ext s2.extBut D.i12.symm).ext s3.extBut D.TOi2.symm
      have gb3 := (gb1.ext s2.extBut D.l2i1).ext s3.extBut D.l2TO
      refine wpAny_bind (wpAny_bind (wpAny_onRaise ?_))
      show wpAny _ _ (Builtin.SmallTypes.nextOf (.ref j) >>= _) _ _ _
      refine wpAny_bind (nx_end hh gj3 gb3 hy fun m4 e s4 ⟨oe, ho, hc⟩ => ?_)
      have gz4 : zipO false m4 z u o .ellipsis := s4 _ _ D.i2z.symm (s3.extBut _ _ D.TOz.symm (s2.extBut _ _ D.i1z.symm gz1))
      have ne : e ≠ z := fun t => by subst t; rw [gz4] at ho; cases ho; simp at hc
      exact wpAny_setField_rec gz4 (by simp) fun m5 _ s5 => q m5 e (fun c m n1 n2 n3 n4 x => s5.extBut _ _ n1 (s4 _ _ n4 (s3.extBut _ _ n2 (s2.extBut _ _ n3 (s1.extBut _ _ n1 x))))) ⟨oe, s5.extBut _ _ ne ho, hc⟩
theorem pyn_item {sb t1 t2 : Bool} {z u o i j a b : Addr} {k : Nat} {xs ys : Array Value} {x y v1 v2 : Value} {Q : Option Value → Shared → Prop} (D : ZipApart z u o i j a b)
    (gz : zipO sb s.heap z u o .none) (gu : IsPair s.heap u (.ref i) (.ref j)) (go : IsPair s.heap o v1 v2)
    (gi : itH t1 s.heap i a k) (gj : itH t2 s.heap j b k) (ga : sqH t1 s.heap a xs) (gb : sqH t2 s.heap b ys) (ex : xs[k]? = some x) (ey : ys[k]? = some y)
    (q : ∀ h', zipO sb h' z u o (rawInt s.heap.objs.size) → IsPair h' o x y → itH t1 h' i a (k + 1) → itH t2 h' j b (k + 1) → IsPair h' s.heap.objs.size x y → h'.objs.size = s.heap.objs.size + 1 →
      (∀ c m, c ≠ z → c ≠ o → c ≠ i → c ≠ j → s.heap.get? c = some m → h'.get? c = some m) → Q (some (.ref s.heap.objs.size)) { s with heap := h' }) :
    wpAny (model prog w) A (pyNext (.ref z)) Q E s := by
  have ty : s.TypeIs (.ref z) "zip" := ⟨_, gz, rfl⟩
  unfold pyNext
  refine wpAny_bind (wpAny_attempt (wpAny_callSpecial?_slot (name := Str.ofString "__next__") ty F.slot_zip_next (wpAny_call_entry F.slot_zip_next ty F.entry_zip_next ?_ (F.args_zip_next_1 _))))
  exact zip_item D gz gu go gi gj ga gb ex ey fun h' c1 c2 c3 c4 c5 c6 c7 => wpAny_pure (q h' c1 c2 c3 c4 c5 c6 c7)
theorem pyn_end {sb t1 t2 : Bool} {z u o i j a b : Addr} {k : Nat} {xs ys : Array Value} {v1 v2 : Value} {Q : Option Value → Shared → Prop} (hh : A.handled = none) (D : ZipApart z u o i j a b)
    (gz : zipO sb s.heap z u o .none) (gu : IsPair s.heap u (.ref i) (.ref j)) (go : IsPair s.heap o v1 v2)
    (gi : itH t1 s.heap i a k) (gj : itH t2 s.heap j b k) (ga : sqH t1 s.heap a xs) (gb : sqH t2 s.heap b ys) (ex : xs[k]? = none ∨ ys[k]? = none) (st : sb = true → xs[k]? = none ∧ ys[k]? = none)
    (q : ∀ h', (∀ c m, c ≠ z → c ≠ o → c ≠ i → c ≠ j → s.heap.get? c = some m → h'.get? c = some m) → Q none { s with heap := h' }) : wpAny (model prog w) A (pyNext (.ref z)) Q E s := by
  have ty : s.TypeIs (.ref z) "zip" := ⟨_, gz, rfl⟩
  unfold pyNext
  refine wpAny_bind (wpAny_attempt (wpAny_callSpecial?_slot (name := Str.ofString "__next__") ty F.slot_zip_next (wpAny_call_entry F.slot_zip_next ty F.entry_zip_next ?_ (F.args_zip_next_1 _))))
  refine zip_end hh D gz gu go gi gj ga gb ex st fun h' e kk ⟨m, hm, hc⟩ => ?_
  exact wpAny_bind (wpAny_isInstance (T := "StopIteration") (b := true) ⟨m, hm, hc⟩ isSubtype_stop (wpAny_pure (q _ kk)))
theorem letgo_zip {sb : Bool} {elts : List Expr} {n : Nat} {pos : Pos} {z u o T : Addr} {Q : Unit → Shared → Prop} (gz : zipO sb s.heap z u o (rawInt T))
    (q : ∀ h', zipO sb h' z u o .none → Heap.SameBut z s.heap h' → Q () { s with heap := h' }) : wpAny (model prog w) A (letOwnedTupleGo (.Tuple elts n pos) (.ref z) (.ref T)) Q E s := by
  unfold letOwnedTupleGo
  refine wpAny_bind (wpAny_load gz ?_)
  show wpAny _ _ (if (["enumerate", "zip", "dict_itemiterator", "dict_reverseitemiterator", "odict_iterator", "itertools.zip_longest", "itertools.pairwise"].contains "zip" &&
      (#[rawInt T, .bool false, .bool sb, .ref u, .ref o] : Array Value)[0]? == some (rawInt T)) = true then _ else _) Q E s
  rw [if_pos (by simp)]
  refine wpAny_bind (wpAny_rule ?_)
  show wpAny _ _ (setField (.ref z) 0 .none) _ _ _
  exact wpAny_setField_rec gz (by simp) fun h' gz' s' => q h' gz' s'
theorem pyit_zip {sb : Bool} {z u o : Addr} {f : Value} {Q : Value → Shared → Prop} (gz : zipO sb s.heap z u o f) (h : Q (.ref z) s) : wpAny (model prog w) A (pyIter (.ref z)) Q E s := by
  have ty : s.TypeIs (.ref z) "zip" := ⟨_, gz, rfl⟩
  refine wpAny_pyIter_slot ty F.slot_zip_iter (wpAny_call_entry F.slot_zip_iter ty F.entry_zip_iter ?_ (F.args_zip_iter_1 _))
  show wpAny _ _ (ret (.ref z)) _ _ s
  exact wpAny_pure ⟨_, rfl, "zip", _, ty, F.slot_zip_next.lookup, h⟩
end

/-! ### as an iterator -/
def srcV (tp : Bool) (K : PySem.W.Frag) (H : Hp) (a : Addr) (xs : List V) : Prop := match tp with
  | true => SqT K H a xs
  | false => SqL K H a xs
theorem srcV.get {X : Cx} {pins : List (Addr × Obj)} {σ : L2.St} {H : Hp} {s : Shared} {tp : Bool} {a : Addr} {xs : List V} (I : Inv X pins σ H s) (h : srcV tp X.K H a xs) : ∃ its : List Value, Vals xs its ∧ sqH tp s.heap a its.toArray := by
  cases tp
  · obtain ⟨its, rv, p, _⟩ := I.list h
    exact ⟨its, rv, p.isList⟩
  · obtain ⟨its, rv, p, _⟩ := I.tuple h
    exact ⟨its, rv, show s.heap.IsTuple a its.toArray from p⟩
theorem srcV.inj {X : Cx} {pins : List (Addr × Obj)} {σ : L2.St} {H : Hp} {s : Shared} {tp : Bool} {a : Addr} {xs ys : List V} (I : Inv X pins σ H s) (h : srcV tp X.K H a xs) (k : srcV tp X.K H a ys) : xs = ys := by
  cases tp
  · exact I.list_inj h k
  · exact I.tuple_inj h k
/-- pairs in step, as the sources stand at each turn -/
def ItZ (sb t1 t2 : Bool) (K : PySem.W.Frag) (a b : Addr) : It :=
  ⟨fun i H => ∃ (xs ys : List V) (x y : V), srcV t1 K H a xs ∧ srcV t2 K H b ys ∧ xs[i]? = some x ∧ ys[i]? = some y,
    fun i H v H' => ∃ T x y, v = .ref T ∧ H T = none ∧ H' = upd H T (.tup [x, y]) ∧ (∀ xs, srcV t1 K H a xs → xs[i]? = some x) ∧ ∀ ys, srcV t2 K H b ys → ys[i]? = some y,
    fun i H => ∃ xs ys : List V, srcV t1 K H a xs ∧ srcV t2 K H b ys ∧ (xs.length ≤ i ∨ ys.length ≤ i) ∧ (sb = true → xs.length ≤ i ∧ ys.length ≤ i)⟩
theorem turnZ {sb t1 t2 : Bool} {P : Program} {w : World} {K : PySem.W.Frag} {elts : List Expr} {n : Nat} {tp : Pos} {a b z u o p q : Addr} (D : ZipApart z u o p q a b) :
    Turn P w K (.Tuple elts n tp) (ItZ sb t1 t2 K a b) [z, u, o, p, q] z (fun i h => zipO sb h z u o .none ∧ IsPair h u (.ref p) (.ref q) ∧ (∃ x y, IsPair h o x y) ∧ itH t1 h p a i ∧ itH t2 h q b i) where
  mem := by simp
  obj := fun i h st c hc => by
    obtain ⟨gz, gu, ⟨x, y, go⟩, gp, gq⟩ := st
    have e : c = z ∨ c = u ∨ c = o ∨ c = p ∨ c = q := by simpa using hc
    rcases e with e | e | e | e | e
    · rw [e]; exact ⟨_, gz, fun v k => (nomatch k)⟩
    · rw [e]; exact ⟨_, gu, fun v k => (nomatch k)⟩
    · rw [e]; exact ⟨_, go, fun v k => (nomatch k)⟩
    · rw [e]; exact gp.obj
    · rw [e]; exact gq.obj
  keep := fun i h h' st k => by
    obtain ⟨gz, gu, ⟨x, y, go⟩, gp, gq⟩ := st
    exact ⟨k z (by simp) _ gz, k u (by simp) _ gu, ⟨x, y, k o (by simp) _ go⟩, gp.mv fun m e => k p (by simp) m e, gq.mv fun m e => k q (by simp) m e⟩
  item := by
    intro X hP hw hK hc i pins s σ H E I hf st hg
    subst hP hw hK
    obtain ⟨gz, gu, ⟨x0, y0, go⟩, gp, gq⟩ := st
    obtain ⟨xs, ys, x, y, sx, sy, ex, ey⟩ := hg
    obtain ⟨as, rv, ga⟩ := sx.get I
    obtain ⟨bs, rw', gb⟩ := sy.get I
    obtain ⟨v1, ev1, r1⟩ := rv.get ex
    obtain ⟨v2, ev2, r2⟩ := rw'.get ey
    have lz : z < s.heap.objs.size := Heap.lt_size gz
    refine pyn_item D gz gu go gp gq ga gb (x := v1) (y := v2) (by simpa using ev1) (by simpa using ev2) fun m1 gz1 go1 gp1 gq1 gt1 sz1 kp1 => ?_
    refine ⟨_, rfl, letgo_zip (s := { s with heap := m1 }) gz1 fun m2 gz2 s2 => ?_⟩
    have gt2 : m2.get? s.heap.objs.size = some { cls := .type "tuple", data := .seq #[v1, v2] } := (s2.2 _ (Nat.ne_of_gt lz)).trans gt1
    have ok : ObjOk X.prog X.w (upd H s.heap.objs.size (.tup [x, y])) m2 s.heap.objs.size (.tup [x, y]) := ⟨by show 2 ≤ sizeLine; decide, [v1, v2], .cons r1 (.cons r2 .nil), ⟨_, gt2, rfl, _, rfl⟩⟩
    have I1 : Inv X pins σ (upd H s.heap.objs.size (.tup [x, y])) { s with heap := m2 } :=
      I.turnedNew (t' := s.toks) (ch := [z, u, o, p, q]) (fun c m n e => (s2.2 c (fun t => n (by simp [t]))).trans (kp1 c m (fun t => n (by simp [t])) (fun t => n (by simp [t])) (fun t => n (by simp [t])) (fun t => n (by simp [t])) e)) hf (Nat.le_refl _) ok
    refine ⟨.ref s.heap.objs.size, _, I1, rfl, ⟨_, x, y, rfl, I.hok.fresh (Nat.le_refl _), rfl, fun l hl => by rw [hl.inj I sx]; exact ex, fun l hl => by rw [hl.inj I sy]; exact ey⟩, ⟨gz2, ?_, ⟨v1, v2, ?_⟩, ?_, ?_⟩, fun c hcm => ?_⟩
    · exact (s2.2 _ D.TIz).trans (kp1 _ _ D.TIz D.TITO D.TIi1 D.TIi2 gu)
    · exact (s2.2 _ D.TOz).trans go1
    · exact gp1.mv fun m e => (s2.2 _ D.i1z).trans e
    · exact gq1.mv fun m e => (s2.2 _ D.i2z).trans e
    · have lt : c < s.heap.objs.size := by
        have e : c = z ∨ c = u ∨ c = o ∨ c = p ∨ c = q := by simpa using hcm
        rcases e with e | e | e | e | e
        · rw [e]; exact lz
        · rw [e]; exact Heap.lt_size gu
        · rw [e]; exact Heap.lt_size go
        · rw [e]; obtain ⟨_, e1, _⟩ := gp.obj; exact Heap.lt_size e1
        · rw [e]; obtain ⟨_, e1, _⟩ := gq.obj; exact Heap.lt_size e1
      rw [upd_ne (Nat.ne_of_lt lt)]
      exact (hf c hcm).1
  done := by
    intro X hP hw hK hc i pins s σ H E I hf st hg
    subst hP hw hK
    obtain ⟨gz, gu, ⟨x0, y0, go⟩, gp, gq⟩ := st
    obtain ⟨xs, ys, sx, sy, he, hs⟩ := hg
    obtain ⟨as, rv, ga⟩ := sx.get I
    obtain ⟨bs, rw', gb⟩ := sy.get I
    have l1 := rv.length
    have l2 := rw'.length
    have n1 : xs.length ≤ i → as.toArray[i]? = none := fun t => by simp; omega
    have n2 : ys.length ≤ i → bs.toArray[i]? = none := fun t => by simp; omega
    exact pyn_end (I.ok.hd hc) D gz gu go gp gq ga gb (he.elim (fun t => .inl (n1 t)) fun t => .inr (n2 t)) (fun t => ⟨n1 (hs t).1, n2 (hs t).2⟩) fun m1 kp => ⟨rfl, I.turnedL (t' := s.toks) (ch := [z, u, o, p, q]) (fun c m n e =>
      kp c m (fun t => n (by simp [t])) (fun t => n (by simp [t])) (fun t => n (by simp [t])) (fun t => n (by simp [t])) e) hf⟩
  self := fun A i s Q E st h => pyit_zip st.1 h
end G

set_option Elab.async false
set_option linter.all false
set_option maxRecDepth 100000
set_option autoImplicit false
set_option maxHeartbeats 1000000
namespace G
open PySem PySem.Spec PyProof.Rows L2
open Sem (wp)
def kwZ : Option Bool → List (Str × Value)
  | none => []
  | some b => [("strict", .bool b)]
def stZ : Option Bool → Bool
  | some true => true
  | _ => false
theorem zipT_ok (o : Option Bool) (a b : Value) : checkTypeCall "zip" ⟨[a, b], kwZ o⟩ = pure () := by
  rcases o with _ | _ | _ <;> kernel_rfl
theorem zipN_ok (o : Option Bool) (a b : Value) : checkBuiltinCall "zip.__new__" ⟨[.type "zip", a, b], kwZ o⟩ = pure () := by
  rcases o with _ | _ | _ <;> kernel_rfl
theorem zipI_ok (o : Option Bool) (a b c : Value) : argsOk "object.__init__" ⟨[a, b, c], kwZ o⟩ := by
  unfold argsOk
  rw [signature?_of (id := "object.__init__") (n := ['_', '_', 't', 'i', 'n', 'i', '_', '_']) (o := ['t', 'c', 'e', 'j', 'b', 'o']) (by kernel_rfl) F.owner_object]
  rcases o with _ | _ | _ <;> kernel_rfl
section
variable {prog : Program} {w : World} {A : Around} {E : Value → Shared → Prop} {s : Shared}
def itC : Bool → Value
  | true => .type "tuple_iterator"
  | false => .type "list_iterator"
def itO (tp : Bool) (a : Addr) : Obj := { cls := itC tp, data := .fields #[.ref a, .int 0 0] }
theorem src_iter {tp : Bool} {a : Addr} {xs : Array Value} {Q : Value → Shared → Prop} (h : sqH tp s.heap a xs) (q : Q (.ref s.heap.objs.size) { s with heap := s.heap.push (itO tp a) }) : wpAny (model prog w) A (pyIter (.ref a)) Q E s := by
  cases tp
  · exact wpAny_pyIter_list h q
  · exact wpAny_pyIter_tuple h q
theorem sqH.push {tp : Bool} {h : Heap} {a : Addr} {xs : Array Value} (x : sqH tp h a xs) (o : Obj) : sqH tp (h.push o) a xs := by
  cases tp
  · exact Heap.IsList.push x _
  · exact Heap.IsTuple.push x _
abbrev hz1 (t1 : Bool) (h : Heap) (a : Addr) : Heap := h.push (itO t1 a)
abbrev hz2 (t1 t2 : Bool) (h : Heap) (a b : Addr) : Heap := (hz1 t1 h a).push (itO t2 b)
abbrev hz3 (t1 t2 : Bool) (h : Heap) (a b : Addr) : Heap := (hz2 t1 t2 h a b).push { cls := .type "tuple", data := .seq #[.ref h.objs.size, .ref (hz1 t1 h a).objs.size] }
abbrev hz4 (t1 t2 : Bool) (h : Heap) (a b : Addr) : Heap := (hz3 t1 t2 h a b).push { cls := .type "tuple", data := .seq #[.none, .none] }
abbrev hz5 (sb t1 t2 : Bool) (h : Heap) (a b : Addr) : Heap := (hz4 t1 t2 h a b).push { cls := .type "zip", data := .fields #[.none, .bool false, .bool sb, .ref (hz2 t1 t2 h a b).objs.size, .ref (hz3 t1 t2 h a b).objs.size] }
theorem zip_new (o : Option Bool) {t1 t2 : Bool} {a b : Addr} {xs ys : Array Value} :
    Meets (Builtin.«zip.__new__» ⟨[.type "zip", .ref a, .ref b], kwZ o⟩) (fun _ R s => sqH t1 s.heap a xs ∧ sqH t2 s.heap b ys ∧ R (.ok (.ret (.ref (hz4 t1 t2 s.heap a b).objs.size))) { s with heap := hz5 (stZ o) t1 t2 s.heap a b }) :=
  .of_wp fun prog w A R s h => by
    obtain ⟨m, g, d, tk, os⟩ := s
    obtain ⟨ga, gb, h⟩ := h
    have sub := sub_zip
    have gA : sqH t1 (Shared.heap ⟨m, g, d, tk, os⟩) a xs := ga
    have gB : sqH t2 (Shared.heap ⟨m.push (itO t1 a), g, d, tk, os⟩) b ys := gb.push _
    rcases o with _ | _ | _
    · wp_walk using src_iter gA, src_iter gB
      exact ⟨_, rfl, h⟩
    · wp_walk using src_iter gA, src_iter gB
      exact ⟨_, rfl, h⟩
    · wp_walk using src_iter gA, src_iter gB
      exact ⟨_, rfl, h⟩
end
end G

set_option Elab.async false
set_option linter.all false
set_option maxRecDepth 100000
set_option autoImplicit false
set_option maxHeartbeats 1000000
namespace G
open PySem PySem.Spec PyProof.Rows L2
open Sem (wp)
section
variable {prog : Program} {w : World} {A : Around} {E : Value → Shared → Prop} {s : Shared}
theorem oinit_kw {T n : String} {self : Value} {rest : List Value} {kw : List (Str × Value)} (hl : typeLookup (.type T) "__init__" = pure (some (.builtin "object.__init__")))
    (hm : Bind.madeBy (.type T) = pure (some n)) (hne : (some n != some "object.__new__") = true) : Meets (Builtin.«object.__init__» ⟨self :: rest, kw⟩) (fun _ R s => s.TypeIs self T ∧ R (.ok (.ret .none)) s) := by
  refine Meets.of_wp fun prog w A R s hs => ?_
  obtain ⟨hT, q⟩ := hs
  cases rest with
  | nil =>
    cases kw with
    | nil => exact wpAny_pure ⟨_, rfl, q⟩
    | cons c kw =>
      repeat (any_goals (first | assumption | wp_step))
      exact ⟨_, rfl, q⟩
  | cons c rest =>
    repeat (any_goals (first | assumption | wp_step))
    exact ⟨_, rfl, q⟩
theorem tyc_kw {T n : String} {Bn : Builtin} {args : List Value} {kw : List (Str × Value)} {Sp : PySem.Spec} {Q : Value → Shared → Prop} (ft : TypeCalled T n "object.__init__") (hne : (some n != some "object.__new__") = true)
    (c1 : checkTypeCall T ⟨args, kw⟩ = pure ()) (c2 : checkBuiltinCall n ⟨.type T :: args, kw⟩ = pure ()) (c3 : ∀ obj, argsOk "object.__init__" ⟨obj :: args, kw⟩) (en : entryFor table n = some Bn) (g : Meets (Bn ⟨.type T :: args, kw⟩) Sp)
    (h : Sp A.in1 (wants (fun obj s1 => s1.TypeIs obj T ∧ Q obj s1) E) s) : wpAny (model prog w) A (call (.type T) args kw) Q E s := by
  obtain ⟨c, tl, hmro⟩ := ft.mro
  have hmade := ft.made
  have hsub := ft.sub
  refine wpAny_call (codeAny_of_tree ?_)
  show wpAny _ _ (callAny (.type T) _) _ _ _
  refine wpAny_pure ⟨Code.quiet_builtin _ (by decide +kernel), codeAny_builtin F.entry_type_call ?_⟩
  rw [Around.under_plain (weight_type_call_type T args kw) (units_type_call_type T args kw)]
  have h1 := ft.notType
  have h2 := ft.canCreate
  repeat (any_goals (first | assumption | wp_step))
  refine codeAny_mono (codeAny_call_builtin ft.plain en (wpAny_of_eq c2 (g prog w A.in1 _ s h))) fun r s1 hr => ?_
  cases r with
  | error e => exact hr
  | ok fl =>
    cases fl with
    | ret obj =>
      obtain ⟨hT, hq⟩ := hr
      have hli := ft.init.lookup
      have hbi := ft.init.bind obj
      repeat (any_goals (first | assumption | wp_step))
      refine codeAny_mono (codeAny_call_builtin ft.init.plain F.entry_object_init (ft.init.check _ _ _ _ _ _ _ _ hT (c3 obj) (oinit_kw ft.init.lookup ft.made hne prog w A.in1 (wants (fun r s2 => r = .none ∧ Q obj s2) E) s1 ⟨hT, rfl, hq⟩))) fun r2 s2 hr2 => ?_
      cases r2 with
      | error e => exact hr2
      | ok fl2 =>
        cases fl2 with
        | ret r =>
          obtain ⟨rfl, hq⟩ := hr2
          repeat (any_goals (first | assumption | wp_step))
        | _ => exact hr2.elim
    | _ => exact hr.elim
theorem call_zipK (o : Option Bool) {t1 t2 : Bool} {a b : Addr} {xs ys : Array Value} {Q : Value → Shared → Prop} (ga : sqH t1 s.heap a xs) (gb : sqH t2 s.heap b ys)
    (q : ∀ h', zipO (stZ o) h' (s.heap.objs.size + 4) (s.heap.objs.size + 2) (s.heap.objs.size + 3) .none → IsPair h' (s.heap.objs.size + 2) (.ref s.heap.objs.size) (.ref (s.heap.objs.size + 1)) →
      IsPair h' (s.heap.objs.size + 3) .none .none → itH t1 h' s.heap.objs.size a 0 → itH t2 h' (s.heap.objs.size + 1) b 0 → (∀ c m, s.heap.get? c = some m → h'.get? c = some m) → Q (.ref (s.heap.objs.size + 4)) { s with heap := h' }) :
    wpAny (model prog w) A (call (.type "zip") [.ref a, .ref b] (kwZ o)) Q E s := by
  refine tyc_kw F.called_zip (by decide) (zipT_ok o _ _) (zipN_ok o _ _) (fun obj => zipI_ok o obj _ _) F.entry_zip_new (zip_new o (t1 := t1) (t2 := t2) (xs := xs) (ys := ys)) ⟨ga, gb, ?_⟩
  have e1 : (hz1 t1 s.heap a).objs.size = s.heap.objs.size + 1 := Heap.size_push ..
  have e2 : (hz2 t1 t2 s.heap a b).objs.size = s.heap.objs.size + 2 := by rw [Heap.size_push, e1]
  have e3 : (hz3 t1 t2 s.heap a b).objs.size = s.heap.objs.size + 3 := by rw [Heap.size_push, e2]
  have e4 : (hz4 t1 t2 s.heap a b).objs.size = s.heap.objs.size + 4 := by rw [Heap.size_push, e3]
  have k5 : (hz5 (stZ o) t1 t2 s.heap a b).get? (hz4 t1 t2 s.heap a b).objs.size = some _ := Heap.get?_push_size _ rfl
  have k4 : (hz5 (stZ o) t1 t2 s.heap a b).get? (hz3 t1 t2 s.heap a b).objs.size = some _ := Heap.get?_push_of_some _ (Heap.get?_push_size _ rfl)
  have k3 : (hz5 (stZ o) t1 t2 s.heap a b).get? (hz2 t1 t2 s.heap a b).objs.size = some _ := Heap.get?_push_of_some _ (Heap.get?_push_of_some _ (Heap.get?_push_size _ rfl))
  have k2 : (hz5 (stZ o) t1 t2 s.heap a b).get? (hz1 t1 s.heap a).objs.size = some (itO t2 b) := Heap.get?_push_of_some _ (Heap.get?_push_of_some _ (Heap.get?_push_of_some _ (Heap.get?_push_size _ rfl)))
  have k1 : (hz5 (stZ o) t1 t2 s.heap a b).get? s.heap.objs.size = some (itO t1 a) := Heap.get?_push_of_some _ (Heap.get?_push_of_some _ (Heap.get?_push_of_some _ (Heap.get?_push_of_some _ (Heap.get?_push_size _ rfl))))
  show _ ∧ _
  rw [e2, e3, e4] at k5
  rw [e1, e2] at k3
  rw [e3] at k4
  rw [e1] at k2
  rw [e4]
  refine ⟨⟨_, k5, rfl⟩, q _ k5 k3 k4 ?_ ?_ fun c m x => Heap.get?_push_of_some _ (Heap.get?_push_of_some _ (Heap.get?_push_of_some _ (Heap.get?_push_of_some _ (Heap.get?_push_of_some _ x))))⟩
  · cases t1
    · exact ⟨_, k1, rfl, rfl⟩
    · exact ⟨_, k1, rfl, rfl⟩
  · cases t2
    · exact ⟨_, k2, rfl, rfl⟩
    · exact ⟨_, k2, rfl, rfl⟩
end
end G

set_option Elab.async false
set_option linter.all false
set_option maxRecDepth 100000
set_option autoImplicit false
namespace G
open PySem PySem.Spec PyProof.Rows L2
section
variable {M : Model} {A : Around} {E : Value → Shared → Prop} {s : Shared} {env : Env}
theorem callTy_kw {pos : Pos} {T : String} {args : List (Bool × Sem Value)} {kws : List (Option Str × Sem Value)} {Q : Value → Shared → Prop} (hp : args.any (·.1) = false) (hk : kws.any (·.1.isNone) = false)
    (h : wpAny M A (evalArgs (.type T) true args kws) (fun a s1 => wpAny M A (call (.type T) a.pos a.kw) Q E s1) E s) : wpAny M A (callWith pos (.type T) [] args kws) Q E s := by
  unfold callWith
  refine wpAny_bind (wpAny_holding (wpAny_mono h (fun a s1 h1 => wpAny_bind (wpAny_standAt ?_)) fun _ _ z => z))
  simp only [hp, hk, Bool.or_false]
  exact wpAny_bind (wpAny_pure (wpAny_bind (wpAny_mono h1 (fun r s2 hr => wpAny_bind (wpAny_holding (wpAny_point (wpAny_pure hr)))) fun _ _ z => z)))
end
def tpOf : D → Bool
  | .tup _ => true
  | _ => false
def keepOf (d : D) (ds : List D) : Sto → Prop := match d with
  | .cell c => fun S => S c = some (.lst ds)
  | _ => fun _ => True
theorem src_at {K : PySem.W.Frag} {N : Hid} {H : Hp} {S : Sto} {v : V} {d : D} {ds : List D} (c : CellsOk N H S) (r : Rep H (alive N S) v d) (e : seqOf S d = some ds) :
    ∃ a, v = .ref a ∧ (∃ vs, srcV (tpOf d) K H a vs ∧ Reps H (alive N S) vs ds) ∧ ∀ N' H' S', Ext N N' H → Tr N H S H' S' → CellsOk N' H' S' → keepOf d ds S' → ∃ vs, srcV (tpOf d) K H' a vs ∧ Reps H' (alive N' S') vs ds := by
  cases r with
  | tup rd na rs =>
    cases e
    exact ⟨_, rfl, ⟨_, .inl rd, rs⟩, fun N' H' S' x t c' _ => ⟨_, .inl (t.t0.rd rd na).1, rs.mono0 (t.ext x)⟩⟩
  | lst rd na rs =>
    cases e
    exact ⟨_, rfl, ⟨_, .inl (.inl rd), rs⟩, fun N' H' S' x t c' _ => ⟨_, .inl (.inl (t.t0.keep _ _ rd na)), rs.mono0 (t.ext x)⟩⟩
  | cell a =>
    have e1 : S a = some (.lst ds) := by
      have ee : seqOf S (.cell a) = match S a with
        | some (.lst ds) => some ds
        | _ => none := rfl
      rw [ee] at e
      split at e <;> first | (cases e; assumption) | (cases e; done)
    obtain ⟨vs, e2, rs⟩ := c.at_ _ _ e1
    refine ⟨_, rfl, ⟨vs, .inl (.inl e2), rs⟩, fun N' H' S' x t c' kp => ?_⟩
    obtain ⟨vs', e3, rs'⟩ := c'.at_ _ _ kp
    exact ⟨vs', .inl (.inl e3), rs'⟩
  | _ => cases e
def zipD (xs ys : List D) : List D := List.zipWith (fun x y => D.tup [x, y]) xs ys
theorem zipD_length (xs ys : List D) : (zipD xs ys).length = min xs.length ys.length := List.length_zipWith
theorem ItAt.zip {sb t1 t2 : Bool} {K : PySem.W.Frag} {N : Hid} {H : Hp} {S : Sto} {a b : Addr} {us vs : List V} {xs ys : List D} (su : srcV t1 K H a us) (sv : srcV t2 K H b vs) (ru : Reps H (alive N S) us xs) (rv : Reps H (alive N S) vs ys) (c : CellsOk N H S)
    (hs : sb = true → xs.length = ys.length) : ItAt N (ItZ sb t1 t2 K a b) H S (zipD xs ys) := by
  have l1 := ru.length
  have l2 := rv.length
  refine ⟨fun i hi => ?_, ?_, fun i x H' hi y => ?_⟩
  · rw [zipD_length] at hi
    exact ⟨us, vs, us[i], vs[i], su, sv, List.getElem?_eq_getElem (by omega), List.getElem?_eq_getElem (by omega)⟩
  · rw [zipD_length]
    exact ⟨us, vs, su, sv, by omega, fun t => by have := hs t; omega⟩
  · obtain ⟨T, u, v, rfl, nT, rfl, e1, e2⟩ := y
    obtain ⟨d, ed, r1⟩ := ru.get (e1 us su)
    obtain ⟨e, ee, r2⟩ := rv.get (e2 vs sv)
    have t := Tr.new c nT (o := .tup [u, v])
    refine ⟨.tup [d, e], ?_, t, c.new nT, .tup (.inl upd_same) (c.dead nT) (.cons (r1.mono t) (.cons (r2.mono t) .nil))⟩
    unfold zipD
    rw [List.getElem?_zipWith, ed, ee]
def wZip (o : Option Bool) (a b : WE) : WI := fun ρ S K => a ρ S fun x S1 => b ρ S1 fun y S2 => ∃ xs ys, seqOf S2 x = some xs ∧ seqOf S2 y = some ys ∧ (stZ o = true → xs.length = ys.length) ∧ K ⟨zipD xs ys, fun S' => keepOf x xs S' ∧ keepOf y ys S'⟩ S2
section
variable {X : Cx} {elts : List Expr} {kk : Nat} {tpos p pos kp : Pos} {e e2 : Expr} {wa wb : WE} {cj : Nat} {kp2 : Pos}
theorem zip_run {o : Option Bool} {pins : List (Addr × Obj)} {σ : L2.St} {H0 H1 : Hp} {s1 : Shared} {R : It → Hp → Prop} {N : Hid} {S0 S1 : Sto} {K : IT → Sto → Prop} {x y : D} {v u : V} {us : List Value} {xs ys : List D} (I1 : Inv X pins σ H1 s1)
    (t1 : Tr N H0 S0 H1 S1) (c1 : CellsOk N H1 S1) (r1 : Rep H1 (alive N S1) v x) (r2 : Rep H1 (alive N S1) u y) (rr : Vals [v, u] us) (ex : seqOf S1 x = some xs) (ey : seqOf S1 y = some ys) (hs : stZ o = true → xs.length = ys.length)
    (k : K ⟨zipD xs ys, fun S' => keepOf x xs S' ∧ keepOf y ys S'⟩ S1) (q : ∀ it S', K it S' → ∀ J H', Tr N H0 S0 H' S' → CellsOk N H' S' → ItOk N J H' S' it → R J H') :
    wpAny (model X.prog X.w) X.A (call (.type "zip") us (kwZ o)) (fun v s' => wpAny (model X.prog X.w) X.A (pyIter v) (PIE X pins σ (.Tuple elts kk tpos) R) X.xe s') X.xe s1 := by
  obtain ⟨a, ev, ⟨as, sa, ra⟩, fa⟩ := src_at (K := X.K) c1 r1 ex
  obtain ⟨b, eu, ⟨bs, sb, rb⟩, fb⟩ := src_at (K := X.K) c1 r2 ey
  subst ev eu
  cases rr with
  | cons q1 rr =>
    cases rr with
    | cons q2 rr =>
      cases rr
      cases q1
      cases q2
      obtain ⟨as', rva, ga⟩ := sa.get I1
      obtain ⟨bs', rvb, gb⟩ := sb.get I1
      have la : a < s1.heap.objs.size := by
        cases h : tpOf x
        · rw [h] at ga; obtain ⟨o, ho, _⟩ := ga; exact Heap.lt_size ho
        · rw [h] at ga; obtain ⟨o, ho, _⟩ := ga; exact Heap.lt_size ho
      have lb : b < s1.heap.objs.size := by
        cases h : tpOf y
        · rw [h] at gb; obtain ⟨o, ho, _⟩ := gb; exact Heap.lt_size ho
        · rw [h] at gb; obtain ⟨o, ho, _⟩ := gb; exact Heap.lt_size ho
      refine call_zipK o ga gb fun m gz gu go gi gj kp => pyit_zip gz ?_
      have I2 : Inv X pins σ H1 { s1 with heap := m } := I1.kept (t' := s1.toks) kp
      refine ⟨s1.heap.objs.size + 4, [s1.heap.objs.size + 4, s1.heap.objs.size + 2, s1.heap.objs.size + 3, s1.heap.objs.size, s1.heap.objs.size + 1], _, _, H1, rfl, I2, turnZ (sb := stZ o) (t1 := tpOf x) (t2 := tpOf y) (PySem.W.ktu_apart s1.heap.objs.size a b la lb), ⟨gz, gu, ⟨_, _, go⟩, gi, gj⟩, fun c hcm => ?_, ?_⟩
      · have hle : s1.heap.objs.size ≤ c := by
          have e' : c = s1.heap.objs.size + 4 ∨ c = s1.heap.objs.size + 2 ∨ c = s1.heap.objs.size + 3 ∨ c = s1.heap.objs.size ∨ c = s1.heap.objs.size + 1 := by simpa using hcm
          rcases e' with z | z | z | z | z <;> (subst z; first | exact Nat.le_refl _ | exact Nat.le_add_right _ _)
        exact I1.fpOk hle (I1.hok.fresh hle)
      · refine q _ S1 k _ H1 t1 c1 fun N2 H2 S2 x2 t2 c2 ⟨k1, k2⟩ => ?_
        obtain ⟨us1, su, ru⟩ := fa N2 H2 S2 x2 t2 c2 k1
        obtain ⟨vs1, sv, rv⟩ := fb N2 H2 S2 x2 t2 c2 k2
        exact ItAt.zip su sv ru rv c2 hs
theorem gi_zip (ha : GE X e wa) (hb : GE X e2 wb) (hm : X.mg "zip" = none) (hg : Gl X "zip" := by rfl)
    (hs : starEach [e, e2] X.env = (false, eval e X.env) :: starEach [e2] X.env := by rfl) (hs2 : starEach [e2] X.env = (false, eval e2 X.env) :: starEach [] X.env := by rfl) (hpl : (backTo pos (starEach [e2] X.env)).any (·.1) = false := by rfl) :
    GI X (.Tuple elts kk tpos) (.Call (.Name "zip" p) [e, e2] [] pos) (wZip none wa wb) := by
  refine ⟨fun pins s σ H R I ⟨N, ρ, S, K, ab, hw, q⟩ => ?_⟩
  have la := lift_args2 (Q := fun vs H1 => ∃ x y S1 xs ys v u, vs = [v, u] ∧ Tr N H S H1 S1 ∧ CellsOk N H1 S1 ∧ Rep H1 (alive N S1) v x ∧ Rep H1 (alive N S1) u y ∧ seqOf S1 x = some xs ∧ seqOf S1 y = some ys ∧ (stZ none = true → xs.length = ys.length) ∧ K ⟨zipD xs ys, fun S' => keepOf x xs S' ∧ keepOf y ys S'⟩ S1)
    ab hw fun x y S1 ⟨xs, ys, ex, ey, hl, k⟩ v u H1 t c r1 r2 => ⟨x, y, S1, xs, ys, v, u, rfl, t, c, r1, r2, ex, ey, hl, k⟩
  refine Call_ (ld_blt I hg hm PyProof.Rows.boot_zip (PyProof.Rows.callWith_type1 (thn ((ga_cons ha (ga_cons hb ga_nil hs2) hs).run pos pins s σ H _ I la) fun us s1 ⟨vs, H1, I1, r1, x, y, S1, xs, ys, v, u, ev, t, c, q1, q2, ex, ey, hl, k⟩ => ?_) hs hpl))
  subst ev
  exact zip_run (o := none) I1 t c q1 q2 r1 ex ey hl k q
theorem gi_zipK (b : Bool) (ha : GE X e wa) (hb : GE X e2 wb) (hm : X.mg "zip" = none) (hg : Gl X "zip" := by rfl)
    (hs : starEach [e, e2] X.env = (false, eval e X.env) :: starEach [e2] X.env := by rfl) (hs2 : starEach [e2] X.env = (false, eval e2 X.env) :: starEach [] X.env := by rfl) (hpl : (backTo pos (starEach [e, e2] X.env)).any (·.1) = false := by rfl)
    (hb0 : backTo pos (starEach [e, e2] X.env) = (false, eval e X.env) :: backTo pos (starEach [e2] X.env) := by rfl) :
        GI X (.Tuple elts kk tpos) (.Call (.Name "zip" p) [e, e2] [⟨some "strict", .Constant (.bool b) cj kp, kp2⟩] pos) (wZip (some b) wa wb) := by
  refine ⟨fun pins s σ H R I ⟨N, ρ, S, K, ab, hw, q⟩ => ?_⟩
  have la := lift_args2 (Q := fun vs H1 => ∃ x y S1 xs ys v u, vs = [v, u] ∧ Tr N H S H1 S1 ∧ CellsOk N H1 S1 ∧ Rep H1 (alive N S1) v x ∧ Rep H1 (alive N S1) u y ∧ seqOf S1 x = some xs ∧ seqOf S1 y = some ys ∧ (stZ (some b) = true → xs.length = ys.length) ∧ K ⟨zipD xs ys, fun S' => keepOf x xs S' ∧ keepOf y ys S'⟩ S1)
    ab hw fun x y S1 ⟨xs, ys, ex, ey, hl, k⟩ v u H1 t c r1 r2 => ⟨x, y, S1, xs, ys, v, u, rfl, t, c, r1, r2, ex, ey, hl, k⟩
  refine wpAny_Call_Name_kw (ld_blt I hg hm PyProof.Rows.boot_zip (callTy_kw hpl rfl ?_))
  rw [hb0]
  refine PyProof.Rows.evalArgs_kwB rfl ?_
  rw [← hb0]
  refine thn ((ga_cons ha (ga_cons hb ga_nil hs2) hs).run pos pins s σ H _ I la) fun us s1 ⟨vs, H1, I1, r1, x, y, S1, xs, ys, v, u, ev, t, c, q1, q2, ex, ey, hl, k⟩ => ?_
  subst ev
  refine thn ((pk_cons (pe_bl (b := b) (j := cj) (pos := kp)) pk_nil).run pos pins s1 σ H1 (fun zs H2 => zs = [.bl b] ∧ H2 = H1) I1 ⟨rfl, rfl⟩) fun ws s2 ⟨zs, H2, I2, r2, ez, eh⟩ => ?_
  subst ez eh
  cases r2 with
  | cons q3 r2 =>
    cases r2
    cases q3
    exact zip_run (o := some b) I2 t c q1 q2 r1 ex ey hl k q
end
end G

set_option Elab.async false
set_option linter.all false
set_option maxRecDepth 100000
set_option autoImplicit false
namespace G
open PySem PySem.Spec PyProof.Rows L2
/-! ### reversed(range(..)) -/
def idown (hi : Int) (n : Nat) : List D := (List.range n).map fun i => .int (hi - 1 - (i : Nat))
def wRev1 (a : WE) : WI := fun ρ S K => a ρ S fun x S1 => ∃ j : Int, x = .int j ∧ -(2 ^ 62) ≤ j ∧ j < 2 ^ 62 ∧ K ⟨idown j j.toNat, fun _ => True⟩ S1
section
variable {X : Cx} {tg e : Expr} {w : WE} {p p2 pos pos2 : Pos}
end
theorem st_rev1 {a : WE} {ρ : Rho} {S : Sto} {K : IT → Sto → Prop} (h : a ρ S fun x S1 => ∃ j : Int, x = .int j ∧ -(2 ^ 62) ≤ j ∧ j < 2 ^ 62 ∧ K ⟨idown j j.toNat, fun _ => True⟩ S1) : wRev1 a ρ S K := h
theorem st_zip {o : Option Bool} {a b : WE} {ρ : Rho} {S : Sto} {K : IT → Sto → Prop} (h : a ρ S fun x S1 => b ρ S1 fun y S2 => ∃ xs ys, seqOf S2 x = some xs ∧ seqOf S2 y = some ys ∧ (stZ o = true → xs.length = ys.length) ∧ K ⟨zipD xs ys, fun S' => keepOf x xs S' ∧ keepOf y ys S'⟩ S2) : wZip o a b ρ S K := h

/-! ### counted lists -/
def ups : Nat → Nat → List D
  | _, 0 => []
  | k, m + 1 => .int (k : Nat) :: ups (k + 1) m
def dwn : Nat → List D
  | 0 => []
  | m + 1 => .int (m : Nat) :: dwn m
theorem ups_get : ∀ (m k i : Nat), (ups k m)[i]? = if i < m then some (.int ((k + i : Nat) : Int)) else none
  | 0, k, i => by simp [ups]
  | m + 1, k, 0 => by simp [ups]
  | m + 1, k, i + 1 => by
    show (ups (k + 1) m)[i]? = _
    rw [ups_get m (k + 1) i]
    by_cases h : i < m
    · rw [if_pos h, if_pos (by omega), show k + 1 + i = k + (i + 1) by omega]
    · rw [if_neg h, if_neg (by omega)]
theorem ups_length : ∀ (m k : Nat), (ups k m).length = m
  | 0, _ => rfl
  | m + 1, k => congrArg Nat.succ (ups_length m (k + 1))
theorem irange_ups (n : Nat) : irange 0 n = ups 0 n := by
  refine List.ext_getElem? fun i => ?_
  rw [ups_get]
  unfold irange
  rw [List.getElem?_map]
  by_cases h : i < n
  · rw [List.getElem?_range h, if_pos h]
    show some (D.int (0 + (i : Nat))) = _
    rw [Int.zero_add, Nat.zero_add]
  · rw [List.getElem?_eq_none (by simp; omega), if_neg h]
    rfl
theorem irange_upsI (k : Nat) (n : Nat) : irange (k : Int) n = ups k n := by
  refine List.ext_getElem? fun i => ?_
  rw [ups_get]
  unfold irange
  rw [List.getElem?_map]
  by_cases h : i < n
  · rw [List.getElem?_range h, if_pos h]
    show some (D.int ((k : Int) + (i : Nat))) = _
    rw [Int.natCast_add]
  · rw [List.getElem?_eq_none (by simp; omega), if_neg h]
    rfl
/-! ### texts -/
open TL PySem.StrLaws
theorem len_app (x y : Str) : (x ++ y).length = x.length + y.length := by rw [len_tl, tl_append, List.length_append, ← len_tl, ← len_tl]
theorem joinL_len (S : List Nat) : ∀ ps : List (List Nat), (joinL S ps).length ≤ (ps.map List.length).sum + ps.length * S.length
  | [] => by simp [joinL]
  | [p] => by simp [joinL]
  | p :: q :: r => by
    have ih := joinL_len S (q :: r)
    show (p ++ (S ++ joinL S (q :: r))).length ≤ _
    rw [List.length_append, List.length_append, List.map_cons, List.sum_cons]
    have e : (p :: q :: r).length * S.length = (q :: r).length * S.length + S.length := by
      rw [List.length_cons, Nat.add_mul, Nat.one_mul]
    rw [e]
    omega
theorem join_len (y : Str) (ps : List Str) : (Txt.join y ps).length ≤ (ps.map (·.length)).sum + ps.length * y.length := by
  have h := joinL_len (tl y) (ps.map tl)
  rw [join_eq, len_tl, tl_join]
  rw [List.map_map, List.length_map, ← len_tl] at h
  have e : (List.length ∘ tl) = fun s : Str => s.length := funext fun s => (len_tl s).symm
  rw [e] at h
  exact h
theorem sum_le {l : List Nat} {b : Nat} (h : ∀ x, x ∈ l → x ≤ b) : l.sum ≤ l.length * b := by
  induction l with
  | nil => simp
  | cons x l ih =>
    have h1 := h x (List.mem_cons_self ..)
    have h2 := ih fun y hy => h y (List.mem_cons_of_mem _ hy)
    rw [List.sum_cons, List.length_cons, Nat.add_mul, Nat.one_mul]
    omega
theorem st_meth {f : D → List D → Sto → KE → Prop} {o : WE} {t : WA} {ρ : Rho} {S : Sto} {K : KE} (h : o ρ S fun x S1 => (∃ z, x = .str z) ∧ t ρ S1 fun ds S2 => f x ds S2 K) : wMeth f o t ρ S K := h
theorem st_isS {z : Str} {P : Prop} (h : P) : (∃ y, D.str z = .str y) ∧ P := ⟨⟨z, rfl⟩, h⟩
theorem st_count {a b : Str} {S : Sto} {K : KE} (h : K (.int (Txt.count a b)) S) : fCount (.str a) [.str b] S K := h
theorem st_join {a : Str} {d : D} {ys : List Str} {S : Sto} {K : KE} {es : List D} (e : seqOf S d = some es) (e2 : es = ys.map D.str) (l : (ys.map (·.length)).sum + ys.length * a.length ≤ 16777216) (h : K (.str (Txt.join a ys)) S) : fJoin (.str a) [d] S K := ⟨es, ys, e, by rw [e2]; exact strs_map ys, l, h⟩
theorem st_sl {a : WE} {lo hi : WO} {ρ : Rho} {S : Sto} {K : KE} (h : a ρ S fun x S1 => lo ρ S1 fun l S2 => hi ρ S2 fun h S3 => oSl x l h S3 K) : wSl a lo hi ρ S K := h
theorem st_slT {z : List D} {lo hi : Option Int} {S : Sto} {K : KE} (h : K (.tup (cutD z lo hi)) S) : oSl (.tup z) lo hi S K := h
theorem st_slL {z : List D} {lo hi : Option Int} {S : Sto} {K : KE} (h : K (.lst (cutD z lo hi)) S) : oSl (.lst z) lo hi S K := h
theorem st_max2 {i j : Int} {S : Sto} {K : KE} (h : K (.int (if j > i then j else i)) S) : oMax2 (.int i) (.int j) S K := h
theorem st_min2 {i j : Int} {S : Sto} {K : KE} (h : K (.int (if j < i then j else i)) S) : oMin2 (.int i) (.int j) S K := h
theorem st_sum {d : D} {ds : List D} {ns : List Int} {S : Sto} {K : KE} (e : seqOf S d = some ds) (e2 : ds = ns.map D.int) (h : K (.int ns.sum) S) : oSum d S K := ⟨ds, ns, e, by rw [e2]; exact ints_map ns, h⟩
theorem zipD_ints (a b : List Int) : zipD (a.map D.int) (b.map D.int) = (List.zip a b).map fun p => .tup [.int p.1, .int p.2] := by
  unfold zipD
  rw [List.zipWith_map, List.zip, List.map_zipWith]
def dot (a b : List Int) : Int := ((List.zip a b).map fun p => p.1 * p.2).sum

theorem joinL_mem {S : List Nat} {c : Nat} : ∀ {ps : List (List Nat)}, c ∈ joinL S ps → c ∈ S ∨ ∃ p, p ∈ ps ∧ c ∈ p
  | [], h => by simp [joinL] at h
  | [p], h => .inr ⟨p, List.mem_singleton.mpr rfl, h⟩
  | p :: q :: r, h => by
    have h : c ∈ p ++ (S ++ joinL S (q :: r)) := h
    rcases List.mem_append.mp h with h | h
    · exact .inr ⟨p, List.mem_cons_self .., h⟩
    · rcases List.mem_append.mp h with h | h
      · exact .inl h
      · rcases joinL_mem h with h | ⟨x, hx, hc⟩
        · exact .inl h
        · exact .inr ⟨x, List.mem_cons_of_mem _ hx, hc⟩
theorem joinL_nil : ∀ ps : List (List Nat), joinL [] ps = ps.flatten
  | [] => rfl
  | [p] => by simp [joinL]
  | p :: q :: r => by
    show p ++ ([] ++ joinL [] (q :: r)) = _
    rw [joinL_nil (q :: r)]
    simp
theorem tl_joinT (y : Str) (ps : List Str) : tl (Txt.join y ps) = joinL (tl y) (ps.map tl) := by rw [join_eq, tl_join]
/-- each sign of a text -/
def Sg (P : Nat → Prop) (s : Str) : Prop := ∀ c, c ∈ tl s → P c
theorem Sg.app {P : Nat → Prop} {a b : Str} (ha : Sg P a) (hb : Sg P b) : Sg P (a ++ b) := fun c h => by
  rw [tl_append] at h
  exact (List.mem_append.mp h).elim (ha c) (hb c)
theorem tl_cut (z : Str) (lo hi : Option Int) : tl (cutS z lo hi) = ((tl z).drop (HT.sIx z.length 0 lo)).take (HT.sIx z.length z.length hi - HT.sIx z.length 0 lo) := rfl
theorem Sg.cut {P : Nat → Prop} {a : Str} (ha : Sg P a) (lo hi : Option Int) : Sg P (cutS a lo hi) := fun c h => by
  rw [tl_cut] at h
  exact ha c (List.mem_of_mem_drop (List.mem_of_mem_take h))
theorem Sg.join {P : Nat → Prop} {y : Str} {ps : List Str} (hy : Sg P y) (h : ∀ p, p ∈ ps → Sg P p) : Sg P (Txt.join y ps) := fun c hc => by
  rw [tl_joinT] at hc
  rcases joinL_mem hc with h1 | ⟨p, hp, h1⟩
  · exact hy c h1
  · obtain ⟨q, hq, e⟩ := List.mem_map.mp hp
    subst e
    exact h q hq c h1
theorem Sg.imp {P Q : Nat → Prop} {a : Str} (ha : Sg P a) (h : ∀ c, P c → Q c) : Sg Q a := fun c hc => h c (ha c hc)
theorem Sg.one {P : Nat → Prop} {c : Nat} (h : P c) : Sg P ⟨#[c]⟩ := fun x hx => by
  have : x = c := by simpa [tl] using hx
  rw [this]
  exact h
theorem Sg.of {p : Nat → Bool} {s : Str} (h : (tl s).all p = true) : Sg (fun c => p c = true) s := fun c hc => List.all_eq_true.mp h c hc
theorem st_eqS {x y : Str} {S : Sto} {K : KE} (h : K (.bl (x == y)) S) : oEq (.str x) (.str y) S K := .inl ⟨_, _, rfl, rfl, h⟩
theorem st_neS {x y : Str} {S : Sto} {K : KE} (h : K (.bl (!(x == y))) S) : oNe (.str x) (.str y) S K := .inl ⟨_, _, rfl, rfl, h⟩
end G

set_option Elab.async false
set_option linter.all false
set_option maxRecDepth 100000
set_option autoImplicit false
namespace G
open PySem PySem.Spec PyProof.Rows L2
/-! ### repr -/
/-- what repr shows: at most n signs, no deeper than k -/
structure Shw (n k : Nat) (p : PyData) : Prop where
  sh : p.showable = true
  nd : p.hasDict = false
  len : p.shown.length ≤ n
  dp : p.depth ≤ k
theorem Shw.mono {n m k j : Nat} {p : PyData} (h : Shw n k p) (l : n ≤ m) (l2 : k ≤ j) : Shw m j p := ⟨h.sh, h.nd, by have := h.len; omega, by have := h.dp; omega⟩
theorem Shw.int {i : Int} (h : i.natAbs < 10 ^ 100) : Shw 101 0 (.int i) := by
  refine ⟨?_, by simp [PyData.hasDict], ?_, by simp [PyData.depth]⟩
  · unfold PyData.showable
    refine decide_eq_true (Nat.lt_of_lt_of_le (lg_lt (k := 334) (Nat.lt_trans h (by decide)) (by decide)) (by decide))
  · have e := int_text_length_le10 (k := 100) (by decide) h
    show (Str.ofString (toString i)).length ≤ 101
    rw [PySem.ofString_length]
    exact e
theorem Shw.bl (b : Bool) : Shw 5 0 (.bool b) := ⟨by simp [PyData.showable], by simp [PyData.hasDict], by cases b <;> decide, by simp [PyData.depth]⟩
theorem Shw.non : Shw 4 0 .none := ⟨by simp [PyData.showable], by simp [PyData.hasDict], by decide, by simp [PyData.depth]⟩
theorem Shw.str {x : Str} {n : Nat} (h : Sg (fun c => c < 128) x) (l : x.length ≤ n) : Shw (10 * n + 2) 0 (.str x) := by
  refine ⟨by simp [PyData.showable], by simp [PyData.hasDict], ?_, by simp [PyData.depth]⟩
  have := StrLaws.reprText_len x fun c hc => by
    have := h c hc
    omega
  show (reprText x).length ≤ _
  omega
theorem shw_all {n k : Nat} : ∀ {ps : List PyData}, (∀ p, p ∈ ps → Shw n k p) → PyData.showableAll ps = true ∧ PyData.hasDictAll ps = false ∧ ((PyData.shownAll ps).map (·.length)).sum ≤ ps.length * n ∧ (PyData.shownAll ps).length = ps.length ∧ PyData.depthAll ps ≤ k
  | [], _ => ⟨by simp [PyData.showableAll], by simp [PyData.hasDictAll], by simp [PyData.shownAll], by simp [PyData.shownAll], by simp [PyData.depthAll]⟩
  | p :: ps, h => by
    have a := h p (List.mem_cons_self ..)
    obtain ⟨b1, b2, b3, b4, b5⟩ := shw_all (ps := ps) fun q hq => h q (List.mem_cons_of_mem _ hq)
    refine ⟨by simp [PyData.showableAll, a.sh, b1], by simp [PyData.hasDictAll, a.nd, b2], ?_, ?_, ?_⟩
    · simp only [PyData.shownAll, List.map_cons, List.sum_cons, List.length_cons]
      have := a.len
      rw [Nat.add_mul, Nat.one_mul]
      omega
    · simp only [PyData.shownAll, List.length_cons, b4]
    · simp only [PyData.depthAll]
      have := a.dp
      omega
theorem Shw.list {n k m : Nat} {ps : List PyData} (h : ∀ p, p ∈ ps → Shw n k p) (l : ps.length ≤ m) : Shw (m * (n + 2) + 3) (k + 1) (.list ps) := by
  obtain ⟨b1, b2, b3, b4, b5⟩ := shw_all h
  refine ⟨by simp [PyData.showable, b1], by simp [PyData.hasDict, b2], ?_, by simp only [PyData.depth]; omega⟩
  simp only [PyData.shown]
  have h1 := listText_len_le (PyData.shownAll ps)
  have h2 : ps.length * (n + 2) ≤ m * (n + 2) := Nat.mul_le_mul_right _ l
  rw [Nat.mul_add] at h2
  rw [b4] at h1
  omega
theorem Shw.tup {n k m : Nat} {ps : List PyData} (h : ∀ p, p ∈ ps → Shw n k p) (l : ps.length ≤ m) : Shw (m * (n + 2) + 3) (k + 1) (.tuple ps) := by
  obtain ⟨b1, b2, b3, b4, b5⟩ := shw_all h
  refine ⟨by simp [PyData.showable, b1], by simp [PyData.hasDict, b2], ?_, by simp only [PyData.depth]; omega⟩
  simp only [PyData.shown]
  have h1 := tupleText_len_le (PyData.shownAll ps)
  have h2 : ps.length * (n + 2) ≤ m * (n + 2) := Nat.mul_le_mul_right _ l
  rw [Nat.mul_add] at h2
  rw [b4] at h1
  omega
/-- a tuple with live lists in it -/
def top2 (S : Sto) (d : D) : D := match d with
  | .tup l => .tup (l.map (top S))
  | d => top S d
def oRepr (d : D) (S : Sto) (K : KE) : Prop := ∃ p, ((top S d).pd = some p ∨ (top2 S d).pd = some p) ∧ Shw sizeLine 60 p ∧ K (.str p.shown) S
section
variable {X : Cx}
/-! ### sorted -/
theorem strs_at {us : List Value} {ys : List Str} (l : us.length = ys.length) (h : ∀ (j : Nat) (u : Value), us[j]? = some u → ∃ y t, ys[j]? = some y ∧ u = .str y t) : StrsAre us ys := by
  induction us generalizing ys with
  | nil =>
    cases ys with
    | nil => exact .nil
    | cons _ _ => simp at l
  | cons u us ih =>
    cases ys with
    | nil => simp at l
    | cons y ys =>
      obtain ⟨y', t, e, rfl⟩ := h 0 u rfl
      cases e
      exact .cons y t (ih (by simpa using l) fun j x e => by
        obtain ⟨y2, t2, e2, e3⟩ := h (j + 1) x (by simpa using e)
        exact ⟨y2, t2, by simpa using e2, e3⟩)
def singles (z : Str) : List Str := z.cps.toList.map fun c => ⟨#[c]⟩
theorem call_sortedStr (hc : X.calm = true) : CallR X (.builtin "sorted") (fun xs H Q => ∃ z, xs = [.str z] ∧ z.length < 64 ∧ ∀ ys p, ys.Perm (singles z) → sortedS ys = true → H p = none → Q (.ref p) (upd H p (.lst (ys.map V.str)))) := by
  intro pins s σ H xs us Q I r h
  obtain ⟨z, ev, hz, q⟩ := h
  subst ev
  obtain ⟨u, rfl, rx⟩ := vals1 r
  obtain ⟨t, rfl⟩ := rx
  have hsz : z.cps.size ≤ sizeLine := by
    have : z.cps.size < 64 := hz
    unfold sizeLine
    omega
  refine Calls.call_function_entry PyProof.Rows.kind_sorted PyProof.Rows.plain_sorted PyProof.Rows.entry_sorted (PyProof.Rows.args_sorted1 _) ?_
  unfold Builtin.«sorted»
  refine wpAny_bind (m := checkCount "sorted" 1 1 _) (wpAny_pure (wpAny_bind (wpAny_collect_str (A := X.A.in1) (I.ok.hd hc) z t (hn := hsz) fun s2 acc kp eg ed eo ha => ?_)))
  obtain ⟨h2, g2, d2, tk, o2⟩ := s2
  obtain rfl : g2 = s.gens := eg
  obtain rfl : d2 = s.drawn := ed
  obtain rfl : o2 = s.os := eo
  have la : acc.toList.length = (singles z).length := by unfold singles; rw [Array.length_toList, List.length_map, Array.length_toList, ha.1]
  have l64 : acc.toList.length < 64 := by rw [Array.length_toList, ha.1]; exact hz
  have hS : StrsAre acc.toList (singles z) := strs_at la fun j u ej => by
    obtain ⟨ch, k, ec, rfl⟩ := ha.2 j u (by simpa using ej)
    refine ⟨⟨#[ch]⟩, k, ?_, rfl⟩
    unfold singles
    rw [List.getElem?_map, show z.cps.toList[j]? = some ch by simpa using ec]
    rfl
  have I1 : Inv X pins σ H { s with heap := h2, toks := tk } := I.kept (t' := tk) kp
  refine wpAny_bind (wpAny_newList ?_ (by unfold sizeLine; omega))
  have ho : (h2.push (seqObj "list" acc.toList.toArray 0)).get? h2.objs.size = some (seqObj "list" acc.toList.toArray 0) := Heap.get?_push_size _ rfl
  show wpAny _ _ _ _ _ { s with heap := h2.push (seqObj "list" acc.toList.toArray 0), toks := tk }
  refine wpAny_bind (wpAny_holding (wpAny_call_entry PyProof.Rows.slot_list_sort ⟨_, ho, rfl⟩ PyProof.Rows.entry_list_sort
    (list_sort_treeK strKind_oneLt (s := { s with heap := h2.push (seqObj "list" acc.toList.toArray 0), toks := tk }) ho hS.keysOf (fun a b rest e => keyKind_strs (by rw [← e]; exact hS)) l64 fun st hp hs => ⟨_, rfl, ?_⟩) (PyProof.Rows.args_list_sort _)))
  obtain ⟨ys, g1, g2, g3⟩ := sorted_out_str hS hp hs
  obtain ⟨e', he'⟩ := PyProof.Rows.sortedHeap_at (vs := acc.toList) (out := (arrOf st).map (·.2)) ho
  have hlen : (ys.map V.str).length ≤ sizeLine := by
    rw [List.length_map, g2.length_eq, ← la]
    unfold sizeLine
    omega
  refine wpAny_pure ⟨_, rfl, .ref h2.objs.size, upd H h2.objs.size (.lst (ys.map V.str)), I1.laid (t' := tk) (fun b u e => ?_) (Nat.le_refl _)
    (show ObjOk X.prog X.w _ _ _ (.lst (ys.map V.str)) from ⟨hlen, ((arrOf st).map (·.2)).toList, e', vals_of_strs g1, by rw [Array.toArray_toList]; exact he'⟩), rfl, q ys _ g2 g3 (I1.hok.fresh (Nat.le_refl _))⟩
  have hb : b < h2.objs.size := Heap.lt_size e
  rw [PyProof.Rows.sortedHeap_old (Nat.ne_of_lt hb) (by rw [size_push']; exact Nat.lt_succ_of_lt hb)]
  exact Heap.get?_push_of_some _ e
/-- sorted of a text, of texts, of ints: a new list -/
def oSrt (x : D) (S : Sto) (K : List D → Sto → Prop) : Prop :=
  (∃ z, x = .str z ∧ z.length < 64 ∧ ∀ ys, ys.Perm (singles z) → sortedS ys = true → K (ys.map D.str) S) ∨
  (∃ ss : List Str, lstOf S x = some (ss.map D.str) ∧ ss.length < 64 ∧ ∀ ys, ys.Perm ss → sortedS ys = true → K (ys.map D.str) S) ∨
  (∃ ns : List Int, lstOf S x = some (ns.map D.int) ∧ ns.length < 64 ∧ ∀ ys : List Int, ys.Perm ns → ys.Pairwise (· ≤ ·) → K (ys.map D.int) S)
def wSorted (a : WE) : WF := fun ρ S K => a ρ S fun x S1 => oSrt x S1 K
theorem reps_strs {H : Hp} {A : Addr → Prop} : ∀ l : List Str, Reps H A (l.map V.str) (l.map D.str)
  | [] => .nil
  | _ :: l => .cons (.str _) (reps_strs l)
theorem repsV_strs {H : Hp} {A : Addr → Prop} : ∀ {vs : List V} {l : List Str}, Reps H A vs (l.map D.str) → vs = l.map V.str
  | [], [], _ => rfl
  | _, [], r => by cases r; rfl
  | _, x :: l, r => by
    cases r with
    | cons r1 rr =>
      cases r1
      rw [repsV_strs rr]
      rfl
theorem repsV_ints {H : Hp} {A : Addr → Prop} : ∀ {vs : List V} {l : List Int}, Reps H A vs (l.map D.int) → vs = l.map V.int
  | _, [], r => by cases r; rfl
  | _, x :: l, r => by
    cases r with
    | cons r1 rr =>
      cases r1
      rw [repsV_ints rr]
      rfl
variable {a : Expr} {wa : WE} {pos p : Pos}
theorem gf_sorted (ha : GE X a wa) (hm : X.mg "sorted" = none) (hg : Gl X "sorted" := by rfl) (hs : starEach [a] X.env = (false, eval a X.env) :: starEach [] X.env := by rfl) (hpl : (backTo pos (starEach [] X.env)).any (·.1) = false := by rfl) (hc : X.calm = true := by rfl) : GF X (.Call (.Name "sorted" p) [a] [] pos) (wSorted wa) := by
  refine PE.imp (pe_callB (CallR.or (call_sortedStr hc) (CallR.or cr_sortedS cr_sorted)) hg hm (by decide +kernel) (ga_cons ha ga_nil hs) (by decide) (by decide) hs hpl) fun σ H Q ⟨N, ρ, S, K, ab, h, q⟩ => ?_
  refine lift_args1 ab h fun d S1 k v H1 t1 c1 r1 => ?_
  rcases k with ⟨z, rfl, hz, k⟩ | ⟨ss, e, hz, k⟩ | ⟨ns, e, hz, k⟩
  · cases r1
    exact .inl ⟨z, rfl, hz, fun ys p h1 h2 n => q _ _ (k ys h1 h2) p H1 _ t1 c1 (reps_strs ys) n⟩
  · obtain ⟨b, vs, rfl, rd, rs⟩ := lstOf_rd c1 r1 e
    have ev := repsV_strs rs
    subst ev
    exact .inr (.inl ⟨b, ss, rfl, .inl rd, hz, fun ys p h1 h2 n => q _ _ (k ys h1 h2) p H1 _ t1 c1 (reps_strs ys) n⟩)
  · obtain ⟨b, vs, rfl, rd, rs⟩ := lstOf_rd c1 r1 e
    have ev := repsV_ints rs
    subst ev
    exact .inr (.inr ⟨b, ns, rfl, .inl rd, hz, fun ys p h1 h2 n => q _ _ (k ys h1 h2) p H1 _ t1 c1 (Reps.ints ys) n⟩)
end
theorem st_sorted {a : WE} {ρ : Rho} {S : Sto} {K : List D → Sto → Prop} (h : a ρ S fun x S1 => oSrt x S1 K) : wSorted a ρ S K := h
theorem st_srtS {z : Str} {S : Sto} {K : List D → Sto → Prop} (l : z.length < 64) (h : ∀ ys, ys.Perm (singles z) → sortedS ys = true → K (ys.map D.str) S) : oSrt (.str z) S K := .inl ⟨z, rfl, l, h⟩
theorem st_abs {x : Int} {S : Sto} {K : KE} (h : K (.int ((x.natAbs : Nat) : Int)) S) : oAbs (.int x) S K := by
  show K (.int (if x < 0 then -x else x)) S
  have e : (if x < 0 then -x else x) = ((x.natAbs : Nat) : Int) := by split <;> omega
  rw [e]
  exact h
theorem comp_mapL {α : Type} {keep : Sto → Prop} {g : WG} {e : WE} {ρ : Rho} {K : List D → Sto → Prop} {S : Sto} (l : List α) (h r : α → D) (hk : keep S) (hl : l.length ≤ sizeLine)
    (hs : ∀ x, x ∈ l → ∀ K1 : D → Sto → Prop, ∀ F : Sto → Prop, K1 (r x) S → g (h x) ρ S fun ρ1 S1 => (true = true → e ρ1 S1 K1) ∧ (true = false → F S1)) (q : K (l.map r) S) : compW keep g wYes e ρ (l.map h) [] S K := by
  refine comp_ind (I := fun ds acc S1 => S1 = S ∧ ∃ m, ds = m.map h ∧ acc ++ m.map r = l.map r ∧ ∀ x, x ∈ m → x ∈ l) ⟨rfl, l, rfl, rfl, fun _ z => z⟩ (fun acc S1 ⟨e1, m, e2, e3, _⟩ => ?_) fun d ds F ih acc S1 ⟨e1, m, e2, e3, e4⟩ => ?_
  · subst e1
    cases m with
    | cons _ _ => cases e2
    | nil =>
      rw [List.map_nil, List.append_nil] at e3
      rw [e3]
      exact ⟨hk, q⟩
  · subst e1
    cases m with
    | nil => cases e2
    | cons x m =>
      injection e2 with e2 e5
      subst e2
      have le := congrArg List.length e3
      simp at le
      exact ⟨hk, hs x (e4 x (List.mem_cons_self ..)) (fun y S3 => acc.length < sizeLine ∧ F (acc ++ [y]) S3) (F acc) ⟨by omega, ih _ _ ⟨rfl, m, e5, by rw [List.append_assoc]; exact e3, fun y hy => e4 y (List.mem_cons_of_mem _ hy)⟩⟩⟩
theorem pd_bools : ∀ bs : List Bool, pds (bs.map D.bl) = some (bs.map PyData.bool)
  | [] => rfl
  | b :: bs => by
    show (match D.pd (.bl b), pds (bs.map D.bl) with
      | some p, some q => some (p :: q)
      | _, _ => none) = _
    rw [pd_bools bs]
    rfl
theorem st_notInB {bs : List Bool} {S : Sto} {K : KE} (h : K (.bl (bs.all id)) S) : oNotIn (.bl false) (.lst (bs.map D.bl)) S K := by
  refine ⟨bs.map D.bl, .bool false, bs.map PyData.bool, rfl, rfl, pd_bools bs, shaped_bl false, (Sh.list (n := 0) fun p hp => ?_).shaped (by decide), ?_⟩
  · obtain ⟨b, _, e⟩ := List.mem_map.mp hp
    rw [← e]
    exact .bl b 0
  · have e : (!((bs.map PyData.bool).any fun z => PyData.eqv z (.bool false))) = bs.all id := by
      clear h
      induction bs with
      | nil => rfl
      | cons b bs ih =>
        rw [List.map_cons, List.any_cons, Bool.not_or, ih, List.all_cons]
        cases b <;> rfl
    rw [e]
    exact h
theorem sorted_join {z : Str} {ys : List Str} (h : ys.Perm (singles z)) : (Txt.join (Str.ofString "") ys).length = z.length ∧ (∀ P : Nat → Prop, Sg P z → Sg P (Txt.join (Str.ofString "") ys)) ∧ (ys.map (·.length)).sum + ys.length * (Str.ofString "").length = z.length := by
  have ht : TL.tl (Txt.join (Str.ofString "") ys) = (ys.map TL.tl).flatten := by
    rw [tl_joinT]
    show TL.joinL [] _ = _
    rw [joinL_nil]
  have hp : (ys.map TL.tl).flatten.Perm (TL.tl z) := by
    have h1 := (h.map TL.tl).flatten
    have h2 : ((singles z).map TL.tl).flatten = TL.tl z := by
      unfold singles
      rw [List.map_map]
      show ((TL.tl z).map (fun c => [c])).flatten = _
      induction TL.tl z with
      | nil => rfl
      | cons c l ih => rw [List.map_cons, List.flatten_cons, ih]; rfl
    rw [h2] at h1
    exact h1
  refine ⟨?_, fun P hz c hc => ?_, ?_⟩
  · rw [TL.len_tl, ht, hp.length_eq, ← TL.len_tl]
  · rw [ht] at hc
    exact hz c (hp.mem_iff.mp hc)
  · have l0 : (Str.ofString "").length = 0 := rfl
    rw [l0, Nat.mul_zero, Nat.add_zero]
    have h3 : (ys.map (·.length)).sum = ((singles z).map (·.length)).sum := (h.map (·.length)).sum_nat
    rw [h3]
    unfold singles
    rw [List.map_map, TL.len_tl]
    show ((TL.tl z).map fun _ => 1).sum = _
    generalize TL.tl z = l
    clear hp h3 ht h
    induction l with
    | nil => rfl
    | cons c l ih => rw [List.map_cons, List.sum_cons, ih, List.length_cons]; omega
theorem list_tup {S : Sto} {ds : List D} : listOf S (.tup ds) = some ds := rfl
theorem list_lst {S : Sto} {ds : List D} : listOf S (.lst ds) = some ds := rfl
theorem items_tup {S : Sto} {ds : List D} : itemsOf S (.tup ds) = some ⟨ds, fun _ => True⟩ := rfl
theorem items_lst {S : Sto} {ds : List D} : itemsOf S (.lst ds) = some ⟨ds, fun _ => True⟩ := rfl
end G

set_option Elab.async false
set_option linter.all false
set_option maxRecDepth 100000
set_option autoImplicit false
namespace G
open PySem PySem.Spec PyProof.Rows L2 TL PySem.StrLaws
/-! ### one sign in a text -/
/-! ### text[::-1] -/
def revS (z : Str) : Str := ⟨(tl z).reverse.toArray⟩
def tRevS (te : TE) : TE := fun σ H Q => te σ H fun x H1 => ∃ z, x = .str z ∧ z.length ≤ sizeLine ∧ Q (.str (revS z)) H1
section
variable {X : Cx}
def oRevS (x : D) (S : Sto) (K : KE) : Prop := match x with
  | .str z => z.length ≤ sizeLine ∧ K (.str (revS z)) S
  | _ => False
end
/-- text.index(sign), where it is -/
def fIndex (x : D) (ds : List D) (S : Sto) (K : KE) : Prop := match x, ds with
  | .str a, [.str b] => ∃ i rest, Builtin.Str.occurrences a b 0 a.length 1 = i :: rest ∧ K (.int (i : Nat)) S
  | _, _ => False
section
variable {X : Cx} {o e : Expr} {wo : WE} {wr : WA} {apos cpos : Pos}
end
theorem sorted_perm {z : Str} {ys : List Str} (h : ys.Perm (singles z)) : (tl (Txt.join (Str.ofString "") ys)).Perm (tl z) := by
  have ht : tl (Txt.join (Str.ofString "") ys) = (ys.map tl).flatten := by
    rw [tl_joinT]
    show joinL [] _ = _
    rw [joinL_nil]
  rw [ht]
  have h1 := (h.map tl).flatten
  have h2 : ((singles z).map tl).flatten = tl z := by
    unfold singles
    rw [List.map_map]
    show ((tl z).map (fun c => [c])).flatten = _
    induction tl z with
    | nil => rfl
    | cons c l ih => rw [List.map_cons, List.flatten_cons, ih]; rfl
  rw [h2] at h1
  exact h1
theorem ixN_last {n : Nat} (h : 0 < n) : ixN n (-1) = some (n - 1) := by
  unfold ixN
  rw [if_neg (by omega), if_pos (by omega)]
  congr 1
  omega
theorem st_ixLast {x : D} {ds : List D} {d : D} {S : Sto} {K : KE} (e : seqOf S x = some ds) (e2 : ds.getLast? = some d) (h : K d S) : oIx x (.int (-1)) S K := by
  refine st_ix e ?_ h
  have l : 0 < ds.length := by
    cases ds with
    | nil => cases e2
    | cons _ _ => simp
  unfold atI
  rw [ixN_last l]
  show ds[ds.length - 1]? = _
  rw [← e2, List.getLast?_eq_getElem?]
theorem cut_last {α : Type} (xs : List α) : cutD xs none (some (-1)) = xs.dropLast := by
  unfold cutD
  rw [HT.sIx_none, List.drop_zero, Nat.sub_zero]
  have e : HT.sIx xs.length xs.length (some (-1)) = xs.length - 1 := by
    have e2 : HT.sIx xs.length xs.length (some (-1)) = ((-1 : Int) + (xs.length : Int)).toNat := by
      unfold HT.sIx
      simp
    rw [e2]
    omega
  rw [e, List.dropLast_eq_take]
end G

set_option Elab.async false
set_option linter.all false
set_option maxRecDepth 100000
set_option autoImplicit false
namespace G
open PySem PySem.Spec PyProof.Rows L2
/-! ### a, b, c = .. -/
section
variable {X : Cx} {a b c : Expr} {pos : Pos} {wa wb wc : WE}
theorem gs_par3 (i j k : Nat) {x y z : Str} {px py pz pt : Pos} {kt k2 : Nat} {pt2 : Pos} (hN : X.N.Nodup) (ha : GE X a wa) (hb : GE X b wb) (hcc : GE X c wc) (hc : X.calm = true := by rfl) (hi : X.N[i]? = some x := by rfl) (hj : X.N[j]? = some y := by rfl) (hk : X.N[k]? = some z := by rfl) (hij : i ≠ j := by decide) (hik : i ≠ k := by decide) (hjk : j ≠ k := by decide)
    (hx : X.env.scope.names.lookup x = some .local := by rfl) (hy : X.env.scope.names.lookup y = some .local := by rfl) (hz : X.env.scope.names.lookup z = some .local := by rfl)
    (hw : swappedStores [.Tuple [.Name x px, .Name y py, .Name z pz] kt pt] (.Tuple [a, b, c] k2 pt2) X.env = pure (some [x, y, z]) := by rfl)
    (hs : swapsWithSole [.Tuple [.Name x px, .Name y py, .Name z pz] kt pt] (.Tuple [a, b, c] k2 pt2) pos.line X.env = pure false := by rfl)
    (s1 : starEach [a, b, c] X.env = (false, eval a X.env) :: starEach [b, c] X.env := by rfl) (s2 : starEach [b, c] X.env = (false, eval b X.env) :: starEach [c] X.env := by rfl) (s3 : starEach [c] X.env = (false, eval c X.env) :: starEach [] X.env := by rfl) :
    GS X (.Assign [.Tuple [.Name x px, .Name y py, .Name z pz] kt pt] (.Tuple [a, b, c] k2 pt2) pos) (wPar3 i j k wa wb wc) := by
  refine PS.imp (ps_par3 hc hN hi hj hk hij hik hjk hx hy hz (ga_cons ha (ga_cons hb (ga_cons hcc ga_nil s3) s2) s1) hw hs) fun D σ H ⟨N, ρ, S, E, ab, h, q⟩ => ?_
  refine lift_args3 ab h fun x y z S' k v u w H' t' c r1 r2 r3 => ?_
  exact ⟨v, u, w, rfl, q.nx _ _ k _ _ t' ((((ab.mono t' c).put r1).put r2).put r3)⟩
end
theorem st_par3 {na ba ca : Rho → Sto → Prop} {ra : D → Sto → Prop} {ρ : Rho} {S : Sto} {i j k : Nat} {a b c : WE} (h : a ρ S fun x S1 => b ρ S1 fun y S2 => c ρ S2 fun z S3 => na (((ρ.set i (some x)).set j (some y)).set k (some z)) S3) : wPar3 i j k a b c ⟨na, ra, ba, ca⟩ ρ S := h
/-! ### a comprehension that keeps some items -/
theorem comp_filterL {α : Type} {keep : Sto → Prop} {g : WG} {t : WT} {e : WE} {ρ : Rho} {K : List D → Sto → Prop} {S : Sto} (l : List α) (h r : α → D) (f : α → Bool) (hk : keep S) (hl : l.length ≤ sizeLine)
    (hs : ∀ a, a ∈ l → ∀ (K1 : D → Sto → Prop) (F1 : Sto → Prop), (f a = true → K1 (r a) S) → (f a = false → F1 S) → g (h a) ρ S fun ρ1 S1 => t ρ1 S1 fun b S2 => (b = true → e ρ1 S2 K1) ∧ (b = false → F1 S2))
    (hK : K ((l.filter f).map r) S) : compW keep g t e ρ (l.map h) [] S K := by
  refine comp_ind (I := fun ds acc S1 => S1 = S ∧ ∃ m : List α, ds = m.map h ∧ acc.length + m.length ≤ l.length ∧ acc ++ (m.filter f).map r = (l.filter f).map r ∧ ∀ x, x ∈ m → x ∈ l) ⟨rfl, l, rfl, by simp, rfl, fun _ z => z⟩ (fun acc S1 ⟨e1, m, e2, e3, e4, e5⟩ => ?_) fun d ds F ih acc S1 ⟨e1, m, e2, e3, e4, e5⟩ => ?_
  · subst e1
    refine ⟨hk, ?_⟩
    cases m with
    | cons _ _ => cases e2
    | nil =>
      rw [List.filter_nil, List.map_nil, List.append_nil] at e4
      rw [e4]
      exact hK
  · subst e1
    refine ⟨hk, ?_⟩
    cases m with
    | nil => cases e2
    | cons a m =>
      injection e2 with e2 e6
      subst e2
      rw [List.length_cons] at e3
      refine hs a (e5 a (List.mem_cons_self ..)) _ _ (fun z => ⟨by omega, ih _ _ ⟨rfl, m, e6, by simp; omega, ?_, fun x hx => e5 x (List.mem_cons_of_mem _ hx)⟩⟩) fun z => ih _ _ ⟨rfl, m, e6, by omega, ?_, fun x hx => e5 x (List.mem_cons_of_mem _ hx)⟩
      · rw [List.filter_cons, if_pos z] at e4
        rw [List.append_assoc]
        exact e4
      · rw [List.filter_cons, if_neg (by rw [z]; decide)] at e4
        exact e4
/-! ### data that are equal -/
inductive Dt : Nat → D → Prop
  | non (n : Nat) : Dt n .non
  | bl (n : Nat) (b : Bool) : Dt n (.bl b)
  | int (n : Nat) (i : Int) : Dt n (.int i)
  | str (n : Nat) {s : Str} : PyData.strOk s = true → Dt n (.str s)
  | tup {n : Nat} {l : List D} : (∀ d, d ∈ l → Dt n d) → Dt (n + 1) (.tup l)
  | lst {n : Nat} {l : List D} : (∀ d, d ∈ l → Dt n d) → Dt (n + 1) (.lst l)
theorem pds_all {n : Nat} : ∀ {l : List D}, (∀ d, d ∈ l → ∃ p, d.pd = some p ∧ Sh n p) → ∃ ps, pds l = some ps ∧ ps.length = l.length ∧ ∀ p, p ∈ ps → Sh n p
  | [], _ => ⟨[], rfl, rfl, fun p hp => by cases hp⟩
  | d :: l, h => by
    obtain ⟨p, e, s⟩ := h d (List.mem_cons_self ..)
    obtain ⟨ps, e2, l2, s2⟩ := pds_all (l := l) fun x hx => h x (List.mem_cons_of_mem _ hx)
    refine ⟨p :: ps, ?_, by simp [l2], fun q hq => ?_⟩
    · show (match d.pd, pds l with
        | some a, some r => some (a :: r)
        | _, _ => none) = _
      rw [e, e2]
    · rcases List.mem_cons.mp hq with z | z
      · rw [z]; exact s
      · exact s2 q z
theorem Dt.pd {n : Nat} {d : D} (h : Dt n d) : ∃ p, d.pd = some p ∧ Sh n p := by
  induction h with
  | non n => exact ⟨_, rfl, .non n⟩
  | bl n b => exact ⟨_, rfl, .bl b n⟩
  | int n i => exact ⟨_, rfl, .int i n⟩
  | str n k => exact ⟨_, rfl, .str k n⟩
  | tup _ ih =>
    obtain ⟨ps, e, _, s⟩ := pds_all ih
    refine ⟨.tuple ps, ?_, .tup s⟩
    show (pds _).map PyData.tuple = _
    rw [e]
    rfl
  | lst _ ih =>
    obtain ⟨ps, e, _, s⟩ := pds_all ih
    refine ⟨.list ps, ?_, .list s⟩
    show (pds _).map PyData.list = _
    rw [e]
    rfl
/-! ### a new dict without items -/
section
variable {X : Cx} {pos : Pos}
def wD0 : WE := fun _ S K => K (.dic []) S
def wDL0 : WE := fun _ S K => ∀ p, S p = none → K (.cell p) (S.set p (.dic []))
end
end G

set_option Elab.async false
set_option linter.all false
set_option maxRecDepth 100000
set_option autoImplicit false
namespace G
open PySem PySem.Spec PyProof.Rows L2
/-! ### attributes -/
def putD (f : Str) (v : D) : List (Str × D) → List (Str × D)
  | [] => [(f, v)]
  | (g, x) :: r => if g = f then (g, v) :: r else (g, x) :: putD f v r
theorem RepF.length {H : Hp} {A : Addr → Prop} {vs : List (Str × V)} {ds : List (Str × D)} (h : RepF H A vs ds) : vs.length = ds.length := by
  induction h with
  | nil => rfl
  | cons _ _ ih => exact congrArg Nat.succ ih
theorem RepF.put {H : Hp} {A : Addr → Prop} {vs : List (Str × V)} {ds : List (Str × D)} (h : RepF H A vs ds) {f : Str} {v : V} {d : D} (r : Rep H A v d) : RepF H A (putF f v vs) (putD f d ds) := by
  induction h with
  | nil => exact .cons r .nil
  | cons r2 q ih =>
    unfold putF putD
    split
    · exact .cons r q
    · exact .cons r2 ih
theorem RepF.look {H : Hp} {A : Addr → Prop} {vs : List (Str × V)} {ds : List (Str × D)} (h : RepF H A vs ds) {f : Str} {d : D} (e : ds.lookup f = some d) : ∃ v, vs.lookup f = some v ∧ Rep H A v d := by
  induction h with
  | nil => cases e
  | cons r q ih =>
    rw [List.lookup_cons] at e ⊢
    split at e
    · cases e
      exact ⟨_, rfl, r⟩
    · exact ih e
theorem RepF.lookN {H : Hp} {A : Addr → Prop} {vs : List (Str × V)} {ds : List (Str × D)} (h : RepF H A vs ds) {f : Str} (e : ds.lookup f = none) : vs.lookup f = none := by
  induction h with
  | nil => rfl
  | cons r q ih =>
    rw [List.lookup_cons] at e ⊢
    split at e
    · cases e
    · exact ih e
/-- e.f of an object of one of these classes -/
def wFld (Cs : List Addr) (f : Str) (a : WE) : WE := fun ρ S K => a ρ S fun d S1 => ∃ c C fs v, d = .cell c ∧ S1 c = some (.obj C fs) ∧ C ∈ Cs ∧ fs.lookup f = some v ∧ K v S1
/-- e.f = .. -/
def gFld (Cs : List Addr) (f : Str) (o : WE) : WG := fun d ρ S K => o ρ S fun x S1 => ∃ c C fs, x = .cell c ∧ S1 c = some (.obj C fs) ∧ C ∈ Cs ∧ fs.length < 1000 ∧ K ρ (S1.set c (.obj C (putD f d fs)))
section
variable {X : Cx} {e o : Expr} {f : Str} {pos : Pos} {wa wo : WE} {Cs : List Addr}
theorem ge_fld (ha : GE X e wa) (hC : ∀ C, C ∈ Cs → Cls X.K C ∧ NoAttr X.K C f) (hb : attributeBase e f X.env (eval e X.env) = eval e X.env := by rfl) : GE X (.Attribute e f pos) (wFld Cs f wa) := by
  refine PE.imp (pe_fld ha hb) fun σ H Q ⟨N, ρ, S, K, ab, h, q⟩ => ?_
  refine liftE.mk ab h fun d S1 ⟨c, C, fs, v, ed, eS, hc, el, k⟩ x H1 t1 c1 r1 => ?_
  subst ed
  cases r1
  obtain ⟨dx, fvs, e1, rf⟩ := c1.at_ _ _ eS
  obtain ⟨u, e2, r⟩ := rf.look el
  exact ⟨c, C, dx, fvs, u, rfl, e1, (hC C hc).1, (hC C hc).2, e2, q _ _ k _ H1 t1 c1 r⟩
theorem pg_fld {ta : TE} (ho : PE X o ta) : PG X (.Attribute o f pos) (fun v σ H Q => ta σ H fun x H2 => ∃ a C dx fs, x = .ref a ∧ H2 a = some (.ins C dx fs) ∧ Cls X.K C ∧ NoAttr X.K C f ∧ fs.length < 1000 ∧ Q σ (upd H2 a (.ins C dx (putF f v fs)))) := by
  refine ⟨fun pins s σ H v u Q I r h => ?_⟩
  rw [assign_Attribute]
  refine wpAny_bind (wpAny_holding (thn (ho.run pins s σ H _ I h) fun ov s1 ⟨x, H1, I1, rx, a, C, dx, fs, ex, ea, c, n, l, q⟩ => ?_))
  subst ex
  obtain rfl : ov = Value.ref a := rx
  refine wpAny_bind (wpAny_standAt (wpAny_bind (wpAny_holding (setattr_ok I1 ea c n l r fun s3 I3 => ?_))))
  exact wpAny_release ⟨σ, _, I3, q⟩
theorem gg_fld (ho : GE X o wo) (hC : ∀ C, C ∈ Cs → Cls X.K C ∧ NoAttr X.K C f) : GG X (.Attribute o f pos) (gFld Cs f wo) := by
  refine PG.imp (pg_fld ho) fun v σ H Q ⟨N, ρ, S, d, K, ab, r, h, q⟩ => ?_
  refine liftE.mk ab h fun x S1 ⟨c, C, fs, ex, eS, hc, l, k⟩ u H1 t1 c1 r1 => ?_
  subst ex
  cases r1
  obtain ⟨dx, fvs, e1, rf⟩ := c1.at_ _ _ eS
  have tp := Tr.put c1 eS (o := .ins C dx (putF f v fvs)) (x := .obj C (putD f d fs))
  have cp := c1.put eS (o := .ins C dx (putF f v fvs)) (x := .obj C (putD f d fs)) ⟨dx, _, upd_same, (rf.put (r.mono t1)).mono tp⟩
  exact ⟨c, C, dx, fvs, rfl, e1, (hC C hc).1, (hC C hc).2, by rw [rf.length]; exact l, q _ _ k _ _ (t1.trans tp) (ab.mono (t1.trans tp) cp)⟩
end
/-! ### methods -/
/-- o.m(..) -/
def wMt (C : Addr) (m : Str) (c : CS) (o : WE) (t : WA) : WE := fun ρ S K => o ρ S fun x S1 => ∃ p fs, x = .cell p ∧ S1 p = some (.obj C fs) ∧ fs.lookup m = none ∧ t ρ S1 fun ds S2 => c (x :: ds) S2 K
def CalleeM (P : Program) (w : World) (K : PySem.W.Frag) (mg : Str → Option Value) (base : Heap) (C : Addr) (m : Str) (k : Nat) (c : CS) : Prop :=
  ∃ (f : Addr) (fd : FuncData) (ps : List Str), Meth K C m f ∧ Binds K fd ps [] ∧ FnG P w K mg base k f fd ps (spOf c)
section
variable {X : Cx} {e o : Expr} {es : List Expr} {m : Str} {pos apos p : Pos} {wo : WE} {wr : WA} {C : Addr} {c : CS} {k j : Nat}
theorem run_fnG {pins : List (Addr × Obj)} {σ : L2.St} {H : Hp} {s : Shared} {Q : VK} {us : List Value} {vs : List V} {f : Addr} {fd : FuncData} {ps : List Str} {sp : Sp} (F : FnG X.prog X.w X.K X.mg X.base k f fd ps sp) (hr : RoomG k X.A) (hb : Binds X.K fd ps [])
    (I : Inv X pins σ H s) (r : Vals vs us) (h : sp vs H Q E0) : wpAny (model X.prog X.w) X.A (call (.ref f) us) (EP X pins σ Q) X.xe s := by
  have hl : (us ++ []).length = ps.length := by rw [List.append_nil, ← r.length]; exact F.len _ _ _ _ h
  have hbi := hb s us I.kIn hl
  rw [List.append_nil] at hbi
  refine wpAny_call (codeAny_mono (F.run X.A X.stack s H ⟨us, []⟩ us vs Q E0 hr I.env0 hbi r h) fun r2 s2 hq => ?_)
  cases r2 with
  | error y => exact pass0 pins σ H s y s2 I hq
  | ok fl =>
    cases fl with
    | ret u => exact I.after hq
    | _ => exact False.elim hq
theorem ge_mt {pl : Sem Bool} (ho : GE X o wo) (hC : Cls X.K C) (M : CalleeM X.prog X.w X.K X.mg X.base C m k c) (hr : RoomG j X.A) (ha : GAs X (e :: es) wr) (hj : k ≤ j := by decide)
    (hst : starEach (e :: es) X.env = (false, eval e X.env) :: starEach es X.env := by rfl) (hpl : (backTo pos (starEach es X.env)).any (·.1) = false := by rfl)
    (ht : eval (.Call (.Attribute o m apos) (e :: es) [] pos) X.env = (do
      let ov ← eval o X.env
      standAt apos.atName
      let (f, first) ← holding [ov] (getMethod ov m pl)
      callWith pos f first (backTo pos (starEach (e :: es) X.env)) (backToKw pos (keywordEach [] X.env))) := by rfl) :
    GE X (.Call (.Attribute o m apos) (e :: es) [] pos) (wMt C m c wo wr) := by
  obtain ⟨f, fd, ps, hm, hb, F⟩ := M
  refine ⟨fun pins s σ H Q I ⟨N, ρ, S, K, ab, h, q⟩ => ?_⟩
  have lo : liftE wo σ H fun v H1 => ∃ a dx fs, v = .ref a ∧ H1 a = some (.ins C dx fs) ∧ fs.lookup m = none ∧ liftA wr σ H1 fun vs H2 => spOf c (v :: vs) H2 Q E0 :=
    liftE.mk ab h fun x S1 ⟨p, fs, ex, eS, el, h2⟩ u H1 t1 c1 r1 => by
      subst ex
      cases r1
      obtain ⟨dx, fvs, e1, rf⟩ := c1.at_ _ _ eS
      refine ⟨p, dx, fvs, rfl, e1, rf.lookN el, N, ρ, S1, _, ab.mono t1 c1, h2, fun ds S2 k2 vs H2 t2 c2 r2 => ?_⟩
      exact ⟨N, S2, .cell p :: ds, K, c2, .cons (.cell p) r2, k2, q.of (t1.trans t2)⟩
  refine PySem.W.methodCall_KW (pl := pl) (thn (ho.run pins s σ H _ I lo) fun u s1 ⟨x, H1, I1, rx, a, dx, fs, ex, ea, l, q1⟩ => ?_) ht
  subst ex
  obtain rfl : u = Value.ref a := rx
  refine getmeth_ok I1 ea hC hm l ?_
  refine PySem.W.callWith_K (first := [.ref a]) (h₀ := X.base) I.ok.mod.kin hm.kp (thn (ha.run pos pins s1 σ H1 _ I1 q1) fun us s2 ⟨vs, H2, I2, r, q2⟩ => ⟨I2.kIn, ?_⟩) hst hpl
  exact run_fnG (us := .ref a :: us) (vs := .ref a :: vs) F (hr.mono hj) hb I2 (.cons rfl r) q2
theorem ge_mt0 {pl : Sem Bool} (ho : GE X o wo) (hC : Cls X.K C) (M : CalleeM X.prog X.w X.K X.mg X.base C m k c) (hr : RoomG j X.A) (hj : k ≤ j := by decide)
    (ht : eval (.Call (.Attribute o m apos) [] [] pos) X.env = (do
      let ov ← eval o X.env
      standAt apos.atName
      let (f, first) ← holding [ov] (getMethod ov m pl)
      callWith pos f first (backTo pos (starEach [] X.env)) (backToKw pos (keywordEach [] X.env))) := by rfl) :
    GE X (.Call (.Attribute o m apos) [] [] pos) (wMt C m c wo wNil) := by
  obtain ⟨f, fd, ps, hm, hb, F⟩ := M
  refine ⟨fun pins s σ H Q I ⟨N, ρ, S, K, ab, h, q⟩ => ?_⟩
  have lo : liftE wo σ H fun v H1 => ∃ a dx fs, v = .ref a ∧ H1 a = some (.ins C dx fs) ∧ fs.lookup m = none ∧ spOf c [v] H1 Q E0 :=
    liftE.mk ab h fun x S1 ⟨p, fs, ex, eS, el, h2⟩ u H1 t1 c1 r1 => by
      subst ex
      cases r1
      obtain ⟨dx, fvs, e1, rf⟩ := c1.at_ _ _ eS
      exact ⟨p, dx, fvs, rfl, e1, rf.lookN el, N, S1, [.cell p], K, c1, .cons (.cell p) .nil, h2, q.of t1⟩
  refine PySem.W.methodCall_KW (pl := pl) (thn (ho.run pins s σ H _ I lo) fun u s1 ⟨x, H1, I1, rx, a, dx, fs, ex, ea, l, q1⟩ => ?_) ht
  subst ex
  obtain rfl : u = Value.ref a := rx
  refine getmeth_ok I1 ea hC hm l ?_
  exact PySem.W.callWith_K0 (first := [.ref a]) I1.kIn hm.kp (run_fnG (us := [.ref a]) (vs := [.ref a]) F (hr.mono hj) hb I1 (.cons rfl .nil) q1)
end
/-! ### new objects -/
/-- C(..) -/
def wMake (C : Addr) (c : CS) (t : WA) : WE := fun ρ S K => t ρ S fun ds S1 => ∀ p, S1 p = none → c (.cell p :: ds) (S1.set p (.obj C [])) fun d S2 => d = .non ∧ K (.cell p) S2
def CalleeN (P : Program) (w : World) (K : PySem.W.Frag) (mg : Str → Option Value) (base : Heap) (x : Str) (C : Addr) (k : Nat) (c : CS) : Prop :=
  ∃ (f : Addr) (fd : FuncData) (ps : List Str), mg x = some (.ref C) ∧ Mk K C f ∧ Binds K fd ps [] ∧ FnG P w K mg base k f fd ps (spOf c)
theorem guards_make (C : Addr) (us : List Value) (kw : List (Str × Value)) : (Code.builtin "type.__call__" ⟨.ref C :: us, kw⟩).guards = [] := by
  unfold Code.guards
  rfl
theorem RoomG.make {k : Nat} {A : Around} (r : RoomG (k + 1) A) (C : Addr) (us : List Value) : RoomG k (A.under (.builtin "type.__call__" ⟨.ref C :: us, []⟩)) :=
  ⟨r.toRoom.make C us [], by
    have e : (A.under (.builtin "type.__call__" ⟨.ref C :: us, []⟩)).guards = pushGuards (Code.guards (.builtin "type.__call__" ⟨.ref C :: us, []⟩)) A.guards := rfl
    rw [e, guards_make]
    exact r.gd⟩
section
variable {X : Cx} {e : Expr} {es : List Expr} {x : Str} {pos p : Pos} {wr : WA} {C : Addr} {c : CS} {k j : Nat}
theorem ge_make (Mc : CalleeN X.prog X.w X.K X.mg X.base x C k c) (hr : RoomG j X.A) (ha : GAs X (e :: es) wr) (hj : k + 1 ≤ j := by decide) (hg : Gl X x := by rfl)
    (hdb : (x == ("__debug__" : Str)) = false := by decide) (he : starEach (e :: es) X.env = (false, eval e X.env) :: starEach es X.env := by rfl) (hpl : (backTo pos (starEach es X.env)).any (·.1) = false := by rfl) :
    GE X (.Call (.Name x p) (e :: es) [] pos) (wMake C c wr) := by
  obtain ⟨f, fd, ps, hm, M, hb, F⟩ := Mc
  have hr := hr.mono hj
  refine ⟨fun pins s σ H Q I ⟨N, ρ, S, K, ab, h, q⟩ => ?_⟩
  have la : liftA wr σ H fun vs H1 => ∀ x dx, H1 x = none → H1 dx = none → dx ≠ x → spOf c (.ref x :: vs) (upd (upd H1 dx (.own x)) x (.ins C dx [])) (fun v H2 => v = .non ∧ Q (.ref x) H2) E0 :=
    ⟨N, ρ, S, _, ab, h, fun ds S1 k1 vs H1 t1 c1 r1 x dx nx nd ne => by
      have c2 : CellsOk N (upd H1 dx (.own x)) S1 := c1.new nd
      have t2 := Tr.new c1 nd (o := .own x)
      have nx2 : upd H1 dx (.own x) x = none := by rw [upd_ne (Ne.symm ne)]; exact nx
      have t3 := Tr.newC c2 nx2 (o := .ins C dx []) (x := .obj C [])
      have c3 := c2.newC nx2 (o := .ins C dx []) (x := .obj C []) ⟨dx, [], upd_same, .nil⟩
      have tt := t2.trans t3
      refine ⟨N, _, _, _, c3, .cons (.cell x) (r1.mono tt), k1 x (c1.free nx), fun d S2 ⟨e2, k2⟩ v H2 t4 c4 r4 => ?_⟩
      subst e2
      cases r4
      exact ⟨rfl, q _ _ k2 _ H2 ((t1.trans tt).trans t4) c4 (.cell x)⟩⟩
  refine wpAny_Call_Name_kw (ld_glob I hg hm ?_ hdb)
  refine PySem.W.callWith_K (h₀ := X.base) I.ok.mod.kin M.kp (thn (ha.run pos pins s σ H _ I la) fun us s1 ⟨vs, H1, I1, r, q1⟩ => ⟨I1.kIn, ?_⟩) he hpl
  have hq := q1 (s1.heap.objs.size + 1) s1.heap.objs.size (I1.hok.fresh (Nat.le_succ _)) (I1.hok.fresh (Nat.le_refl _)) (Nat.ne_of_lt (Nat.lt_succ_self _))
  have I2 := Inv.made (C := C) I1
  have r2 : Vals (V.ref (s1.heap.objs.size + 1) :: vs) (Value.ref (s1.heap.objs.size + 1) :: us) := .cons rfl r
  have hl : (Value.ref (s1.heap.objs.size + 1) :: us ++ []).length = ps.length := by
    have e := r2.length
    rw [F.len _ _ _ _ hq] at e
    rw [List.append_nil]
    exact e.symm
  have hbi := hb _ (Value.ref (s1.heap.objs.size + 1) :: us) I2.kIn hl
  rw [List.append_nil] at hbi
  refine wpAny_call (make_map (f := f) I1.kIn M.makes M.init (beq_iff_eq.mp M.fn) (codeAny_mono (F.run _ X.stack _ _ ⟨Value.ref (s1.heap.objs.size + 1) :: us, []⟩ (Value.ref (s1.heap.objs.size + 1) :: us) _ _ E0 (hr.make C us)
    (I2.env0.make C us []) hbi r2 hq) fun r s' hq' => ?_))
  cases r with
  | error e => exact pass0 pins σ _ _ e s' I2 hq'
  | ok fl =>
    cases fl with
    | ret u =>
      obtain ⟨v, H', I3, rv, ev, q3⟩ := I2.after hq'
      subst ev
      exact ⟨rv, ⟨V.ref (s1.heap.objs.size + 1), H', I3, rfl, q3⟩⟩
    | next => exact False.elim hq'
    | brk => exact False.elim hq'
    | cont => exact False.elim hq'
end
/-! ### o[i] op= e of a list of ints -/
def wAugIx (f : Int → Int → Int) (o i e : WE) : WS := fun E ρ S => o ρ S fun x S1 => i ρ S1 fun y S2 => ∃ c ds k j m, x = .cell c ∧ S2 c = some (.lst ds) ∧ y = .int k ∧ ixN ds.length k = some j ∧ ds[j]? = some (.int m) ∧ 0 ≤ k ∧ k.toNat = j ∧ e ρ S2 fun z S3 => ∃ n ds3, z = .int n ∧ S3 c = some (.lst ds3) ∧ ixN ds3.length k = some j ∧ E.nx ρ (S3.set c (.lst (ds3.set j (.int (f m n)))))
/-! ### steps -/
section
variable {ρ : Rho} {S : Sto} {K : KE}
theorem st_fld {Cs : List Addr} {f : Str} {a : WE} (h : a ρ S fun d S1 => ∃ c C fs v, d = .cell c ∧ S1 c = some (.obj C fs) ∧ C ∈ Cs ∧ fs.lookup f = some v ∧ K v S1) : wFld Cs f a ρ S K := h
theorem st_gFld {Cs : List Addr} {f : Str} {o : WE} {d : D} {K : Rho → Sto → Prop} (h : o ρ S fun x S1 => ∃ c C fs, x = .cell c ∧ S1 c = some (.obj C fs) ∧ C ∈ Cs ∧ fs.length < 1000 ∧ K ρ (S1.set c (.obj C (putD f d fs)))) : gFld Cs f o d ρ S K := h
theorem st_mt {C : Addr} {m : Str} {c : CS} {o : WE} {t : WA} (h : o ρ S fun x S1 => ∃ p fs, x = .cell p ∧ S1 p = some (.obj C fs) ∧ fs.lookup m = none ∧ t ρ S1 fun ds S2 => c (x :: ds) S2 K) : wMt C m c o t ρ S K := h
theorem st_make {C : Addr} {c : CS} {t : WA} (h : t ρ S fun ds S1 => ∀ p, S1 p = none → c (.cell p :: ds) (S1.set p (.obj C [])) fun d S2 => d = .non ∧ K (.cell p) S2) : wMake C c t ρ S K := h
end
end G

set_option Elab.async false
set_option linter.all false
set_option maxRecDepth 100000
set_option autoImplicit false
namespace G
open PySem PySem.Spec PyProof.Rows L2
section
variable {X : Cx} {a b o i e : Expr} {pos tpos : Pos} {wa wb wo wi we : WE}
/-! ### a list times an int, new -/
theorem gf_rep (ha : GE X a wa) (hb : GE X b wb) : GF X (.BinOp a .Mult b pos) (wRep wa wb) := by
  refine PE.imp (pe_op op_rep ha hb) fun σ H Q ⟨N, ρ, S, K, ab, h, q⟩ => ?_
  refine liftE.mk ab h fun x S1 h1 v H1 t1 c1 r1 => ?_
  refine liftE.mk (ab.mono t1 c1) h1 fun y S2 ⟨ds, k, e1, e2, l1, l2, l, kk⟩ u H2 t2 c2 r2 => ?_
  subst e2
  cases r2
  obtain ⟨a1, vs, rfl, rd, rs⟩ := lstOf_pl c2 (r1.mono t2) e1
  exact ⟨_, k, _, rfl, rfl, rd, l1, l2, by rw [rs.length]; exact l, fun p n => q _ _ kk p H2 _ (t1.trans t2) c2 (rs.flat _) n⟩
/-! ### o[i] op= e -/
theorem get_listN : PGet X (fun o i H Q => ∃ p xs k z, o = .ref p ∧ i = .int k ∧ H p = some (.lst xs) ∧ 0 ≤ k ∧ xs[k.toNat]? = some z ∧ Q z H) := by
  intro pins s σ H o i ov iv Q I ro ri ⟨p, xs, k, z, eo, ei, hp, h0, hz, q⟩
  subst eo ei
  cases ro
  obtain ⟨t, rfl⟩ := ri
  obtain ⟨its, r, pl, hz2⟩ := I.list (.inl (.inl hp))
  obtain ⟨w, ew, rw'⟩ := r.get hz
  have hlt := (List.getElem?_eq_some_iff.mp hz).1
  have hn := line63
  exact wpAny_getItem_list pl.isList h0 (by omega) (by simpa using ew) ⟨z, H, I, rw', q⟩
theorem gs_augIx {op : Operator} {f : Int → Int → Int} (ho : GE X o wo) (hi : GE X i wi) (he : GE X e we) (hp : PIp X op (ipI f))
    (ha : ∀ ov iv new, augStore i ov iv new = (do holding [new, ov, iv] (setItem ov iv new); release [new, ov, iv] []; pure .next) := by intros; rfl) : GS X (.AugAssign (.Subscript o i tpos) op e pos) (wAugIx f wo wi we) := by
  refine PS.imp (ps_augS ho hi get_listN he hp set_list ha) fun D σ H ⟨N, ρ, S, E, ab, h, q⟩ => ?_
  refine liftE.mk ab h fun x S1 h1 v H1 t1 c1 r1 => ?_
  refine liftE.mk (ab.mono t1 c1) h1 fun y S2 ⟨c, ds, k, j, m, ex, e2, ey, ej, em, k0, k1, h2⟩ u H2 t2 c2 r2 => ?_
  subst ex ey
  cases r1
  cases r2
  obtain ⟨vs, e3, rs⟩ := c2.at_ _ _ e2
  obtain ⟨z, ez, rz⟩ := rs.getD em
  cases rz
  refine ⟨c, vs, k, .int m, rfl, rfl, e3, k0, by rw [k1]; exact ez, ?_⟩
  refine liftE.mk ((ab.mono t1 c1).mono t2 c2) h2 fun w S3 ⟨n, ds3, ew, e4, ej3, kk⟩ w3 H3 t3 c3 r3 => ?_
  subst ew
  cases r3
  obtain ⟨vs3, e5, rs3⟩ := c3.at_ _ _ e4
  refine ⟨m, n, rfl, rfl, c, vs3, k, j, rfl, rfl, e5, by rw [rs3.length]; exact ej3, ?_⟩
  have tp := Tr.put c3 e4 (o := .lst (vs3.set j (.int (f m n)))) (x := .lst (ds3.set j (.int (f m n))))
  have cp := c3.put e4 (o := .lst (vs3.set j (.int (f m n)))) (x := .lst (ds3.set j (.int (f m n)))) ⟨_, upd_same, ((Reps.set (.int _) j rs3)).mono tp⟩
  have tt := (t1.trans t2).trans t3
  exact q.nx _ _ kk _ _ (tt.trans tp) (ab.mono (tt.trans tp) cp)
end
end G

set_option Elab.async false
set_option linter.all false
set_option maxRecDepth 100000
set_option autoImplicit false
namespace G
open PySem PySem.Spec PyProof.Rows L2 Ob
/-! ### min of a list of pairs of ints -/
def pairLt (p q : Int × Int) : Bool := decide (p.1 < q.1) || (decide (p.1 = q.1) && decide (p.2 < q.2))
theorem pairLt_irr (p : Int × Int) : pairLt p p = false := by
  unfold pairLt
  simp
theorem pairLt_trans {p q r : Int × Int} (h : pairLt p q = true) (k : pairLt q r = true) : pairLt p r = true := by
  unfold pairLt at *
  simp only [Bool.or_eq_true, Bool.and_eq_true, decide_eq_true_eq] at *
  omega
theorem best_pair (f : Nat → Int × Int) : ∀ (k j : Nat), j ≤ k → pairLt (f j) (f (argBest (fun i j => pairLt (f i) (f j)) k)) = false
  | 0, j, h => by
    have : j = 0 := by omega
    subst this
    exact pairLt_irr _
  | k + 1, j, h => by
    have e : argBest (fun i j => pairLt (f i) (f j)) (k + 1) = if pairLt (f (k + 1)) (f (argBest (fun i j => pairLt (f i) (f j)) k)) = true then k + 1 else argBest (fun i j => pairLt (f i) (f j)) k := rfl
    rw [e]
    split
    · rename_i hb
      by_cases z : j = k + 1
      · rw [z]; exact pairLt_irr _
      · cases w : pairLt (f j) (f (k + 1)) with
        | false => rfl
        | true =>
          have := pairLt_trans w hb
          rw [best_pair f k j (by omega)] at this
          cases this
    · rename_i hb
      by_cases z : j = k + 1
      · rw [z]; simpa using hb
      · exact best_pair f k j (by omega)
theorem best_le (bt : Nat → Nat → Bool) : ∀ k, argBest bt k ≤ k
  | 0 => Nat.le_refl _
  | k + 1 => by
    have := best_le bt k
    show (if bt (k + 1) (argBest bt k) = true then k + 1 else argBest bt k) ≤ _
    split <;> omega
/-- a pair of ints stands at an address -/
def PairAt (h : Heap) (v : Value) (p : Int × Int) : Prop := ∃ (b : Addr) (x y : Value) (t u : Tok), v = .ref b ∧ x = .int p.1 t ∧ y = .int p.2 u ∧ h.IsTuple b #[x, y]
theorem PairAt.lt {prog : Program} {w : World} {A : Around} {s : Shared} {v u : Value} {p q : Int × Int} {Q E : Value → Shared → Prop} (hp : PairAt s.heap v p) (hq : PairAt s.heap u q) (hu : A.units < cLine) (h : Q (.bool (pairLt p q)) s) : wpAny (model prog w) A (richCompare .Lt v u) Q E s := by
  obtain ⟨b, x, y, t, u1, rfl, rfl, rfl, hb⟩ := hp
  obtain ⟨c, x2, y2, t2, u2, rfl, rfl, rfl, hc⟩ := hq
  have go := RcOp.tuples_lt (A := A) (s := s) hb hc hu (e := fun j => if j = 0 then decide (p.1 = q.1) else decide (p.2 = q.2)) (r := fun j => if j = 0 then decide (p.1 < q.1) else decide (p.2 < q.2)) (fun j h1 h2 => ?_) fun j h1 h2 _ => ?_
  · refine go prog w E Q ?_
    have e : lexAt (fun j => if j = 0 then decide (p.1 = q.1) else decide (p.2 = q.2)) (fun j => if j = 0 then decide (p.1 < q.1) else decide (p.2 < q.2)) (decide ((#[Value.int p.1 t, Value.int p.2 u1] : Array Value).size < (#[Value.int q.1 t2, Value.int q.2 u2] : Array Value).size)) 0 (min (#[Value.int p.1 t, Value.int p.2 u1] : Array Value).size (#[Value.int q.1 t2, Value.int q.2 u2] : Array Value).size) = pairLt p q := by
      show (if (if (0 : Nat) = 0 then decide (p.1 = q.1) else decide (p.2 = q.2)) = true then (if (if (0 : Nat) + 1 = 0 then decide (p.1 = q.1) else decide (p.2 = q.2)) = true then decide ((2 : Nat) < 2) else (if (0 : Nat) + 1 = 0 then decide (p.1 < q.1) else decide (p.2 < q.2))) else (if (0 : Nat) = 0 then decide (p.1 < q.1) else decide (p.2 < q.2))) = pairLt p q
      unfold pairLt
      by_cases a1 : p.1 = q.1 <;> by_cases a2 : p.2 = q.2 <;> by_cases a3 : p.1 < q.1 <;> by_cases a4 : p.2 < q.2 <;> simp [a1, a2, a3, a4] <;> omega
    rw [e]
    exact h
  · have : j = 0 ∨ j = 1 := by
      have h1 : j < 2 := h1
      omega
    rcases this with rfl | rfl
    · exact SeqAt.EqAt.int_int _ _ _ _
    · exact SeqAt.EqAt.int_int _ _ _ _
  · have : j = 0 ∨ j = 1 := by
      have h1 : j < 2 := h1
      omega
    rcases this with rfl | rfl
    · exact RcOp.lt_int _ _ _ _
    · exact RcOp.lt_int _ _ _ _
section
variable {prog : Program} {w : World} {A : Around} {R : Result → Shared → Prop} {I S : Addr} {fp wr : List Addr} {n : Nat} {P : Nat → Value → Prop} {St : Nat → Heap → Prop} {Gd : Heap → Prop} {better : Nat → Nat → Bool}
/-- the turns of min, what is compared stands in the heap -/
theorem min_turns (W : Walks prog w A.in1 I fp wr n P St) (hG : ∀ h h', Gd h → (∀ b o, b ∉ wr → b ≠ S → h.get? b = some o → h'.get? b = some o) → Gd h')
    (hcmp : ∀ i j vi vj (s : Shared) (Q E : Value → Shared → Prop), Gd s.heap → P i vi → P j vj → Q (.bool (better i j)) s → wpAny (model prog w) A.in1 (richCompare .Lt vi vj) Q E s) (off : S ∉ fp) :
    ∀ (left at_ : Nat) (s : Shared) (best : Value) (cap : Nat), n - (at_ + 1) = left → at_ + 1 ≤ n → Gd s.heap → St (at_ + 1) s.heap → P (argBest better at_) best →
    s.heap.get? S = some { cls := .type "list", dict := none, data := .seq #[best, best] cap, slots := #[] } →
    (∀ v h' tk, P (argBest better (n - 1)) v → (∀ b o, b ∉ wr → b ≠ S → s.heap.get? b = some o → h'.get? b = some o) → R (.ok (.ret v)) { s with heap := h', toks := tk }) →
    codeAny (model prog w) A (.builtin "min.loop" ⟨[.ref I, .none, .ref S], []⟩) R s := by
  have offW : S ∉ wr := fun z => off (W.sub _ z)
  intro left
  induction left with
  | zero =>
    intro at_ s best cap hl hle hg st pb hS fin
    have last : at_ + 1 = n := by omega
    refine codeAny_builtin F.entry_min_loop ?_
    rw [Around.under_plainId F.plain_min_loop _]
    refine wpAny_bind (m := seqItems? (.ref S)) (wpAny_seqItems hS rfl ?_)
    refine wpAny_bind (m := tryCatch (pyNext (.ref I)) _) (wpAny_tryCatch (W.done s _ _ (last ▸ st) fun h1 tk kept => ?_))
    have hS1 := kept S _ offW hS
    refine wpAny_bind (m := updateSeq S (fun _ => #[])) ?_
    refine wpAny_updateSeq hS1 rfl (wpAny_bind (wpAny_letGo (wpAny_pure ?_)))
    exact fin best _ tk (by rw [← last]; exact pb) fun b o nb nS e => (Heap.get?_update_other _ _ (Ne.symm nS)).trans (kept b o nb e)
  | succ left ih =>
    intro at_ s best cap hl hle hg st pb hS fin
    have more : at_ + 1 < n := by omega
    refine codeAny_builtin F.entry_min_loop ?_
    rw [Around.under_plainId F.plain_min_loop _]
    refine wpAny_bind (m := seqItems? (.ref S)) (wpAny_seqItems hS rfl ?_)
    refine wpAny_bind (m := tryCatch (pyNext (.ref I)) _) (wpAny_tryCatch (W.item (at_ + 1) s _ _ more st fun v h1 tk pv st1 kept => ?_))
    have hS1 := kept S _ offW hS
    have hg1 : Gd h1 := hG _ _ hg fun b o nb _ e => kept b o nb e
    show wpAny _ A.in1 (tryCatch (holding [v, v] (richCompare .Lt v best >>= _)) _ >>= _) _ _ _
    refine wpAny_bind (wpAny_tryCatch (wpAny_holding (wpAny_bind (hcmp (at_ + 1) (argBest better at_) v best { s with heap := h1, toks := tk } _ _ hg1 pv pb ?_))))
    refine wpAny_bind (wpAny_holding (wpAny_truthy_bool ?_))
    refine wpAny_bind (wpAny_letGo (wpAny_pure ?_))
    cases hb : better (at_ + 1) (argBest better at_) with
    | true =>
      simp only [if_true]
      refine wpAny_bind ?_
      refine wpAny_updateSeq hS1 rfl (wpAny_bind (wpAny_letGo ?_))
      refine wpAny_pure ⟨plainId_quiet F.plain_min_loop _, ih (at_ + 1) _ v _ (by omega) more (hG _ _ hg1 fun b o _ nS e => (Heap.get?_update_other _ _ (Ne.symm nS)).trans e) (W.frame _ _ _ st1 fun b bf o e => ?_) (by show P (if better (at_ + 1) (argBest better at_) = true then _ else _) v; rw [if_pos hb]; exact pv) (Heap.get?_update_self _ hS1 rfl)
        fun v2 h2 tk2 p2 kept2 => ?_⟩
      · exact (Heap.get?_update_other _ _ (fun z : S = b => off (z ▸ bf))).trans e
      · exact fin v2 h2 tk2 p2 fun b o nb nS e => kept2 b o nb nS ((Heap.get?_update_other _ _ (Ne.symm nS)).trans (kept b o nb e))
    | false =>
      simp only [Bool.false_eq_true, if_false]
      refine wpAny_bind (wpAny_letGo ?_)
      refine wpAny_pure ⟨plainId_quiet F.plain_min_loop _, ih (at_ + 1) _ best cap (by omega) more hg1 st1 (by show P (if better (at_ + 1) (argBest better at_) = true then _ else _) best; rw [if_neg (by rw [hb]; decide)]; exact pb) hS1 fun v2 h2 tk2 p2 kept2 => ?_⟩
      exact fin v2 h2 tk2 p2 fun b o nb nS e => kept2 b o nb nS (kept b o nb e)
theorem min_starts (W : Walks prog w A.in1 I fp wr n P St) (hG : ∀ h h', Gd h → (∀ b o, b ∉ wr → b ≠ S → h.get? b = some o → h'.get? b = some o) → Gd h')
    (hcmp : ∀ i j vi vj (s : Shared) (Q E : Value → Shared → Prop), Gd s.heap → P i vi → P j vj → Q (.bool (better i j)) s → wpAny (model prog w) A.in1 (richCompare .Lt vi vj) Q E s) (off : S ∉ fp) (some_ : 0 < n) {s : Shared} {cap : Nat} (hg : Gd s.heap) (st : St 0 s.heap)
    (hS : s.heap.get? S = some { cls := .type "list", dict := none, data := .seq #[] cap, slots := #[] })
    (fin : ∀ v h' tk, P (argBest better (n - 1)) v → (∀ b o, b ∉ wr → b ≠ S → s.heap.get? b = some o → h'.get? b = some o) → R (.ok (.ret v)) { s with heap := h', toks := tk }) :
    codeAny (model prog w) A (.builtin "min.loop" ⟨[.ref I, .none, .ref S], []⟩) R s := by
  have offW : S ∉ wr := fun z => off (W.sub _ z)
  refine codeAny_builtin F.entry_min_loop ?_
  rw [Around.under_plainId F.plain_min_loop _]
  refine wpAny_bind (m := seqItems? (.ref S)) (wpAny_seqItems hS rfl ?_)
  refine wpAny_bind (m := tryCatch (pyNext (.ref I)) _) (wpAny_tryCatch (W.item 0 s _ _ some_ st fun v h1 tk pv st1 kept => ?_))
  have hS1 := kept S _ offW hS
  refine wpAny_bind (m := updateSeq S (fun _ => #[v, v])) ?_
  refine wpAny_updateSeq hS1 rfl ?_
  refine wpAny_pure ⟨plainId_quiet F.plain_min_loop _, min_turns W hG hcmp off _ 0 _ v _ rfl some_ (hG _ _ hg fun b o nb nS e => (Heap.get?_update_other _ _ (Ne.symm nS)).trans (kept b o nb e)) (W.frame _ _ _ st1 fun b bf o e => ?_) pv (Heap.get?_update_self _ hS1 rfl) fun v2 h2 tk2 p2 kept2 => ?_⟩
  · exact (Heap.get?_update_other _ _ (fun z : S = b => off (z ▸ bf))).trans e
  · exact fin v2 h2 tk2 p2 fun b o nb nS e => kept2 b o nb nS ((Heap.get?_update_other _ _ (Ne.symm nS)).trans (kept b o nb e))
end

section
variable {X : Cx}
/-- min(l) of a list of pairs of ints -/
def rMinPr : List V → Hp → VK → Prop := fun vs H Q => ∃ (a : Addr) (xs : List V) (ps : List (Int × Int)), vs = [.ref a] ∧ H a = some (.lst xs) ∧ xs.length = ps.length ∧ (∀ (j : Nat) (p : Int × Int), ps[j]? = some p → ∃ b, xs[j]? = some (.ref b) ∧ Rd H b (.tup [.int p.1, .int p.2])) ∧ 0 < ps.length ∧
  ∀ (j : Nat) (v : V) (p : Int × Int), xs[j]? = some v → ps[j]? = some p → (∀ q, q ∈ ps → pairLt q p = false) → Q v H
theorem cr_minPr (hc : X.calm = true) (hu : X.A.units + 1 < cLine) : CallR X (.builtin "min") rMinPr := by
  intro pins s σ H vs us Q I r ⟨a, xs, ps, ev, ha, el, hp, h0, q⟩
  subst ev
  rw [Vals.ref1 r]
  have hh : X.A.handled = none := I.ok.hd hc
  obtain ⟨its, rv, pl, _⟩ := I.list (.inl (.inl ha))
  have hl := pl.isList
  have hlt : a < s.heap.objs.size := by
    obtain ⟨_, e, _⟩ := hl
    exact Heap.lt_size e
  have lx := rv.length
  have at_ : ∀ (j : Nat) (p : Int × Int), ps[j]? = some p → ∃ b, its.toArray[j]? = some (.ref b) ∧ b < s.heap.objs.size ∧ PairAt s.heap (.ref b) p := fun j p e => by
    obtain ⟨b, e1, rd⟩ := hp j p e
    obtain ⟨w, e2, rw2⟩ := rv.get e1
    obtain rfl : w = Value.ref b := rw2
    obtain ⟨ts, rt, pt, _⟩ := I.tuple (.inl rd)
    have hb : b < s.heap.objs.size := by
      obtain ⟨_, e3, _⟩ := (show s.heap.IsTuple b ts.toArray from pt)
      exact Heap.lt_size e3
    refine ⟨b, by simpa using e2, hb, ?_⟩
    cases rt with
    | cons r1 rt =>
      cases rt with
      | cons r2 rt =>
        cases rt
        obtain ⟨t1, rfl⟩ := r1
        obtain ⟨t2, rfl⟩ := r2
        exact ⟨b, _, _, t1, t2, rfl, rfl, rfl, pt⟩
  have he : (toString "min" ++ toString ".loop" : String) = "min.loop" := by decide +kernel
  refine call_function_tree F.kind_min F.plain_min F.entry_min (F.args_min1 _) ?_; show wpAny _ X.A.in1 (Builtin.Builtins.bindParams "min" ["key", "default"] 0 ⟨[], []⟩ >>= _) _ _ s
  refine wpAny_bind (wpAny_of_eq (show Builtin.Builtins.bindParams "min" ["key", "default"] 0 ⟨[], []⟩ = pure [none, none] from rfl) ?_); refine wpAny_bind (wpAny_pure ?_)
  refine wpAny_bind (wpAny_pyIter_list hl ?_)
  refine wpAny_bind (wpAny_newObj_type ?_)
  rw [he]
  have s1 : (s.heap.push { cls := .type "list_iterator", data := .fields #[.ref a, .int 0 0] }).objs.size = s.heap.objs.size + 1 := Heap.size_push _ _
  have bt := best_pair (fun j => ps.getD j (0, 0)) (its.toArray.size - 1)
  refine wpAny_pure ⟨plainId_quiet F.plain_min_loop _, min_starts (cap := 0) (S := (s.heap.push { cls := .type "list_iterator", data := .fields #[.ref a, .int 0 0] }).objs.size) (Walks.list (A := X.A.in1) hh s.heap.objs.size a (Nat.ne_of_lt hlt) its.toArray) (Gd := fun h => ∀ (j : Nat) (p : Int × Int), ps[j]? = some p → ∃ b, its.toArray[j]? = some (.ref b) ∧ b < s.heap.objs.size ∧ PairAt h (.ref b) p)
    (better := fun i j => pairLt (ps.getD i (0, 0)) (ps.getD j (0, 0))) (fun h h' g k j p e => ?_) (fun i j vi vj s2 Q2 E2 g pi pj k => ?_) ?_ ?_ ?_ ?_ ?_ fun v h' tk pv kept => ?_⟩
  · obtain ⟨b, e1, hb, b2, x, y, t, u, e2, e3, e4, e5⟩ := g j p e
    refine ⟨b, e1, hb, b2, x, y, t, u, e2, e3, e4, ?_⟩
    cases e2
    obtain ⟨o, eo, rest⟩ := e5
    exact ⟨o, k _ o (fun z => Nat.ne_of_lt hb (List.mem_singleton.mp z)) (Nat.ne_of_lt (Nat.lt_trans hb (by rw [s1]; exact Nat.lt_succ_self _))) eo, rest⟩
  · have hi : i < ps.length := by
      have := (Array.getElem?_eq_some_iff.mp (show its.toArray[i]? = some vi from pi)).1
      rw [List.size_toArray] at this
      omega
    have hj : j < ps.length := by
      have := (Array.getElem?_eq_some_iff.mp (show its.toArray[j]? = some vj from pj)).1
      rw [List.size_toArray] at this
      omega
    obtain ⟨b, e1, _, p1⟩ := g i _ (List.getElem?_eq_getElem hi)
    obtain ⟨c, e2, _, p2⟩ := g j _ (List.getElem?_eq_getElem hj)
    have pi : its.toArray[i]? = some vi := pi
    have pj : its.toArray[j]? = some vj := pj
    rw [e1] at pi
    rw [e2] at pj
    cases pi
    cases pj
    refine PairAt.lt p1 p2 hu ?_
    have g1 : ps.getD i (0, 0) = ps[i] := by simp [hi]
    have g2 : ps.getD j (0, 0) = ps[j] := by simp [hj]
    rw [← g1, ← g2]
    exact k
  · intro z
    rcases List.mem_cons.mp z with z | z
    · rw [s1] at z
      exact Nat.ne_of_gt (Nat.lt_succ_self _) z
    · have z := List.mem_singleton.mp z
      rw [s1] at z
      rw [← z] at hlt
      exact Nat.lt_irrefl _ (Nat.lt_trans hlt (Nat.lt_succ_self _))
  · rw [List.size_toArray]; omega
  · intro j p e
    obtain ⟨b, e1, hb, b2, x, y, t, u, e2, e3, e4, e5⟩ := at_ j p e
    refine ⟨b, e1, hb, b2, x, y, t, u, e2, e3, e4, ?_⟩
    obtain ⟨o, eo, rest⟩ := e5
    exact ⟨o, Heap.get?_push_of_some _ (Heap.get?_push_of_some _ eo), rest⟩
  · refine ⟨⟨_, Heap.get?_push_of_some _ (Heap.get?_push_size _ rfl), rfl, rfl⟩, ?_⟩
    obtain ⟨o, eo, rest⟩ := hl
    exact ⟨o, Heap.get?_push_of_some _ (Heap.get?_push_of_some _ eo), rest⟩
  · exact Heap.get?_push_size _ rfl
  · have pv : its.toArray[argBest (fun i j => pairLt (ps.getD i (0, 0)) (ps.getD j (0, 0))) (its.toArray.size - 1)]? = some v := pv
    have hle := best_le (fun i j => pairLt (ps.getD i (0, 0)) (ps.getD j (0, 0))) (its.toArray.size - 1)
    have eb : argBest (fun i j => pairLt (ps.getD i (0, 0)) (ps.getD j (0, 0))) (its.toArray.size - 1) = argBest (fun i j => pairLt ((fun j => ps.getD j (0, 0)) i) ((fun j => ps.getD j (0, 0)) j)) (its.toArray.size - 1) := rfl
    rw [← eb] at bt
    generalize argBest (fun i j => pairLt (ps.getD i (0, 0)) (ps.getD j (0, 0))) (its.toArray.size - 1) = k at *
    have hsz : its.toArray.size = ps.length := by rw [List.size_toArray]; omega
    have hk : k < ps.length := by omega
    obtain ⟨vx, ex, rx⟩ : ∃ vx, xs[k]? = some vx ∧ RelV vx v := by
      have hkx : k < xs.length := by omega
      obtain ⟨w, ew, rw2⟩ := rv.get (List.getElem?_eq_getElem hkx)
      have pv : its[k]? = some v := by simpa using pv
      rw [ew] at pv
      cases pv
      exact ⟨_, List.getElem?_eq_getElem hkx, rw2⟩
    refine ⟨vx, H, I.kept (t' := tk) fun b o e => ?_, rx, q k vx ps[k] ex (List.getElem?_eq_getElem hk) fun p hpm => ?_⟩
    · have hb := Heap.lt_size e
      exact kept b o (fun z => Nat.ne_of_lt hb (List.mem_singleton.mp z)) (Nat.ne_of_lt (Nat.lt_trans hb (by rw [s1]; exact Nat.lt_succ_self _))) (Heap.get?_push_of_some _ (Heap.get?_push_of_some _ e))
    · obtain ⟨j, hj⟩ := List.getElem?_of_mem hpm
      have hjl := (List.getElem?_eq_some_iff.mp hj).1
      have := bt j (by omega)
      have g1 : ps.getD j (0, 0) = p := by
        rw [List.getD_eq_getElem?_getD, hj]
        rfl
      have g2 : ps.getD k (0, 0) = ps[k] := by simp [hk]
      rw [← g1, ← g2]
      exact this
/-- min of a list of pairs -/
def oMinP (d : D) (S : Sto) (K : KE) : Prop := ∃ ps : List (Int × Int), d = .lst (ps.map fun p => .tup [.int p.1, .int p.2]) ∧ ps ≠ [] ∧ ∀ p, p ∈ ps → (∀ q, q ∈ ps → pairLt q p = false) → K (.tup [.int p.1, .int p.2]) S
theorem gc_minP (hc : X.calm = true) (hu : X.A.units + 65 < cLine) : CallR X (.builtin "min") (liftC (one oMinP)) := gc_one (cr_minPr hc (by omega)) fun N H S v d K Q c r ⟨ps, ed, hne, k⟩ q => by
  subst ed
  cases r with
  | lst rd na rs =>
    have hl := rs.length
    rw [List.length_map] at hl
    have at_ : ∀ (j : Nat) (p : Int × Int), ps[j]? = some p → ∃ v, _ := fun j p e => rs.getD (i := j) (d := .tup [.int p.1, .int p.2]) (by rw [List.getElem?_map, e]; rfl)
    refine ⟨_, _, ps, rfl, rd, hl, fun j p e => ?_, List.length_pos_iff.mpr hne, fun j v p e1 e2 hq => ?_⟩
    · obtain ⟨v, e1, r1⟩ := at_ j p e
      cases r1 with
      | tup rd2 na2 rs2 =>
        cases rs2 with
        | cons a b =>
          cases b with
          | cons b c =>
            cases c
            cases a
            cases b
            exact ⟨_, e1, rd2⟩
    · obtain ⟨w, e3, r3⟩ := at_ j p e2
      rw [e1] at e3
      cases e3
      exact q.here c (k p (List.mem_of_getElem? e2) hq) r3
end
end G

set_option Elab.async false
set_option linter.all false
set_option maxRecDepth 100000
set_option autoImplicit false
namespace G
open PySem PySem.Spec PyProof.Rows L2
/-! ### o.index(i) of a list of ints -/
def wLIx (o a : WE) : WE := fun ρ S K => o ρ S fun x S1 => (∃ ds, lstOf S1 x = some ds) ∧ a ρ S1 fun y S2 => ∃ (ns : List Int) (i : Int) (j : Nat), lstOf S2 x = some (ns.map D.int) ∧ y = .int i ∧ ns[j]? = some i ∧ (∀ m, m < j → ns[m]? ≠ some i) ∧ K (.int (j : Nat)) S2
theorem flat_ints (ns : List Int) : (ns.map V.int).all flatV = true := by
  rw [List.all_map]
  exact List.all_eq_true.mpr fun _ _ => rfl
section
variable {X : Cx} {o a : Expr} {wo wa : WE} {apos cpos : Pos}
theorem ge_lix (ho : GE X o wo) (ha : GE X a wa)
    (hbase : attributeBase o "index" X.env (eval o X.env) = eval o X.env := by rfl)
    (hfew : ((backTo cpos (starEach [a] X.env)).all (fun x => !x.1) && (backToKw cpos (keywordEach [] X.env)).all (fun x => x.1.isSome)
      && decide ([a].length + ([] : List Keyword).length + (if ([] : List Keyword).isEmpty then 0 else 1) < 30)) = true := by rfl)
    (hline : (apos.endLine == cpos.line) = true := by rfl) (hs : starEach [a] X.env = (false, eval a X.env) :: starEach [] X.env := by rfl) (hplain : (backTo cpos (starEach [] X.env)).any (·.1) = false := by rfl) :
    GE X (.Call (.Attribute o "index" apos) [a] [] cpos) (wLIx wo wa) := by
  refine PE.imp (pe_bm PySem.F.plainAttrs_list PySem.F.slot_list_index PySem.F.type_list_index mt_index ho (ga_cons ha ga_nil hs) hbase hfew hline hs hplain) fun σ H Q ⟨N, ρ, S, K, ab, h, q⟩ => ?_
  refine liftE.mk ab h fun x S1 ⟨⟨ds, e0⟩, h1⟩ v H1 t1 c1 r1 => ?_
  obtain ⟨b, vs, rfl, e1, rs⟩ := lstOf_pl c1 r1 e0
  refine ⟨.inl ⟨rfl, vs, .inl (.inl e1)⟩, ?_⟩
  refine lift_args1 (ab.mono t1 c1) h1 fun y S2 ⟨ns, i, j, e2, ey, ej, em, k⟩ u H2 t2 c2 r2 => ?_
  subst ey
  cases r2
  obtain ⟨b2, vs2, eb, e3, rs2⟩ := lstOf_pl c2 (r1.mono t2) e2
  cases eb
  have ev := repsV_ints rs2
  subst ev
  refine ⟨b, _, .int i, j, .int i, rfl, rfl, .inl (.inl e3), rfl, flat_ints ns, by rw [List.getElem?_map, ej]; rfl, by show (i == i) = true; exact beq_self_eq_true i, fun m z hm ez => ?_, q.of (t1.trans t2) _ _ k _ H2 (.refl _ _ _) c2 (.int _)⟩
  rw [List.getElem?_map] at ez
  cases en : ns[m]? with
  | none => rw [en] at ez; cases ez
  | some w =>
    rw [en] at ez
    cases ez
    show (w == i) = false
    exact beq_eq_false_iff_ne.mpr fun z => em m hm (by rw [en, z])
end
/-! ### list(range(n)) -/
def wLRng (a : WE) : WF := fun ρ S K => a ρ S fun x S1 => ∃ j : Int, x = .int j ∧ -(2 ^ 62) ≤ j ∧ j ≤ 2 ^ 24 ∧ K (irange 0 j.toNat) S1
def rngV (n : Nat) : List V := (List.range n).map fun i => .int ((i : Nat) : Int)
theorem reps_range {H : Hp} {A : Addr → Prop} : ∀ l : List Nat, Reps H A (l.map fun i => V.int ((i : Nat) : Int)) (l.map fun i => D.int (0 + ((i : Nat) : Int)))
  | [] => .nil
  | i :: l => .cons (by show Rep H A (V.int ((i : Nat) : Int)) (D.int (0 + ((i : Nat) : Int))); rw [Int.zero_add]; exact .int _) (reps_range l)
section
variable {X : Cx} {a : Expr} {wa : WE} {p1 p2 pos pos2 : Pos}
theorem gf_lrng (ha : GE X a wa) (hm : X.mg "list" = none) (hm2 : X.mg "range" = none) (hg : Gl X "list" := by rfl) (hg2 : Gl X "range" := by rfl) (hc : X.calm = true := by rfl)
    (hs : starEach [a] X.env = [(false, eval a X.env)] := by rfl) (hs2 : starEach [.Call (.Name "range" p2) [a] [] pos2] X.env = (false, eval (.Call (.Name "range" p2) [a] [] pos2) X.env) :: starEach [] X.env := by rfl) :
    GF X (.Call (.Name "list" p1) [.Call (.Name "range" p2) [a] [] pos2] [] pos) (wLRng wa) := by
  refine ⟨fun pins s σ H Q I ⟨N, ρ, S, K, ab, h, q⟩ => ?_⟩
  have step := ha.run pins s σ H (fun v H1 => ∃ (j : Int) (S1 : Sto), v = .int j ∧ -(2 ^ 62) ≤ j ∧ j ≤ 2 ^ 24 ∧ K (irange 0 j.toNat) S1 ∧ Tr N H S H1 S1 ∧ CellsOk N H1 S1) I
    (liftE.mk ab h fun x S1 ⟨j, ex, j1, j2, k⟩ v H1 t1 c1 r1 => by
      subst ex
      cases r1
      exact ⟨j, S1, rfl, j1, j2, k, t1, c1⟩)
  refine Call_ (ld_blt I hg hm PyProof.Rows.boot_list (PyProof.Rows.callWith_type1 ?_ hs2 (by rfl)))
  rw [hs2]
  show wpAny _ _ (spliced ((false, eval (.Call (.Name "range" p2) [a] [] pos2) X.env) :: backTo pos (starEach [] X.env))) _ _ s
  refine Calls.spliced_cons ?_
  refine Call_ (ld_blt I hg2 hm2 boot_range (PyProof.Rows.callWith_type1 ?_ hs (by rfl)))
  rw [hs]
  show wpAny _ _ (spliced ((false, eval a X.env) :: backTo pos2 (starEach [] X.env))) _ _ s
  refine Calls.spliced_cons (thn step fun u s1 ⟨v, H1, I1, r1, j, S1, ev, j1, j2, k, t1, c1⟩ => ?_)
  subst ev
  obtain ⟨t, rfl⟩ := r1
  refine Calls.spliced_nil ?_
  refine call_range_1 ?_
  refine Calls.spliced_nil ?_
  have I2 : Inv X pins σ H1 { s1 with heap := s1.heap.push { cls := .type "range", data := .fields #[.int 0 s1.toks, .int j t, .int 1 (s1.toks + 1)] }, toks := s1.toks + 1 + 1 } := I1.kept fun b o e => Heap.get?_push_of_some _ e
  have en : Builtin.Range.rangeSize 0 j 1 = ((j.toNat : Nat) : Int) := by
    rw [rangeSize_one]
    split <;> omega
  refine call_list_range (n := j.toNat) (I2.ok.hd hc) (IsRange.new ..) (small_one (by omega) (by omega) j1 (by omega)) en (by omega) fun h' tk acc c kp e items => ?_
  have rv : Vals (rngV j.toNat) acc.toList := vals_get (by unfold rngV; rw [List.length_map, List.length_range, Array.length_toList, items.1]) fun i u ei => by
    have ei : acc[i]? = some u := by simpa using ei
    obtain ⟨t2, e2⟩ := items.2 i u ei
    have hi : i < j.toNat := by
      have := (Array.getElem?_eq_some_iff.mp ei).1
      rw [items.1] at this
      exact this
    refine ⟨.int ((i : Nat) : Int), ?_, ⟨t2, by rw [e2, Int.zero_add, Int.mul_one]⟩⟩
    unfold rngV
    rw [List.getElem?_map, List.getElem?_range hi]
    rfl
  have hl : (rngV j.toNat).length ≤ sizeLine := by
    unfold rngV
    rw [List.length_map, List.length_range]
    unfold sizeLine
    omega
  have I3 := I2.laid (a := (s1.heap.push { cls := .type "range", data := .fields #[.int 0 s1.toks, .int j t, .int 1 (s1.toks + 1)] }).objs.size) (o := .lst (rngV j.toNat)) (h' := h') (t' := tk) kp (Nat.le_refl _) ⟨hl, acc.toList, c, rv, by rw [Array.toArray_toList]; exact e⟩
  refine ⟨.ref _, _, I3, rfl, q _ _ k _ H1 (rngV j.toNat) t1 c1 ?_ (I2.hok.fresh (Nat.le_refl _))⟩
  exact reps_range _
end
/-! ### methods as the head tells them -/
def MethAt (K : PySem.W.Frag) (x m q : Str) (st : Stmt) : Prop := Meth K (He.ga K x) m (He.ma K (He.ga K x) m) ∧ ∃ fd : FuncData, FunD K m q (defArgs st) (defBody st) (defScope st) [] [] (He.ma K (He.ga K x) m) fd
def MakeAt (K : PySem.W.Frag) (mg : Str → Option Value) (x q : Str) (st : Stmt) : Prop := mg x = some (.ref (He.ga K x)) ∧ Mk K (He.ga K x) (He.ma K (He.ga K x) "__init__") ∧ ∃ fd : FuncData, FunD K "__init__" q (defArgs st) (defBody st) (defScope st) [] [] (He.ma K (He.ga K x) "__init__") fd
section
variable {P : Program} {w : World} {K : PySem.W.Frag} {mg : Str → Option Value} {base : Heap} {x m q : Str} {st : Stmt} {k : Nat}
theorem calleeM_of {Nm ps : List Str} {ws : WS} (h : MethAt K x m q st) (Sc : FnScope Nm ps (defScope st))
    (hb : ∀ (kV doc pm : Value) (an : Option Addr) (cdv ct : Value) (us : List Value), us.length = ps.length → bindArgs (PySem.W.fnOf m q (defArgs st) (defBody st) (defScope st) .none kV doc pm an cdv ct) ⟨us, []⟩ = pure (ps.zip us))
    (body : ∀ (f : Addr) (cdv : Value) (A : Around) (outer : List Env) (s : Shared) (H : Hp) (E : XK), RoomG k (A.deeper (envOfC q (defScope st) s.heap.objs.size f cdv)) → GSs (cxOf CX0 P w K mg base Nm q (defScope st) f cdv A outer s H E).nox (defBody st) ws) :
    CalleeM P w K mg base (He.ga K x) m (k + 1) (wDef ps.length Nm.length ws) := by
  obtain ⟨hm, fd, F⟩ := h
  exact ⟨_, fd, ps, hm, F.bindsN hb, fn_ok F Sc (body _)⟩
theorem calleeN_of {Nm ps : List Str} {ws : WS} (h : MakeAt K mg x q st) (Sc : FnScope Nm ps (defScope st))
    (hb : ∀ (kV doc pm : Value) (an : Option Addr) (cdv ct : Value) (us : List Value), us.length = ps.length → bindArgs (PySem.W.fnOf "__init__" q (defArgs st) (defBody st) (defScope st) .none kV doc pm an cdv ct) ⟨us, []⟩ = pure (ps.zip us))
    (body : ∀ (f : Addr) (cdv : Value) (A : Around) (outer : List Env) (s : Shared) (H : Hp) (E : XK), RoomG k (A.deeper (envOfC q (defScope st) s.heap.objs.size f cdv)) → GSs (cxOf CX0 P w K mg base Nm q (defScope st) f cdv A outer s H E).nox (defBody st) ws) :
    CalleeN P w K mg base x (He.ga K x) (k + 1) (wDef ps.length Nm.length ws) := by
  obtain ⟨hg, hm, fd, F⟩ := h
  exact ⟨_, fd, ps, hg, hm, F.bindsN hb, fn_ok F Sc (body _)⟩
end
/-! ### steps -/
theorem st_lix {o a : WE} {ρ : Rho} {S : Sto} {K : KE} (h : o ρ S fun x S1 => (∃ ds, lstOf S1 x = some ds) ∧ a ρ S1 fun y S2 => ∃ (ns : List Int) (i : Int) (j : Nat), lstOf S2 x = some (ns.map D.int) ∧ y = .int i ∧ ns[j]? = some i ∧ (∀ m, m < j → ns[m]? ≠ some i) ∧ K (.int (j : Nat)) S2) : wLIx o a ρ S K := h
theorem st_lrng {a : WE} {ρ : Rho} {S : Sto} {K : List D → Sto → Prop} (h : a ρ S fun x S1 => ∃ j : Int, x = .int j ∧ -(2 ^ 62) ≤ j ∧ j ≤ 2 ^ 24 ∧ K (irange 0 j.toNat) S1) : wLRng a ρ S K := h
theorem st_rep {a b : WE} {ρ : Rho} {S : Sto} {K : List D → Sto → Prop} (h : a ρ S fun x S1 => b ρ S1 fun y S2 => ∃ ds k, lstOf S2 x = some ds ∧ y = .int k ∧ -(2 ^ 63) ≤ k ∧ k < 2 ^ 63 ∧ ds.length * k.toNat ≤ sizeLine ∧ K (List.replicate k.toNat ds).flatten S2) : wRep a b ρ S K := h
theorem st_cat {a b : WE} {ρ : Rho} {S : Sto} {K : List D → Sto → Prop} (h : a ρ S fun x S1 => b ρ S1 fun y S2 => ∃ ds es, lstOf S2 x = some ds ∧ lstOf S2 y = some es ∧ ds.length + es.length ≤ sizeLine ∧ K (ds ++ es) S2) : wCat a b ρ S K := h
theorem st_augIx {f : Int → Int → Int} {o i e : WE} {na ba ca : Rho → Sto → Prop} {ra : D → Sto → Prop} {ρ : Rho} {S : Sto} (h : o ρ S fun x S1 => i ρ S1 fun y S2 => ∃ c ds k j m, x = .cell c ∧ S2 c = some (.lst ds) ∧ y = .int k ∧ ixN ds.length k = some j ∧ ds[j]? = some (.int m) ∧ 0 ≤ k ∧ k.toNat = j ∧ e ρ S2 fun z S3 => ∃ n ds3, z = .int n ∧ S3 c = some (.lst ds3) ∧ ixN ds3.length k = some j ∧ na ρ (S3.set c (.lst (ds3.set j (.int (f m n)))))) : wAugIx f o i e ⟨na, ra, ba, ca⟩ ρ S := h
end G

set_option linter.all false
set_option maxRecDepth 100000
set_option autoImplicit false
namespace G
open PySem PySem.Spec PyProof.Rows L2
/-! ### a text times any number -/
section
variable {X : Cx}
/-- × wherever a text may stand on the left -/
def oMulX (x y : D) (S : Sto) (K : KE) : Prop := oMul x y S K ∨ ∃ z k, x = .str z ∧ y = .int k ∧ z.length ≤ 10000 ∧ -1000 ≤ k ∧ k ≤ 1000 ∧ K (.str (repS z k)) S
end
end G

set_option linter.all false
set_option maxRecDepth 100000
set_option autoImplicit false
namespace G
open PySem PySem.Spec PyProof.Rows L2
/-! ### range(e, -1, -1) -/
def wRngD (a b c : WE) : WI := fun ρ S K => a ρ S fun x S1 => b ρ S1 fun y S2 => c ρ S2 fun z S3 => ∃ j : Int, x = .int j ∧ y = .int (-1) ∧ z = .int (-1) ∧ -(2 ^ 61) ≤ j ∧ j < 2 ^ 61 ∧ K ⟨idown (j + 1) (j + 1).toNat, fun _ => True⟩ S3
section
variable {X : Cx} {tg a b c : Expr} {wa wb wc : WE} {p pos : Pos}
end
end G

set_option linter.all false
set_option maxRecDepth 100000
set_option autoImplicit false
/-! ### sorted of tuples of ints of any lengths -/
namespace SrtO
open PySem PySem.Spec PyProof.Rows
section
variable {prog : Program} {w : World} {A : Around} {E : Value → Shared → Prop} {s : Shared}
end
end SrtO
namespace L2
open PySem PySem.Spec PyProof.Rows
/-- sorted(xs), xs a list of tuples of ints that are not empty (k says which) -/
def rSortedTO (K : PySem.W.Frag) : List V → Hp → VK → Prop := fun vs H Q => ∃ (a : Addr) (xs : List V) (k : V → List Int), vs = [V.ref a] ∧ SqL K H a xs ∧ (∀ x ∈ xs, ∃ t, x = V.ref t ∧ SqT K H t ((k x).map V.int) ∧ k x ≠ []) ∧
  ∀ ys p, SrtO.Srtd (fun v u => HT.lexLt (k v) (k u)) ys → SrtO.Stb (fun v u => HT.lexLt (k v) (k u)) ys xs → H p = none → Q (.ref p) (upd H p (.lst ys))
section
variable {X : Cx}
end
end L2
namespace G
open PySem PySem.Spec PyProof.Rows L2
def layI (l : List Int) : D := .tup (l.map D.int)
/-- sorted, of tuples of ints -/
def oSrtT (x : D) (S : Sto) (K : List D → Sto → Prop) : Prop := ∃ ls : List (List Int), lstOf S x = some (ls.map layI) ∧ (∀ l, l ∈ ls → l ≠ []) ∧ ∀ ms : List (List Int), ms.Perm ls → ms.Pairwise (fun a b => HT.lexLt b a = false) → K (ms.map layI) S
def wSortedT (a : WE) : WF := fun ρ S K => a ρ S fun x S1 => oSrtT x S1 K
open Classical in
noncomputable def kOf (H : Hp) (x : V) : List Int := if h : ∃ (l : List Int) (t : Addr), x = .ref t ∧ Rd H t (.tup (l.map V.int)) then h.choose else []
section
variable {X : Cx} {a : Expr} {wa : WE} {pos p : Pos}
end
end G

set_option Elab.async false
set_option linter.all false
set_option maxRecDepth 100000
set_option autoImplicit false
namespace G
open PySem PySem.Spec PyProof.Rows L2

/-! ### enumerate(text) -/
def IteS (z : Str) : It :=
  ⟨fun i _ => i < z.cps.size, fun i H v H' => ∃ T c, v = .ref T ∧ H T = none ∧ H' = upd H T (.tup [.int (i : Nat), .str ⟨#[c]⟩]) ∧ z.cps[i]? = some c, fun i _ => i = z.cps.size⟩
def iEnumS (ta : TA) : TI := fun σ H R => ta σ H fun vs H1 => ∃ z : Str, vs = [.str z] ∧ R (IteS z) H1
def wEnumS (a : WE) : WI := fun ρ S K => a ρ S fun x S1 => ∃ z : Str, x = .str z ∧ K ⟨ienum 0 ((TL.tl z).map fun c => D.str ⟨#[c]⟩), fun _ => True⟩ S1
section
variable {X : Cx} {e : Expr} {w : WE} {p pos tpos : Pos} {elts : List Expr} {kk : Nat}
end
end G

set_option Elab.async false
set_option linter.all false
set_option maxRecDepth 100000
set_option autoImplicit false
namespace G
open PySem PySem.Spec PyProof.Rows L2

/-! ### list[::-1] -/
def wRevL (a : WE) : WF := fun ρ S K => a ρ S fun x S1 => ∃ ds, lstOf S1 x = some ds ∧ K ds.reverse S1
section
variable {X : Cx} {e : Expr} {w : WE} {k : Nat} {p1 p2 p3 pos : Pos}
end
end G

set_option Elab.async false
set_option linter.all false
set_option maxRecDepth 100000
set_option autoImplicit false
namespace G
open PySem PySem.Spec PyProof.Rows L2

/-! ### sorted(set(list of ints)) -/
abbrev sEmp (w : World) : Obj := { cls := .type "set", dict := none, data := .set #[] 0 (.fresh 0 0 (!w.params.followText "set-order")) }
/-- what has been made when the set is filled -/
def Filled (w : World) (s s2 : Shared) (ns : List Int) : Prop := ∃ h' tk c, s2 = { s with heap := h', toks := tk } ∧ SetR w h' s.heap.objs.size (fun j => decide (j ∈ ns)) c ∧ c ≤ ns.length ∧ ∀ b o, s.heap.get? b = some o → h'.get? b = some o
section
variable {P : Program} {w : World} {A : Around} {E : Value → Shared → Prop} {s : Shared}
set_option maxRecDepth 100000 in
set_option maxHeartbeats 3200000 in
end
section
variable {X : Cx}
def rSetL (w : World) (K : PySem.W.Frag) : List V → Hp → VK → Prop := fun vs H Q => ∃ (a : Addr) (ns : List Int), vs = [V.ref a] ∧ SqL K H a (ns.map V.int) ∧ ns.length ≤ 4000 ∧ (∀ L : List Int, L.Nodup → (∀ j, j ∈ L ↔ j ∈ ns) → L.length < 64) ∧ ∀ p c, H p = none → c < 64 → Q (.ref p) (upd H p (SetO w p (fun j => decide (j ∈ ns)) c))
/-- sorted(set(ns)) -/
def wSrtSet (a : WE) : WF := fun ρ S K => a ρ S fun x S1 => ∃ ns : List Int, lstOf S1 x = some (ns.map D.int) ∧ ns.length ≤ 4000 ∧ (∀ k, k ∈ ns → 0 ≤ k ∧ k < 63) ∧ ∀ ms : List Int, ms.Pairwise (· < ·) → (∀ k, k ∈ ms ↔ k ∈ ns) → K (ms.map D.int) S1
variable {a : Expr} {wa : WE} {pos p pos2 p2 : Pos}
end
end G

set_option Elab.async false
set_option linter.all false
set_option maxRecDepth 100000
set_option autoImplicit false
namespace G
open PySem PySem.Spec PyProof.Rows L2

/-! ### tuple[::-1] -/
section
variable {prog : Program} {w : World} {A : Around} {E : Value → Shared → Prop} {s : Shared}
end
def tRevT (K : PySem.W.Frag) (te : TE) : TE := fun σ H Q => te σ H fun x H1 => ∃ a xs, x = .ref a ∧ SqT K H1 a xs ∧ ∀ p, H1 p = none → Q (.ref p) (upd H1 p (.tup xs.reverse))
section
variable {X : Cx} {e : Expr} {te : TE} {w : WE} {k : Nat} {p1 p2 p3 pos : Pos}
def oRevT (x : D) (S : Sto) (K : KE) : Prop := match x with
  | .tup ds => K (.tup ds.reverse) S
  | _ => False
end
end G

set_option Elab.async false
set_option linter.all false
set_option maxRecDepth 100000
set_option autoImplicit false
namespace G
open PySem PySem.Spec PyProof.Rows L2
/-! ### max of a list or tuple of ints -/
variable {X : Cx}
def oMaxS (d : D) (S : Sto) (K : KE) : Prop := ∃ ds ns, seqOf S d = some ds ∧ ints? ds = some ns ∧ 0 < ns.length ∧ ∀ m, m ∈ ns → (∀ y, y ∈ ns → y ≤ m) → K (.int m) S
end G

set_option Elab.async false
set_option linter.all false
set_option maxRecDepth 100000
set_option autoImplicit false
namespace G
open PySem PySem.Spec PyProof.Rows L2
/-! ### a call of one of several defs that stand in a list -/
def wCallSel (i : WE) (cs : List CS) (a : WA) : WE := fun ρ S K => i ρ S fun x S1 => ∃ (k : Nat) (c : CS), x = .int (k : Nat) ∧ cs[k]? = some c ∧ a ρ S1 fun ds S2 => c ds S2 K
theorem arm_sub (a b : Expr) (p : Pos) (args : List Expr) (keywords : List Keyword) (pos : Pos) (env : Env) : eval (.Call (.Subscript a b p) args keywords pos) env = (do
    callWith pos (← eval (.Subscript a b p) env) [] (backTo pos (starEach args env)) (backToKw pos (keywordEach keywords env))) := rfl
section
variable {X : Cx} {x0 x1 x2 : Str} {ie e : Expr} {es : List Expr} {wi : WE} {wr : WA} {p0 p1 p2 pl ps pos : Pos} {k0 k1 k2 j : Nat} {c0 c1 c2 : CS}
/-- what is found in the list -/
def OneOf (X : Cx) (j : Nat) (wr : WA) (cs : List CS) (σ : L2.St) (Q : VK) (v : V) (H1 : Hp) : Prop := ∃ (f : Addr) (fd : FuncData) (ps : List Str) (c : CS), v = .ref f ∧ PySem.W.keepIn X.K (.ref f) = true ∧ Binds X.K fd ps [] ∧ FnG X.prog X.w X.K X.mg X.base j f fd ps (spOf c) ∧ liftA wr σ H1 fun vs H2 => spOf c vs H2 Q E0
theorem ge_callSel (C0 : Callee X.prog X.w X.K X.mg X.base x0 k0 c0) (C1 : Callee X.prog X.w X.K X.mg X.base x1 k1 c1) (C2 : Callee X.prog X.w X.K X.mg X.base x2 k2 c2) (hr : RoomG j X.A) (hi : GE X ie wi) (ha : GAs X (e :: es) wr)
    (j0 : k0 ≤ j := by decide) (j1 : k1 ≤ j := by decide) (j2 : k2 ≤ j := by decide) (g0 : Gl X x0 := by rfl) (g1 : Gl X x1 := by rfl) (g2 : Gl X x2 := by rfl) (hs : PlainIx ie := by intro _ _; rfl)
    (d0 : (x0 == ("__debug__" : Str)) = false := by decide) (d1 : (x1 == ("__debug__" : Str)) = false := by decide) (d2 : (x2 == ("__debug__" : Str)) = false := by decide)
    (e2 : starEach [Expr.Name x2 p2] X.env = (false, eval (.Name x2 p2) X.env) :: starEach [] X.env := by rfl) (e1 : starEach [Expr.Name x1 p1, .Name x2 p2] X.env = (false, eval (.Name x1 p1) X.env) :: starEach [Expr.Name x2 p2] X.env := by rfl) (e0 : starEach [Expr.Name x0 p0, .Name x1 p1, .Name x2 p2] X.env = (false, eval (.Name x0 p0) X.env) :: starEach [Expr.Name x1 p1, .Name x2 p2] X.env := by rfl)
    (he : starEach (e :: es) X.env = (false, eval e X.env) :: starEach es X.env := by rfl) (hpl : (backTo pos (starEach es X.env)).any (·.1) = false := by rfl) :
    GE X (.Call (.Subscript (.List [.Name x0 p0, .Name x1 p1, .Name x2 p2] pl) ie ps) (e :: es) [] pos) (wCallSel wi [c0, c1, c2] wr) := by
  obtain ⟨f0, fd0, ps0, hm0, hk0, hb0, F0⟩ := callee_mono C0 j0
  obtain ⟨f1, fd1, ps1, hm1, hk1, hb1, F1⟩ := callee_mono C1 j1
  obtain ⟨f2, fd2, ps2, hm2, hk2, hb2, F2⟩ := callee_mono C2 j2
  have pf := pe_ix (X := X) ix_seq (pe_lst (pos := pl) (pa_cons (pe_glob (v := .ref f0) (pos := p0) g0 hm0 rfl d0) (pa_cons (pe_glob (v := .ref f1) (pos := p1) g1 hm1 rfl d1) (pa_cons (pe_glob (v := .ref f2) (pos := p2) g2 hm2 rfl d2) pa_nil e2) e1) e0)) hi hs (pos := ps)
  refine ⟨fun pins s σ H Q I ⟨N, ρ, S, K, ab, h, q⟩ => ?_⟩
  rw [arm_sub]
  refine wpAny_bind (thn (pf.run pins s σ H (OneOf X j wr [c0, c1, c2] σ Q) I ?_) fun u s1 ⟨v, H1, I1, r1, q1⟩ => ?_)
  · refine ⟨by show 3 ≤ sizeLine; decide, fun p n => ?_⟩
    have nd := ab.cells.dead n
    refine ⟨N, ρ, S, _, ab.mono (Tr.new ab.cells n) (ab.cells.new n), h, fun x S1 hx v H1 t1 c1' r1 => ?_⟩
    obtain ⟨k, c, rfl, ek, hw⟩ := hx
    cases r1
    have rd : H1 p = some (.lst [.ref f0, .ref f1, .ref f2]) := t1.t0.keep p _ upd_same nd
    have ab1 := (ab.mono (Tr.new ab.cells n) (ab.cells.new n)).mono t1 c1'
    have tt := (Tr.new (o := .lst [.ref f0, .ref f1, .ref f2]) ab.cells n).trans t1
    have la : ∀ c, (wr ρ S1 fun ds S2 => c ds S2 K) → liftA wr σ H1 fun vs H2 => spOf c vs H2 Q E0 := fun c hw => ⟨N, ρ, S1, _, ab1, hw, fun ds S2 kk vs H2 t2 c2' r2 => ⟨N, S2, ds, K, c2', r2, kk, q.of (tt.trans t2)⟩⟩
    have go : ∀ f : Addr, atI [V.ref f0, .ref f1, .ref f2] ((k : Nat) : Int) = some (.ref f) → OneOf X j wr [c0, c1, c2] σ Q (.ref f) H1 → rIx X.K (.ref p) (.int (k : Nat)) H1 (OneOf X j wr [c0, c1, c2] σ Q) := fun f hf o => .inl ⟨p, _, (k : Int), .ref f, rfl, rfl, .inl (.inl rd), hf, o⟩
    match k, ek with
    | 0, ek =>
      cases ek
      exact go f0 rfl ⟨f0, fd0, ps0, _, rfl, hk0, hb0, F0, la _ hw⟩
    | 1, ek =>
      cases ek
      exact go f1 rfl ⟨f1, fd1, ps1, _, rfl, hk1, hb1, F1, la _ hw⟩
    | 2, ek =>
      cases ek
      exact go f2 rfl ⟨f2, fd2, ps2, _, rfl, hk2, hb2, F2, la _ hw⟩
    | k + 3, ek => simp at ek
  obtain ⟨f, fd, ps, c, rfl, hk, hb, F, la⟩ := q1
  cases r1
  refine PySem.W.callWith_K (h₀ := X.base) I1.ok.mod.kin hk (thn (ha.run pos pins s1 σ H1 _ I1 la) fun us s2 ⟨vs, H2, I2, r, q2⟩ => ⟨I2.kIn, ?_⟩) he hpl
  have hl : (us ++ []).length = ps.length := by rw [List.append_nil, ← r.length]; exact F.len _ _ _ _ q2
  have hbi := hb s2 us I2.kIn hl
  rw [List.append_nil] at hbi
  refine wpAny_call (codeAny_mono (F.run X.A X.stack s2 H2 ⟨us, []⟩ us vs Q E0 hr I2.env0 hbi r q2) fun r2 s3 hq => ?_)
  cases r2 with
  | error y => exact pass0 pins σ H2 s2 y s3 I2 hq
  | ok fl =>
    cases fl with
    | ret u => exact I2.after hq
    | _ => exact False.elim hq
end
theorem st_callSel {i : WE} {cs : List CS} {a : WA} {ρ : Rho} {S : Sto} {K : KE} (h : i ρ S fun x S1 => ∃ (k : Nat) (c : CS), x = .int (k : Nat) ∧ cs[k]? = some c ∧ a ρ S1 fun ds S2 => c ds S2 K) : wCallSel i cs a ρ S K := h
end G

set_option Elab.async false
set_option linter.all false
set_option maxRecDepth 100000
set_option autoImplicit false
/-! ### sorted of a tuple of pairs whose first parts are different ints -/
namespace SrtP
open PySem PySem.Spec PyProof.Rows SrtO
/-- a pair that begins with an int -/
def PairV (h : Heap) (v : Value) (i : Int) : Prop := ∃ (a : Addr) (y : Value) (t : Tok), v = .ref a ∧ h.IsTuple a #[.int i t, y]
section
variable {prog : Program} {w : World} {A : Around} {E : Value → Shared → Prop} {s : Shared}
theorem PairV.keeps {h h' : Heap} {v : Value} {i : Int} (p : PairV h v i) (k : ∀ b o, h.get? b = some o → o.cls = .type "tuple" → h'.get? b = some o) : PairV h' v i := by
  obtain ⟨a, y, t, e, ⟨o, ho, hc, n, hd⟩⟩ := p
  exact ⟨a, y, t, e, ⟨o, k a o ho hc, hc, n, hd⟩⟩
end
end SrtP
namespace L2
open PySem PySem.Spec PyProof.Rows
def rSortedPr (K : PySem.W.Frag) : List V → Hp → VK → Prop := fun vs H Q => ∃ (a : Addr) (xs : List V) (k : V → Int), vs = [V.ref a] ∧ SqT K H a xs ∧ (∀ x ∈ xs, ∃ t y, x = V.ref t ∧ SqT K H t [V.int (k x), y]) ∧ (∀ x ∈ xs, ∀ y ∈ xs, k x = k y → x = y) ∧
  ∀ ys p, ys.Perm xs → ys.Pairwise (fun v u => k v ≤ k u) → H p = none → Q (.ref p) (upd H p (.lst ys))
section
variable {X : Cx}
end
end L2
namespace G
open PySem PySem.Spec PyProof.Rows L2
def pairD (p : Int × D) : D := .tup [.int p.1, p.2]
open Classical in
/-- the int that a pair begins with -/
noncomputable def kI (H : Hp) (v : V) : Int := if h : ∃ (i : Int) (t : Addr) (y : V), v = .ref t ∧ Rd H t (.tup [.int i, y]) then h.choose else 0
/-- the pair with a key -/
noncomputable def gP (H : Hp) (ps : List (Int × D)) (v : V) : Int × D := (ps.find? fun p => decide (p.1 = kI H v)).getD (0, .non)
/-- sorted, of a tuple of pairs with different ints in front -/
def oSrtP (x : D) (S : Sto) (K : List D → Sto → Prop) : Prop := ∃ ps : List (Int × D), x = .tup (ps.map pairD) ∧ (ps.map Prod.fst).Nodup ∧ ∀ qs : List (Int × D), qs.Perm ps → qs.Pairwise (fun p q => p.1 < q.1) → K (qs.map pairD) S
def wSortedP (a : WE) : WF := fun ρ S K => a ρ S fun x S1 => oSrtP x S1 K
section
variable {X : Cx} {a : Expr} {wa : WE} {pos p : Pos}
end
end G

set_option Elab.async false
set_option linter.all false
set_option autoImplicit false
set_option maxHeartbeats 1000000
namespace G
/-! ### sums, determinants -/
def sumN : Nat → (Nat → Int) → Int
  | 0, _ => 0
  | n + 1, f => sumN n f + f n
theorem sumN_congr {n : Nat} {f g : Nat → Int} (h : ∀ i, i < n → f i = g i) : sumN n f = sumN n g := by
  induction n with
  | zero => rfl
  | succ n ih =>
    show sumN n f + f n = sumN n g + g n
    rw [ih fun i hi => h i (by omega), h n (by omega)]
theorem sumN_add (n : Nat) (f g : Nat → Int) : sumN n (fun i => f i + g i) = sumN n f + sumN n g := by
  induction n with
  | zero => rfl
  | succ n ih =>
    show sumN n _ + (f n + g n) = sumN n f + f n + (sumN n g + g n)
    rw [ih]
    omega
theorem sumN_mul (n : Nat) (c : Int) (f : Nat → Int) : sumN n (fun i => c * f i) = c * sumN n f := by
  induction n with
  | zero => exact (Int.mul_zero c).symm
  | succ n ih =>
    show sumN n _ + _ = c * (sumN n f + f n)
    rw [ih, Int.mul_add]
theorem sumN_zero {n : Nat} {f : Nat → Int} (h : ∀ i, i < n → f i = 0) : sumN n f = 0 := by
  induction n with
  | zero => rfl
  | succ n ih =>
    show sumN n f + f n = 0
    rw [ih fun i hi => h i (by omega), h n (by omega)]
    rfl
theorem sumN_one {n k : Nat} {f : Nat → Int} (hk : k < n) (h : ∀ i, i < n → i ≠ k → f i = 0) : sumN n f = f k := by
  induction n with
  | zero => omega
  | succ n ih =>
    show sumN n f + f n = f k
    by_cases e : k = n
    · subst e
      rw [sumN_zero fun i hi => h i (by omega) (by omega)]
      omega
    · rw [ih (by omega) fun i hi => h i (by omega), h n (by omega) (by omega)]
      omega
theorem sumN_le {n : Nat} {f g : Nat → Int} (h : ∀ i, i < n → f i ≤ g i) : sumN n f ≤ sumN n g := by
  induction n with
  | zero => exact Int.le_refl _
  | succ n ih =>
    have a := ih fun i hi => h i (by omega)
    have b := h n (by omega)
    show sumN n f + f n ≤ sumN n g + g n
    omega
theorem sumN_nn {n : Nat} {f : Nat → Int} (h : ∀ i, i < n → 0 ≤ f i) : 0 ≤ sumN n f := by
  have := sumN_le (n := n) (f := fun _ => 0) (g := f) h
  rw [sumN_zero fun _ _ => rfl] at this
  exact this
theorem sumN_comm (n m : Nat) (F : Nat → Nat → Int) : sumN n (fun i => sumN m (F i)) = sumN m fun j => sumN n fun i => F i j := by
  induction n with
  | zero => exact (sumN_zero fun _ _ => rfl).symm
  | succ n ih =>
    show sumN n _ + sumN m (F n) = _
    rw [ih, ← sumN_add]
    rfl
theorem sumN_abs (n : Nat) (f : Nat → Int) : ((sumN n f).natAbs : Int) ≤ sumN n fun i => ((f i).natAbs : Int) := by
  induction n with
  | zero => exact Int.le_refl _
  | succ n ih =>
    show ((sumN n f + f n).natAbs : Int) ≤ sumN n (fun i => ((f i).natAbs : Int)) + ((f n).natAbs : Int)
    omega
theorem sum_pair : ∀ (N : Nat) (F : Nat → Nat → Int), (∀ j l, l < j → j < N + 1 → F j l + F l (j - 1) = 0) → sumN (N + 1) (fun j => sumN N (F j)) = 0
  | 0, F, _ => rfl
  | N + 1, F, h => by
    show sumN (N + 1) (fun j => sumN N (F j) + F j N) + sumN (N + 1) (F (N + 1)) = 0
    rw [sumN_add, sum_pair N F fun j l a b => h j l a (by omega), Int.zero_add, ← sumN_add]
    exact sumN_zero fun i hi => by
      have := h (N + 1) i hi (by omega)
      rw [Nat.add_sub_cancel] at this
      omega
abbrev Vec := Nat → Int
def sk (j t : Nat) : Nat := if t < j then t else t + 1
theorem sk_lt {j t n : Nat} (h : t < n) : sk j t < n + 1 := by
  unfold sk
  split <;> omega
theorem sk_sk {j l t : Nat} (h : l < j) : sk j (sk l t) = sk l (sk (j - 1) t) := by
  unfold sk
  repeat' split
  all_goals omega
def sgn (k : Nat) : Int := if k % 2 = 0 then 1 else -1
theorem sgn_succ (k : Nat) : sgn (k + 1) = - sgn k := by
  unfold sgn
  split <;> split <;> omega
theorem sgn_abs (k : Nat) : (sgn k).natAbs = 1 := by
  unfold sgn
  split <;> rfl
def det : Nat → (Nat → Vec) → Int
  | 0, _ => 1
  | n + 1, M => sumN (n + 1) fun j => sgn (j + n) * M n j * det n fun i t => M i (sk j t)
theorem det_congr : ∀ {n : Nat} {M N : Nat → Vec}, (∀ i, i < n → ∀ t, t < n → M i t = N i t) → det n M = det n N
  | 0, _, _, _ => rfl
  | n + 1, M, N, h => sumN_congr fun j hj => by
    rw [h n (by omega) j hj, det_congr fun i hi t ht => h i (by omega) _ (sk_lt ht)]
def upd (f : Nat → Vec) (i : Nat) (v : Vec) : Nat → Vec := fun k => if k = i then v else f k
theorem upd_at (f : Nat → Vec) (i : Nat) (v : Vec) : upd f i v i = v := if_pos rfl
theorem upd_ne {f : Nat → Vec} {i k : Nat} {v : Vec} (h : k ≠ i) : upd f i v k = f k := if_neg h
theorem upd_comm {f : Nat → Vec} {i j : Nat} {u v : Vec} (h : i ≠ j) : upd (upd f i u) j v = upd (upd f j v) i u := by
  funext k
  unfold upd
  by_cases a : k = j
  · rw [if_pos a, if_neg (by omega), if_pos a]
  · rw [if_neg a, if_neg a]
theorem upd_self {f : Nat → Vec} {i : Nat} : upd f i (f i) = f := by
  funext k
  unfold upd
  split
  · rename_i e; rw [e]
  · rfl
theorem det_lin : ∀ {n : Nat} {M : Nat → Vec} {i : Nat} (a b : Int) (u w : Vec), i < n → det n (upd M i fun t => a * u t + b * w t) = a * det n (upd M i u) + b * det n (upd M i w)
  | 0, _, _, _, _, _, _, h => by omega
  | n + 1, M, i, a, b, u, w, h => by
    show sumN (n + 1) _ = a * sumN (n + 1) _ + b * sumN (n + 1) _
    rw [← sumN_mul, ← sumN_mul, ← sumN_add]
    refine sumN_congr fun j hj => ?_
    by_cases e : i = n
    · subst e
      have same : ∀ v : Vec, det i (fun k t => upd M i v k (sk j t)) = det i (fun k t => M k (sk j t)) := fun v => det_congr fun k hk t ht => by rw [upd_ne (by omega)]
      rw [upd_at, upd_at, upd_at, same, same, same]
      grind
    · have mv : ∀ v : Vec, (fun k t => upd M i v k (sk j t)) = upd (fun k t => M k (sk j t)) i fun t => v (sk j t) := fun v => by
        funext k t
        unfold upd
        split <;> rfl
      rw [mv, mv, mv, upd_ne (by omega), upd_ne (by omega), upd_ne (by omega), det_lin a b (fun t => u (sk j t)) (fun t => w (sk j t)) (by omega)]
      grind
theorem det_sum {n : Nat} {M : Nat → Vec} {i : Nat} (h : i < n) (k : Nat) (c : Nat → Int) (u : Nat → Vec) : det n (upd M i fun t => sumN k fun l => c l * u l t) = sumN k fun l => c l * det n (upd M i (u l)) := by
  induction k with
  | zero =>
    have := det_lin (n := n) (M := M) (i := i) 0 0 (fun _ => 0) (fun _ => 0) h
    have e : (fun t : Nat => (0 : Int) * 0 + 0 * 0) = fun t => sumN 0 fun l => c l * u l t := rfl
    rw [e] at this
    rw [this]
    show (0 : Int) * _ + 0 * _ = 0
    omega
  | succ k ih =>
    have := det_lin (n := n) (M := M) (i := i) 1 (c k) (fun t => sumN k fun l => c l * u l t) (u k) h
    rw [show (fun t => sumN (k + 1) fun l => c l * u l t) = fun t => 1 * (sumN k fun l => c l * u l t) + c k * u k t from by
      funext t
      show sumN k _ + _ = _
      rw [Int.one_mul], this, ih, Int.one_mul]
    rfl
def Alt (n : Nat) : Prop := ∀ (M : Nat → Vec) (i j : Nat), i < j → j < n → (∀ t, t < n → M i t = M j t) → det n M = 0
theorem swap_of {n : Nat} (A : Alt n) {M : Nat → Vec} {i j : Nat} (u v : Vec) (ij : i ≠ j) (hi : i < n) (hj : j < n) : det n (upd (upd M i u) j v) = - det n (upd (upd M i v) j u) := by
  have two : ∀ w : Vec, det n (upd (upd M i w) j w) = 0 := fun w => by
    have e : ∀ t, upd (upd M i w) j w i t = upd (upd M i w) j w j t := fun t => by rw [upd_at, upd_ne ij, upd_at]
    by_cases l : i < j
    · exact A _ i j l hj fun t _ => e t
    · exact A _ j i (by omega) hi fun t _ => (e t).symm
  have b2 : ∀ x y w : Vec, det n (upd (upd M i fun t => 1 * x t + 1 * y t) j w) = det n (upd (upd M i x) j w) + det n (upd (upd M i y) j w) := fun x y w => by
    rw [upd_comm ij, det_lin 1 1 x y hi, upd_comm ij, upd_comm (u := y) ij]
    omega
  have a := two fun t => 1 * u t + 1 * v t
  rw [det_lin 1 1 u v hj, b2, b2, two, two] at a
  omega
theorem sgn_pair {j l k : Nat} (h : l < j) (a b d : Int) : sgn (j + (k + 1)) * a * (sgn (l + k) * b * d) + sgn (l + (k + 1)) * b * (sgn (j - 1 + k) * a * d) = 0 := by
  rw [← Nat.add_assoc, ← Nat.add_assoc, sgn_succ, sgn_succ]
  have : sgn (j + k) = - sgn (j - 1 + k) := by rw [← sgn_succ]; congr 1; omega
  rw [this]
  grind
theorem alt_two {k : Nat} {M : Nat → Vec} (h : ∀ t, t < k + 2 → M k t = M (k + 1) t) : det (k + 2) M = 0 := by
  show sumN (k + 2) (fun j => sgn (j + (k + 1)) * M (k + 1) j * sumN (k + 1) fun l => sgn (l + k) * M k (sk j l) * det k fun i t => M i (sk j (sk l t))) = 0
  have e : (fun j => sgn (j + (k + 1)) * M (k + 1) j * sumN (k + 1) fun l => sgn (l + k) * M k (sk j l) * det k fun i t => M i (sk j (sk l t))) = fun j => sumN (k + 1) fun l => sgn (j + (k + 1)) * M (k + 1) j * (sgn (l + k) * M k (sk j l) * det k fun i t => M i (sk j (sk l t))) := by
    funext j
    rw [← sumN_mul]
  rw [e]
  refine sum_pair (k + 1) _ fun j l a b => ?_
  rw [h _ (sk_lt (by omega)), h _ (sk_lt (by omega)), show sk j l = l from if_pos a, show sk l (j - 1) = j from by unfold sk; rw [if_neg (by omega)]; omega]
  rw [show (fun i t => M i (sk l (sk (j - 1) t))) = fun i t => M i (sk j (sk l t)) from by
    funext i t
    rw [sk_sk a]]
  exact sgn_pair a _ _ _
theorem det_alt : ∀ n, Alt n
  | 0, _, _, _, _, h, _ => by omega
  | n + 1, M, i, j, ij, hj, h => by
    by_cases e : j < n
    · exact sumN_zero fun c hc => by
        rw [det_alt n (fun k t => M k (sk c t)) i j ij e fun t ht => h _ (sk_lt ht), Int.mul_zero]
    · have e : j = n := by omega
      subst e
      obtain ⟨k, rfl⟩ : ∃ k, j = k + 1 := ⟨j - 1, by omega⟩
      by_cases e2 : i = k
      · subst e2
        exact alt_two h
      · have z : det (k + 2) (upd (upd M i (M k)) k (M i)) = 0 := alt_two fun t ht => by
          rw [upd_at, upd_ne (by omega), upd_ne (by omega)]
          exact h t ht
        have y : det (k + 2) M = -1 * det (k + 2) (upd (upd M i (M k)) k (M i)) := by
          show sumN _ _ = -1 * sumN _ _
          rw [← sumN_mul]
          refine sumN_congr fun c hc => ?_
          have mv : ∀ u v : Vec, (fun r t => upd (upd M i u) k v r (sk c t)) = upd (upd (fun r t => M r (sk c t)) i fun t => u (sk c t)) k fun t => v (sk c t) := fun u v => by
            funext r t
            unfold upd
            split
            · rfl
            · split <;> rfl
          rw [mv, swap_of (det_alt (k + 1)) _ _ e2 (by omega) (by omega), upd_ne (by omega), upd_ne (by omega)]
          have s1 : (fun r t => M r (sk c t)) = upd (upd (fun r t => M r (sk c t)) i fun t => M i (sk c t)) k fun t => M k (sk c t) := by
            funext r t
            unfold upd
            split
            · rename_i e; rw [e]
            · split
              · rename_i e; rw [e]
              · rfl
          rw [← s1]
          grind
        rw [y, z]
        rfl
theorem det_swap {n : Nat} {M : Nat → Vec} {i j : Nat} (u v : Vec) (ij : i ≠ j) (hi : i < n) (hj : j < n) : det n (upd (upd M i u) j v) = - det n (upd (upd M i v) j u) := swap_of (det_alt n) u v ij hi hj
theorem det_dup {n : Nat} {M : Nat → Vec} {i j : Nat} (ij : i ≠ j) (hi : i < n) (hj : j < n) (h : ∀ t, t < n → M i t = M j t) : det n M = 0 := by
  by_cases l : i < j
  · exact det_alt n M i j l hj h
  · exact det_alt n M j i (by omega) hi fun t ht => (h t ht).symm
theorem det_last {n : Nat} {M : Nat → Vec} (h : ∀ t, t < n + 1 → M n t = if t = n then 1 else 0) : det (n + 1) M = det n M := by
  show sumN (n + 1) _ = _
  rw [sumN_one (k := n) (by omega) fun i hi z => by rw [h i hi, if_neg z, Int.mul_zero, Int.zero_mul]]
  rw [h n (by omega), if_pos rfl, show sgn (n + n) = 1 from by unfold sgn; rw [if_pos (by omega)], det_congr (N := M) fun i hi t ht => by rw [show sk n t = t from if_pos ht]]
  omega
theorem det_one : ∀ {n : Nat} {M : Nat → Vec}, (∀ i, i < n → ∀ t, t < n → M i t = if t = i then 1 else 0) → det n M = 1
  | 0, _, _ => rfl
  | n + 1, M, h => by
    rw [det_last fun t ht => h n (by omega) t ht]
    exact det_one fun i hi t ht => h i (by omega) t (by omega)
theorem skip_le {g : Nat → Int} (g0 : ∀ t, 0 ≤ g t) : ∀ {n j : Nat}, j < n + 1 → sumN n (fun t => g (sk j t)) ≤ sumN (n + 1) g
  | 0, j, h => by
    show (0 : Int) ≤ 0 + g 0
    have := g0 0
    omega
  | n + 1, j, h => by
    show sumN n (fun t => g (sk j t)) + g (sk j n) ≤ sumN (n + 1) g + g (n + 1)
    by_cases e : j < n + 1
    · have := skip_le g0 (n := n) (j := j) e
      rw [show sk j n = n + 1 from by unfold sk; rw [if_neg (by omega)]]
      omega
    · have : sumN n (fun t => g (sk j t)) = sumN n g := sumN_congr fun t ht => by rw [show sk j t = t from if_pos (by omega)]
      rw [this, show sk j n = n from if_pos (by omega)]
      have := g0 (n + 1)
      show _ ≤ sumN n g + g n + g (n + 1)
      omega
def prodN : Nat → (Nat → Nat) → Nat
  | 0, _ => 1
  | n + 1, f => prodN n f * f n
theorem det_le : ∀ {n : Nat} {M : Nat → Vec} {c : Nat → Nat}, (∀ i, i < n → sumN n (fun t => ((M i t).natAbs : Int)) ≤ c i) → (det n M).natAbs ≤ prodN n c
  | 0, _, _, _ => Nat.le_refl _
  | n + 1, M, c, h => by
    have a : ((det (n + 1) M).natAbs : Int) ≤ sumN (n + 1) fun j => ((prodN n c : Nat) : Int) * ((M n j).natAbs : Int) := by
      refine Int.le_trans (sumN_abs (n + 1) _) (sumN_le fun j hj => ?_)
      have ih := det_le (n := n) (M := fun i t => M i (sk j t)) (c := c) fun i hi => Int.le_trans (skip_le (g := fun t => ((M i t).natAbs : Int)) (fun t => by omega) hj) (h i (by omega))
      rw [Int.natAbs_mul, Int.natAbs_mul, sgn_abs, Nat.one_mul]
      have := Nat.mul_le_mul_left (M n j).natAbs ih
      rw [← Int.natCast_mul, Nat.mul_comm (prodN n c)]
      omega
    rw [sumN_mul] at a
    have b := Int.mul_le_mul_of_nonneg_left (h n (by omega)) (show (0 : Int) ≤ ((prodN n c : Nat) : Int) by omega)
    have d : (((det (n + 1) M).natAbs : Nat) : Int) ≤ ((prodN n c * c n : Nat) : Int) := by
      rw [Int.natCast_mul]
      omega
    exact Int.ofNat_le.mp d
end G

set_option linter.all false
set_option autoImplicit false
set_option maxRecDepth 100000
namespace G
open PySem PySem.Spec PyProof.Rows L2

/-- common_divisor c47834df -/
def w_common_divisor : WS :=
    (wSeq (wWhile (wTest (wOp2 oNe (wVar 1) (wC (.int 0)))) (wPar 0 1 (wVar 1) (wOp2 oMod (wVar 0) (wVar 1))))
    (wRet (wVar 0)))
def c_common_divisor : CS := wDef 2 2 (w_common_divisor)
/-- divisor_of 8be8b621 -/
def w_divisor_of : WS :=
    (wSeq (wSet 1 (wC (.int 0)))
    (wSeq (wFor (wIt (wVar 0)) (gN 2) (wSet 1 (wCall c_common_divisor (wCons (wVar 1) (wCons (wVar 2) wNil)))))
    (wRet (wVar 1))))
def c_divisor_of : CS := wDef 1 3 (w_divisor_of)
/-- weighted c457d393 -/
def w_weighted : WS :=
    (wRet (wCall (one oSum) (wCons (wFr (wComp (wZip (some true) (wVar 0) (wVar 1)) (gT 2 (gsC (gN 2) (gsC (gN 3) gsN))) wYes (wOp2 oMul (wVar 2) (wVar 3)) [2, 3])) wNil)))
def c_weighted : CS := wDef 2 4 (w_weighted)
/-- unit_row aa9e8211 -/
def w_unit_row : WS :=
    (wRet (wTup (wCons (wCall (one oTuple) (wCons (wFr (wComp (wRange1 (wVar 0)) (gN 4) wYes (wIfE (wTest (wOp2 oEq (wVar 4) (wVar 1))) (wVar 2) (wC (.int 0))) [4])) wNil)) (wCons (wVar 3) (wCons (wC (.bl false)) wNil)))))
def c_unit_row : CS := wDef 4 5 (w_unit_row)
/-- with_slack 4ece2388 -/
def w_with_slack : WS :=
    (wRet (wFr (wComp (wIt (wVar 0)) (gN 1) wYes (wOp2 oAdd (wFr (wList (wVar 1))) (wFr (wLst (wCons (wOp2 oSub (wC (.int 0)) (wC (.int 1))) wNil)))) [1])))
def c_with_slack : CS := wDef 1 2 (w_with_slack)
/-- Table.__init__ 4a1014b2 -/
def w_Table_init (Fr : PySem.W.Frag) : WS :=
    (wSeq (wAsg (wCall (one oLen) (wCons (wVar 3) wNil)) (gFld [(He.ga Fr "Table")] "size" (wVar 0)))
    (wSeq (wAsg (wFr (wComp (wZip (some true) (wVar 1) (wVar 2)) (gT 2 (gsC (gN 4) (gsC (gN 5) gsN))) wYes (wOp2 oAdd (wFr (wList (wVar 4))) (wFr (wLst (wCons (wVar 5) wNil)))) [4, 5])) (gFld [(He.ga Fr "Table")] "rows" (wVar 0)))
    (wSeq (wAsg (wOp2 oAdd (wFr (wComp (wIt (wVar 3)) (gN 6) wYes (wOp2 oSub (wC (.int 0)) (wVar 6)) [6])) (wFr (wLst (wCons (wC (.int 0)) wNil)))) (gFld [(He.ga Fr "Table")] "goal" (wVar 0)))
    (wSeq (wAsg (wLv (wLRng (wFld [(He.ga Fr "Table")] "size" (wVar 0)))) (gFld [(He.ga Fr "Table")] "columns" (wVar 0)))
    (wSeq (wAsg (wLv (wComp (wRange1 (wCall (one oLen) (wCons (wVar 1) wNil))) (gN 7) wYes (wOp2 oAdd (wFld [(He.ga Fr "Table")] "size" (wVar 0)) (wVar 7)) [7])) (gFld [(He.ga Fr "Table")] "basis" (wVar 0)))
    (wAsg (wC (.int 1)) (gFld [(He.ga Fr "Table")] "denominator" (wVar 0))))))))
def c_Table_init (Fr : PySem.W.Frag) : CS := wDef 4 8 (w_Table_init Fr)
/-- Table.entering 9c4767b2 -/
def w_Table_entering (Fr : PySem.W.Frag) : WS :=
    (wSeq (wSet 1 (wFr (wComp (wEnum (wFld [(He.ga Fr "Table")] "columns" (wVar 0))) (gT 2 (gsC (gN 2) (gsC (gN 3) gsN))) (wTest (wOp2 oLt (wOp2 oIx (wFld [(He.ga Fr "Table")] "goal" (wVar 0)) (wVar 2)) (wC (.int 0)))) (wTup (wCons (wVar 3) (wCons (wVar 2) wNil))) [2, 3])))
    (wRet (wIfE (wTest (wOp2 oNe (wVar 1) (wFr (wLst wNil)))) (wOp2 oIx (wCall (one oMinP) (wCons (wVar 1) wNil)) (wC (.int 1))) (wC .non))))
def c_Table_entering (Fr : PySem.W.Frag) : CS := wDef 1 4 (w_Table_entering Fr)
/-- Table.reduced ccfdfc0a -/
def w_Table_reduced (Fr : PySem.W.Frag) : WS :=
    (wSeq (wAsg (wTup (wCons (wOp2 oIx (wVar 2) (wVar 3)) (wCons (wOp2 oIx (wVar 1) (wVar 3)) wNil))) (gT 2 (gsC (gN 4) (gsC (gN 5) gsN))))
    (wSeq (wSet 6 (wLv (wComp (wZip (some true) (wVar 1) (wVar 2)) (gT 2 (gsC (gN 7) (gsC (gN 8) gsN))) wYes (wOp2 oDiv (wOp2 oSub (wOp2 oMul (wVar 7) (wVar 4)) (wOp2 oMul (wVar 5) (wVar 8))) (wFld [(He.ga Fr "Table")] "denominator" (wVar 0))) [7, 8])))
    (wSeq (wAsg (wOp2 oSub (wC (.int 0)) (wVar 5)) (gIx (wVar 6) (wVar 3)))
    (wRet (wFrz (wVar 6))))))
def c_Table_reduced (Fr : PySem.W.Frag) : CS := wDef 4 9 (w_Table_reduced Fr)
/-- Table.exchange dec5be71 -/
def w_Table_exchange (Fr : PySem.W.Frag) : WS :=
    (wSeq (wSet 3 (wOp2 oIx (wFld [(He.ga Fr "Table")] "rows" (wVar 0)) (wVar 1)))
    (wSeq (wSet 4 (wOp2 oIx (wVar 3) (wVar 2)))
    (wSeq (wSet 5 (wLv (wComp (wIt (wFld [(He.ga Fr "Table")] "rows" (wVar 0))) (gN 8) wYes (wMt (He.ga Fr "Table") "reduced" (c_Table_reduced Fr) (wVar 0) (wCons (wVar 8) (wCons (wVar 3) (wCons (wVar 2) wNil)))) [8])))
    (wSeq (wSet 6 (wMt (He.ga Fr "Table") "reduced" (c_Table_reduced Fr) (wVar 0) (wCons (wFld [(He.ga Fr "Table")] "goal" (wVar 0)) (wCons (wVar 3) (wCons (wVar 2) wNil)))))
    (wSeq (wSet 7 (wLv (wList (wVar 3))))
    (wSeq (wAsg (wFld [(He.ga Fr "Table")] "denominator" (wVar 0)) (gIx (wVar 7) (wVar 2)))
    (wSeq (wAsg (wFrz (wVar 7)) (gIx (wVar 5) (wVar 1)))
    (wSeq (wIf (wTest (wOp2 oLt (wVar 4) (wC (.int 0)))) (wSeq (wSet 5 (wLv (wComp (wIt (wVar 5)) (gN 8) wYes (wFr (wComp (wIt (wVar 8)) (gN 9) wYes (wOp2 oSub (wC (.int 0)) (wVar 9)) [9])) [8])))
    (wSet 6 (wFr (wComp (wIt (wVar 6)) (gN 9) wYes (wOp2 oSub (wC (.int 0)) (wVar 9)) [9])))) wSkip)
    (wSeq (wAsg (wTup (wCons (wFrz (wVar 5)) (wCons (wVar 6) (wCons (wCall (one oAbs) (wCons (wVar 4) wNil)) wNil)))) (gT 3 (gsC (gFld [(He.ga Fr "Table")] "rows" (wVar 0)) (gsC (gFld [(He.ga Fr "Table")] "goal" (wVar 0)) (gsC (gFld [(He.ga Fr "Table")] "denominator" (wVar 0)) gsN)))))
    (wAsg (wTup (wCons (wOp2 oIx (wFld [(He.ga Fr "Table")] "columns" (wVar 0)) (wVar 2)) (wCons (wOp2 oIx (wFld [(He.ga Fr "Table")] "basis" (wVar 0)) (wVar 1)) wNil))) (gT 2 (gsC (gIx (wFld [(He.ga Fr "Table")] "basis" (wVar 0)) (wVar 1)) (gsC (gIx (wFld [(He.ga Fr "Table")] "columns" (wVar 0)) (wVar 2)) gsN)))))))))))))
def c_Table_exchange (Fr : PySem.W.Frag) : CS := wDef 3 10 (w_Table_exchange Fr)
/-- Table.limits_more 81cda02a -/
def w_Table_limits_more (Fr : PySem.W.Frag) : WS :=
    (wSeq (wSet 5 (wOp2 oIx (wFld [(He.ga Fr "Table")] "rows" (wVar 0)) (wVar 3)))
    (wSeq (wPar 6 7 (wOp2 oMul (wOp2 oIx (wVar 1) (wC (.int (-1)))) (wOp2 oIx (wVar 5) (wVar 4))) (wOp2 oMul (wOp2 oIx (wVar 5) (wC (.int (-1)))) (wOp2 oIx (wVar 1) (wVar 4))))
    (wRet (wOrV (wOp2 oLt (wVar 6) (wVar 7)) (wAndV (wOp2 oEq (wVar 6) (wVar 7)) (wOp2 oLt (wOp2 oIx (wFld [(He.ga Fr "Table")] "basis" (wVar 0)) (wVar 2)) (wOp2 oIx (wFld [(He.ga Fr "Table")] "basis" (wVar 0)) (wVar 3))))))))
def c_Table_limits_more (Fr : PySem.W.Frag) : CS := wDef 5 8 (w_Table_limits_more Fr)
/-- Table.leaving 5dab94ea -/
def w_Table_leaving (Fr : PySem.W.Frag) : WS :=
    (wSeq (wSet 2 (wC .non))
    (wSeq (wFor (wEnum (wFld [(He.ga Fr "Table")] "rows" (wVar 0))) (gT 2 (gsC (gN 3) (gsC (gN 4) gsN))) (wIf (wTest (wOp2 oGt (wOp2 oIx (wVar 4) (wVar 1)) (wC (.int 0)))) (wIf (wOr (wTest (wOp2 oIs (wVar 2) (wC .non))) (wTest (wMt (He.ga Fr "Table") "limits_more" (c_Table_limits_more Fr) (wVar 0) (wCons (wVar 4) (wCons (wVar 3) (wCons (wVar 2) (wCons (wVar 1) wNil))))))) (wSet 2 (wVar 3)) wSkip) wSkip))
    (wRet (wVar 2))))
def c_Table_leaving (Fr : PySem.W.Frag) : CS := wDef 2 5 (w_Table_leaving Fr)
/-- Table.improve be6e5e27 -/
def w_Table_improve (Fr : PySem.W.Frag) : WS :=
    (wSeq (wSet 1 (wMt (He.ga Fr "Table") "entering" (c_Table_entering Fr) (wVar 0) wNil))
    (wWhile (wTest (wOp2 oIsNot (wVar 1) (wC .non))) (wSeq (wDo (wMt (He.ga Fr "Table") "exchange" (c_Table_exchange Fr) (wVar 0) (wCons (wMt (He.ga Fr "Table") "leaving" (c_Table_leaving Fr) (wVar 0) (wCons (wVar 1) wNil)) (wCons (wVar 1) wNil))))
    (wSet 1 (wMt (He.ga Fr "Table") "entering" (c_Table_entering Fr) (wVar 0) wNil)))))
def c_Table_improve (Fr : PySem.W.Frag) : CS := wDef 1 2 (w_Table_improve Fr)
/-- goal_row 6df9077f -/
def w_goal_row (Fr : PySem.W.Frag) : WS :=
    (wSeq (wSet 2 (wLv (wRep (wFr (wLst (wCons (wC (.int 0)) wNil))) (wOp2 oAdd (wCall (one oLen) (wCons (wFld [(He.ga Fr "Table")] "columns" (wVar 0)) wNil)) (wC (.int 1))))))
    (wSeq (wFor (wEnum (wFld [(He.ga Fr "Table")] "columns" (wVar 0))) (gT 2 (gsC (gN 3) (gsC (gN 4) gsN))) (wIf (wTest (wOp2 oLt (wVar 4) (wCall (one oLen) (wCons (wVar 1) wNil)))) (wAugIx (fun i j => i - j) (wVar 2) (wVar 3) (wOp2 oMul (wOp2 oIx (wVar 1) (wVar 4)) (wFld [(He.ga Fr "Table")] "denominator" (wVar 0)))) wSkip))
    (wSeq (wFor (wZip (some true) (wFld [(He.ga Fr "Table")] "basis" (wVar 0)) (wFld [(He.ga Fr "Table")] "rows" (wVar 0))) (gT 2 (gsC (gN 4) (gsC (gN 5) gsN))) (wIf (wTest (wOp2 oLt (wVar 4) (wCall (one oLen) (wCons (wVar 1) wNil)))) (wSet 2 (wLv (wComp (wZip (some true) (wVar 2) (wVar 5)) (gT 2 (gsC (gN 6) (gsC (gN 7) gsN))) wYes (wOp2 oAdd (wVar 6) (wOp2 oMul (wOp2 oIx (wVar 1) (wVar 4)) (wVar 7))) [6, 7]))) wSkip))
    (wRet (wFrz (wVar 2))))))
def c_goal_row (Fr : PySem.W.Frag) : CS := wDef 2 8 (w_goal_row Fr)
/-- without_slack 6f9b323a -/
def w_without_slack (Fr : PySem.W.Frag) : WS :=
    (wSeq (wSet 2 (wOp2 oSub (wFld [(He.ga Fr "Table")] "size" (wVar 0)) (wC (.int 1))))
    (wSeq (wIf (wTest (wOp2 oIn (wVar 2) (wFld [(He.ga Fr "Table")] "basis" (wVar 0)))) (wSeq (wSet 3 (wLIx (wFld [(He.ga Fr "Table")] "basis" (wVar 0)) (wVar 2)))
    (wSeq (wSet 4 (wFr (wComp (wEnum (wSl (wOp2 oIx (wFld [(He.ga Fr "Table")] "rows" (wVar 0)) (wVar 3)) wONo (wOSo (wC (.int (-1)))))) (gT 2 (gsC (gN 5) (gsC (gN 7) gsN))) (wTest (wOp2 oNe (wVar 7) (wC (.int 0)))) (wVar 5) [5, 7])))
    (wDo (wMt (He.ga Fr "Table") "exchange" (c_Table_exchange Fr) (wVar 0) (wCons (wVar 3) (wCons (wOp2 oIx (wVar 4) (wC (.int 0))) wNil)))))) wSkip)
    (wSeq (wSet 5 (wLIx (wFld [(He.ga Fr "Table")] "columns" (wVar 0)) (wVar 2)))
    (wSeq (wSet 6 (wMake (He.ga Fr "Table") (c_Table_init Fr) (wCons (wFr (wLst wNil)) (wCons (wFr (wLst wNil)) (wCons (wVar 1) wNil)))))
    (wSeq (wAsg (wFr (wComp (wIt (wFld [(He.ga Fr "Table")] "rows" (wVar 0))) (gN 8) wYes (wOp2 oAdd (wSl (wVar 8) wONo (wOSo (wVar 5))) (wSl (wVar 8) (wOSo (wOp2 oAdd (wVar 5) (wC (.int 1)))) wONo)) [8])) (gFld [(He.ga Fr "Table")] "rows" (wVar 6)))
    (wSeq (wAsg (wLv (wComp (wIt (wFld [(He.ga Fr "Table")] "columns" (wVar 0))) (gN 9) (wTest (wOp2 oNe (wVar 9) (wVar 2))) (wOp2 oSub (wVar 9) (wCall (one oInt) (wCons (wOp2 oGt (wVar 9) (wVar 2)) wNil))) [9])) (gFld [(He.ga Fr "Table")] "columns" (wVar 6)))
    (wSeq (wAsg (wLv (wComp (wIt (wFld [(He.ga Fr "Table")] "basis" (wVar 0))) (gN 9) wYes (wOp2 oSub (wVar 9) (wCall (one oInt) (wCons (wOp2 oGt (wVar 9) (wVar 2)) wNil))) [9])) (gFld [(He.ga Fr "Table")] "basis" (wVar 6)))
    (wSeq (wAsg (wFld [(He.ga Fr "Table")] "denominator" (wVar 0)) (gFld [(He.ga Fr "Table")] "denominator" (wVar 6)))
    (wSeq (wAsg (wCall (c_goal_row Fr) (wCons (wVar 6) (wCons (wVar 1) wNil))) (gFld [(He.ga Fr "Table")] "goal" (wVar 6)))
    (wRet (wVar 6)))))))))))
def c_without_slack (Fr : PySem.W.Frag) : CS := wDef 2 10 (w_without_slack Fr)
/-- Table.multipliers 3509a174 -/
def w_Table_multipliers (Fr : PySem.W.Frag) : WS :=
    (wSeq (wSet 1 (wLv (wRep (wFr (wLst (wCons (wC (.int 0)) wNil))) (wCall (one oLen) (wCons (wFld [(He.ga Fr "Table")] "rows" (wVar 0)) wNil)))))
    (wSeq (wFor (wZip (some true) (wFld [(He.ga Fr "Table")] "columns" (wVar 0)) (wSl (wFld [(He.ga Fr "Table")] "goal" (wVar 0)) wONo (wOSo (wC (.int (-1)))))) (gT 2 (gsC (gN 2) (gsC (gN 3) gsN))) (wIf (wTest (wOp2 oGe (wVar 2) (wFld [(He.ga Fr "Table")] "size" (wVar 0)))) (wAsg (wVar 3) (gIx (wVar 1) (wOp2 oSub (wVar 2) (wFld [(He.ga Fr "Table")] "size" (wVar 0))))) wSkip))
    (wRet (wFrz (wVar 1)))))
def c_Table_multipliers (Fr : PySem.W.Frag) : CS := wDef 1 4 (w_Table_multipliers Fr)
/-- feasible_table 8fe37cd0 -/
def w_feasible_table (Fr : PySem.W.Frag) : WS :=
    (wSeq (wSet 3 (wCall (one oLen) (wCons (wVar 2) wNil)))
    (wSeq (wSet 4 (wMake (He.ga Fr "Table") (c_Table_init Fr) (wCons (wCall c_with_slack (wCons (wVar 0) wNil)) (wCons (wVar 1) (wCons (wOp2 oAdd (wOp2 oMul (wFr (wLst (wCons (wC (.int 0)) wNil))) (wVar 3)) (wFr (wLst (wCons (wOp2 oSub (wC (.int 0)) (wC (.int 1))) wNil)))) wNil)))))
    (wSeq (wIf (wTest (wOp2 oLt (wCall (one oMinL) (wCons (wVar 1) wNil)) (wC (.int 0)))) (wDo (wMt (He.ga Fr "Table") "exchange" (c_Table_exchange Fr) (wVar 4) (wCons (wLIx (wVar 1) (wCall (one oMinL) (wCons (wVar 1) wNil))) (wCons (wVar 3) wNil)))) wSkip)
    (wSeq (wDo (wMt (He.ga Fr "Table") "improve" (c_Table_improve Fr) (wVar 4) wNil))
    (wSeq (wIf (wTest (wOp2 oLt (wOp2 oIx (wFld [(He.ga Fr "Table")] "goal" (wVar 4)) (wC (.int (-1)))) (wC (.int 0)))) (wRet (wTup (wCons (wC .non) (wCons (wMt (He.ga Fr "Table") "multipliers" (c_Table_multipliers Fr) (wVar 4) wNil) wNil)))) wSkip)
    (wRet (wTup (wCons (wCall (c_without_slack Fr) (wCons (wVar 4) (wCons (wVar 2) wNil))) (wCons (wC .non) wNil)))))))))
def c_feasible_table (Fr : PySem.W.Frag) : CS := wDef 3 5 (w_feasible_table Fr)
/-- solve 9f98ef65 -/
def w_solve (Fr : PySem.W.Frag) : WS :=
    (wSeq (wAsg (wCall (c_feasible_table Fr) (wCons (wVar 0) (wCons (wVar 1) (wCons (wVar 2) wNil)))) (gT 2 (gsC (gN 3) (gsC (gN 4) gsN))))
    (wSeq (wIf (wTest (wOp2 oIsNot (wVar 3) (wC .non))) (wDo (wMt (He.ga Fr "Table") "improve" (c_Table_improve Fr) (wVar 3) wNil)) wSkip)
    (wRet (wTup (wCons (wVar 3) (wCons (wVar 4) wNil))))))
def c_solve (Fr : PySem.W.Frag) : CS := wDef 3 5 (w_solve Fr)
/-- Table.point 8b606189 -/
def w_Table_point (Fr : PySem.W.Frag) : WS :=
    (wSeq (wSet 1 (wLv (wRep (wFr (wLst (wCons (wC (.int 0)) wNil))) (wFld [(He.ga Fr "Table")] "size" (wVar 0)))))
    (wSeq (wFor (wZip (some true) (wFld [(He.ga Fr "Table")] "basis" (wVar 0)) (wFld [(He.ga Fr "Table")] "rows" (wVar 0))) (gT 2 (gsC (gN 2) (gsC (gN 3) gsN))) (wIf (wTest (wOp2 oLt (wVar 2) (wFld [(He.ga Fr "Table")] "size" (wVar 0)))) (wAsg (wOp2 oIx (wVar 3) (wC (.int (-1)))) (gIx (wVar 1) (wVar 2))) wSkip))
    (wRet (wFrz (wVar 1)))))
def c_Table_point (Fr : PySem.W.Frag) : CS := wDef 1 4 (w_Table_point Fr)
/-- decide f826b4d6 -/
def w_decide (Fr : PySem.W.Frag) : WS :=
    (wSeq (wSet 2 (wOp2 oAdd (wFr (wComp (wIt (wVar 1)) (gT 3 (gsC (gN 6) (gsC (gN 7) (gsC (gN 8) gsN)))) wYes (wOp2 oAdd (wFr (wList (wVar 6))) (wFr (wLst (wCons (wCall (one oInt) (wCons (wVar 8) wNil)) wNil)))) [6, 7, 8])) (wFr (wLst (wCons (wOp2 oAdd (wOp2 oMul (wFr (wLst (wCons (wC (.int 0)) wNil))) (wVar 0)) (wFr (wLst (wCons (wC (.int 1)) wNil)))) wNil)))))
    (wSeq (wSet 3 (wOp2 oAdd (wFr (wComp (wIt (wVar 1)) (gT 3 (gsC (gN 6) (gsC (gN 7) (gsC (gN 8) gsN)))) wYes (wVar 7) [6, 7, 8])) (wFr (wLst (wCons (wC (.int 1)) wNil)))))
    (wSeq (wAsg (wCall (c_solve Fr) (wCons (wVar 2) (wCons (wVar 3) (wCons (wOp2 oAdd (wOp2 oMul (wFr (wLst (wCons (wC (.int 0)) wNil))) (wVar 0)) (wFr (wLst (wCons (wC (.int 1)) wNil)))) wNil)))) (gT 2 (gsC (gN 4) (gsC (gN 5) gsN))))
    (wSeq (wIf (wTest (wOp2 oIs (wVar 4) (wC .non))) (wRet (wTup (wCons (wC .non) (wCons (wSl (wVar 5) wONo (wOSo (wC (.int (-1))))) wNil)))) wSkip)
    (wSeq (wIf (wTest (wOp2 oEq (wOp2 oIx (wFld [(He.ga Fr "Table")] "goal" (wVar 4)) (wC (.int (-1)))) (wC (.int 0)))) (wRet (wTup (wCons (wC .non) (wCons (wSl (wMt (He.ga Fr "Table") "multipliers" (c_Table_multipliers Fr) (wVar 4) wNil) wONo (wOSo (wC (.int (-1))))) wNil)))) wSkip)
    (wRet (wTup (wCons (wSl (wMt (He.ga Fr "Table") "point" (c_Table_point Fr) (wVar 4) wNil) wONo (wOSo (wC (.int (-1))))) (wCons (wFld [(He.ga Fr "Table")] "denominator" (wVar 4)) wNil)))))))))
def c_decide (Fr : PySem.W.Frag) : CS := wDef 2 9 (w_decide Fr)
/-- high_rows 4ebe4feb -/
def w_high_rows : WS :=
    (wRet (wFr (wComp (wRange1 (wVar 0)) (gN 1) wYes (wCall c_unit_row (wCons (wVar 0) (wCons (wVar 1) (wCons (wC (.int 1)) (wCons (wC (.int 20)) wNil))))) [1])))
def c_high_rows : CS := wDef 1 2 (w_high_rows)
/-- all_conditions daf5d46f -/
def w_all_conditions : WS :=
    (wRet (wOp2 oAdd (wOp2 oAdd (wFr (wList (wOp2 oIx (wVar 0) (wC (.int 1))))) (wFr (wList (wVar 1)))) (wCall c_high_rows (wCons (wOp2 oAdd (wCall (one oLen) (wCons (wOp2 oIx (wVar 0) (wC (.int 0))) wNil)) (wC (.int 1))) wNil))))
def c_all_conditions : CS := wDef 2 2 (w_all_conditions)
/-- font_of 0c43073f -/
def w_font_of : WS :=
    (wSeq (wSet 2 (wCall c_divisor_of (wCons (wOp2 oAdd (wFr (wLst (wCons (wVar 1) wNil))) (wVar 0)) wNil)))
    (wRet (wTup (wCons (wOp2 oDiv (wVar 1) (wVar 2)) (wCons (wCall (one oTuple) (wCons (wFr (wComp (wIt (wVar 0)) (gN 3) wYes (wOp2 oDiv (wVar 3) (wVar 2)) [3])) wNil)) wNil)))))
def c_font_of : CS := wDef 2 4 (w_font_of)
/-- find_font fce099ce -/
def w_find_font (Fr : PySem.W.Frag) : WS :=
    (wSeq (wAsg (wCall (c_decide Fr) (wCons (wOp2 oAdd (wCall (one oLen) (wCons (wOp2 oIx (wVar 0) (wC (.int 0))) wNil)) (wC (.int 1))) (wCons (wCall c_all_conditions (wCons (wVar 0) (wCons (wVar 1) wNil))) wNil))) (gT 2 (gsC (gN 2) (gsC (gN 3) gsN))))
    (wRet (wIfE (wTest (wOp2 oIs (wVar 2) (wC .non))) (wC .non) (wCall c_font_of (wCons (wVar 2) (wCons (wVar 3) wNil))))))
def c_find_font (Fr : PySem.W.Frag) : CS := wDef 2 4 (w_find_font Fr)
/-- find_refutation 6e7fb2fd -/
def w_find_refutation (Fr : PySem.W.Frag) : WS :=
    (wSeq (wAsg (wTup (wCons (wOp2 oAdd (wCall (one oLen) (wCons (wOp2 oIx (wVar 0) (wC (.int 0))) wNil)) (wC (.int 1))) (wCons (wCall c_all_conditions (wCons (wVar 0) (wCons (wVar 1) wNil))) wNil))) (gT 2 (gsC (gN 2) (gsC (gN 3) gsN))))
    (wSeq (wAsg (wCall (c_decide Fr) (wCons (wVar 2) (wCons (wVar 3) wNil))) (gT 2 (gsC (gN 4) (gsC (gN 5) gsN))))
    (wSeq (wIf (wTest (wOp2 oIsNot (wVar 4) (wC .non))) (wRet (wC .non)) wSkip)
    (wSeq (wSet 6 (wFr (wComp (wRange1 (wVar 2)) (gN 7) wYes (wCall c_weighted (wCons (wVar 5) (wCons (wFr (wComp (wIt (wVar 3)) (gN 8) wYes (wOp2 oIx (wOp2 oIx (wVar 8) (wC (.int 0))) (wVar 7)) [8])) wNil))) [7])))
    (wRet (wCall (one oTuple) (wCons (wOp2 oAdd (wOp2 oAdd (wSl (wVar 5) wONo (wOSo (wOp1 oNeg (wVar 2)))) (wVar 6)) (wSl (wVar 5) (wOSo (wOp1 oNeg (wVar 2))) wONo)) wNil)))))))
def c_find_refutation (Fr : PySem.W.Frag) : CS := wDef 2 9 (w_find_refutation Fr)
/-- has_font f95b7ad1 -/
def w_has_font (Fr : PySem.W.Frag) : WS :=
    (wRet (wOp2 oIsNot (wCall (c_find_font Fr) (wCons (wVar 0) (wCons (wFr (wLst wNil)) wNil))) (wC .non)))
def c_has_font (Fr : PySem.W.Frag) : CS := wDef 1 1 (w_has_font Fr)
/-- _law_open 77ae459e -/
def w_law_open (Fr : PySem.W.Frag) : WS :=
    (wSeq (wSet 1 (wLv (wList (wFr (wSlF Fr (wVar 0) wONo (wOSo (wC (.int 12))))))))
    (wSeq (wFor (wEnum (wFr (wSlF Fr (wVar 0) (wOSo (wC (.int 12))) (wOSo (wC (.int 63)))))) (gT 2 (gsC (gN 2) (gsC (gN 3) gsN))) (wAsg (wOp2 oAdd (wOp2 oIx (wVar 1) (wOp2 oMod (wVar 2) (wC (.int 12)))) (wVar 3)) (gIx (wVar 1) (wOp2 oMod (wVar 2) (wC (.int 12))))))
    (wRet (wLv (wLst (wCons (wFrz (wVar 1)) (wCons (wC (.int 0)) (wCons (wC (.int 0)) wNil))))))))
def c_law_open (Fr : PySem.W.Frag) : CS := wDef 1 4 (w_law_open Fr)
/-- _law_spread 952baa55 -/
def w_law_spread : WS :=
    (wSeq (wIf (wTest (wOp2 oGe (wVar 0) (wOp2 oPow (wC (.int 10)) (wC (.int 18))))) (wRet (wVar 0)) wSkip)
    (wSeq (wSet 2 (wFr (wLst (wCons (wC (.int 2147483629)) (wCons (wC (.int 2147483587)) (wCons (wC (.int 2147483579)) (wCons (wC (.int 2147483563)) (wCons (wC (.int 2147483549)) (wCons (wC (.int 2147483543)) (wCons (wC (.int 2147483497)) (wCons (wC (.int 2147483489)) wNil)))))))))))
    (wSeq (wSet 2 (wOp2 oAdd (wVar 2) (wFr (wLst (wCons (wC (.int 2147483477)) (wCons (wC (.int 2147483423)) (wCons (wC (.int 2147483399)) (wCons (wC (.int 2147483353)) (wCons (wC (.int 2147483323)) wNil)))))))))
    (wSeq (wSet 3 (wOp2 oMod (wOp2 oPow (wOp2 oAdd (wOp2 oAdd (wOp2 oMul (wOp2 oMod (wVar 0) (wC (.int 1000000007))) (wOp2 oAdd (wOp2 oMul (wC (.int 2)) (wVar 1)) (wC (.int 69069)))) (wOp2 oMul (wVar 1) (wC (.int 40503)))) (wC (.int 977))) (wC (.int 3))) (wOp2 oIx (wVar 2) (wOp2 oMod (wVar 1) (wC (.int 13))))))
    (wSeq (wSet 4 (wOp2 oMod (wOp2 oPow (wOp2 oAdd (wOp2 oAdd (wOp2 oMul (wVar 3) (wOp2 oAdd (wVar 1) (wC (.int 3)))) (wOp2 oMod (wVar 0) (wC (.int 65537)))) (wC (.int 5))) (wC (.int 5))) (wOp2 oIx (wVar 2) (wOp2 oMod (wOp2 oAdd (wVar 1) (wC (.int 5))) (wC (.int 13))))))
    (wSeq (wSet 5 (wOp2 oMod (wOp2 oPow (wOp2 oAdd (wOp2 oAdd (wVar 4) (wOp2 oMod (wVar 3) (wC (.int 1009)))) (wVar 1)) (wC (.int 3))) (wOp2 oIx (wVar 2) (wOp2 oMod (wOp2 oAdd (wVar 1) (wC (.int 7))) (wC (.int 13))))))
    (wRet (wOp2 oAdd (wOp2 oMul (wOp2 oAdd (wOp2 oMul (wVar 3) (wC (.int 2147483647))) (wVar 4)) (wC (.int 2147483647))) (wVar 5)))))))))
def c_law_spread : CS := wDef 2 6 (w_law_spread)
/-- _law_take 7df0b857 -/
def w_law_take : WS :=
    (wSeq (wIf (wTest (wOp2 oLt (wOp2 oIx (wVar 0) (wC (.int 2))) (wVar 1))) (wSeq (wSet 2 (wOp2 oIx (wVar 0) (wC (.int 1))))
    (wSeq (wSet 3 (wC (.int 0)))
    (wSeq (wIf (wTest (wOp2 oLt (wVar 2) (wCall (one oLen) (wCons (wOp2 oIx (wVar 0) (wC (.int 0))) wNil)))) (wSet 3 (wOp2 oIx (wOp2 oIx (wVar 0) (wC (.int 0))) (wVar 2))) (wIf (wTest (wOp2 oGt (wCall (one oLen) (wCons (wOp2 oIx (wVar 0) (wC (.int 0))) wNil)) (wC (.int 0)))) (wSet 3 (wOp2 oMod (wOp2 oIx (wOp2 oIx (wVar 0) (wC (.int 0))) (wOp2 oMod (wOp2 oAdd (wOp2 oMul (wVar 2) (wC (.int 5))) (wC (.int 3))) (wCall (one oLen) (wCons (wOp2 oIx (wVar 0) (wC (.int 0))) wNil)))) (wOp2 oAdd (wOp2 oPow (wC (.int 10)) (wC (.int 17))) (wVar 2)))) wSkip))
    (wSeq (wAsg (wOp2 oAdd (wVar 2) (wC (.int 1))) (gIx (wVar 0) (wC (.int 1))))
    (wAsg (wCall c_law_spread (wCons (wVar 3) (wCons (wVar 2) wNil))) (gIx (wVar 0) (wC (.int 2)))))))) wSkip)
    (wSeq (wSet 4 (wOp2 oMod (wOp2 oIx (wVar 0) (wC (.int 2))) (wVar 1)))
    (wSeq (wAsg (wOp2 oDiv (wOp2 oIx (wVar 0) (wC (.int 2))) (wVar 1)) (gIx (wVar 0) (wC (.int 2))))
    (wRet (wVar 4)))))
def c_law_take : CS := wDef 2 5 (w_law_take)
/-- _law_same c4b846c1 -/
def w_law_same (me : CS) : WS :=
    (wSeq (wIf (wOr (wTest (wOp2 oIs (wVar 1) (wC .non))) (wTest (wOp2 oIs (wVar 0) (wC .non)))) (wRet (wAndV (wOp2 oIs (wVar 1) (wC .non)) (wOp2 oIs (wVar 0) (wC .non)))) wSkip)
    (wSeq (wIf (wOr (wTest (wOp1 (oIsi [.bl]) (wVar 1))) (wTest (wOp1 (oIsi [.bl]) (wVar 0)))) (wRet (wAndV (wOp1 (oIsi [.bl]) (wVar 1)) (wAndV (wOp1 (oIsi [.bl]) (wVar 0)) (wOp2 oEq (wVar 0) (wVar 1))))) wSkip)
    (wSeq (wIf (wTest (wOp1 (oIsi [.int, .str]) (wVar 1))) (wSeq (wIf (wTest (wOp2 oNe (wOp1 (oIsi [.int]) (wVar 0)) (wOp1 (oIsi [.int]) (wVar 1)))) (wRet (wC (.bl false))) wSkip)
    (wRet (wAndV (wOp1 (oIsi [.int, .str]) (wVar 0)) (wOp2 oEq (wVar 0) (wVar 1))))) wSkip)
    (wSeq (wIf (wOr (wTest (wOp2 oNe (wOp1 (oIsi [.tup]) (wVar 1)) (wOp1 (oIsi [.tup]) (wVar 0)))) (wTest (wOp2 oNe (wOp1 (oIsi [.lst]) (wVar 1)) (wOp1 (oIsi [.lst]) (wVar 0))))) (wRet (wC (.bl false))) wSkip)
    (wSeq (wIf (wTest (wOp2 oNe (wCall (one oLen) (wCons (wVar 0) wNil)) (wCall (one oLen) (wCons (wVar 1) wNil)))) (wRet (wC (.bl false))) wSkip)
    (wRet (wOp2 oNotIn (wC (.bl false)) (wFr (wComp (wZip none (wVar 0) (wVar 1)) (gT 2 (gsC (gN 2) (gsC (gN 3) gsN))) wYes (wCall me (wCons (wVar 2) (wCons (wVar 3) wNil))) [2, 3])))))))))
def c_law_same : Nat → CS
  | 0 => fun _ _ _ => False
  | n + 1 => wDef 2 4 (w_law_same (c_law_same n))
/-- _law_one_of 1f8c10b8 -/
def w_law_one_of : WS :=
    (wRet (wOp2 oIx (wVar 1) (wCall c_law_take (wCons (wVar 0) (wCons (wCall (one oLen) (wCons (wVar 1) wNil)) wNil)))))
def c_law_one_of : CS := wDef 2 2 (w_law_one_of)
/-- _law_divisor 7a70dd03 -/
def w_law_divisor : WS :=
    (wSeq (wSet 1 (wC (.int 0)))
    (wSeq (wFor (wIt (wVar 0)) (gN 2) (wSeq (wPar 3 4 (wCall (one oAbs) (wCons (wVar 2) wNil)) (wVar 1))
    (wSeq (wWhile (wTest (wOp2 oNe (wVar 4) (wC (.int 0)))) (wPar 3 4 (wVar 4) (wOp2 oMod (wVar 3) (wVar 4))))
    (wSet 1 (wVar 3)))))
    (wRet (wVar 1))))
def c_law_divisor : CS := wDef 1 5 (w_law_divisor)
/-- _law_plain 1eb207be -/
def w_law_plain : WS :=
    (wSeq (wSet 2 (wCall c_law_divisor (wCons (wOp2 oAdd (wFr (wLst (wCons (wVar 0) wNil))) (wFr (wList (wVar 1)))) wNil)))
    (wRet (wTup (wCons (wOp2 oDiv (wVar 0) (wVar 2)) (wCons (wCall (one oTuple) (wCons (wFr (wComp (wIt (wVar 1)) (gN 3) wYes (wOp2 oDiv (wVar 3) (wVar 2)) [3])) wNil)) wNil)))))
def c_law_plain : CS := wDef 2 4 (w_law_plain)
/-- _law_draw_font 1ed8ba3b -/
def w_law_draw_font : WS :=
    (wSeq (wSet 2 (wCall c_law_one_of (wCons (wVar 0) (wCons (wFr (wLst (wCons (wC (.int 1)) (wCons (wC (.int 1)) (wCons (wC (.int 2)) (wCons (wC (.int 3)) (wCons (wC (.int 7)) wNil))))))) wNil))))
    (wSeq (wSet 3 (wFr (wComp (wRange1 (wVar 1)) (gN 4) wYes (wCall c_law_one_of (wCons (wVar 0) (wCons (wFr (wLst (wCons (wC (.int 0)) (wCons (wVar 2) (wCons (wOp2 oMul (wC (.int 20)) (wVar 2)) (wCons (wCall c_law_take (wCons (wVar 0) (wCons (wOp2 oAdd (wOp2 oMul (wC (.int 20)) (wVar 2)) (wC (.int 1))) wNil))) wNil)))))) wNil))) [4])))
    (wRet (wCall c_law_plain (wCons (wVar 2) (wCons (wFr (wComp (wIt (wVar 3)) (gN 5) wYes (wCall (two oMin2) (wCons (wVar 5) (wCons (wOp2 oMul (wCall c_law_one_of (wCons (wVar 0) (wCons (wFr (wLst (wCons (wC (.int 20)) (wCons (wC (.int 6)) (wCons (wC (.int 6)) wNil))))) wNil))) (wVar 2)) wNil))) [5])) wNil))))))
def c_law_draw_font : CS := wDef 2 6 (w_law_draw_font)
/-- _law_sum 42e610c1 -/
def w_law_sum : WS :=
    (wRet (wCall (one oSum) (wCons (wFr (wComp (wZip none (wVar 0) (wOp2 oIx (wVar 1) (wC (.int 1)))) (gT 2 (gsC (gN 2) (gsC (gN 3) gsN))) wYes (wOp2 oMul (wVar 2) (wVar 3)) [2, 3])) wNil)))
def c_law_sum : CS := wDef 2 4 (w_law_sum)
/-- _law_holds 44d7a3aa -/
def w_law_holds : WS :=
    (wSeq (wPar 2 3 (wCall c_law_sum (wCons (wOp2 oIx (wVar 0) (wC (.int 0))) (wCons (wVar 1) wNil))) (wOp2 oMul (wOp2 oIx (wVar 0) (wC (.int 1))) (wOp2 oIx (wVar 1) (wC (.int 0)))))
    (wRet (wIfE (wTest (wOp2 oIx (wVar 0) (wC (.int 2)))) (wOp2 oLt (wVar 2) (wVar 3)) (wOp2 oLe (wVar 2) (wVar 3)))))
def c_law_holds : CS := wDef 2 4 (w_law_holds)
/-- _law_draw_condition d215ccbc -/
def w_law_draw_condition : WS :=
    (wSeq (wSet 2 (wCall c_law_one_of (wCons (wVar 0) (wCons (wFr (wLst (wCons (wC (.int 1)) (wCons (wC (.int 2)) (wCons (wC (.int 3)) (wCons (wC (.int 3)) (wCons (wC (.int 9)) (wCons (wC (.int 99)) wNil)))))))) wNil))))
    (wSeq (wSet 3 (wCall (one oTuple) (wCons (wFr (wComp (wIt (wOp2 oIx (wVar 1) (wC (.int 1)))) (gN 6) wYes (wCall c_law_one_of (wCons (wVar 0) (wCons (wFr (wLst (wCons (wC (.int 0)) (wCons (wC (.int 1)) (wCons (wC (.int (-1))) (wCons (wOp2 oSub (wCall c_law_take (wCons (wVar 0) (wCons (wOp2 oAdd (wOp2 oMul (wC (.int 2)) (wVar 2)) (wC (.int 1))) wNil))) (wVar 2)) wNil)))))) wNil))) [6])) wNil)))
    (wSeq (wSet 4 (wOp2 oDiv (wCall c_law_sum (wCons (wVar 3) (wCons (wVar 1) wNil))) (wOp2 oIx (wVar 1) (wC (.int 0)))))
    (wSeq (wSet 5 (wCall (two oMax2) (wCons (wC (.int (-9999))) (wCons (wCall (two oMin2) (wCons (wC (.int 9999)) (wCons (wOp2 oAdd (wVar 4) (wCall c_law_one_of (wCons (wVar 0) (wCons (wFr (wLst (wCons (wC (.int 0)) (wCons (wC (.int 1)) (wCons (wC (.int 1)) (wCons (wC (.int 2)) (wCons (wC (.int 5)) (wCons (wCall c_law_take (wCons (wVar 0) (wCons (wC (.int 40)) wNil))) (wCons (wC (.int (-1))) wNil))))))))) wNil)))) wNil))) wNil))))
    (wRet (wTup (wCons (wVar 3) (wCons (wVar 5) (wCons (wOp2 oEq (wCall c_law_take (wCons (wVar 0) (wCons (wC (.int 4)) wNil))) (wC (.int 0))) wNil)))))))))
def c_law_draw_condition : CS := wDef 2 7 (w_law_draw_condition)
/-- _law_draw_letters 665f1190 -/
def w_law_draw_letters : WS :=
    (wRet (wCall c_law_one_of (wCons (wVar 0) (wCons (wFr (wLst (wCons (wC (.str "a")) (wCons (wC (.str "~")) (wCons (wC (.str "im")) (wCons (wC (.str "!x")) (wCons (wC (.str "AZ")) (wCons (wC (.str "Mi")) (wCons (wC (.str "abc")) (wCons (wC (.str "ilm")) (wCons (wC (.str "019")) (wCons (wC (.str "abcd")) (wCons (wC (.str "Wimt")) (wCons (wC (.str "!+~")) (wCons (wC (.str "-.:")) wNil))))))))))))))) wNil))))
def c_law_draw_letters : CS := wDef 1 1 (w_law_draw_letters)
/-- _law_draw_knowledge da85e34f -/
def w_law_draw_knowledge : WS :=
    (wSeq (wSet 2 (wMeth fJoin (wC (.str "")) (wCons (wFr (wSorted (wCall c_law_draw_letters (wCons (wVar 0) wNil)))) wNil)))
    (wSeq (wPar 3 4 (wCall c_law_draw_font (wCons (wVar 0) (wCons (wOp2 oAdd (wCall (one oLen) (wCons (wVar 2) wNil)) (wC (.int 1))) wNil))) (wLv (wLst wNil)))
    (wSeq (wSet 5 (wOp2 oGt (wCall c_law_take (wCons (wVar 0) (wCons (wC (.int 5)) wNil))) (wC (.int 0))))
    (wSeq (wFor (wRange1 (wCall c_law_take (wCons (wVar 0) (wCons (wOp2 oAdd (wVar 1) (wC (.int 1))) wNil)))) (gN 6) (wSeq (wSet 7 (wCall c_law_draw_condition (wCons (wVar 0) (wCons (wVar 3) wNil))))
    (wIf (wOr (wNot (wTest (wVar 5))) (wTest (wCall c_law_holds (wCons (wVar 7) (wCons (wVar 3) wNil))))) (wDo (wApp (wVar 4) (wVar 7))) wSkip)))
    (wRet (wTup (wCons (wVar 2) (wCons (wCall (one oTuple) (wCons (wVar 4) wNil)) wNil))))))))
def c_law_draw_knowledge : CS := wDef 2 8 (w_law_draw_knowledge)
/-- _law_draw_text 4b765686 -/
def w_law_draw_text : WS :=
    (wSeq (wSet 4 (wLv (wLst wNil)))
    (wSeq (wFor (wRange1 (wOp2 oAdd (wC (.int 1)) (wCall c_law_take (wCons (wVar 0) (wCons (wVar 2) wNil))))) (gN 5) (wDo (wApp (wVar 4) (wMeth fJoin (wC (.str "")) (wCons (wFr (wComp (wRange1 (wOp2 oAdd (wC (.int 1)) (wCall c_law_take (wCons (wVar 0) (wCons (wVar 3) wNil))))) (gN 6) wYes (wCall c_law_one_of (wCons (wVar 0) (wCons (wVar 1) wNil))) [6])) wNil)))))
    (wRet (wMeth fJoin (wC (.str " ")) (wCons (wVar 4) wNil)))))
def c_law_draw_text : CS := wDef 4 7 (w_law_draw_text)
/-- _law_counts debb5a44 -/
def w_law_counts : WS :=
    (wRet (wCall (one oTuple) (wCons (wFr (wComp (wIt (wOp2 oAdd (wC (.str " ")) (wVar 0))) (gN 2) wYes (wCall (one oLen) (wCons (wFr (wComp (wIt (wVar 1)) (gN 3) (wTest (wOp2 oEq (wVar 3) (wVar 2))) (wVar 3) [3])) wNil)) [2])) wNil)))
def c_law_counts : CS := wDef 2 4 (w_law_counts)
/-- _law_fits 978e283d -/
def w_law_fits : WS :=
    (wRet (wOp2 oNotIn (wC (.bl false)) (wFr (wComp (wIt (wOp2 oIx (wVar 0) (wC (.int 1)))) (gN 2) wYes (wCall c_law_holds (wCons (wVar 2) (wCons (wVar 1) wNil))) [2]))))
def c_law_fits : CS := wDef 2 3 (w_law_fits)
/-- _law_is_font 65fcb68e -/
def w_law_is_font : WS :=
    (wSeq (wIf (wOr (wNot (wTest (wOp1 (oIsi [.tup]) (wVar 1)))) (wOr (wTest (wOp2 oNe (wCall (one oLen) (wCons (wVar 1) wNil)) (wC (.int 2)))) (wNot (wTest (wOp1 (oIsi [.tup]) (wOp2 oIx (wVar 1) (wC (.int 1)))))))) (wRet (wC (.bl false))) wSkip)
    (wSeq (wSet 2 (wOp2 oAdd (wTup (wCons (wOp2 oIx (wVar 1) (wC (.int 0))) wNil)) (wOp2 oIx (wVar 1) (wC (.int 1)))))
    (wSeq (wIf (wTest (wOp2 oNe (wFr (wComp (wIt (wVar 2)) (gN 3) (wOr (wNot (wTest (wOp1 (oIsi [.int]) (wVar 3)))) (wTest (wOp1 (oIsi [.bl]) (wVar 3)))) (wVar 3) [3])) (wFr (wLst wNil)))) (wRet (wC (.bl false))) wSkip)
    (wSeq (wIf (wOr (wTest (wOp2 oLt (wOp2 oIx (wVar 1) (wC (.int 0))) (wC (.int 1)))) (wOr (wTest (wOp2 oNe (wCall (one oLen) (wCons (wOp2 oIx (wVar 1) (wC (.int 1))) wNil)) (wOp2 oAdd (wCall (one oLen) (wCons (wVar 0) wNil)) (wC (.int 1))))) (wTest (wOp2 oNe (wCall c_law_divisor (wCons (wVar 2) wNil)) (wC (.int 1)))))) (wRet (wC (.bl false))) wSkip)
    (wRet (wOp2 oEq (wFr (wComp (wIt (wOp2 oIx (wVar 1) (wC (.int 1)))) (gN 3) (wNot (wTest (wChain oLe oLe (wC (.int 0)) (wVar 3) (wOp2 oMul (wC (.int 20)) (wOp2 oIx (wVar 1) (wC (.int 0))))))) (wVar 3) [3])) (wFr (wLst wNil))))))))
def c_law_is_font : CS := wDef 2 4 (w_law_is_font)
/-- _law_rows 2f04e910 -/
def w_law_rows : WS :=
    (wSeq (wSet 2 (wOp2 oAdd (wCall (one oLen) (wCons (wOp2 oIx (wVar 0) (wC (.int 0))) wNil)) (wC (.int 1))))
    (wSeq (wSet 3 (wFr (wComp (wRange1 (wVar 2)) (gN 5) wYes (wTup (wCons (wCall (one oTuple) (wCons (wFr (wComp (wRange1 (wVar 2)) (gN 6) wYes (wOp2 oSub (wC (.int 0)) (wCall (one oInt) (wCons (wOp2 oEq (wVar 6) (wVar 5)) wNil))) [6])) wNil)) (wCons (wC (.int 0)) (wCons (wC (.bl false)) wNil)))) [5])))
    (wSeq (wSet 4 (wFr (wComp (wRange1 (wVar 2)) (gN 5) wYes (wTup (wCons (wCall (one oTuple) (wCons (wFr (wComp (wRange1 (wVar 2)) (gN 6) wYes (wCall (one oInt) (wCons (wOp2 oEq (wVar 6) (wVar 5)) wNil)) [6])) wNil)) (wCons (wC (.int 20)) (wCons (wC (.bl false)) wNil)))) [5])))
    (wRet (wOp2 oAdd (wOp2 oAdd (wOp2 oAdd (wFr (wList (wOp2 oIx (wVar 0) (wC (.int 1))))) (wFr (wList (wVar 1)))) (wVar 3)) (wVar 4))))))
def c_law_rows : CS := wDef 2 7 (w_law_rows)
/-- _law_refutes bbe4cfb3 -/
def w_law_refutes : WS :=
    (wSeq (wSet 3 (wCall c_law_rows (wCons (wVar 0) (wCons (wVar 1) wNil))))
    (wSeq (wIf (wOr (wNot (wTest (wOp1 (oIsi [.tup]) (wVar 2)))) (wTest (wOp2 oNe (wCall (one oLen) (wCons (wVar 2) wNil)) (wCall (one oLen) (wCons (wVar 3) wNil))))) (wRet (wC (.bl false))) wSkip)
    (wSeq (wFor (wIt (wVar 2)) (gN 4) (wIf (wOr (wNot (wTest (wOp1 (oIsi [.int]) (wVar 4)))) (wOr (wTest (wOp1 (oIsi [.bl]) (wVar 4))) (wTest (wOp2 oLt (wVar 4) (wC (.int 0)))))) (wRet (wC (.bl false))) wSkip))
    (wSeq (wFor (wRange1 (wOp2 oAdd (wCall (one oLen) (wCons (wOp2 oIx (wVar 0) (wC (.int 0))) wNil)) (wC (.int 1)))) (gN 5) (wIf (wTest (wOp2 oNe (wCall (one oSum) (wCons (wFr (wComp (wZip none (wVar 2) (wVar 3)) (gT 2 (gsC (gN 4) (gsC (gN 8) gsN))) wYes (wOp2 oMul (wVar 4) (wOp2 oIx (wOp2 oIx (wVar 8) (wC (.int 0))) (wVar 5))) [4, 8])) wNil)) (wC (.int 0)))) (wRet (wC (.bl false))) wSkip))
    (wSeq (wSet 6 (wCall (one oSum) (wCons (wFr (wComp (wZip none (wVar 2) (wVar 3)) (gT 2 (gsC (gN 4) (gsC (gN 8) gsN))) wYes (wOp2 oMul (wVar 4) (wOp2 oIx (wVar 8) (wC (.int 1)))) [4, 8])) wNil)))
    (wSeq (wSet 7 (wFr (wComp (wZip none (wVar 2) (wVar 3)) (gT 2 (gsC (gN 4) (gsC (gN 8) gsN))) (wAnd (wTest (wOp2 oIx (wVar 8) (wC (.int 2)))) (wTest (wOp2 oGt (wVar 4) (wC (.int 0))))) (wVar 4) [4, 8])))
    (wRet (wOrV (wOp2 oLt (wVar 6) (wC (.int 0))) (wAndV (wOp2 oEq (wVar 6) (wC (.int 0))) (wOp2 oNe (wVar 7) (wFr (wLst wNil))))))))))))
def c_law_refutes : CS := wDef 3 9 (w_law_refutes)
/-- _law_unit b1fb1712 -/
def w_law_unit : WS :=
    (wRet (wCall (one oTuple) (wCons (wFr (wComp (wRange1 (wVar 0)) (gN 3) wYes (wOp2 oMul (wVar 2) (wCall (one oInt) (wCons (wOp2 oEq (wVar 3) (wVar 1)) wNil))) [3])) wNil)))
def c_law_unit : CS := wDef 3 4 (w_law_unit)
/-- _law_spans ee352f5c -/
def w_law_spans : WS :=
    (wSeq (wPar 2 3 (wLv (wLst wNil)) (wC (.bl true)))
    (wSeq (wFor (wRange1 (wVar 1)) (gN 4) (wSeq (wPar 5 6 (wCall c_law_take (wCons (wVar 0) (wCons (wC (.int 22)) wNil))) (wCall c_law_take (wCons (wVar 0) (wCons (wC (.int 22)) wNil))))
    (wSeq (wPar 7 8 (wOp2 oAdd (wC (.int 1)) (wCall c_law_take (wCons (wVar 0) (wCons (wC (.int 3)) wNil)))) (wOp2 oEq (wCall c_law_take (wCons (wVar 0) (wCons (wC (.int 3)) wNil))) (wC (.int 0))))
    (wSeq (wDo (wApp (wVar 2) (wTup (wCons (wCall c_law_unit (wCons (wVar 1) (wCons (wVar 4) (wCons (wOp2 oSub (wC (.int 0)) (wVar 7)) wNil)))) (wCons (wOp2 oSub (wC (.int 0)) (wOp2 oMul (wVar 7) (wVar 5))) (wCons (wVar 8) wNil))))))
    (wSeq (wDo (wApp (wVar 2) (wTup (wCons (wCall c_law_unit (wCons (wVar 1) (wCons (wVar 4) (wCons (wVar 7) wNil)))) (wCons (wOp2 oMul (wVar 7) (wVar 6)) (wCons (wC (.bl false)) wNil))))))
    (wSeq (wSet 9 (wCall (two oMin2) (wCons (wVar 6) (wCons (wC (.int 20)) wNil))))
    (wSet 3 (wAndV (wVar 3) (wOrV (wOp2 oLt (wVar 5) (wVar 9)) (wAndV (wOp2 oEq (wVar 5) (wVar 9)) (wNotV (wVar 8))))))))))))
    (wRet (wTup (wCons (wSl (wVar 2) wONo (wOSo (wC (.int 8)))) (wCons (wIfE (wTest (wOp2 oLt (wVar 1) (wC (.int 5)))) (wVar 3) (wC .non)) wNil))))))
def c_law_spans : CS := wDef 2 10 (w_law_spans)
/-- _law_chain 59628c5e -/
def w_law_chain : WS :=
    (wSeq (wPar3 2 3 4 (wOp2 oAdd (wC (.int 1)) (wCall c_law_take (wCons (wVar 0) (wCons (wC (.int 5)) wNil)))) (wLv (wLst wNil)) (wC (.int 1)))
    (wSeq (wDo (wApp (wVar 3) (wTup (wCons (wCall c_law_unit (wCons (wVar 1) (wCons (wC (.int 0)) (wCons (wC (.int (-1))) wNil)))) (wCons (wC (.int (-1))) (wCons (wC (.bl false)) wNil))))))
    (wSeq (wSet 5 (wOp2 oEq (wCall c_law_take (wCons (wVar 0) (wCons (wC (.int 2)) wNil))) (wC (.int 0))))
    (wSeq (wFor (wRange2 (wC (.int 1)) (wVar 1)) (gN 6) (wSeq (wPar 7 8 (wCall c_law_unit (wCons (wVar 1) (wCons (wOp2 oSub (wVar 6) (wC (.int 1))) (wCons (wVar 2) wNil)))) (wCall c_law_unit (wCons (wVar 1) (wCons (wVar 6) (wCons (wC (.int (-1))) wNil)))))
    (wSeq (wDo (wApp (wVar 3) (wTup (wCons (wCall (one oTuple) (wCons (wFr (wComp (wZip none (wVar 7) (wVar 8)) (gT 2 (gsC (gN 9) (gsC (gN 10) gsN))) wYes (wOp2 oAdd (wVar 9) (wVar 10)) [9, 10])) wNil)) (wCons (wC (.int 0)) (wCons (wVar 5) wNil))))))
    (wSet 4 (wOp2 oMul (wVar 4) (wVar 2))))))
    (wRet (wTup (wCons (wFrz (wVar 3)) (wCons (wOrV (wOp2 oLt (wVar 4) (wC (.int 20))) (wAndV (wOp2 oEq (wVar 4) (wC (.int 20))) (wOrV (wNotV (wVar 5)) (wOp2 oEq (wVar 1) (wC (.int 1)))))) wNil))))))))
def c_law_chain : CS := wDef 2 11 (w_law_chain)
/-- _law_sums ca7eb17d -/
def w_law_sums : WS :=
    (wSeq (wAsg (wTup (wCons (wCall c_law_take (wCons (wVar 0) (wCons (wOp2 oAdd (wOp2 oMul (wC (.int 20)) (wVar 1)) (wC (.int 5))) wNil))) (wCons (wCall c_law_take (wCons (wVar 0) (wCons (wC (.int 23)) wNil))) wNil))) (gT 2 (gsC (gN 2) (gsC (gN 3) gsN))))
    (wSeq (wSet 4 (wOp2 oEq (wCall c_law_take (wCons (wVar 0) (wCons (wC (.int 2)) wNil))) (wC (.int 0))))
    (wSeq (wSet 5 (wFr (wLst (wCons (wTup (wCons (wOp2 oMul (wTup (wCons (wC (.int 1)) wNil)) (wVar 1)) (wCons (wVar 2) (wCons (wC (.bl false)) wNil)))) (wCons (wTup (wCons (wOp2 oMul (wTup (wCons (wC (.int (-1))) wNil)) (wVar 1)) (wCons (wOp2 oSub (wC (.int 0)) (wVar 2)) (wCons (wC (.bl false)) wNil)))) wNil)))))
    (wSeq (wSet 5 (wOp2 oAdd (wVar 5) (wFr (wComp (wRange1 (wVar 1)) (gN 6) wYes (wTup (wCons (wCall c_law_unit (wCons (wVar 1) (wCons (wVar 6) (wCons (wC (.int 1)) wNil)))) (wCons (wVar 3) (wCons (wVar 4) wNil)))) [6]))))
    (wSeq (wIf (wTest (wOp2 oGt (wVar 3) (wC (.int 20)))) (wRet (wTup (wCons (wVar 5) (wCons (wOp2 oLe (wVar 2) (wOp2 oMul (wC (.int 20)) (wVar 1))) wNil)))) wSkip)
    (wRet (wTup (wCons (wVar 5) (wCons (wOrV (wOp2 oLt (wVar 2) (wOp2 oMul (wVar 3) (wVar 1))) (wAndV (wOp2 oEq (wVar 2) (wOp2 oMul (wVar 3) (wVar 1))) (wNotV (wVar 4)))) wNil)))))))))
def c_law_sums : CS := wDef 2 7 (w_law_sums)
/-- law 006a76c2 -/
def w_law (Fr : PySem.W.Frag) : WS :=
    (wSeq (wSet 1 (wCall (c_law_open Fr) (wCons (wVar 0) wNil)))
    (wSeq (wFor (wRange1 (wC (.int 9))) (gN 2) (wSeq (wSet 3 (wMeth fJoin (wC (.str "")) (wCons (wFr (wSorted (wCall c_law_draw_letters (wCons (wVar 1) wNil)))) wNil)))
    (wSeq (wSet 4 (wOp2 oAdd (wCall (one oLen) (wCons (wVar 3) wNil)) (wC (.int 1))))
    (wSeq (wAsg (wCallSel (wOp2 oMod (wVar 2) (wC (.int 3))) [c_law_spans, c_law_chain, c_law_sums] (wCons (wVar 1) (wCons (wVar 4) wNil))) (gT 2 (gsC (gN 5) (gsC (gN 6) gsN))))
    (wSeq (wSet 7 (wTup (wCons (wVar 3) (wCons (wCall (one oTuple) (wCons (wVar 5) wNil)) wNil))))
    (wSeq (wPar 8 9 (wCall (c_find_font Fr) (wCons (wVar 7) (wCons (wFr (wLst wNil)) wNil))) (wCall (c_find_refutation Fr) (wCons (wVar 7) (wCons (wFr (wLst wNil)) wNil))))
    (wSeq (wIf (wOr (wTest (wOp2 oEq (wOp2 oIs (wVar 8) (wC .non)) (wOp2 oIs (wVar 9) (wC .non)))) (wNot (wTest (wCall (c_law_same 12) (wCons (wCall (c_has_font Fr) (wCons (wVar 7) wNil)) (wCons (wOp2 oIsNot (wVar 8) (wC .non)) wNil)))))) (wRet (wC (.bl false))) wSkip)
    (wSeq (wIf (wAnd (wTest (wOp2 oIsNot (wVar 6) (wC .non))) (wTest (wOp2 oNe (wCall (c_has_font Fr) (wCons (wVar 7) wNil)) (wVar 6)))) (wRet (wC (.bl false))) wSkip)
    (wSeq (wIf (wAnd (wTest (wOp2 oIsNot (wVar 8) (wC .non))) (wOr (wNot (wTest (wCall c_law_is_font (wCons (wVar 3) (wCons (wVar 8) wNil))))) (wNot (wTest (wCall c_law_fits (wCons (wVar 7) (wCons (wVar 8) wNil))))))) (wRet (wC (.bl false))) wSkip)
    (wIf (wAnd (wTest (wOp2 oIsNot (wVar 9) (wC .non))) (wNot (wTest (wCall c_law_refutes (wCons (wVar 7) (wCons (wFr (wLst wNil)) (wCons (wVar 9) wNil))))))) (wRet (wC (.bl false))) wSkip))))))))))
    (wRet (wC (.bl true)))))
def c_law (Fr : PySem.W.Frag) : CS := wDef 1 10 (w_law Fr)
end G

set_option Elab.async false
set_option linter.all false
set_option maxRecDepth 100000
set_option autoImplicit false
set_option maxHeartbeats 2000000
namespace G
open PySem PySem.Spec PyProof.Rows L2
local macro_rules
  | `(tactic| get_elem_tactic_trivial) => `(tactic| first
    | (with_reducible first
      | refine st_seqSet ?_ | refine st_seqAsg ?_ | refine st_seqDo ?_ | refine st_seqPar ?_ | refine st_seqPar3 ?_ | refine st_seqFor ?_ | refine st_seqWhile ?_ | refine st_seqAug ?_ | refine st_seqSkip ?_ | refine st_seqRet ?_
      | refine st_skip ?_ | refine st_ret ?_ | refine st_retN ?_ | refine st_do ?_ | refine st_if ?_ | refine st_set ?_ | refine st_asg ?_ | refine st_par ?_ | refine st_par3 ?_
      | refine st_c ?_ | refine st_op2 ?_ | refine st_op1 ?_ | refine st_test ?_ | refine st_tbl ?_ | refine st_and ?_ | refine st_or ?_ | refine st_not ?_ | refine st_andV ?_ | refine st_orV ?_ | refine st_notV ?_ | refine st_bl ?_
      | refine st_chain ?_ | refine st_ifE ?_ | refine st_nil ?_ | refine st_cons ?_ | refine st_call ?_ | refine st_fr ?_ | refine st_lv ?_ | refine st_one ?_ | refine st_two ?_
      | refine st_gN ?_ | refine st_lst ?_ | refine st_tup ?_ | refine st_slF ?_ | refine st_oNo ?_ | refine st_oS ?_ | refine st_enum ?_ | refine st_scr ?_ | refine st_list ?_ | refine st_it ?_ | refine st_comp ?_ | refine st_for ?_ | refine st_gIx ?_ | refine st_range1 ?_ | refine st_app ?_ | refine st_zip ?_ | refine st_rev1 ?_ | refine st_meth ?_ | refine st_isS ?_ | refine st_count ?_ | refine st_sl ?_ | refine st_slT ?_ | refine st_slL ?_ | refine st_max2 ?_ | refine st_min2 ?_
      | refine st_add ?_ | refine st_sub ?_ | refine st_int ?_ | refine st_neg ?_ | refine st_lt ?_ | refine st_le ?_ | refine st_gt ?_ | refine st_ge ?_ | refine st_eq ?_ | refine st_ne ?_ | refine st_eqB ?_ | refine st_neB ?_ | refine st_eqS ?_ | refine st_neS ?_ | refine st_isN ?_ | refine st_sorted ?_ | refine st_abs ?_ | refine st_isNotN ?_
      | refine br_t ?_ | refine br_f ?_)
    | ((with_reducible refine st_var (d := ?_) ?_ ?_); rotate_left; (exact rfl))
    | ((with_reducible refine st_isi2 (k := ?_) (b := true) ?_ ?_ ?_); rotate_left; (exact rfl); (exact rfl))
    | ((with_reducible refine st_isi2 (k := ?_) (b := false) ?_ ?_ ?_); rotate_left; (exact rfl); (exact rfl))
    | ((with_reducible refine st_ix (ds := ?_) (d := ?_) ?_ ?_ ?_); rotate_left 2; (first | exact rfl | exact seq_at (by assumption)); (exact rfl))
    | ((with_reducible refine st_len2 (ds := ?_) (n := ?_) ?_ ?_ ?_); rotate_left 2; (first | exact rfl | exact seq_at (by assumption)); (exact rfl))
    | ((with_reducible refine st_addLL (a := ?_) (b := ?_) ?_ ?_ ?_ ?_); rotate_left 2; (first | exact rfl | exact lst_at (by assumption)); (first | exact rfl | exact lst_at (by assumption)); (exact Nat.le_of_ble_eq_true rfl))
    | ((with_reducible refine st_pow ?_ ?_); (exact ⟨by decide, by decide, by decide⟩))
    | ((with_reducible refine st_mod ?_ ?_); (first | decide | omega))
    | ((with_reducible refine st_size ?_ ?_); (exact rfl))
    | ((with_reducible refine st_gT2 ?_ ?_); (exact rfl))
    | ((with_reducible refine st_gsC ?_))
    | ((with_reducible refine st_gsN ?_))
    | ((with_reducible refine st_mulS ?_ ?_ ?_); omega; omega)
    | ((with_reducible refine br_ct ?_ ?_); (exact rfl))
    | ((with_reducible refine br_cf ?_ ?_); (exact rfl))
    | (rw [list_tup])
    | (rw [list_lst])
    | (rw [items_tup])
    | (rw [items_lst])
    | ((refine st_listM (ds := ?_) ?_ ?_); rotate_left; (first | exact rfl | exact seq_at (by assumption)))
    | ((refine st_itM (it := ?_) ?_ ?_); rotate_left; (first | exact rfl | exact it_at (by assumption))))

/-! ### the pen -/
def Pn (n : Nat) (S : Sto) (p : Addr) : Prop := ∃ (cs : List Int) (a v : Int), S p = some (.lst [.lst (cs.map D.int), .int a, .int v]) ∧ 0 ≤ a ∧ a ≤ n
def isP (d : D) : Prop := ∃ p : Int, d = .int p ∧ 2147483323 ≤ p ∧ p ≤ 2147483629
theorem isP_int {p : Int} (h : (decide (2147483323 ≤ p) && decide (p ≤ 2147483629)) = true) : isP (.int p) := by
  simp at h
  exact ⟨p, rfl, h⟩
theorem sp_spread {c a : Int} {S : Sto} {K : KE} (ha : 0 ≤ a) (ha2 : a < 2 ^ 24) (h : ∀ r, K (.int r) S) : c_law_spread [.int c, .int a] S K := by
  refine st_def rfl ?_
  unfold w_law_spread
  repeat (first | get_elem_tactic_trivial | with_reducible refine st_seq ?_)
  refine br_b (fun _ => ?_) fun _ => ?_
  · repeat (first | get_elem_tactic_trivial | with_reducible refine st_seq ?_)
    exact fin.of (h _)
  repeat (first | get_elem_tactic_trivial | with_reducible refine st_seq ?_)
  have hc : 0 ≤ c % 1000000007 ∧ c % 1000000007 < 1000000007 := by omega
  have hd : 0 ≤ c % 65537 ∧ c % 65537 < 65537 := by omega
  generalize c % 1000000007 = u at *
  generalize c % 65537 = w at *
  have b1 := bnd_mul (x := u) (y := 2 * a + 69069) (X := 2 ^ 30) (Y := 2 ^ 26) (by omega) (by omega) (by omega) (by omega)
  refine st_pow ⟨by decide, by decide, by omega⟩ ?_
  repeat (first | get_elem_tactic_trivial | with_reducible refine st_seq ?_)
  refine st_ixAll rfl (by omega) (by show _ < (13 : Int); omega) fun d hd1 => ?_
  have hp : isP d := by
    simp only [List.mem_append, List.mem_cons, List.not_mem_nil, or_false] at hd1
    rcases hd1 with (rfl | rfl | rfl | rfl | rfl | rfl | rfl | rfl) | (rfl | rfl | rfl | rfl | rfl) <;> exact isP_int rfl
  obtain ⟨p, rfl, p1, p2⟩ := hp
  repeat (first | get_elem_tactic_trivial | with_reducible refine st_seq ?_)
  obtain ⟨o, eo⟩ : ∃ o, o = (u * (2 * a + 69069) + a * 40503 + 977) ^ Int.toNat 3 % p := ⟨_, rfl⟩
  have o1 : 0 ≤ o := eo ▸ Int.emod_nonneg _ (by omega)
  have o2 : o < p := eo ▸ Int.emod_lt_of_pos _ (by omega)
  rw [← eo]
  clear eo
  repeat (first | get_elem_tactic_trivial | with_reducible refine st_seq ?_)
  have hd : 0 ≤ c % 65537 ∧ c % 65537 < 65537 := by omega
  generalize c % 65537 = w at *
  have b2 := bnd_mul (x := o) (y := a + 3) (X := 2 ^ 31) (Y := 2 ^ 25) (by omega) (by omega) (by omega) (by omega)
  refine st_pow ⟨by decide, by decide, by omega⟩ ?_
  repeat (first | get_elem_tactic_trivial | with_reducible refine st_seq ?_)
  refine st_ixAll rfl (by omega) (by show _ < (13 : Int); omega) fun d hd1 => ?_
  have hp : isP d := by
    simp only [List.mem_append, List.mem_cons, List.not_mem_nil, or_false] at hd1
    rcases hd1 with (rfl | rfl | rfl | rfl | rfl | rfl | rfl | rfl) | (rfl | rfl | rfl | rfl | rfl) <;> exact isP_int rfl
  obtain ⟨q, rfl, q1, q2⟩ := hp
  repeat (first | get_elem_tactic_trivial | with_reducible refine st_seq ?_)
  obtain ⟨o', eo⟩ : ∃ o', o' = (o * (a + 3) + w + 5) ^ Int.toNat 5 % q := ⟨_, rfl⟩
  have o3 : 0 ≤ o' := eo ▸ Int.emod_nonneg _ (by omega)
  have o4 : o' < q := eo ▸ Int.emod_lt_of_pos _ (by omega)
  rw [← eo]
  clear eo
  refine st_pow ⟨by decide, by decide, by omega⟩ ?_
  repeat (first | get_elem_tactic_trivial | with_reducible refine st_seq ?_)
  refine st_ixAll rfl (by omega) (by show _ < (13 : Int); omega) fun d hd1 => ?_
  have hp : isP d := by
    simp only [List.mem_append, List.mem_cons, List.not_mem_nil, or_false] at hd1
    rcases hd1 with (rfl | rfl | rfl | rfl | rfl | rfl | rfl | rfl) | (rfl | rfl | rfl | rfl | rfl) <;> exact isP_int rfl
  obtain ⟨q', rfl, q3, q4⟩ := hp
  repeat (first | get_elem_tactic_trivial | with_reducible refine st_seq ?_)
  have b3 := bnd_mul (x := o) (y := 2147483647) (X := 2 ^ 31) (Y := 2 ^ 31) (by omega) (by omega) (by omega) (by omega)
  repeat (first | get_elem_tactic_trivial | with_reducible refine st_seq ?_)
  exact fin.of (h _)
/-- other places are as they were -/
def Oth (p : Addr) (S S' : Sto) : Prop := ∀ b, b ≠ p → S' b = S b
theorem Oth.refl {p : Addr} {S : Sto} : Oth p S S := fun _ _ => rfl
theorem Oth.set {p : Addr} {S S' : Sto} {c : Cell} (h : Oth p S S') : Oth p S (S'.set p c) := fun b n => (Sto.set_ne n).trans (h b n)
theorem Oth.trans {p : Addr} {A B C : Sto} (h : Oth p A B) (k : Oth p B C) : Oth p A C := fun b n => (k b n).trans (h b n)
theorem sp_take {n : Nat} {p : Addr} {m : Int} {S : Sto} {K : KE} (hp : Pn n S p) (hn : n < 2 ^ 23) (hm : 0 < m) (hm2 : m.natAbs < 2 ^ 250) (h : ∀ r S', 0 ≤ r → r < m → Pn (n + 1) S' p → Oth p S S' → K (.int r) S') : c_law_take [.cell p, .int m] S K := by
  obtain ⟨cs, a, v, e, a1, a2⟩ := hp
  refine st_def rfl ?_
  unfold w_law_take
  refine ⟨fun ρ1 S1 => ∃ (x2 x3 : Option D) (a' v' : Int), ρ1 = [some (.cell p), some (.int m), x2, x3, none] ∧ S1 p = some (.lst [.lst (cs.map D.int), .int a', .int v']) ∧ 0 ≤ a' ∧ a' ≤ n + 1 ∧ Oth p S S1, ?_, ?_⟩
  · repeat get_elem_tactic_trivial
    refine br_b (fun _ => ?_) fun _ => ?_
    · repeat get_elem_tactic_trivial
      refine ⟨fun ρ1 S1 => S1 = S ∧ ∃ c : Int, ρ1 = [some (.cell p), some (.int m), some (.int a), some (.int c), none], ?_, ?_⟩
      · repeat get_elem_tactic_trivial
        refine br_b (fun e1 => ?_) fun e1 => ?_
        · have e1 := of_decide_eq_true e1
          repeat get_elem_tactic_trivial
          refine st_ixAll rfl a1 e1 fun d hd => ?_
          obtain ⟨c, _, ec⟩ := List.mem_map.mp hd
          subst ec
          exact ⟨rfl, c, rfl⟩
        · repeat get_elem_tactic_trivial
          refine br_b (fun e2 => ?_) fun e2 => ?_
          · have e2 := of_decide_eq_true e2
            repeat get_elem_tactic_trivial
            refine st_ixAll rfl (Int.emod_nonneg _ (by omega)) (Int.emod_lt_of_pos _ (by omega)) fun d hd => ?_
            obtain ⟨c, _, ec⟩ := List.mem_map.mp hd
            subst ec
            repeat get_elem_tactic_trivial
            have e17 : (10 : Int) ^ Int.toNat 17 = 100000000000000000 := rfl
            refine st_mod (by omega) ?_
            exact ⟨rfl, _, rfl⟩
          · repeat get_elem_tactic_trivial
            exact ⟨rfl, _, rfl⟩
      · intro ρ1 S1 ⟨e1, c, e2⟩
        subst e1 e2
        repeat get_elem_tactic_trivial
        refine st_ixM2 (ds' := [.lst (cs.map D.int), .int (a + 1), .int v]) e rfl rfl ?_
        have e' : (S1.set p (.lst [.lst (cs.map D.int), .int (a + 1), .int v])) p = some (.lst [.lst (cs.map D.int), .int (a + 1), .int v]) := Sto.set_same
        repeat get_elem_tactic_trivial
        refine sp_spread a1 (by omega) fun r => ?_
        repeat get_elem_tactic_trivial
        refine ⟨_, _, _, _, rfl, e', rfl, rfl, ?_⟩
        exact ⟨_, _, a + 1, r, rfl, Sto.set_same, by omega, by omega, Oth.refl.set.set⟩
    · repeat get_elem_tactic_trivial
      exact ⟨_, _, a, v, rfl, e, a1, by omega, Oth.refl⟩
  · intro ρ1 S1 ⟨x2, x3, a', v', e1, e2, h1, h2, h3⟩
    subst e1
    repeat get_elem_tactic_trivial
    refine st_divS hm hm2 ?_
    repeat get_elem_tactic_trivial
    refine ⟨_, _, _, _, rfl, e2, rfl, rfl, ?_⟩
    repeat get_elem_tactic_trivial
    exact fin.of (h _ _ (Int.emod_nonneg _ (by omega)) (Int.emod_lt_of_pos _ hm) ⟨cs, a', v' / m, Sto.set_same, h1, by omega⟩ h3.set)
theorem sp_one_of {n : Nat} {p : Addr} {ds : List D} {S : Sto} {K : KE} (hp : Pn n S p) (hn : n < 2 ^ 23) (hm : 0 < ds.length) (hm2 : ds.length < 2 ^ 24) (h : ∀ d S', d ∈ ds → Pn (n + 1) S' p → Oth p S S' → K d S') : c_law_one_of [.cell p, .lst ds] S K := by
  refine st_def rfl ?_
  unfold w_law_one_of
  repeat (first | get_elem_tactic_trivial | with_reducible refine st_seq ?_)
  refine sp_take hp hn (by omega) (by omega) fun r S' r1 r2 hp' ho => ?_
  refine st_ixAll rfl r1 r2 fun d hd => ?_
  exact fin.of (h d S' hd hp' ho)
theorem sp_open {Fr : PySem.W.Frag} {ns : List Int} {S : Sto} {K : KE} (h : ∀ p S', Pn 0 S' p → K (.cell p) S') : c_law_open Fr [.scr Fr ns] S K := by
  refine st_def rfl ?_
  unfold w_law_open
  repeat (first | get_elem_tactic_trivial | with_reducible refine st_seq ?_)
  rw [cutD_map, show (some (12 : Int)) = some ((12 : Nat) : Int) from rfl, cut_lo]
  intro p np
  repeat (first | get_elem_tactic_trivial | with_reducible refine st_seq ?_)
  rw [cutD_map, show (some (12 : Int)) = some ((12 : Nat) : Int) from rfl, show (some (63 : Int)) = some ((63 : Nat) : Int) from rfl, cut_lh]
  repeat (first | get_elem_tactic_trivial | with_reducible refine st_seq ?_)
  have hc : (ns.drop 12).take (63 - 12) = [] ∨ (ns.take 12).length = 12 := by
    by_cases l : 12 ≤ ns.length
    · exact .inr (by rw [List.length_take]; omega)
    · exact .inl (by rw [List.drop_of_length_le (by omega)]; rfl)
  generalize (ns.drop 12).take (63 - 12) = ms at *
  generalize ns.take 12 = cs at *
  refine for_ind (I := fun ds ρ S1 => ∃ (k : Nat) (ms cs : List Int) (x0 x2 x3 : Option D), ds = ienum k (ms.map D.int) ∧ ρ = [x0, some (.cell p), x2, x3] ∧ S1 p = some (.lst (cs.map D.int)) ∧ (ms = [] ∨ cs.length = 12)) ⟨0, ms, cs, _, _, _, rfl, rfl, Sto.set_same, hc⟩ (fun ρ S1 ⟨k, ms, cs, x0, x2, x3, e1, e2, e3, e4⟩ => ⟨trivial, ?_⟩) fun d ds F ih ρ S1 ⟨k, ms, cs, x0, x2, x3, e1, e2, e3, e4⟩ => ⟨trivial, ?_⟩
  · subst e2
    repeat (first | get_elem_tactic_trivial | with_reducible refine st_seq ?_)
    refine st_frz ?_
    repeat (first | get_elem_tactic_trivial | with_reducible refine st_seq ?_)
    refine ⟨p, rfl, .inl ⟨_, e3, ?_⟩⟩
    repeat (first | get_elem_tactic_trivial | with_reducible refine st_seq ?_)
    intro q nq
    exact fin.of (h q _ ⟨cs, 0, 0, Sto.set_same, by omega, by omega⟩)
  · subst e2
    cases ms with
    | nil => cases e1
    | cons m ms =>
      injection e1 with e1 e5
      subst e1
      have l : cs.length = 12 := e4.elim (fun z => nomatch z) id
      repeat (first | get_elem_tactic_trivial | with_reducible refine st_seq ?_)
      refine st_ixAll (seq_at e3) (by omega) (by rw [List.length_map, l]; omega) fun d hd => ?_
      obtain ⟨c, _, ec⟩ := List.mem_map.mp hd
      subst ec
      repeat (first | get_elem_tactic_trivial | with_reducible refine st_seq ?_)
      refine st_ixM2 (ds' := (cs.set ((k : Int) % 12).toNat (c + m)).map D.int) (j := ((k : Int) % 12).toNat) e3 (ixN_in (by omega) (by rw [List.length_map, l]; omega)) (by rw [List.map_set]) ?_
      exact ih _ _ ⟨k + 1, ms, cs.set ((k : Int) % 12).toNat (c + m), _, _, _, e5, rfl, Sto.set_same, .inr (by rw [List.length_set]; exact l)⟩
theorem Pn.oth {n : Nat} {q p : Addr} {S S' : Sto} (h : Pn n S p) (n1 : p ≠ q) (o : Oth q S S') : Pn n S' p := by
  obtain ⟨cs, a, v, e, h⟩ := h
  exact ⟨cs, a, v, (o p n1).trans e, h⟩
theorem Pn.mono {n m : Nat} {p : Addr} {S : Sto} (h : Pn n S p) (l : n ≤ m) : Pn m S p := by
  obtain ⟨cs, a, v, e, h1, h2⟩ := h
  exact ⟨cs, a, v, e, h1, by omega⟩
theorem Pn.ne {n : Nat} {p q : Addr} {S : Sto} (h : Pn n S p) (e : S q = none) : q ≠ p := fun z => by
  obtain ⟨cs, a, v, e1, _⟩ := h
  rw [z, e1] at e
  cases e
theorem Pn.setO {n : Nat} {p q : Addr} {S : Sto} {c : Cell} (h : Pn n S p) (z : q ≠ p) : Pn n (S.set q c) p := by
  obtain ⟨cs, a, v, e, h⟩ := h
  exact ⟨cs, a, v, (Sto.set_ne (Ne.symm z)).trans e, h⟩
theorem Pn.delO {n : Nat} {p q : Addr} {S : Sto} (h : Pn n S p) (z : q ≠ p) : Pn n (S.del q) p := by
  obtain ⟨cs, a, v, e, h⟩ := h
  exact ⟨cs, a, v, (Sto.del_ne (Ne.symm z)).trans e, h⟩
theorem Sub.del {S : Sto} {q : Addr} : Sub (S.del q) S := fun a c e => by
  by_cases z : a = q
  · rw [z, Sto.del_same] at e
    cases e
  · rw [Sto.del_ne z] at e
    exact e
/-- a cell of one's own is given up at the end -/
theorem Oth.drop {p q : Addr} {S S' : Sto} {c : Cell} (h : Oth p (S.set q c) S') (nq : S q = none) : Oth p S (S'.del q) := fun b n => by
  by_cases z : b = q
  · rw [z, Sto.del_same, nq]
  · rw [Sto.del_ne z, h b n, Sto.set_ne z]
theorem Oth.of2 {p q : Addr} {S S' : Sto} (h : ∀ b, b ≠ p → b ≠ q → S' b = S b) (nq : S q = none) : Oth p S (S'.del q) := fun b n => by
  by_cases z : b = q
  · rw [z, Sto.del_same, nq]
  · rw [Sto.del_ne z]
    exact h b n z
def gcds (g : Nat) (ns : List Int) : Nat := ns.foldl (fun g n => Nat.gcd g n.natAbs) g
theorem gcds_dvd : ∀ (ns : List Int) (g : Nat), gcds g ns ∣ g
  | [], g => Nat.dvd_refl g
  | n :: ns, g => Nat.dvd_trans (gcds_dvd ns (Nat.gcd g n.natAbs)) (Nat.gcd_dvd_left g n.natAbs)
theorem ints_of {rs : List D} {Q : Int → Prop} (h : ∀ r, r ∈ rs → ∃ z, r = .int z ∧ Q z) : ∃ ys : List Int, rs = ys.map D.int ∧ ∀ y, y ∈ ys → Q y := by
  induction rs with
  | nil => exact ⟨[], rfl, fun y z => by simp at z⟩
  | cons r rs ih =>
    obtain ⟨z, rfl, hz⟩ := h r (List.mem_cons_self ..)
    obtain ⟨ys, rfl, hy⟩ := ih fun x hx => h x (List.mem_cons_of_mem _ hx)
    exact ⟨z :: ys, rfl, fun y hm => (List.mem_cons.mp hm).elim (fun e => e ▸ hz) (hy y)⟩
theorem lens_sum {ys : List Str} {b : Nat} (h : ∀ y, y ∈ ys → y.length ≤ b) : (ys.map (·.length)).sum ≤ ys.length * b := by
  have := sum_le (l := ys.map (·.length)) (b := b) fun x hx => by
    obtain ⟨y, hy, e⟩ := List.mem_map.mp hx
    rw [← e]
    exact h y hy
  rw [List.length_map] at this
  exact this
theorem tl_empty {P : Nat → Prop} : Sg P (Str.ofString "") := fun c hc => by
  have hc : c ∈ ([] : List Nat) := hc
  cases hc
abbrev LetC (c : Nat) : Prop := 33 ≤ c ∧ c < 128
abbrev TxtC (c : Nat) : Prop := 32 ≤ c ∧ c < 128
structure LetOk (l : Str) : Prop where
  l1 : 1 ≤ l.length
  l4 : l.length ≤ 4
  sg : Sg LetC l
  nd : (32 :: TL.tl l).Nodup
def letB (l : Str) : Bool := decide (1 ≤ l.length) && decide (l.length ≤ 4) && ((TL.tl l).all fun c => decide (33 ≤ c ∧ c < 128)) && decide (32 :: TL.tl l).Nodup
theorem LetOk.of {l : Str} (h : letB l = true) : LetOk l := by
  unfold letB at h
  rw [Bool.and_eq_true, Bool.and_eq_true, Bool.and_eq_true] at h
  refine ⟨of_decide_eq_true h.1.1.1, of_decide_eq_true h.1.1.2, fun c hc => ?_, of_decide_eq_true h.2⟩
  exact of_decide_eq_true (List.all_eq_true.mp h.1.2 c hc)
theorem LetOk.no {l : Str} (h : LetOk l) : 32 ∉ TL.tl l := (List.nodup_cons.mp h.nd).1
/-- a font -/
def fontD (u : Int) (ws : List Int) : D := .tup [.int u, .tup (ws.map D.int)]
structure FontOk (n : Nat) (u : Int) (ws : List Int) : Prop where
  u1 : 1 ≤ u
  u2 : u < 2 ^ 150
  len : ws.length = n
  ws : ∀ w, w ∈ ws → 0 ≤ w ∧ w < 2 ^ 160
theorem FontOk.bnd {n : Nat} {u : Int} {ws : List Int} (f : FontOk n u ws) : ∀ w, w ∈ ws → w.natAbs < 2 ^ 240 := fun w hw => by
  have := f.ws w hw
  omega
theorem sp_same {a b : Bool} {n : Nat} {S : Sto} {K : KE} (h : K (.bl (a == b)) S) : c_law_same (n + 1) [.bl a, .bl b] S K := by
  refine st_def rfl ?_
  unfold w_law_same
  repeat (first | get_elem_tactic_trivial | with_reducible refine st_seq ?_)
  exact fin.of h

theorem dot_bnd {a b : List Int} {A B : Nat} (ha : ∀ x, x ∈ a → x.natAbs ≤ A) (hb : ∀ x, x ∈ b → x.natAbs ≤ B) : (dot a b).natAbs ≤ a.length * (A * B) := by
  unfold dot
  induction a generalizing b with
  | nil => simp
  | cons x a ih =>
    cases b with
    | nil => simp
    | cons y b =>
      have h1 := ih (b := b) (fun z hz => ha z (List.mem_cons_of_mem _ hz)) fun z hz => hb z (List.mem_cons_of_mem _ hz)
      have h2 : (x * y).natAbs ≤ A * B := by
        rw [Int.natAbs_mul]
        exact Nat.mul_le_mul (ha x (List.mem_cons_self ..)) (hb y (List.mem_cons_self ..))
      rw [List.zip_cons_cons, List.map_cons, List.sum_cons, List.length_cons, Nat.add_mul, Nat.one_mul]
      show (x * y + (List.map (fun p => p.1 * p.2) (List.zip a b)).sum).natAbs ≤ _
      omega
/-! ### conditions -/
structure Cond where
  fs : List Int
  b : Int
  st : Bool
def condD (c : Cond) : D := .tup [.tup (c.fs.map D.int), .int c.b, .bl c.st]
structure CondOk (n : Nat) (c : Cond) : Prop where
  len : c.fs.length = n
  fs : ∀ f, f ∈ c.fs → f.natAbs ≤ 1000000
  b : c.b.natAbs < 2 ^ 190
def holdsB (c : Cond) (u : Int) (ws : List Int) : Bool := if c.st then decide (dot c.fs ws < c.b * u) else decide (dot c.fs ws ≤ c.b * u)
theorem CondOk.bnd {n : Nat} {c : Cond} (h : CondOk n c) : ∀ f, f ∈ c.fs → f.natAbs < 2 ^ 240 := fun f hf => by
  have := h.fs f hf
  omega
/-! ### what is drawn -/
theorem sp_draw_letters {n : Nat} {p : Addr} {S : Sto} {K : KE} (hp : Pn n S p) (hn : n < 2 ^ 22) (h : ∀ l S', LetOk l → Pn (n + 1) S' p → Oth p S S' → K (.str l) S') : c_law_draw_letters [.cell p] S K := by
  refine st_def rfl ?_
  unfold w_law_draw_letters
  repeat get_elem_tactic_trivial
  refine sp_one_of hp (by omega) (by decide) (by decide) fun d S' hd hp' ho => ?_
  obtain ⟨l, rfl, hl⟩ : ∃ l, d = .str l ∧ LetOk l := by
    simp only [List.mem_cons, List.not_mem_nil, or_false] at hd
    rcases hd with rfl | rfl | rfl | rfl | rfl | rfl | rfl | rfl | rfl | rfl | rfl | rfl | rfl <;> exact ⟨_, rfl, LetOk.of (by decide +kernel)⟩
  exact fin.of (h l S' hl hp' ho)
/-! ### knowledge -/
def knowD (l : Str) (cs : List Cond) : D := .tup [.str l, .tup (cs.map condD)]
structure KnowOk (l : Str) (cs : List Cond) : Prop where
  let_ : LetOk l
  len : cs.length ≤ 8
  ok : ∀ c : Cond, c ∈ cs → CondOk (l.length + 1) c
  b : ∀ c : Cond, c ∈ cs → c.b.natAbs ≤ 9999
  fs : ∀ c : Cond, c ∈ cs → ∀ f, f ∈ c.fs → f.natAbs ≤ 99
def fitsB (cs : List Cond) (u : Int) (ws : List Int) : Bool := cs.all fun c => holdsB c u ws
/-! ### what repr shows -/
def condP (c : Cond) : PyData := .tuple [.tuple (c.fs.map PyData.int), .int c.b, .bool c.st]
def fontP (u : Int) (ws : List Int) : PyData := .tuple [.int u, .tuple (ws.map PyData.int)]
def knowP (l : Str) (cs : List Cond) : PyData := .tuple [.str l, .tuple (cs.map condP)]
/-! ### _law_same of equal trees -/
inductive Dat : Nat → D → Prop
  | non (n : Nat) : Dat n .non
  | bl (n : Nat) (b : Bool) : Dat n (.bl b)
  | int (n : Nat) (i : Int) : Dat n (.int i)
  | str (n : Nat) (s : Str) : Dat n (.str s)
  | tup {n : Nat} {l : List D} : l.length ≤ 100000 → (∀ d, d ∈ l → Dat n d) → Dat (n + 1) (.tup l)
  | lst {n : Nat} {l : List D} : l.length ≤ 100000 → (∀ d, d ∈ l → Dat n d) → Dat (n + 1) (.lst l)
theorem Dat.mono {n m : Nat} {d : D} (h : Dat n d) (l : n ≤ m) : Dat m d := by
  induction h generalizing m with
  | non => exact .non _
  | bl => exact .bl _ _
  | int => exact .int _ _
  | str => exact .str _ _
  | tup k _ ih =>
    cases m with
    | zero => omega
    | succ m => exact .tup k fun d hd => ih d hd (by omega)
  | lst k _ ih =>
    cases m with
    | zero => omega
    | succ m => exact .lst k fun d hd => ih d hd (by omega)
/-! ### texts -/
structure TxtOk (l : Str) (m sz : Nat) (ws : List Str) : Prop where
  n1 : 1 ≤ ws.length
  n : ws.length ≤ m
  w : ∀ w, w ∈ ws → 1 ≤ w.length ∧ w.length ≤ sz ∧ Sg (fun c => c ∈ TL.tl l) w
def txt (ws : List Str) : Str := Txt.join (Str.ofString " ") ws
theorem TxtOk.len {l : Str} {m sz : Nat} {ws : List Str} (h : TxtOk l m sz ws) : (txt ws).length ≤ m * sz + m ∧ (ws.map (·.length)).sum + ws.length * (Str.ofString " ").length ≤ m * sz + m := by
  have lb := lens_sum (ys := ws) (b := sz) fun y hm => (h.w y hm).2.1
  have l1 : (Str.ofString " ").length = 1 := rfl
  have jl := join_len (Str.ofString " ") ws
  have h2 : ws.length * sz ≤ m * sz := Nat.mul_le_mul_right _ h.n
  have := h.n
  rw [l1] at jl ⊢
  unfold txt
  omega
theorem TxtOk.sg {l : Str} {m sz : Nat} {ws : List Str} (h : TxtOk l m sz ws) : Sg (fun c => c ∈ 32 :: TL.tl l) (txt ws) :=
  Sg.join (fun c hc => by
    have hc : c ∈ [32] := hc
    rw [List.mem_singleton.mp hc]
    exact List.mem_cons_self ..) fun q hq => (h.w q hq).2.2.imp fun c hc => List.mem_cons_of_mem _ hc
theorem TxtOk.split {l : Str} {m sz : Nat} {ws : List Str} (h : TxtOk l m sz ws) (hl : 32 ∉ TL.tl l) : Txt.split (txt ws) (Str.ofString " ") = ws :=
  TL.split_join (s := 32) (S := []) rfl (by decide +kernel) (fun e => by have := h.n1; rw [e] at this; simp at this) fun p hp hc => hl ((h.w p hp).2.2 32 hc)
/-! ### counts -/
def cnt (l s : Str) : List Int := (32 :: TL.tl l).map fun c => Txt.count s ⟨#[c]⟩
/-- the width in parts of the unit -/
def un (l s : Str) (ws : List Int) : Int := dot (cnt l s) ws
theorem sp_common {a b : Nat} {S : Sto} {K : KE} (h : K (.int ((Nat.gcd a b : Nat) : Int)) S) : c_common_divisor [.int (a : Nat), .int (b : Nat)] S K := by
  refine st_def rfl ?_
  unfold w_common_divisor
  repeat get_elem_tactic_trivial
  refine while_ind (I := fun k ρ S1 => S1 = S ∧ ∃ x y : Nat, ρ = [some (.int (x : Nat)), some (.int (y : Nat))] ∧ k = y ∧ Nat.gcd x y = Nat.gcd a b) ⟨rfl, a, b, rfl, rfl, rfl⟩ fun k F ih ρ S1 ⟨e1, x, y, e2, e3, e4⟩ => ?_
  subst e1 e2 e3
  repeat get_elem_tactic_trivial
  refine br_b (fun e => ?_) fun e => ?_
  · have e : k ≠ 0 := by
      simp at e
      exact e
    repeat get_elem_tactic_trivial
    refine ih (x % k) (Nat.mod_lt _ (by omega)) _ _ ⟨rfl, k, x % k, rfl, rfl, ?_⟩
    rw [← e4, Nat.gcd_comm x k, Nat.gcd_rec k x, Nat.gcd_comm]
  · have eb : k = 0 := by
      simp at e
      exact e
    subst eb
    rw [Nat.gcd_zero_right] at e4
    repeat get_elem_tactic_trivial
    rw [← e4] at h
    exact fin.of h
/-- a fraction in lowest terms -/
def fracD (n d : Int) : D := .tup [.int (n / ((Nat.gcd n.natAbs d.natAbs : Nat) : Int)), .int (d / ((Nat.gcd n.natAbs d.natAbs : Nat) : Int))]
/-! ### lines -/
/-- the last line, longer by a word -/
def longer (ls : List Str) (w : Str) : Str := (ls.getLast?.getD (Str.ofString "")) ++ Str.ofString " " ++ w
/-- the lines, word by word -/
def stepL (l : Str) (lim : Int) (ws : List Int) (ls : List Str) (w : Str) : List Str := if ls ≠ [] ∧ un l (longer ls w) ws ≤ lim then ls.dropLast ++ [longer ls w] else ls ++ [w]
def linesOf (l : Str) (lim : Int) (ws : List Int) (t : List Str) : List Str := t.foldl (stepL l lim ws) []
/-- how long they may get -/
theorem stepL_len {l : Str} {lim : Int} {ws : List Int} {ls : List Str} {w : Str} {b : Nat} (h : ∀ x, x ∈ ls → x.length ≤ b) : (∀ x, x ∈ stepL l lim ws ls w → x.length ≤ b + w.length + 1) ∧ (stepL l lim ws ls w).length ≤ ls.length + 1 := by
  unfold stepL
  split
  · rename_i c
    refine ⟨fun x hx => ?_, by simp⟩
    rcases List.mem_append.mp hx with z | z
    · have := h x ((List.dropLast_sublist ls).subset z)
      omega
    · rw [List.mem_singleton.mp z]
      unfold longer
      rw [len_app, len_app]
      have l1 : (Str.ofString " ").length = 1 := rfl
      cases e : ls.getLast? with
      | none =>
        have := List.getLast?_eq_none_iff.mp e
        exact absurd this c.1
      | some y =>
        have hy := h y (List.mem_of_getLast? e)
        show y.length + _ + _ ≤ _
        omega
  · refine ⟨fun x hx => ?_, by simp⟩
    rcases List.mem_append.mp hx with z | z
    · have := h x z
      omega
    · rw [List.mem_singleton.mp z]
      omega
theorem stepL_sg {P : Nat → Prop} {l : Str} {lim : Int} {ws : List Int} {ls : List Str} {w : Str} (p32 : P 32) (h : ∀ x, x ∈ ls → Sg P x) (hw : Sg P w) : ∀ x, x ∈ stepL l lim ws ls w → Sg P x := by
  have hs : Sg P (Str.ofString " ") := fun c hc => by
    have hc : c ∈ [32] := hc
    rw [List.mem_singleton.mp hc]
    exact p32
  unfold stepL
  split
  · intro x hx
    rcases List.mem_append.mp hx with z | z
    · exact h x ((List.dropLast_sublist ls).subset z)
    · rw [List.mem_singleton.mp z]
      unfold longer
      refine Sg.app (Sg.app ?_ hs) hw
      cases e : ls.getLast? with
      | none => exact tl_empty
      | some y => exact h y (List.mem_of_getLast? e)
  · intro x hx
    rcases List.mem_append.mp hx with z | z
    · exact h x z
    · rw [List.mem_singleton.mp z]
      exact hw
/-- what is true of the lines so far: i words are in -/
structure LsOk (l : Str) (i : Nat) (ls : List Str) : Prop where
  n : ls.length ≤ i
  len : ∀ x, x ∈ ls → x.length ≤ 10 * i
  sg : ∀ x, x ∈ ls → Sg (fun c => c ∈ 32 :: TL.tl l) x
theorem LsOk.step {l : Str} {i : Nat} {ls : List Str} (h : LsOk l i ls) {lim : Int} {ws : List Int} {w : Str} (hw : w.length ≤ 9) (hs : Sg (fun c => c ∈ TL.tl l) w) : LsOk l (i + 1) (stepL l lim ws ls w) := by
  obtain ⟨a, b⟩ := stepL_len (l := l) (lim := lim) (ws := ws) (w := w) h.len
  have := h.n
  exact ⟨by omega, fun x hx => by have := a x hx; omega, stepL_sg (List.mem_cons_self ..) h.sg (hs.imp fun c hc => List.mem_cons_of_mem _ hc)⟩
theorem LsOk.lt {l : Str} (hl : LetOk l) {i : Nat} {ls : List Str} (h : LsOk l i ls) : ∀ x, x ∈ ls → Sg (fun c => c < 128) x := fun x hx => (h.sg x hx).imp fun c hc => by
  rcases List.mem_cons.mp hc with z | z
  · omega
  · exact (hl.sg c z).2
theorem LsOk.longer {l : Str} {i : Nat} {ls : List Str} (h : LsOk l i ls) {w : Str} (hw : w.length ≤ 9) : (G.longer ls w).length ≤ 10 * i + 10 := by
  unfold G.longer
  rw [len_app, len_app]
  have l1 : (Str.ofString " ").length = 1 := rfl
  cases e : ls.getLast? with
  | none =>
    show (Str.ofString "").length + _ + _ ≤ _
    have l0 : (Str.ofString "").length = 0 := rfl
    omega
  | some y =>
    have hy := h.len y (List.mem_of_getLast? e)
    show y.length + _ + _ ≤ _
    omega


end G

set_option Elab.async false
set_option linter.all false
set_option maxRecDepth 100000
set_option autoImplicit false
set_option maxHeartbeats 2000000
namespace G
open PySem PySem.Spec PyProof.Rows L2
local macro_rules
  | `(tactic| get_elem_tactic_trivial) => `(tactic| first
    | (with_reducible first
      | refine st_seqSet ?_ | refine st_seqAsg ?_ | refine st_seqDo ?_ | refine st_seqPar ?_ | refine st_seqPar3 ?_ | refine st_seqFor ?_ | refine st_seqWhile ?_ | refine st_seqAug ?_ | refine st_seqSkip ?_ | refine st_seqRet ?_
      | refine st_skip ?_ | refine st_ret ?_ | refine st_retN ?_ | refine st_do ?_ | refine st_if ?_ | refine st_set ?_ | refine st_asg ?_ | refine st_par ?_ | refine st_par3 ?_
      | refine st_c ?_ | refine st_op2 ?_ | refine st_op1 ?_ | refine st_test ?_ | refine st_tbl ?_ | refine st_and ?_ | refine st_or ?_ | refine st_not ?_ | refine st_andV ?_ | refine st_orV ?_ | refine st_notV ?_ | refine st_bl ?_
      | refine st_chain ?_ | refine st_ifE ?_ | refine st_nil ?_ | refine st_cons ?_ | refine st_call ?_ | refine st_fr ?_ | refine st_lv ?_ | refine st_one ?_ | refine st_two ?_
      | refine st_gN ?_ | refine st_lst ?_ | refine st_tup ?_ | refine st_slF ?_ | refine st_oNo ?_ | refine st_oS ?_ | refine st_enum ?_ | refine st_scr ?_ | refine st_list ?_ | refine st_it ?_ | refine st_comp ?_ | refine st_for ?_ | refine st_gIx ?_ | refine st_range1 ?_ | refine st_app ?_ | refine st_zip ?_ | refine st_rev1 ?_ | refine st_meth ?_ | refine st_isS ?_ | refine st_count ?_ | refine st_sl ?_ | refine st_slT ?_ | refine st_slL ?_ | refine st_max2 ?_ | refine st_min2 ?_
      | refine st_add ?_ | refine st_sub ?_ | refine st_int ?_ | refine st_neg ?_ | refine st_lt ?_ | refine st_le ?_ | refine st_gt ?_ | refine st_ge ?_ | refine st_eq ?_ | refine st_ne ?_ | refine st_eqB ?_ | refine st_neB ?_ | refine st_eqS ?_ | refine st_neS ?_ | refine st_isN ?_ | refine st_sorted ?_ | refine st_abs ?_ | refine st_isNotN ?_
      | refine br_t ?_ | refine br_f ?_)
    | ((with_reducible refine st_var (d := ?_) ?_ ?_); rotate_left; (exact rfl))
    | ((with_reducible refine st_isi2 (k := ?_) (b := true) ?_ ?_ ?_); rotate_left; (exact rfl); (exact rfl))
    | ((with_reducible refine st_isi2 (k := ?_) (b := false) ?_ ?_ ?_); rotate_left; (exact rfl); (exact rfl))
    | ((with_reducible refine st_ix (ds := ?_) (d := ?_) ?_ ?_ ?_); rotate_left 2; (first | exact rfl | exact seq_at (by assumption)); (exact rfl))
    | ((with_reducible refine st_len2 (ds := ?_) (n := ?_) ?_ ?_ ?_); rotate_left 2; (first | exact rfl | exact seq_at (by assumption)); (exact rfl))
    | ((with_reducible refine st_addLL (a := ?_) (b := ?_) ?_ ?_ ?_ ?_); rotate_left 2; (first | exact rfl | exact lst_at (by assumption)); (first | exact rfl | exact lst_at (by assumption)); (exact Nat.le_of_ble_eq_true rfl))
    | ((with_reducible refine st_pow ?_ ?_); (exact ⟨by decide, by decide, by decide⟩))
    | ((with_reducible refine st_mod ?_ ?_); (first | decide | omega))
    | ((with_reducible refine st_size ?_ ?_); (exact rfl))
    | ((with_reducible refine st_gT2 ?_ ?_); (exact rfl))
    | ((with_reducible refine st_gsC ?_))
    | ((with_reducible refine st_gsN ?_))
    | ((with_reducible refine st_mulS ?_ ?_ ?_); omega; omega)
    | ((with_reducible refine br_ct ?_ ?_); (exact rfl))
    | ((with_reducible refine br_cf ?_ ?_); (exact rfl))
    | (rw [list_tup])
    | (rw [list_lst])
    | (rw [items_tup])
    | (rw [items_lst])
    | ((refine st_listM (ds := ?_) ?_ ?_); rotate_left; (first | exact rfl | exact seq_at (by assumption)))
    | ((refine st_itM (it := ?_) ?_ ?_); rotate_left; (first | exact rfl | exact it_at (by assumption))))


/-! ### lists of natural numbers as data -/
def natsI (z : List Nat) : List Int := z.map fun k => ((k : Nat) : Int)
theorem irangeZ (n : Nat) : irange 0 n = (List.range n).map fun i => D.int ((i : Nat) : Int) := by
  unfold irange
  refine List.map_congr_left fun i _ => ?_
  rw [Int.zero_add]

/-! ### tables -/
def rowD (r : List Int) : D := .lst (r.map D.int)
structure Tab where
  size : Nat
  rows : List (List Int)
  goal : List Int
  cols : List Nat
  basis : List Nat
  den : Int
def tabFs (T : Tab) (pc pb : Addr) : List (Str × D) := [("size", .int (T.size : Nat)), ("rows", .lst (T.rows.map rowD)), ("goal", rowD T.goal), ("columns", .cell pc), ("basis", .cell pb), ("denominator", .int T.den)]
structure TabAt (Fr : PySem.W.Frag) (S : Sto) (p pc pb : Addr) (T : Tab) : Prop where
  obj : S p = some (.obj (He.ga Fr "Table") (tabFs T pc pb))
  cols : S pc = some (.lst ((natsI T.cols).map D.int))
  basis : S pb = some (.lst ((natsI T.basis).map D.int))
  n1 : p ≠ pc
  n2 : p ≠ pb
  n3 : pc ≠ pb
section
variable {Fr : PySem.W.Frag} {S : Sto} {p pc pb : Addr} {T : Tab} {K : KE}
theorem fld_size {P : D → Prop} (h : TabAt Fr S p pc pb T) (k : P (.int (T.size : Nat))) : ∃ c C fs v, D.cell p = .cell c ∧ S c = some (.obj C fs) ∧ C ∈ [He.ga Fr "Table"] ∧ fs.lookup ("size" : Str) = some v ∧ P v := ⟨p, _, _, _, rfl, h.obj, List.mem_singleton.mpr rfl, rfl, k⟩
theorem fld_rows {P : D → Prop} (h : TabAt Fr S p pc pb T) (k : P (.lst (T.rows.map rowD))) : ∃ c C fs v, D.cell p = .cell c ∧ S c = some (.obj C fs) ∧ C ∈ [He.ga Fr "Table"] ∧ fs.lookup ("rows" : Str) = some v ∧ P v := ⟨p, _, _, _, rfl, h.obj, List.mem_singleton.mpr rfl, rfl, k⟩
theorem fld_goal {P : D → Prop} (h : TabAt Fr S p pc pb T) (k : P (rowD T.goal)) : ∃ c C fs v, D.cell p = .cell c ∧ S c = some (.obj C fs) ∧ C ∈ [He.ga Fr "Table"] ∧ fs.lookup ("goal" : Str) = some v ∧ P v := ⟨p, _, _, _, rfl, h.obj, List.mem_singleton.mpr rfl, rfl, k⟩
theorem fld_cols {P : D → Prop} (h : TabAt Fr S p pc pb T) (k : P (.cell pc)) : ∃ c C fs v, D.cell p = .cell c ∧ S c = some (.obj C fs) ∧ C ∈ [He.ga Fr "Table"] ∧ fs.lookup ("columns" : Str) = some v ∧ P v := ⟨p, _, _, _, rfl, h.obj, List.mem_singleton.mpr rfl, rfl, k⟩
theorem fld_basis {P : D → Prop} (h : TabAt Fr S p pc pb T) (k : P (.cell pb)) : ∃ c C fs v, D.cell p = .cell c ∧ S c = some (.obj C fs) ∧ C ∈ [He.ga Fr "Table"] ∧ fs.lookup ("basis" : Str) = some v ∧ P v := ⟨p, _, _, _, rfl, h.obj, List.mem_singleton.mpr rfl, rfl, k⟩
theorem fld_den {P : D → Prop} (h : TabAt Fr S p pc pb T) (k : P (.int T.den)) : ∃ c C fs v, D.cell p = .cell c ∧ S c = some (.obj C fs) ∧ C ∈ [He.ga Fr "Table"] ∧ fs.lookup ("denominator" : Str) = some v ∧ P v := ⟨p, _, _, _, rfl, h.obj, List.mem_singleton.mpr rfl, rfl, k⟩
theorem mt_go {m : Str} {P : Prop} (h : TabAt Fr S p pc pb T) (e : (tabFs T pc pb).lookup m = none) (k : P) : ∃ q fs, D.cell p = .cell q ∧ S q = some (.obj (He.ga Fr "Table") fs) ∧ fs.lookup m = none ∧ P := ⟨p, _, rfl, h.obj, e, k⟩
theorem TabAt.setO {q : Addr} {c : Cell} (h : TabAt Fr S p pc pb T) (n : S q = none) : TabAt Fr (S.set q c) p pc pb T := by
  have a : p ≠ q := fun z => by rw [← z, h.obj] at n; cases n
  have b : pc ≠ q := fun z => by rw [← z, h.cols] at n; cases n
  have d : pb ≠ q := fun z => by rw [← z, h.basis] at n; cases n
  exact ⟨(Sto.set_ne a).trans h.obj, (Sto.set_ne b).trans h.cols, (Sto.set_ne d).trans h.basis, h.n1, h.n2, h.n3⟩
theorem TabAt.agr {S' : Sto} (h : TabAt Fr S p pc pb T) (k : ∀ b c, S b = some c → S' b = some c) : TabAt Fr S' p pc pb T := ⟨k _ _ h.obj, k _ _ h.cols, k _ _ h.basis, h.n1, h.n2, h.n3⟩
end

local macro_rules
  | `(tactic| get_elem_tactic_trivial) => `(tactic| first
    | (with_reducible refine st_fld ?_)
    | (with_reducible refine st_mt ?_)
    | (with_reducible refine st_gFld ?_)
    | (with_reducible refine st_lix ?_)
    | (with_reducible refine st_rep ?_)
    | (with_reducible refine st_cat ?_)
    | (with_reducible refine st_lrng ?_)
    | (with_reducible refine st_frz ?_)
    | ((with_reducible refine fld_size (T := ?_) (pc := ?_) (pb := ?_) ?_ ?_); rotate_left 3; (assumption))
    | ((with_reducible refine fld_rows (T := ?_) (pc := ?_) (pb := ?_) ?_ ?_); rotate_left 3; (assumption))
    | ((with_reducible refine fld_goal (T := ?_) (pc := ?_) (pb := ?_) ?_ ?_); rotate_left 3; (assumption))
    | ((with_reducible refine fld_cols (T := ?_) (pc := ?_) (pb := ?_) ?_ ?_); rotate_left 3; (assumption))
    | ((with_reducible refine fld_basis (T := ?_) (pc := ?_) (pb := ?_) ?_ ?_); rotate_left 3; (assumption))
    | ((with_reducible refine fld_den (T := ?_) (pc := ?_) (pb := ?_) ?_ ?_); rotate_left 3; (assumption))
    | ((with_reducible refine mt_go (T := ?_) (pc := ?_) (pb := ?_) ?_ ?_ ?_); rotate_left 3; (assumption); (exact rfl)))

/-! ### the walk of the table's methods -/
theorem lg_of {x : Int} {k : Nat} (h : x.natAbs < 2 ^ k) (hk : 0 < k) : x.natAbs.log2 < k := lg_lt h hk
/-- numbers not too large -/
def Sm (x : Int) : Prop := x.natAbs < 2 ^ 4000
theorem st_mulM {x y : Int} {S : Sto} {K : KE} (hx : Sm x) (hy : Sm y) (h : K (.int (x * y)) S) : oMul (.int x) (.int y) S K := by
  have a := lg_of hx (by decide)
  have b := lg_of hy (by decide)
  exact st_mul (by omega) h
theorem st_divM {x y : Int} {S : Sto} {K : KE} (h0 : 0 < y) (hy : Sm y) (h : K (.int (x / y)) S) : oDiv (.int x) (.int y) S K := by
  have b := lg_of hy (by decide)
  exact st_div h0 (by omega) h
theorem at_row {r : List Int} {c : Nat} (h : c < r.length) : atI (r.map D.int) (c : Int) = some (.int (r.getD c 0)) := by
  unfold atI
  rw [ixN_in (by omega) (by rw [List.length_map]; omega)]
  show (r.map D.int)[((c : Nat) : Int).toNat]? = _
  rw [Int.toNat_natCast, List.getElem?_map, List.getElem?_eq_getElem h, List.getD_eq_getElem?_getD, List.getElem?_eq_getElem h]
  rfl
theorem at_rows {rs : List (List Int)} {c : Nat} (h : c < rs.length) : atI (rs.map rowD) (c : Int) = some (rowD (rs.getD c [])) := by
  unfold atI
  rw [ixN_in (by omega) (by rw [List.length_map]; omega)]
  show (rs.map rowD)[((c : Nat) : Int).toNat]? = _
  rw [Int.toNat_natCast, List.getElem?_map, List.getElem?_eq_getElem h, List.getD_eq_getElem?_getD, List.getElem?_eq_getElem h]
  rfl
theorem at_nats {r : List Nat} {c : Nat} (h : c < r.length) : atI ((natsI r).map D.int) (c : Int) = some (.int ((r.getD c 0 : Nat) : Int)) := by
  rw [at_row (r := natsI r) (by unfold natsI; rw [List.length_map]; exact h)]
  unfold natsI
  rw [List.getD_eq_getElem?_getD, List.getElem?_map, List.getElem?_eq_getElem h, List.getD_eq_getElem?_getD, List.getElem?_eq_getElem h]
  rfl
theorem ixN_nat {n c : Nat} (h : c < n) : ixN n (c : Int) = some c := by
  rw [ixN_in (by omega) (by omega), Int.toNat_natCast]
theorem len_nats (r : List Nat) : ((natsI r).map D.int).length = r.length := by unfold natsI; simp
def redu (den : Int) (row chosen : List Int) (c : Nat) : List Int := ((List.zip row chosen).map fun q => (q.1 * chosen.getD c 0 - row.getD c 0 * q.2) / den).set c (0 - row.getD c 0)
structure RowOk (r : List Int) (n : Nat) : Prop where
  len : r.length = n
  sm : ∀ x, x ∈ r → Sm x
theorem RowOk.at {r : List Int} {n c : Nat} (h : RowOk r n) (hc : c < n) : Sm (r.getD c 0) := by
  have l := h.len
  rw [List.getD_eq_getElem?_getD, List.getElem?_eq_getElem (by omega)]
  exact h.sm _ (List.getElem_mem _)
theorem sp_reduced {Fr : PySem.W.Frag} {T : Tab} {p pc pb : Addr} {row chosen : List Int} {c n : Nat} {S : Sto} {K : KE} (hT : TabAt Fr S p pc pb T) (h1 : RowOk row n) (h2 : RowOk chosen n) (hc : c < n) (hn : n ≤ 1000) (d0 : 0 < T.den) (ds : Sm T.den) (h : K (rowD (redu T.den row chosen c)) S) : c_Table_reduced Fr [.cell p, rowD row, rowD chosen, .int (c : Nat)] S K := by
  unfold rowD
  refine st_def rfl ?_
  unfold w_Table_reduced
  have l1 := h1.len
  have l2 := h2.len
  repeat get_elem_tactic_trivial
  try dsimp only [List.set_cons_succ, List.set_cons_zero]
  refine st_ix (ds := chosen.map D.int) rfl (at_row (by omega)) ?_
  repeat get_elem_tactic_trivial
  try dsimp only [List.set_cons_succ, List.set_cons_zero]
  refine st_ix (ds := row.map D.int) rfl (at_row (by omega)) ?_
  repeat get_elem_tactic_trivial
  try dsimp only [List.set_cons_succ, List.set_cons_zero]
  refine ⟨_, _, rfl, rfl, fun _ => by rw [List.length_map, List.length_map, l1, l2], ?_⟩
  rw [zipD_ints]
  refine comp_mapL (List.zip row chosen) (fun q => .tup [.int q.1, .int q.2]) (fun q => .int ((q.1 * chosen.getD c 0 - row.getD c 0 * q.2) / T.den)) ⟨trivial, trivial⟩ (by rw [List.length_zip]; unfold sizeLine; omega) (fun q hq K1 F1 k => ?_) ?_
  · have hz := List.of_mem_zip hq
    repeat get_elem_tactic_trivial
    try dsimp only [List.set_cons_succ, List.set_cons_zero]
    refine st_mulM (h1.sm _ hz.1) (h2.at hc) ?_
    repeat get_elem_tactic_trivial
    try dsimp only [List.set_cons_succ, List.set_cons_zero]
    refine st_mulM (h1.at hc) (h2.sm _ hz.2) ?_
    repeat get_elem_tactic_trivial
    try dsimp only [List.set_cons_succ, List.set_cons_zero]
    refine st_divM d0 ds ?_
    exact k
  · repeat get_elem_tactic_trivial
    try dsimp only [List.set_cons_succ, List.set_cons_zero]
    intro q nq
    repeat get_elem_tactic_trivial
    try dsimp only [List.set_cons_succ, List.set_cons_zero]
    refine ⟨q, _, _, c, rfl, Sto.set_same, rfl, ixN_nat (by rw [List.length_map, List.length_zip]; omega), ?_⟩
    repeat get_elem_tactic_trivial
    try dsimp only [List.set_cons_succ, List.set_cons_zero]
    refine ⟨q, rfl, .inl ⟨_, Sto.set_same, ?_⟩⟩
    rw [Sto.set_set, Sto.set_del nq]
    refine fin.of ?_
    unfold rowD redu at h
    rw [List.map_set, List.map_map] at h
    exact h
/-! ### an exchange -/
def exch (T : Tab) (r c : Nat) : Tab :=
  let chosen := T.rows.getD r []
  let rows := (T.rows.map fun row => redu T.den row chosen c).set r (chosen.set c T.den)
  let goal := redu T.den T.goal chosen c
  let neg := decide (chosen.getD c 0 < 0)
  { size := T.size, rows := if neg then rows.map (fun r => r.map fun x => 0 - x) else rows, goal := if neg then goal.map (fun x => 0 - x) else goal,
    cols := T.cols.set c (T.basis.getD r 0), basis := T.basis.set r (T.cols.getD c 0), den := (((chosen.getD c 0).natAbs : Nat) : Int) }
structure TabOk (T : Tab) (m n : Nat) : Prop where
  rows : T.rows.length = m
  row : ∀ r, r ∈ T.rows → RowOk r (n + 1)
  goal : RowOk T.goal (n + 1)
  cols : T.cols.length = n
  basis : T.basis.length = m
  d0 : 0 < T.den
  dsm : Sm T.den
theorem TabOk.at {T : Tab} {m n r : Nat} (h : TabOk T m n) (hr : r < m) : RowOk (T.rows.getD r []) (n + 1) := by
  have l := h.rows
  rw [List.getD_eq_getElem?_getD, List.getElem?_eq_getElem (by omega)]
  exact h.row _ (List.getElem_mem _)
def Oth3 (p pc pb : Addr) (S S' : Sto) : Prop := ∀ b, b ≠ p → b ≠ pc → b ≠ pb → S' b = S b
theorem Oth3.refl {p pc pb : Addr} {S : Sto} : Oth3 p pc pb S S := fun _ _ _ _ => rfl
theorem Oth3.trans {p pc pb : Addr} {A B C : Sto} (h : Oth3 p pc pb A B) (k : Oth3 p pc pb B C) : Oth3 p pc pb A C := fun b x y z => (k b x y z).trans (h b x y z)
/-- only what was there, and the table as it is now -/
theorem tab_end {Fr : PySem.W.Frag} {S S' : Sto} {p pc pb : Addr} {T T' : Tab} {d : D} {K : KE} (hT : TabAt Fr S p pc pb T) (h : TabAt Fr S' p pc pb T') (o : ∀ b, b ≠ p → b ≠ pc → b ≠ pb → S b ≠ none → S' b = S b) (k : ∀ S'', TabAt Fr S'' p pc pb T' → Oth3 p pc pb S S'' → K d S'') : fin K d S' := by
  refine ⟨fun b => if b = p then S' b else if b = pc then S' b else if b = pb then S' b else S b, fun a c e => ?_, k _ ⟨?_, ?_, ?_, h.n1, h.n2, h.n3⟩ fun b x y z => ?_⟩
  · dsimp only at e
    by_cases a1 : a = p
    · rw [if_pos a1] at e; exact e
    · rw [if_neg a1] at e
      by_cases a2 : a = pc
      · rw [if_pos a2] at e; exact e
      · rw [if_neg a2] at e
        by_cases a3 : a = pb
        · rw [if_pos a3] at e; exact e
        · rw [if_neg a3] at e
          rw [o a a1 a2 a3 (by rw [e]; simp)]
          exact e
  · rw [if_pos rfl]; exact h.obj
  · rw [if_neg (Ne.symm h.n1), if_pos rfl]; exact h.cols
  · rw [if_neg (Ne.symm h.n2), if_neg (Ne.symm h.n3), if_pos rfl]; exact h.basis
  · rw [if_neg x, if_neg y, if_neg z]
theorem put_rows (T : Tab) (pc pb : Addr) (d : D) : putD "rows" d (tabFs T pc pb) = ([("size", .int (T.size : Nat)), ("rows", d), ("goal", rowD T.goal), ("columns", .cell pc), ("basis", .cell pb), ("denominator", .int T.den)] : List (Str × D)) := rfl
theorem put_goal (T : Tab) (pc pb : Addr) (x d : D) : putD "goal" d ([("size", .int (T.size : Nat)), ("rows", x), ("goal", rowD T.goal), ("columns", .cell pc), ("basis", .cell pb), ("denominator", .int T.den)] : List (Str × D)) = ([("size", .int (T.size : Nat)), ("rows", x), ("goal", d), ("columns", .cell pc), ("basis", .cell pb), ("denominator", .int T.den)] : List (Str × D)) := rfl
theorem put_den (T : Tab) (pc pb : Addr) (x y d : D) : putD "denominator" d ([("size", .int (T.size : Nat)), ("rows", x), ("goal", y), ("columns", .cell pc), ("basis", .cell pb), ("denominator", .int T.den)] : List (Str × D)) = ([("size", .int (T.size : Nat)), ("rows", x), ("goal", y), ("columns", .cell pc), ("basis", .cell pb), ("denominator", d)] : List (Str × D)) := rfl
theorem sp_exchange {Fr : PySem.W.Frag} {T : Tab} {p pc pb : Addr} {r c m n : Nat} {S : Sto} {K : KE} (hT : TabAt Fr S p pc pb T) (ok : TabOk T m n) (hr : r < m) (hc : c < n) (hm : m ≤ 900) (hn : n ≤ 900) (h : ∀ S', TabAt Fr S' p pc pb (exch T r c) → Oth3 p pc pb S S' → K .non S') : c_Table_exchange Fr [.cell p, .int (r : Nat), .int (c : Nat)] S K := by
  refine st_def rfl ?_
  unfold w_Table_exchange
  have l1 := ok.rows
  have l2 := ok.cols
  have l3 := ok.basis
  have oc := ok.at hr
  have lc := oc.len
  have lg := ok.goal.len
  have nr : ∀ q, S q = none → q ≠ p ∧ q ≠ pc ∧ q ≠ pb := fun q nq => ⟨fun z => (by rw [z, hT.obj] at nq; cases nq), fun z => (by rw [z, hT.cols] at nq; cases nq), fun z => (by rw [z, hT.basis] at nq; cases nq)⟩
  repeat get_elem_tactic_trivial
  try dsimp only [List.set_cons_succ, List.set_cons_zero]
  refine st_ix (ds := T.rows.map rowD) rfl (at_rows (by omega)) ?_
  repeat get_elem_tactic_trivial
  try dsimp only [List.set_cons_succ, List.set_cons_zero]
  refine st_ix (ds := (T.rows.getD r []).map D.int) rfl (at_row (by omega)) ?_
  repeat get_elem_tactic_trivial
  try dsimp only [List.set_cons_succ, List.set_cons_zero]
  obtain ⟨chosen, ech⟩ : ∃ chosen, chosen = T.rows.getD r [] := ⟨_, rfl⟩
  rw [← ech] at oc lc ⊢
  refine comp_mapL T.rows rowD (fun row => rowD (redu T.den row chosen c)) trivial (by unfold sizeLine; omega) (fun row hrow K1 F1 k => ?_) ?_
  · repeat get_elem_tactic_trivial
    try dsimp only [List.set_cons_succ, List.set_cons_zero]
    exact sp_reduced hT (ok.row row hrow) oc (by omega) (by omega) ok.d0 ok.dsm k
  repeat get_elem_tactic_trivial
  try dsimp only [List.set_cons_succ, List.set_cons_zero]
  intro q1 nq1
  obtain ⟨m1, m2, m3⟩ := nr q1 nq1
  have hT1 := hT.setO (c := .lst (T.rows.map fun row => rowD (redu T.den row chosen c))) nq1
  repeat get_elem_tactic_trivial
  try dsimp only [List.set_cons_succ, List.set_cons_zero]
  refine sp_reduced hT1 ok.goal oc (by omega) (by omega) ok.d0 ok.dsm ?_
  repeat get_elem_tactic_trivial
  try dsimp only [List.set_cons_succ, List.set_cons_zero]
  intro q2 nq2
  have hT2 := hT1.setO (c := .lst (chosen.map D.int)) nq2
  have n12 : q2 ≠ q1 := fun z => by rw [z, Sto.set_same] at nq2; cases nq2
  repeat get_elem_tactic_trivial
  try dsimp only [List.set_cons_succ, List.set_cons_zero]
  refine ⟨q2, _, _, c, rfl, Sto.set_same, rfl, ixN_nat (by rw [List.length_map]; omega), ?_⟩
  rw [Sto.set_set]
  repeat get_elem_tactic_trivial
  try dsimp only [List.set_cons_succ, List.set_cons_zero]
  refine ⟨q2, rfl, .inl ⟨_, Sto.set_same, ?_⟩⟩
  rw [Sto.set_del nq2]
  repeat get_elem_tactic_trivial
  try dsimp only [List.set_cons_succ, List.set_cons_zero]
  refine ⟨q1, _, _, r, rfl, Sto.set_same, rfl, ixN_nat (by rw [List.length_map]; omega), ?_⟩
  rw [Sto.set_set]
  repeat get_elem_tactic_trivial
  try dsimp only [List.set_cons_succ, List.set_cons_zero]
  have agr0 : ∀ (q : Addr) (x : Cell) (b : Addr), S q = none → S b ≠ none → (S.set q x) b = S b := fun q x b nq hb => Sto.set_ne fun z => hb (z ▸ nq)
  refine ⟨fun ρ1 S1 => ∃ q, ρ1 = [some (.cell p), some (.int (r : Nat)), some (.int (c : Nat)), some (rowD chosen), some (.int (chosen.getD c 0)), some (.cell q), some (rowD (exch T r c).goal), some (.cell q2), none, none] ∧ S q = none ∧ S1 q = some (.lst ((exch T r c).rows.map rowD)) ∧ (∀ b, S b ≠ none → S1 b = S b), ?_, ?_⟩
  · have e1 : ((T.rows.map fun row => rowD (redu T.den row chosen c)).set r (.lst ((chosen.map D.int).set c (.int T.den)))) = (((T.rows.map fun row => redu T.den row chosen c).set r (chosen.set c T.den)).map rowD) := by
      rw [List.map_set, List.map_map]
      congr 1
      unfold rowD
      rw [List.map_set]
    rw [e1]
    have erows : (exch T r c).rows = if chosen.getD c 0 < 0 then ((T.rows.map fun row => redu T.den row chosen c).set r (chosen.set c T.den)).map (fun r => r.map fun x => 0 - x) else (T.rows.map fun row => redu T.den row chosen c).set r (chosen.set c T.den) := by
      unfold exch
      rw [← ech]
      by_cases z : chosen.getD c 0 < 0
      · rw [if_pos z]; simp only [decide_eq_true z, if_true]
      · rw [if_neg z]; simp only [decide_eq_false z, Bool.false_eq_true, if_false]
    have egoal : (exch T r c).goal = if chosen.getD c 0 < 0 then (redu T.den T.goal chosen c).map (fun x => 0 - x) else redu T.den T.goal chosen c := by
      unfold exch
      rw [← ech]
      by_cases z : chosen.getD c 0 < 0
      · rw [if_pos z]; simp only [decide_eq_true z, if_true]
      · rw [if_neg z]; simp only [decide_eq_false z, Bool.false_eq_true, if_false]
    have lrow : ∀ row, row ∈ T.rows → (redu T.den row chosen c).length = n + 1 := fun row hrow => by
      unfold redu
      rw [List.length_set, List.length_map, List.length_zip, (ok.row row hrow).len, lc]
      omega
    have lgl : (redu T.den T.goal chosen c).length = n + 1 := by
      unfold redu
      rw [List.length_set, List.length_map, List.length_zip, lg, lc]
      omega
    rw [erows, egoal]
    repeat get_elem_tactic_trivial
    try dsimp only [List.set_cons_succ, List.set_cons_zero]
    refine br_d (fun e => ?_) fun e => ?_
    · rw [if_pos e, if_pos e]
      repeat get_elem_tactic_trivial
      try dsimp only [List.set_cons_succ, List.set_cons_zero]
      rw [it_at Sto.set_same]
      refine comp_mapL ((T.rows.map fun row => redu T.den row chosen c).set r (chosen.set c T.den)) rowD (fun row => rowD (row.map fun x => 0 - x)) (by exact Sto.set_same) (by rw [List.length_set, List.length_map]; unfold sizeLine; omega) (fun row hrow K1 F1 k => ?_) ?_
      · have lr : row.length ≤ n + 1 := by
          rcases List.mem_or_eq_of_mem_set hrow with z | z
          · obtain ⟨x, hx, ex⟩ := List.mem_map.mp z
            rw [← ex, lrow x hx]
            omega
          · rw [z, List.length_set]; omega
        unfold rowD
        repeat get_elem_tactic_trivial
        try dsimp only [List.set_cons_succ, List.set_cons_zero]
        refine comp_mapL row D.int (fun x => D.int (0 - x)) trivial (by unfold sizeLine; omega) (fun x hx K2 F2 k2 => ?_) ?_
        · repeat get_elem_tactic_trivial
          try dsimp only [List.set_cons_succ, List.set_cons_zero]
          exact k2
        · unfold rowD at k
          rw [List.map_map] at k
          exact k
      repeat get_elem_tactic_trivial
      try dsimp only [List.set_cons_succ, List.set_cons_zero]
      intro q3 nq3
      have n31 : q3 ≠ q1 := fun z => by rw [z, Sto.set_same] at nq3; cases nq3
      have nq3' : S q3 = none := by rw [Sto.set_ne n31] at nq3; exact nq3
      unfold rowD
      repeat get_elem_tactic_trivial
      try dsimp only [List.set_cons_succ, List.set_cons_zero]
      refine comp_mapL (redu T.den T.goal chosen c) D.int (fun x => D.int (0 - x)) trivial (by unfold sizeLine; omega) (fun x hx K2 F2 k2 => ?_) ?_
      · repeat get_elem_tactic_trivial
        try dsimp only [List.set_cons_succ, List.set_cons_zero]
        exact k2
      repeat get_elem_tactic_trivial
      try dsimp only [List.set_cons_succ, List.set_cons_zero]
      refine ⟨q3, ?_, nq3', ?_, fun b hb => ?_⟩
      · rw [List.map_map]
        rfl
      · rw [Sto.set_same, List.map_map]
        rfl
      · exact (Sto.set_ne fun z => hb (by rw [z]; exact nq3')).trans (agr0 q1 _ b nq1 hb)
    · rw [if_neg e, if_neg e]
      repeat get_elem_tactic_trivial
      try dsimp only [List.set_cons_succ, List.set_cons_zero]
      exact ⟨q1, rfl, nq1, Sto.set_same, fun b hb => agr0 q1 _ b nq1 hb⟩
  · intro ρ1 S1 ⟨q, e1, nq, hq, agr⟩
    subst e1
    obtain ⟨a1, a2, a3⟩ := nr q nq
    have hTS : TabAt Fr S1 p pc pb T := hT.agr fun b x e => by rw [agr b (by rw [e]; simp), e]
    repeat get_elem_tactic_trivial
    try dsimp only [List.set_cons_succ, List.set_cons_zero]
    refine ⟨q, rfl, .inl ⟨_, hq, ?_⟩⟩
    have hTD : TabAt Fr (S1.del q) p pc pb T := ⟨(Sto.del_ne (Ne.symm a1)).trans hTS.obj, (Sto.del_ne (Ne.symm a2)).trans hTS.cols, (Sto.del_ne (Ne.symm a3)).trans hTS.basis, hTS.n1, hTS.n2, hTS.n3⟩
    have agD : ∀ b, S b ≠ none → (S1.del q) b = S b := fun b hb => (Sto.del_ne fun z => hb (by rw [z]; exact nq)).trans (agr b hb)
    generalize S1.del q = SD at *
    repeat get_elem_tactic_trivial
    try dsimp only [List.set_cons_succ, List.set_cons_zero]
    refine ⟨p, _, _, rfl, hTD.obj, List.mem_singleton.mpr rfl, by show (6 : Nat) < 1000; decide, ?_⟩
    rw [put_rows]
    repeat get_elem_tactic_trivial
    try dsimp only [List.set_cons_succ, List.set_cons_zero]
    refine ⟨p, _, _, rfl, Sto.set_same, List.mem_singleton.mpr rfl, by show (6 : Nat) < 1000; decide, ?_⟩
    rw [put_goal, Sto.set_set]
    repeat get_elem_tactic_trivial
    try dsimp only [List.set_cons_succ, List.set_cons_zero]
    refine ⟨p, _, _, rfl, Sto.set_same, List.mem_singleton.mpr rfl, by show (6 : Nat) < 1000; decide, ?_⟩
    rw [put_den, Sto.set_set]
    have hT3 : TabAt Fr (SD.set p (.obj (He.ga Fr "Table") [("size", .int (T.size : Nat)), ("rows", .lst ((exch T r c).rows.map rowD)), ("goal", rowD (exch T r c).goal), ("columns", .cell pc), ("basis", .cell pb), ("denominator", .int (((chosen.getD c 0).natAbs : Nat) : Int))])) p pc pb { T with rows := (exch T r c).rows, goal := (exch T r c).goal, den := (((chosen.getD c 0).natAbs : Nat) : Int) } :=
      ⟨Sto.set_same, (Sto.set_ne (Ne.symm hTD.n1)).trans hTD.cols, (Sto.set_ne (Ne.symm hTD.n2)).trans hTD.basis, hTD.n1, hTD.n2, hTD.n3⟩
    have ag3 : ∀ b, b ≠ p → S b ≠ none → (SD.set p (.obj (He.ga Fr "Table") [("size", .int (T.size : Nat)), ("rows", .lst ((exch T r c).rows.map rowD)), ("goal", rowD (exch T r c).goal), ("columns", .cell pc), ("basis", .cell pb), ("denominator", .int (((chosen.getD c 0).natAbs : Nat) : Int))])) b = S b := fun b bp hb => (Sto.set_ne bp).trans (agD b hb)
    generalize SD.set p (.obj (He.ga Fr "Table") [("size", .int (T.size : Nat)), ("rows", .lst ((exch T r c).rows.map rowD)), ("goal", rowD (exch T r c).goal), ("columns", .cell pc), ("basis", .cell pb), ("denominator", .int (((chosen.getD c 0).natAbs : Nat) : Int))]) = S3 at *
    repeat get_elem_tactic_trivial
    try dsimp only [List.set_cons_succ, List.set_cons_zero]
    refine st_ix (ds := (natsI T.cols).map D.int) (seq_at hT3.cols) (at_nats (by omega)) ?_
    repeat get_elem_tactic_trivial
    try dsimp only [List.set_cons_succ, List.set_cons_zero]
    refine st_ix (ds := (natsI T.basis).map D.int) (seq_at hT3.basis) (at_nats (by omega)) ?_
    repeat get_elem_tactic_trivial
    try dsimp only [List.set_cons_succ, List.set_cons_zero]
    refine ⟨pb, _, _, r, rfl, hT3.basis, rfl, ixN_nat (by show r < ((natsI T.basis).map D.int).length; rw [len_nats]; omega), ?_⟩
    have hT4 : TabAt Fr (S3.set pb (.lst (((natsI T.basis).map D.int).set r (.int ((T.cols.getD c 0 : Nat) : Int))))) p pc pb { T with rows := (exch T r c).rows, goal := (exch T r c).goal, den := (((chosen.getD c 0).natAbs : Nat) : Int), basis := T.basis.set r (T.cols.getD c 0) } :=
      ⟨(Sto.set_ne hT3.n2).trans hT3.obj, (Sto.set_ne hT3.n3).trans hT3.cols, by rw [Sto.set_same]; unfold natsI; rw [List.map_set, List.map_set], hT3.n1, hT3.n2, hT3.n3⟩
    have ag4 : ∀ b, b ≠ p → b ≠ pb → S b ≠ none → (S3.set pb (.lst (((natsI T.basis).map D.int).set r (.int ((T.cols.getD c 0 : Nat) : Int))))) b = S b := fun b bp bb hb => (Sto.set_ne bb).trans (ag3 b bp hb)
    generalize S3.set pb (.lst (((natsI T.basis).map D.int).set r (.int ((T.cols.getD c 0 : Nat) : Int)))) = S4 at *
    repeat get_elem_tactic_trivial
    try dsimp only [List.set_cons_succ, List.set_cons_zero]
    refine ⟨pc, _, _, c, rfl, hT4.cols, rfl, ixN_nat (by show c < ((natsI T.cols).map D.int).length; rw [len_nats]; omega), ?_⟩
    repeat get_elem_tactic_trivial
    try dsimp only [List.set_cons_succ, List.set_cons_zero]
    refine tab_end hT (T' := exch T r c) ⟨(Sto.set_ne hT4.n1).trans ?_, ?_, (Sto.set_ne (Ne.symm hT4.n3)).trans hT4.basis, hT4.n1, hT4.n2, hT4.n3⟩ (fun b bp bc bb hb => (Sto.set_ne bc).trans (ag4 b bp bb hb)) h
    · rw [hT4.obj, ech]
      rfl
    · rw [Sto.set_same]
      show some (Cell.lst _) = some (Cell.lst ((natsI (T.cols.set c (T.basis.getD r 0))).map D.int))
      unfold natsI
      rw [List.map_set, List.map_set]


end G

set_option Elab.async false
set_option linter.all false
set_option maxRecDepth 100000
set_option autoImplicit false
set_option maxHeartbeats 2000000
namespace G
open PySem PySem.Spec PyProof.Rows L2
local macro_rules
  | `(tactic| get_elem_tactic_trivial) => `(tactic| first
    | (with_reducible first
      | refine st_seqSet ?_ | refine st_seqAsg ?_ | refine st_seqDo ?_ | refine st_seqPar ?_ | refine st_seqPar3 ?_ | refine st_seqFor ?_ | refine st_seqWhile ?_ | refine st_seqAug ?_ | refine st_seqSkip ?_ | refine st_seqRet ?_
      | refine st_skip ?_ | refine st_ret ?_ | refine st_retN ?_ | refine st_do ?_ | refine st_if ?_ | refine st_set ?_ | refine st_asg ?_ | refine st_par ?_ | refine st_par3 ?_
      | refine st_c ?_ | refine st_op2 ?_ | refine st_op1 ?_ | refine st_test ?_ | refine st_tbl ?_ | refine st_and ?_ | refine st_or ?_ | refine st_not ?_ | refine st_andV ?_ | refine st_orV ?_ | refine st_notV ?_ | refine st_bl ?_
      | refine st_chain ?_ | refine st_ifE ?_ | refine st_nil ?_ | refine st_cons ?_ | refine st_call ?_ | refine st_fr ?_ | refine st_lv ?_ | refine st_one ?_ | refine st_two ?_
      | refine st_gN ?_ | refine st_lst ?_ | refine st_tup ?_ | refine st_slF ?_ | refine st_oNo ?_ | refine st_oS ?_ | refine st_enum ?_ | refine st_scr ?_ | refine st_list ?_ | refine st_it ?_ | refine st_comp ?_ | refine st_for ?_ | refine st_gIx ?_ | refine st_range1 ?_ | refine st_app ?_ | refine st_zip ?_ | refine st_rev1 ?_ | refine st_meth ?_ | refine st_isS ?_ | refine st_count ?_ | refine st_sl ?_ | refine st_slT ?_ | refine st_slL ?_ | refine st_max2 ?_ | refine st_min2 ?_
      | refine st_add ?_ | refine st_sub ?_ | refine st_int ?_ | refine st_neg ?_ | refine st_lt ?_ | refine st_le ?_ | refine st_gt ?_ | refine st_ge ?_ | refine st_eq ?_ | refine st_ne ?_ | refine st_eqB ?_ | refine st_neB ?_ | refine st_eqS ?_ | refine st_neS ?_ | refine st_isN ?_ | refine st_sorted ?_ | refine st_abs ?_ | refine st_isNotN ?_
      | refine br_t ?_ | refine br_f ?_)
    | ((with_reducible refine st_var (d := ?_) ?_ ?_); rotate_left; (exact rfl))
    | ((with_reducible refine st_isi2 (k := ?_) (b := true) ?_ ?_ ?_); rotate_left; (exact rfl); (exact rfl))
    | ((with_reducible refine st_isi2 (k := ?_) (b := false) ?_ ?_ ?_); rotate_left; (exact rfl); (exact rfl))
    | ((with_reducible refine st_ix (ds := ?_) (d := ?_) ?_ ?_ ?_); rotate_left 2; (first | exact rfl | exact seq_at (by assumption)); (exact rfl))
    | ((with_reducible refine st_len2 (ds := ?_) (n := ?_) ?_ ?_ ?_); rotate_left 2; (first | exact rfl | exact seq_at (by assumption)); (exact rfl))
    | ((with_reducible refine st_addLL (a := ?_) (b := ?_) ?_ ?_ ?_ ?_); rotate_left 2; (first | exact rfl | exact lst_at (by assumption)); (first | exact rfl | exact lst_at (by assumption)); (exact Nat.le_of_ble_eq_true rfl))
    | ((with_reducible refine st_pow ?_ ?_); (exact ⟨by decide, by decide, by decide⟩))
    | ((with_reducible refine st_mod ?_ ?_); (first | decide | omega))
    | ((with_reducible refine st_size ?_ ?_); (exact rfl))
    | ((with_reducible refine st_gT2 ?_ ?_); (exact rfl))
    | ((with_reducible refine st_gsC ?_))
    | ((with_reducible refine st_gsN ?_))
    | ((with_reducible refine st_mulS ?_ ?_ ?_); omega; omega)
    | ((with_reducible refine br_ct ?_ ?_); (exact rfl))
    | ((with_reducible refine br_cf ?_ ?_); (exact rfl))
    | (rw [list_tup])
    | (rw [list_lst])
    | (rw [items_tup])
    | (rw [items_lst])
    | ((refine st_listM (ds := ?_) ?_ ?_); rotate_left; (first | exact rfl | exact seq_at (by assumption)))
    | ((refine st_itM (it := ?_) ?_ ?_); rotate_left; (first | exact rfl | exact it_at (by assumption))))

local macro_rules
  | `(tactic| get_elem_tactic_trivial) => `(tactic| first
    | (with_reducible refine st_fld ?_)
    | (with_reducible refine st_mt ?_)
    | (with_reducible refine st_gFld ?_)
    | (with_reducible refine st_lix ?_)
    | (with_reducible refine st_rep ?_)
    | (with_reducible refine st_cat ?_)
    | (with_reducible refine st_lrng ?_)
    | (with_reducible refine st_frz ?_)
    | ((with_reducible refine fld_size (T := ?_) (pc := ?_) (pb := ?_) ?_ ?_); rotate_left 3; (assumption))
    | ((with_reducible refine fld_rows (T := ?_) (pc := ?_) (pb := ?_) ?_ ?_); rotate_left 3; (assumption))
    | ((with_reducible refine fld_goal (T := ?_) (pc := ?_) (pb := ?_) ?_ ?_); rotate_left 3; (assumption))
    | ((with_reducible refine fld_cols (T := ?_) (pc := ?_) (pb := ?_) ?_ ?_); rotate_left 3; (assumption))
    | ((with_reducible refine fld_basis (T := ?_) (pc := ?_) (pb := ?_) ?_ ?_); rotate_left 3; (assumption))
    | ((with_reducible refine fld_den (T := ?_) (pc := ?_) (pb := ?_) ?_ ?_); rotate_left 3; (assumption))
    | ((with_reducible refine mt_go (T := ?_) (pc := ?_) (pb := ?_) ?_ ?_ ?_); rotate_left 3; (assumption); (exact rfl)))

/-! ### entering, leaving, improve -/
theorem st_neNil {n : Nat} {x : D} {l : List D} {S : Sto} {K : KE} (ex : top S x = .lst l) (h : ∀ d, d ∈ l → Dt n d) (ln : n ≤ 63) (k : K (.bl (decide (l ≠ []))) S) : oNe x (.lst []) S K := by
  obtain ⟨ps, e, el, s⟩ := pds_all fun d hd => (h d hd).pd
  refine .inr ⟨.list ps, .list [], ?_, rfl, (Sh.list s).shaped (by omega), (Sh.list (n := 0) fun p hp => by cases hp).shaped (by decide), ?_⟩
  · rw [ex]
    show (pds _).map _ = _
    rw [e]
    rfl
  · cases l with
    | nil =>
      cases ps with
      | nil => exact k
      | cons _ _ => simp at el
    | cons d l =>
      cases ps with
      | nil => simp at el
      | cons _ _ => exact k
def ent (T : Tab) (r c : Nat) : Int := (T.rows.getD r []).getD c 0
def Enter (T : Tab) (n c : Nat) : Prop := c < n ∧ T.goal.getD c 0 < 0 ∧ ∀ c', c' < n → T.goal.getD c' 0 < 0 → T.cols.getD c 0 ≤ T.cols.getD c' 0
theorem ienum_nats : ∀ (l : List Nat) (k : Nat), ienum k ((natsI l).map D.int) = (l.zipIdx k).map fun q => .tup [.int ((q.2 : Nat) : Int), .int ((q.1 : Nat) : Int)]
  | [], _ => rfl
  | x :: l, k => by
    show D.tup [.int (k : Nat), .int ((x : Nat) : Int)] :: ienum (k + 1) ((natsI l).map D.int) = _
    rw [ienum_nats l (k + 1), List.zipIdx_cons, List.map_cons]
theorem sp_entering {Fr : PySem.W.Frag} {T : Tab} {p pc pb : Addr} {m n : Nat} {S : Sto} {K : KE} (hT : TabAt Fr S p pc pb T) (ok : TabOk T m n) (hn : n ≤ 900) (h0 : (∀ c, c < n → 0 ≤ T.goal.getD c 0) → K .non S) (h1 : ∀ c, Enter T n c → K (.int (c : Nat)) S) : c_Table_entering Fr [.cell p] S K := by
  refine st_def rfl ?_
  unfold w_Table_entering
  have l2 := ok.cols
  have lg := ok.goal.len
  repeat get_elem_tactic_trivial
  try dsimp only [List.set_cons_succ, List.set_cons_zero]
  rw [hT.cols]
  show compW _ _ _ _ _ (ienum 0 ((natsI T.cols).map D.int)) [] S _
  rw [ienum_nats]
  refine comp_filterL (T.cols.zipIdx 0) (fun q => .tup [.int ((q.2 : Nat) : Int), .int ((q.1 : Nat) : Int)]) (fun q => .tup [.int ((q.1 : Nat) : Int), .int ((q.2 : Nat) : Int)]) (fun q => decide (T.goal.getD q.2 0 < 0)) (by exact hT.cols) (by rw [List.length_zipIdx]; unfold sizeLine; omega) (fun q hq K1 F1 k1 k2 => ?_) ?_
  · have hq := List.mem_zipIdx_iff_getElem?.mp hq
    have hl := (List.getElem?_eq_some_iff.mp hq).1
    repeat get_elem_tactic_trivial
    try dsimp only [List.set_cons_succ, List.set_cons_zero]
    refine st_ix (ds := T.goal.map D.int) rfl (at_row (by omega)) ?_
    repeat get_elem_tactic_trivial
    try dsimp only [List.set_cons_succ, List.set_cons_zero]
    refine br_d (fun e => ?_) fun e => ?_
    · repeat get_elem_tactic_trivial
      try dsimp only [List.set_cons_succ, List.set_cons_zero]
      exact k1 (decide_eq_true e)
    · exact k2 (decide_eq_false e)
  · have mem : ∀ q, q ∈ (T.cols.zipIdx 0).filter (fun q => decide (T.goal.getD q.2 0 < 0)) ↔ T.cols[q.2]? = some q.1 ∧ T.goal.getD q.2 0 < 0 := fun q => by
      rw [List.mem_filter, List.mem_zipIdx_iff_getElem?]
      simp
    generalize (T.cols.zipIdx 0).filter (fun q => decide (T.goal.getD q.2 0 < 0)) = qs at *
    have getc : ∀ c, c < n → T.cols[c]? = some (T.cols.getD c 0) := fun c hc => by
      rw [List.getD_eq_getElem?_getD, List.getElem?_eq_getElem (by omega)]
      rfl
    repeat get_elem_tactic_trivial
    try dsimp only [List.set_cons_succ, List.set_cons_zero]
    refine st_neNil (n := 1) rfl (fun d hd => ?_) (by decide) ?_
    · obtain ⟨q, _, e⟩ := List.mem_map.mp hd
      rw [← e]
      refine .tup fun d hd => ?_
      simp only [List.mem_cons, List.not_mem_nil, or_false] at hd
      rcases hd with rfl | rfl <;> exact .int _ _
    repeat get_elem_tactic_trivial
    try dsimp only [List.set_cons_succ, List.set_cons_zero]
    refine br_d (fun e => ?_) fun e => ?_
    · repeat get_elem_tactic_trivial
      try dsimp only [List.set_cons_succ, List.set_cons_zero]
      have e2 : (qs.map fun q => D.tup [.int ((q.1 : Nat) : Int), .int ((q.2 : Nat) : Int)]) = (qs.map fun q => (((q.1 : Nat) : Int), ((q.2 : Nat) : Int))).map fun p => .tup [.int p.1, .int p.2] := by
        rw [List.map_map]
        rfl
      refine ⟨_, by rw [e2], fun z => e (by rw [List.map_eq_nil_iff.mp z]; rfl), fun x hx hm => ?_⟩
      obtain ⟨q, hq, ex⟩ := List.mem_map.mp hx
      subst ex
      obtain ⟨q1, q2⟩ := (mem q).mp hq
      have hl := (List.getElem?_eq_some_iff.mp q1).1
      repeat get_elem_tactic_trivial
      try dsimp only [List.set_cons_succ, List.set_cons_zero]
      refine fin.of (h1 q.2 ⟨by omega, q2, fun c' hc' hg => ?_⟩)
      have hm' := hm (((T.cols.getD c' 0 : Nat) : Int), (c' : Int)) (List.mem_map.mpr ⟨(T.cols.getD c' 0, c'), (mem _).mpr ⟨getc c' hc', hg⟩, rfl⟩)
      unfold pairLt at hm'
      simp only [Bool.or_eq_false_iff, decide_eq_false_iff_not] at hm'
      have : T.cols.getD q.2 0 = q.1 := by rw [List.getD_eq_getElem?_getD, q1]; rfl
      omega
    · have e : qs = [] := by
        have : ¬¬ (qs.map fun q => D.tup [.int ((q.1 : Nat) : Int), .int ((q.2 : Nat) : Int)]) = [] := e
        exact List.map_eq_nil_iff.mp (Classical.not_not.mp this)
      repeat get_elem_tactic_trivial
      try dsimp only [List.set_cons_succ, List.set_cons_zero]
      refine fin.of (h0 fun c hc => ?_)
      by_cases z : 0 ≤ T.goal.getD c 0
      · exact z
      · have := (mem (T.cols.getD c 0, c)).mpr ⟨getc c hc, by show T.goal.getD c 0 < 0; omega⟩
        rw [e] at this
        cases this
/-- whether a row limits more than another one -/
def more (T : Tab) (n j r c : Nat) : Bool := decide (ent T j n * ent T r c < ent T r n * ent T j c) || (decide (ent T j n * ent T r c = ent T r n * ent T j c) && decide (T.basis.getD j 0 < T.basis.getD r 0))
theorem last_row {r : List Int} {n : Nat} (h : r.length = n + 1) : (r.map D.int).getLast? = some (.int (r.getD n 0)) := by
  rw [List.getLast?_eq_getElem?, List.length_map, h, Nat.add_sub_cancel, List.getElem?_map, List.getD_eq_getElem?_getD, List.getElem?_eq_getElem (by omega)]
  rfl
theorem sp_limits {Fr : PySem.W.Frag} {T : Tab} {p pc pb : Addr} {j r c m n : Nat} {S : Sto} {K : KE} (hT : TabAt Fr S p pc pb T) (ok : TabOk T m n) (hj : j < m) (hr : r < m) (hc : c < n) (hm : m ≤ 900) (hn : n ≤ 900) (h : K (.bl (more T n j r c)) S) : c_Table_limits_more Fr [.cell p, rowD (T.rows.getD j []), .int (j : Nat), .int (r : Nat), .int (c : Nat)] S K := by
  have oj := ok.at hj
  have or_ := ok.at hr
  have l1 := ok.rows
  have l3 := ok.basis
  have lj := oj.len
  have lr := or_.len
  unfold rowD
  refine st_def rfl ?_
  unfold w_Table_limits_more
  repeat get_elem_tactic_trivial
  try dsimp only [List.set_cons_succ, List.set_cons_zero]
  refine st_ix (ds := T.rows.map rowD) rfl (at_rows (by omega)) ?_
  unfold rowD
  repeat get_elem_tactic_trivial
  try dsimp only [List.set_cons_succ, List.set_cons_zero]
  refine st_ixLast (ds := (T.rows.getD j []).map D.int) rfl (last_row lj) ?_
  repeat get_elem_tactic_trivial
  try dsimp only [List.set_cons_succ, List.set_cons_zero]
  refine st_ix (ds := (T.rows.getD r []).map D.int) rfl (at_row (by omega)) ?_
  repeat get_elem_tactic_trivial
  try dsimp only [List.set_cons_succ, List.set_cons_zero]
  refine st_mulM (oj.at (by omega)) (or_.at (by omega)) ?_
  repeat get_elem_tactic_trivial
  try dsimp only [List.set_cons_succ, List.set_cons_zero]
  refine st_ixLast (ds := (T.rows.getD r []).map D.int) rfl (last_row lr) ?_
  repeat get_elem_tactic_trivial
  try dsimp only [List.set_cons_succ, List.set_cons_zero]
  refine st_ix (ds := (T.rows.getD j []).map D.int) rfl (at_row (by omega)) ?_
  repeat get_elem_tactic_trivial
  try dsimp only [List.set_cons_succ, List.set_cons_zero]
  refine st_mulM (or_.at (by omega)) (oj.at (by omega)) ?_
  have h : K (.bl (decide ((T.rows.getD j []).getD n 0 * (T.rows.getD r []).getD c 0 < (T.rows.getD r []).getD n 0 * (T.rows.getD j []).getD c 0) || (decide ((T.rows.getD j []).getD n 0 * (T.rows.getD r []).getD c 0 = (T.rows.getD r []).getD n 0 * (T.rows.getD j []).getD c 0) && decide (T.basis.getD j 0 < T.basis.getD r 0)))) S := h
  generalize (T.rows.getD j []).getD n 0 * (T.rows.getD r []).getD c 0 = x at *
  generalize (T.rows.getD r []).getD n 0 * (T.rows.getD j []).getD c 0 = y at *
  repeat get_elem_tactic_trivial
  try dsimp only [List.set_cons_succ, List.set_cons_zero]
  refine br_b (fun e => ?_) fun e => ?_
  · rw [e] at h
    exact fin.of h
  · rw [e] at h
    repeat get_elem_tactic_trivial
    try dsimp only [List.set_cons_succ, List.set_cons_zero]
    refine br_b (fun e2 => ?_) fun e2 => ?_
    · rw [e2] at h
      repeat get_elem_tactic_trivial
      try dsimp only [List.set_cons_succ, List.set_cons_zero]
      refine st_ix (ds := (natsI T.basis).map D.int) (seq_at hT.basis) (at_nats (by omega)) ?_
      repeat get_elem_tactic_trivial
      try dsimp only [List.set_cons_succ, List.set_cons_zero]
      refine st_ix (ds := (natsI T.basis).map D.int) (seq_at hT.basis) (at_nats (by omega)) ?_
      repeat get_elem_tactic_trivial
      try dsimp only [List.set_cons_succ, List.set_cons_zero]
      refine fin.of ?_
      rw [show decide (((T.basis.getD j 0 : Nat) : Int) < ((T.basis.getD r 0 : Nat) : Int)) = decide (T.basis.getD j 0 < T.basis.getD r 0) from decide_eq_decide.mpr (by omega)]
      exact h
    · rw [e2] at h
      exact fin.of h
def Leave (T : Tab) (m n c r : Nat) : Prop := r < m ∧ 0 < ent T r c ∧ ∀ j, j < m → 0 < ent T j c → more T n j r c = false
theorem ratio_trans {a p b q c r : Int} (hq : 0 < q) (h1 : a * q ≤ b * p) (h2 : b * r ≤ c * q) (hp : 0 < p) (hr : 0 < r) : a * r ≤ c * p ∧ (a * q < b * p ∨ b * r < c * q → a * r < c * p) := by
  have e1 : a * q * r ≤ b * p * r := Int.mul_le_mul_of_nonneg_right h1 (by omega)
  have e2 : b * r * p ≤ c * q * p := Int.mul_le_mul_of_nonneg_right h2 (by omega)
  have e3 : b * p * r = b * r * p := by rw [Int.mul_assoc, Int.mul_comm p r, ← Int.mul_assoc]
  have e4 : a * q * r = a * r * q := by rw [Int.mul_assoc, Int.mul_comm q r, ← Int.mul_assoc]
  have e5 : c * q * p = c * p * q := by rw [Int.mul_assoc, Int.mul_comm q p, ← Int.mul_assoc]
  refine ⟨Int.le_of_mul_le_mul_right (by omega) hq, fun h => ?_⟩
  refine Int.lt_of_mul_lt_mul_right (a := q) ?_ (by omega)
  rcases h with h | h
  · have := Int.mul_lt_mul_of_pos_right h hr
    omega
  · have := Int.mul_lt_mul_of_pos_right h hp
    omega
theorem more_trans {T : Tab} {n i j k c : Nat} (hi : 0 < ent T i c) (hj : 0 < ent T j c) (hk : 0 < ent T k c) (h1 : more T n i j c = true) (h2 : more T n j k c = true) : more T n i k c = true := by
  unfold more at *
  simp only [Bool.or_eq_true, Bool.and_eq_true, decide_eq_true_eq] at *
  have := ratio_trans (a := ent T i n) (p := ent T i c) (b := ent T j n) (q := ent T j c) (c := ent T k n) (r := ent T k c) hj (by omega) (by omega) hi hk
  rcases h1 with h1 | h1
  · exact .inl (this.2 (.inl h1))
  · rcases h2 with h2 | h2
    · exact .inl (this.2 (.inr h2))
    · by_cases z : ent T i n * ent T k c < ent T k n * ent T i c
      · exact .inl z
      · exact .inr ⟨by omega, by omega⟩
theorem more_irr (T : Tab) (n r c : Nat) : more T n r r c = false := by
  unfold more
  simp
theorem sp_leaving {Fr : PySem.W.Frag} {T : Tab} {p pc pb : Addr} {c m n : Nat} {S : Sto} {K : KE} (hT : TabAt Fr S p pc pb T) (ok : TabOk T m n) (hc : c < n) (hm : m ≤ 900) (hn : n ≤ 900) (hp : ∃ r, r < m ∧ 0 < ent T r c) (h : ∀ r, Leave T m n c r → K (.int (r : Nat)) S) : c_Table_leaving Fr [.cell p, .int (c : Nat)] S K := by
  have l1 := ok.rows
  refine st_def rfl ?_
  unfold w_Table_leaving
  repeat get_elem_tactic_trivial
  try dsimp only [List.set_cons_succ, List.set_cons_zero]
  refine for_ind (I := fun ds ρ S1 => S1 = S ∧ ∃ (k : Nat) (x3 x4 : Option D) (b : D), ds = ienum k ((T.rows.drop k).map rowD) ∧ k ≤ m ∧ ρ = [some (.cell p), some (.int (c : Nat)), some b, x3, x4] ∧ ((b = .non ∧ ∀ j, j < k → ¬ 0 < ent T j c) ∨ ∃ r, b = .int (r : Nat) ∧ r < k ∧ 0 < ent T r c ∧ ∀ j, j < k → 0 < ent T j c → more T n j r c = false)) ⟨rfl, 0, _, _, _, rfl, Nat.zero_le _, rfl, .inl ⟨rfl, fun j hj => by omega⟩⟩ (fun ρ S1 ⟨e0, k, x3, x4, b, e1, e2, e3, e4⟩ => ⟨trivial, ?_⟩) fun d ds F ih ρ S1 ⟨e0, k, x3, x4, b, e1, e2, e3, e4⟩ => ⟨trivial, ?_⟩
  · subst e0 e3
    have ek : k = m := by
      have := congrArg List.length e1
      rw [ienum_length, List.length_map, List.length_drop] at this
      simp at this
      omega
    subst ek
    repeat get_elem_tactic_trivial
    try dsimp only [List.set_cons_succ, List.set_cons_zero]
    rcases e4 with ⟨_, z⟩ | ⟨r, e5, e6, e7, e8⟩
    · obtain ⟨r, hr, hp⟩ := hp
      exact absurd hp (z r hr)
    · rw [e5]
      exact fin.of (h r ⟨e6, e7, e8⟩)
  · subst e0 e3
    have hk : k < m := by
      have := congrArg List.length e1
      rw [ienum_length, List.length_map, List.length_drop, List.length_cons] at this
      omega
    have ed : T.rows.drop k = T.rows.getD k [] :: T.rows.drop (k + 1) := by
      rw [List.drop_eq_getElem_cons (by omega), List.getD_eq_getElem?_getD, List.getElem?_eq_getElem (by omega)]
      rfl
    rw [ed] at e1
    injection e1 with e1 e9
    subst e1
    have ok1 := ok.at hk
    have lk := ok1.len
    unfold rowD at e9 ⊢
    repeat get_elem_tactic_trivial
    try dsimp only [List.set_cons_succ, List.set_cons_zero]
    refine st_ix (ds := (T.rows.getD k []).map D.int) rfl (at_row (by omega)) ?_
    repeat get_elem_tactic_trivial
    try dsimp only [List.set_cons_succ, List.set_cons_zero]
    have skip : (0 < ent T k c → ∃ r, b = .int (r : Nat) ∧ more T n k r c = false) → F [some (.cell p), some (.int (c : Nat)), some b, some (.int (k : Nat)), some (.lst ((T.rows.getD k []).map D.int))] S1 := fun z => by
      refine ih _ _ ⟨rfl, k + 1, _, _, b, e9, by omega, rfl, ?_⟩
      rcases e4 with ⟨a1, a2⟩ | ⟨r, e5, e6, e7, e8⟩
      · refine .inl ⟨a1, fun j hj => ?_⟩
        by_cases y : j = k
        · intro hp
          rw [y] at hp
          obtain ⟨r, er, _⟩ := z hp
          rw [a1] at er
          cases er
        · exact a2 j (by omega)
      · refine .inr ⟨r, e5, by omega, e7, fun j hj hp => ?_⟩
        by_cases y : j = k
        · rw [y] at hp ⊢
          obtain ⟨r', er, hm⟩ := z hp
          rw [e5] at er
          injection er with er
          have : r = r' := by omega
          rw [this]
          exact hm
        · exact e8 j (by omega) hp
    refine br_d (fun e => ?_) fun e => ?_
    · have take : (∀ r, b = .int (r : Nat) → more T n k r c = true) → F [some (.cell p), some (.int (c : Nat)), some (.int (k : Nat)), some (.int (k : Nat)), some (.lst ((T.rows.getD k []).map D.int))] S1 := fun z => by
        refine ih _ _ ⟨rfl, k + 1, _, _, _, e9, by omega, rfl, .inr ⟨k, rfl, by omega, e, fun j hj hp => ?_⟩⟩
        by_cases y : j = k
        · rw [y]; exact more_irr T n k c
        · rcases e4 with ⟨a1, a2⟩ | ⟨r, e5, e6, e7, e8⟩
          · exact absurd hp (a2 j (by omega))
          · cases w : more T n j k c with
            | false => rfl
            | true =>
              have := more_trans hp e e7 w (z r e5)
              rw [e8 j (by omega) hp] at this
              cases this
      rcases e4 with ⟨a1, a2⟩ | ⟨r, e5, e6, e7, e8⟩
      · subst a1
        repeat get_elem_tactic_trivial
        try dsimp only [List.set_cons_succ, List.set_cons_zero]
        exact take fun r er => by cases er
      · subst e5
        repeat get_elem_tactic_trivial
        try dsimp only [List.set_cons_succ, List.set_cons_zero]
        refine sp_limits hT ok hk (by omega) hc hm hn ?_
        repeat get_elem_tactic_trivial
        try dsimp only [List.set_cons_succ, List.set_cons_zero]
        refine br_b (fun e => ?_) fun e => ?_
        · repeat get_elem_tactic_trivial
          try dsimp only [List.set_cons_succ, List.set_cons_zero]
          exact take fun r' er => by
            injection er with er
            have : r = r' := by omega
            rw [← this]
            exact e
        · repeat get_elem_tactic_trivial
          try dsimp only [List.set_cons_succ, List.set_cons_zero]
          exact skip fun _ => ⟨r, rfl, e⟩
    · repeat get_elem_tactic_trivial
      try dsimp only [List.set_cons_succ, List.set_cons_zero]
      exact skip fun z => absurd z e

def Run (m n : Nat) (P : Tab → Prop) : Nat → Tab → Prop
  | 0, _ => False
  | k + 1, T => TabOk T m n ∧ ((∀ c, c < n → 0 ≤ T.goal.getD c 0) → P T) ∧ ∀ c, Enter T n c → (∃ r, r < m ∧ 0 < ent T r c) ∧ ∀ r, Leave T m n c r → Run m n P k (exch T r c)
theorem sp_improve {Fr : PySem.W.Frag} {T : Tab} {p pc pb : Addr} {m n k : Nat} {P : Tab → Prop} {S : Sto} {K : KE} (hT : TabAt Fr S p pc pb T) (run : Run m n P k T) (hm : m ≤ 900) (hn : n ≤ 900) (h : ∀ S' T', TabAt Fr S' p pc pb T' → Oth3 p pc pb S S' → TabOk T' m n → P T' → K .non S') : c_Table_improve Fr [.cell p] S K := by
  cases k with
  | zero => exact run.elim
  | succ k =>
  refine st_def rfl ?_
  unfold w_Table_improve
  refine ⟨fun ρ1 S1 => S1 = S ∧ ((ρ1 = [some (.cell p), some .non] ∧ P T) ∨ ∃ c, ρ1 = [some (.cell p), some (.int (c : Nat))] ∧ Enter T n c), ?_, ?_⟩
  · repeat get_elem_tactic_trivial
    try dsimp only [List.set_cons_succ, List.set_cons_zero]
    refine sp_entering hT run.1 hn (fun z => ?_) fun c hc => ?_
    · exact ⟨rfl, .inl ⟨rfl, run.2.1 z⟩⟩
    · exact ⟨rfl, .inr ⟨c, rfl, hc⟩⟩
  · intro ρ1 S1 ⟨e0, e1⟩
    subst e0
    refine while_ind (I := fun j ρ S2 => ∃ T', TabAt Fr S2 p pc pb T' ∧ Oth3 p pc pb S1 S2 ∧ TabOk T' m n ∧ ((ρ = [some (.cell p), some .non] ∧ P T') ∨ ∃ c, ρ = [some (.cell p), some (.int (c : Nat))] ∧ Enter T' n c ∧ Run m n P j T')) (m := k + 1) ⟨T, hT, .refl, run.1, e1.elim .inl fun ⟨c, a, b⟩ => .inr ⟨c, a, b, run⟩⟩ fun j F ih ρ S2 ⟨T', hT', o', ok', e2⟩ => ?_
    rcases e2 with ⟨e2, hP⟩ | ⟨c, e2, hc, run'⟩
    · subst e2
      repeat get_elem_tactic_trivial
      try dsimp only [List.set_cons_succ, List.set_cons_zero]
      exact fin.of (h S2 T' hT' o' ok' hP)
    · subst e2
      cases j with
      | zero => exact run'.elim
      | succ j =>
      obtain ⟨hpos, hlv⟩ := run'.2.2 c hc
      repeat get_elem_tactic_trivial
      try dsimp only [List.set_cons_succ, List.set_cons_zero]
      refine sp_leaving hT' ok' hc.1 hm hn hpos fun r hr => ?_
      repeat get_elem_tactic_trivial
      try dsimp only [List.set_cons_succ, List.set_cons_zero]
      refine sp_exchange hT' ok' hr.1 hc.1 hm hn fun S3 hT3 o3 => ?_
      have run3 := hlv r hr
      cases j with
      | zero => exact run3.elim
      | succ j =>
      repeat get_elem_tactic_trivial
      try dsimp only [List.set_cons_succ, List.set_cons_zero]
      refine sp_entering hT3 run3.1 hn (fun z => ?_) fun c' hc' => ?_
      · exact ih (j + 1) (by omega) _ _ ⟨_, hT3, o'.trans o3, run3.1, .inl ⟨rfl, run3.2.1 z⟩⟩
      · exact ih (j + 1) (by omega) _ _ ⟨_, hT3, o'.trans o3, run3.1, .inr ⟨c', rfl, hc', run3⟩⟩


end G

set_option Elab.async false
set_option linter.all false
set_option maxRecDepth 100000
set_option autoImplicit false
set_option maxHeartbeats 2000000
namespace G
open PySem PySem.Spec PyProof.Rows L2
local macro_rules
  | `(tactic| get_elem_tactic_trivial) => `(tactic| first
    | (with_reducible first
      | refine st_seqSet ?_ | refine st_seqAsg ?_ | refine st_seqDo ?_ | refine st_seqPar ?_ | refine st_seqPar3 ?_ | refine st_seqFor ?_ | refine st_seqWhile ?_ | refine st_seqAug ?_ | refine st_seqSkip ?_ | refine st_seqRet ?_
      | refine st_skip ?_ | refine st_ret ?_ | refine st_retN ?_ | refine st_do ?_ | refine st_if ?_ | refine st_set ?_ | refine st_asg ?_ | refine st_par ?_ | refine st_par3 ?_
      | refine st_c ?_ | refine st_op2 ?_ | refine st_op1 ?_ | refine st_test ?_ | refine st_tbl ?_ | refine st_and ?_ | refine st_or ?_ | refine st_not ?_ | refine st_andV ?_ | refine st_orV ?_ | refine st_notV ?_ | refine st_bl ?_
      | refine st_chain ?_ | refine st_ifE ?_ | refine st_nil ?_ | refine st_cons ?_ | refine st_call ?_ | refine st_fr ?_ | refine st_lv ?_ | refine st_one ?_ | refine st_two ?_
      | refine st_gN ?_ | refine st_lst ?_ | refine st_tup ?_ | refine st_slF ?_ | refine st_oNo ?_ | refine st_oS ?_ | refine st_enum ?_ | refine st_scr ?_ | refine st_list ?_ | refine st_it ?_ | refine st_comp ?_ | refine st_for ?_ | refine st_gIx ?_ | refine st_range1 ?_ | refine st_app ?_ | refine st_zip ?_ | refine st_rev1 ?_ | refine st_meth ?_ | refine st_isS ?_ | refine st_count ?_ | refine st_sl ?_ | refine st_slT ?_ | refine st_slL ?_ | refine st_max2 ?_ | refine st_min2 ?_
      | refine st_add ?_ | refine st_sub ?_ | refine st_int ?_ | refine st_neg ?_ | refine st_lt ?_ | refine st_le ?_ | refine st_gt ?_ | refine st_ge ?_ | refine st_eq ?_ | refine st_ne ?_ | refine st_eqB ?_ | refine st_neB ?_ | refine st_eqS ?_ | refine st_neS ?_ | refine st_isN ?_ | refine st_sorted ?_ | refine st_abs ?_ | refine st_isNotN ?_
      | refine br_t ?_ | refine br_f ?_)
    | ((with_reducible refine st_var (d := ?_) ?_ ?_); rotate_left; (exact rfl))
    | ((with_reducible refine st_isi2 (k := ?_) (b := true) ?_ ?_ ?_); rotate_left; (exact rfl); (exact rfl))
    | ((with_reducible refine st_isi2 (k := ?_) (b := false) ?_ ?_ ?_); rotate_left; (exact rfl); (exact rfl))
    | ((with_reducible refine st_ix (ds := ?_) (d := ?_) ?_ ?_ ?_); rotate_left 2; (first | exact rfl | exact seq_at (by assumption)); (exact rfl))
    | ((with_reducible refine st_len2 (ds := ?_) (n := ?_) ?_ ?_ ?_); rotate_left 2; (first | exact rfl | exact seq_at (by assumption)); (exact rfl))
    | ((with_reducible refine st_addLL (a := ?_) (b := ?_) ?_ ?_ ?_ ?_); rotate_left 2; (first | exact rfl | exact lst_at (by assumption)); (first | exact rfl | exact lst_at (by assumption)); (exact Nat.le_of_ble_eq_true rfl))
    | ((with_reducible refine st_pow ?_ ?_); (exact ⟨by decide, by decide, by decide⟩))
    | ((with_reducible refine st_mod ?_ ?_); (first | decide | omega))
    | ((with_reducible refine st_size ?_ ?_); (exact rfl))
    | ((with_reducible refine st_gT2 ?_ ?_); (exact rfl))
    | ((with_reducible refine st_gsC ?_))
    | ((with_reducible refine st_gsN ?_))
    | ((with_reducible refine st_mulS ?_ ?_ ?_); omega; omega)
    | ((with_reducible refine br_ct ?_ ?_); (exact rfl))
    | ((with_reducible refine br_cf ?_ ?_); (exact rfl))
    | (rw [list_tup])
    | (rw [list_lst])
    | (rw [items_tup])
    | (rw [items_lst])
    | ((refine st_listM (ds := ?_) ?_ ?_); rotate_left; (first | exact rfl | exact seq_at (by assumption)))
    | ((refine st_itM (it := ?_) ?_ ?_); rotate_left; (first | exact rfl | exact it_at (by assumption))))

/-! ### the table and the vectors of its variables -/
def en (m : Nat) (T : Tab) (i j : Nat) : Int := (if i < m then T.rows.getD i [] else T.goal).getD j 0
def bs (T : Tab) (i : Nat) : Nat := T.basis.getD i 0
def cl (T : Tab) (j : Nat) : Nat := T.cols.getD j 0
theorem en_ent {m : Nat} {T : Tab} {i j : Nat} (h : i < m) : en m T i j = ent T i j := by unfold en ent; rw [if_pos h]
theorem en_goal {m : Nat} {T : Tab} {j : Nat} : en m T m j = T.goal.getD j 0 := by unfold en; rw [if_neg (by omega)]
structure Shp (T : Tab) (m n : Nat) : Prop where
  rows : T.rows.length = m
  row : ∀ r, r ∈ T.rows → r.length = n + 1
  goal : T.goal.length = n + 1
  cols : T.cols.length = n
  basis : T.basis.length = m
theorem Shp.at {T : Tab} {m n i : Nat} (h : Shp T m n) (hi : i < m) : (T.rows.getD i []).length = n + 1 := by
  have l := h.rows
  rw [List.getD_eq_getElem?_getD, List.getElem?_eq_getElem (by omega)]
  exact h.row _ (List.getElem_mem _)
theorem getD_map' {α β : Type} {l : List α} {f : α → β} {i : Nat} {x : α} {y : β} (h : i < l.length) : (l.map f).getD i y = f (l.getD i x) := by
  rw [List.getD_eq_getElem?_getD, List.getD_eq_getElem?_getD, List.getElem?_map, List.getElem?_eq_getElem h]
  rfl
theorem getD_set' {α : Type} {l : List α} {r i : Nat} {v d : α} (h : r < l.length) : (l.set r v).getD i d = if i = r then v else l.getD i d := by
  rw [List.getD_eq_getElem?_getD, List.getD_eq_getElem?_getD]
  by_cases e : i = r
  · subst e
    rw [if_pos rfl, List.getElem?_set_self h]
    rfl
  · rw [if_neg e, List.getElem?_set_ne (by omega)]
theorem redu_at {den : Int} {row chosen : List Int} {c j n : Nat} (h1 : row.length = n + 1) (h2 : chosen.length = n + 1) (hc : c < n + 1) (hj : j < n + 1) : (redu den row chosen c).getD j 0 = if j = c then 0 - row.getD c 0 else (row.getD j 0 * chosen.getD c 0 - row.getD c 0 * chosen.getD j 0) / den := by
  unfold redu
  rw [getD_set' (by rw [List.length_map, List.length_zip]; omega)]
  split
  · rfl
  · rw [getD_map' (x := (0, 0)) (by rw [List.length_zip]; omega)]
    have : (List.zip row chosen).getD j (0, 0) = (row.getD j 0, chosen.getD j 0) := by
      rw [List.getD_eq_getElem?_getD, List.getElem?_eq_getElem (by rw [List.length_zip]; omega), Option.getD_some, List.getElem_zip, List.getD_eq_getElem?_getD, List.getElem?_eq_getElem (by omega), List.getD_eq_getElem?_getD, List.getElem?_eq_getElem (by omega)]
      rfl
    rw [this]
theorem redu_len {den : Int} {row chosen : List Int} {c n : Nat} (h1 : row.length = n + 1) (h2 : chosen.length = n + 1) : (redu den row chosen c).length = n + 1 := by
  unfold redu
  rw [List.length_set, List.length_map, List.length_zip, h1, h2]
  omega
def sg (x : Int) : Int := if x < 0 then -1 else 1
theorem exch_rows {T : Tab} {r c : Nat} : (exch T r c).rows = if (T.rows.getD r []).getD c 0 < 0 then ((T.rows.map fun row => redu T.den row (T.rows.getD r []) c).set r ((T.rows.getD r []).set c T.den)).map (fun r => r.map fun x => 0 - x) else (T.rows.map fun row => redu T.den row (T.rows.getD r []) c).set r ((T.rows.getD r []).set c T.den) := by
  unfold exch
  by_cases z : (T.rows.getD r []).getD c 0 < 0
  · rw [if_pos z]; simp only [decide_eq_true z, if_true]
  · rw [if_neg z]; simp only [decide_eq_false z, Bool.false_eq_true, if_false]
theorem exch_goal {T : Tab} {r c : Nat} : (exch T r c).goal = if (T.rows.getD r []).getD c 0 < 0 then (redu T.den T.goal (T.rows.getD r []) c).map (fun x => 0 - x) else redu T.den T.goal (T.rows.getD r []) c := by
  unfold exch
  by_cases z : (T.rows.getD r []).getD c 0 < 0
  · rw [if_pos z]; simp only [decide_eq_true z, if_true]
  · rw [if_neg z]; simp only [decide_eq_false z, Bool.false_eq_true, if_false]
theorem exch_shp {T : Tab} {m n r c : Nat} (h : Shp T m n) (hr : r < m) : Shp (exch T r c) m n := by
  have lr := h.at hr
  have base : ∀ row, row ∈ (T.rows.map fun row => redu T.den row (T.rows.getD r []) c).set r ((T.rows.getD r []).set c T.den) → row.length = n + 1 := fun row hrow => by
    rcases List.mem_or_eq_of_mem_set hrow with z | z
    · obtain ⟨x, hx, ex⟩ := List.mem_map.mp z
      rw [← ex]
      exact redu_len (h.row x hx) lr
    · rw [z, List.length_set]; exact lr
  refine ⟨?_, fun row hrow => ?_, ?_, ?_, ?_⟩
  · rw [exch_rows]
    split <;> simp [h.rows]
  · rw [exch_rows] at hrow
    split at hrow
    · obtain ⟨x, hx, ex⟩ := List.mem_map.mp hrow
      rw [← ex, List.length_map]
      exact base x hx
    · exact base row hrow
  · rw [exch_goal]
    split
    · rw [List.length_map]; exact redu_len h.goal lr
    · exact redu_len h.goal lr
  · show (T.cols.set _ _).length = n
    rw [List.length_set, h.cols]
  · show (T.basis.set _ _).length = m
    rw [List.length_set, h.basis]
theorem exch_en {T : Tab} {m n r c i j : Nat} (h : Shp T m n) (hr : r < m) (hc : c < n) (hi : i ≤ m) (hj : j ≤ n) : en m (exch T r c) i j = sg (en m T r c) * (if i = r then (if j = c then T.den else en m T r j) else (if j = c then 0 - en m T i c else (en m T i j * en m T r c - en m T i c * en m T r j) / T.den)) := by
  have lr := h.at hr
  have lrows := h.rows
  have er : ∀ j, en m T r j = (T.rows.getD r []).getD j 0 := fun j => by unfold en; rw [if_pos hr]
  by_cases e : i < m
  · have base : ((T.rows.map fun row => redu T.den row (T.rows.getD r []) c).set r ((T.rows.getD r []).set c T.den)).getD i [] = if i = r then (T.rows.getD r []).set c T.den else redu T.den (T.rows.getD i []) (T.rows.getD r []) c := by
      rw [getD_set' (by rw [List.length_map]; omega), getD_map' (x := []) (by omega)]
    have val : (if i = r then (T.rows.getD r []).set c T.den else redu T.den (T.rows.getD i []) (T.rows.getD r []) c).getD j 0 = (if i = r then (if j = c then T.den else en m T r j) else (if j = c then 0 - en m T i c else (en m T i j * en m T r c - en m T i c * en m T r j) / T.den)) := by
      split
      · rw [getD_set' (by omega), er]
      · rw [redu_at (h.at e) lr (by omega) (by omega), er, er]
        unfold en
        rw [if_pos e]
    have ll : (if i = r then (T.rows.getD r []).set c T.den else redu T.den (T.rows.getD i []) (T.rows.getD r []) c).length = n + 1 := by
      split
      · rw [List.length_set]; exact lr
      · exact redu_len (h.at e) lr
    rw [← val]
    show (if i < m then (exch T r c).rows.getD i [] else (exch T r c).goal).getD j 0 = _
    rw [if_pos e, exch_rows, er c]
    unfold sg
    split
    · rw [getD_map' (x := []) (by simp; omega), base, getD_map' (x := 0) (by omega)]
      omega
    · rw [base, Int.one_mul]
  · have e : i = m := by omega
    subst e
    have ne : ¬ i = r := by omega
    rw [if_neg ne, en_goal, en_goal, en_goal, er, er, ← redu_at h.goal lr (by omega) (by omega), exch_goal]
    unfold sg
    split
    · rw [getD_map' (x := 0) (by rw [redu_len h.goal lr]; omega)]
      omega
    · rw [Int.one_mul]
theorem exch_den {T : Tab} {m r c : Nat} (hr : r < m) : (exch T r c).den = (((en m T r c).natAbs : Nat) : Int) := by
  unfold en
  rw [if_pos hr]
  rfl
theorem exch_bs {T : Tab} {m n r c i : Nat} (h : Shp T m n) (hr : r < m) : bs (exch T r c) i = if i = r then cl T c else bs T i := by
  show (T.basis.set r (T.cols.getD c 0)).getD i 0 = _
  rw [getD_set' (by rw [h.basis]; exact hr)]
  rfl
theorem exch_cl {T : Tab} {m n r c j : Nat} (h : Shp T m n) (hc : c < n) : cl (exch T r c) j = if j = c then bs T r else cl T j := by
  show (T.cols.set c (T.basis.getD r 0)).getD j 0 = _
  rw [getD_set' (by rw [h.cols]; exact hc)]
  rfl
/-! ### the exact table -/
def unitV (k : Nat) : Vec := fun t => if t = k then 1 else 0
def bas (m : Nat) (A : Nat → Vec) (T : Tab) : Nat → Vec := fun i => if i < m then A (bs T i) else unitV m
def cv (n : Nat) (A : Nat → Vec) (b : Vec) (T : Tab) (j : Nat) : Vec := if j < n then A (cl T j) else b
structure Inv (T : Tab) (m n : Nat) (A : Nat → Vec) (b : Vec) : Prop where
  shp : Shp T m n
  d0 : 0 < T.den
  eqn : ∀ j, j ≤ n → ∀ t, t < m + 1 → T.den * cv n A b T j t = sumN (m + 1) fun i => en m T i j * bas m A T i t
  sig : ∃ s : Int, (s = 1 ∨ s = -1) ∧ det (m + 1) (bas m A T) = s * T.den
  bb : ∀ i j, i < m → j < m → bs T i = bs T j → i = j
  cc : ∀ i j, i < n → j < n → cl T i = cl T j → i = j
  bc : ∀ i j, i < m → j < n → bs T i ≠ cl T j
  cov : ∀ v, v < n + m → (∃ i, i < m ∧ bs T i = v) ∨ ∃ j, j < n ∧ cl T j = v
  bl : ∀ i, i < m → bs T i < n + m
  cl' : ∀ j, j < n → cl T j < n + m
theorem cramer {N : Nat} {D : Int} {f : Nat → Vec} {u : Vec} {e : Nat → Int} (h : ∀ t, t < N → D * u t = sumN N fun k => e k * f k t) {i : Nat} (hi : i < N) : D * det N (upd f i u) = e i * det N f := by
  have a := det_lin (n := N) (M := f) (i := i) D 0 u (fun _ => 0) hi
  have b : det N (upd f i fun t => D * u t + 0 * 0) = det N (upd f i fun t => sumN N fun k => e k * f k t) := det_congr fun k hk t ht => by
    unfold upd
    split
    · show D * u t + 0 * 0 = sumN N fun k => e k * f k t
      rw [h t ht, Int.mul_zero, Int.add_zero]
    · rfl
  rw [b, det_sum hi, sumN_one hi fun k hk ne => by
    rw [det_dup (i := i) (j := k) (Ne.symm ne) hi hk fun t ht => by rw [upd_at, upd_ne ne], Int.mul_zero], upd_self] at a
  omega
theorem sumN_spot {n r : Nat} {g : Nat → Int} {q : Int} (h : r < n) : sumN n (fun i => g i + if i = r then q else 0) = sumN n g + q := by
  rw [sumN_add, sumN_one (f := fun i => if i = r then q else 0) h fun i hi ne => if_neg ne, if_pos rfl]
theorem bas_exch {T : Tab} {m n r c : Nat} {A : Nat → Vec} (h : Shp T m n) (hr : r < m) : bas m A (exch T r c) = upd (bas m A T) r (A (cl T c)) := by
  funext i
  unfold bas upd
  rw [exch_bs h hr]
  by_cases e : i = r
  · rw [if_pos e, if_pos e, if_pos (by omega)]
  · rw [if_neg e, if_neg e]
theorem sg_sq (x : Int) : sg x * sg x = 1 := by unfold sg; split <;> rfl
theorem sg_abs (x : Int) : ((x.natAbs : Nat) : Int) = sg x * x := by unfold sg; split <;> omega
/-- the other rows' new entries are exact -/
theorem piv_exact {T : Tab} {m n r c i j : Nat} {A : Nat → Vec} {b : Vec} (h : Inv T m n A b) (hr : r < m) (hc : c < n) (hi : i ≤ m) (hj : j ≤ n) (ir : i ≠ r) : ∃ X, T.den * X = en m T i j * en m T r c - en m T i c * en m T r j := by
  obtain ⟨s, hs, hd⟩ := h.sig
  have ss : s * s = 1 := by rcases hs with e | e <;> rw [e] <;> rfl
  have d0 := h.d0
  have ec := h.eqn c (by omega)
  have ej := h.eqn j hj
  unfold cv at ec
  rw [if_pos hc] at ec
  generalize A (cl T c) = vc at ec
  generalize cv n A b T j = vj at ej
  generalize bas m A T = f at *
  have rN : r < m + 1 := by omega
  have iN : i < m + 1 := by omega
  have c1 := cramer (i := r) ec rN
  have c2 := cramer (i := i) ec iN
  have f1 : det (m + 1) (upd f r vc) = s * en m T r c := by
    refine Int.eq_of_mul_eq_mul_left (Int.ne_of_gt d0) ?_
    rw [c1, hd]
    grind
  have f2 : det (m + 1) (upd f i vc) = s * en m T i c := by
    refine Int.eq_of_mul_eq_mul_left (Int.ne_of_gt d0) ?_
    rw [c2, hd]
    grind
  -- the determinant with the column in place
  have a := det_lin (n := m + 1) (M := upd f r vc) (i := i) T.den 0 vj (fun _ => 0) iN
  have b : det (m + 1) (upd (upd f r vc) i fun t => T.den * vj t + 0 * 0) = det (m + 1) (upd (upd f r vc) i fun t => sumN (m + 1) fun k => en m T k j * f k t) := det_congr fun k hk t ht => by
    by_cases z : k = i
    · subst z
      rw [upd_at, upd_at, ← ej t ht]
      omega
    · rw [upd_ne z, upd_ne z]
  have sw : det (m + 1) (upd (upd f r vc) i (f r)) = - (s * en m T i c) := by
    rw [det_swap vc (f r) (Ne.symm ir) rN iN, upd_self, f2]
  have sum : (sumN (m + 1) fun k => en m T k j * det (m + 1) (upd (upd f r vc) i (f k))) = en m T i j * (s * en m T r c) + en m T r j * (- (s * en m T i c)) := by
    have e : ∀ k, k < m + 1 → en m T k j * det (m + 1) (upd (upd f r vc) i (f k)) = (if k = i then en m T i j * (s * en m T r c) else 0) + if k = r then en m T r j * (- (s * en m T i c)) else 0 := fun k hk => by
      by_cases z : k = i
      · subst z
        rw [if_pos rfl, if_neg ir, show upd (upd f r vc) k (f k) = upd f r vc from by
          rw [← upd_ne (f := f) (v := vc) ir, upd_self], f1]
        omega
      · by_cases y : k = r
        · subst y
          rw [if_neg z, if_pos rfl, sw]
          omega
        · rw [if_neg z, if_neg y, det_dup (i := k) (j := i) z hk iN fun t ht => by rw [upd_ne z, upd_ne y, upd_at]]
          omega
    rw [sumN_congr e, sumN_spot rN, sumN_one (f := fun k => if k = i then en m T i j * (s * en m T r c) else 0) iN fun k hk ne => if_neg ne, if_pos rfl]
  rw [b, det_sum iN, sum] at a
  refine ⟨s * det (m + 1) (upd (upd f r vc) i vj), ?_⟩
  grind
theorem exch_mul {T : Tab} {m n r c i j : Nat} {A : Nat → Vec} {b : Vec} (h : Inv T m n A b) (hr : r < m) (hc : c < n) (hi : i ≤ m) (hj : j ≤ n) (ir : i ≠ r) (jc : j ≠ c) : T.den * en m (exch T r c) i j = sg (en m T r c) * (en m T i j * en m T r c - en m T i c * en m T r j) := by
  obtain ⟨X, hX⟩ := piv_exact h hr hc hi hj ir
  have d0 := h.d0
  rw [exch_en h.shp hr hc hi hj, if_neg ir, if_neg jc, ← hX, Int.mul_ediv_cancel_left X (Int.ne_of_gt d0)]
  grind
theorem inv_exch {T : Tab} {m n r c : Nat} {A : Nat → Vec} {b : Vec} (h : Inv T m n A b) (hr : r < m) (hc : c < n) (hp : en m T r c ≠ 0) : Inv (exch T r c) m n A b := by
  have d0 := h.d0
  have sp := h.shp
  have s2 := sg_sq (en m T r c)
  refine ⟨exch_shp sp hr, ?_, fun j hj t ht => ?_, ?_, ?_, ?_, ?_, ?_, ?_, ?_⟩
  · rw [exch_den hr]; omega
  · rw [bas_exch sp hr, exch_den hr, sg_abs]
    have ec := h.eqn c (by omega) t ht
    have ej := h.eqn j hj t ht
    unfold cv at ec
    rw [if_pos hc] at ec
    generalize A (cl T c) = vc at *
    by_cases e : j = c
    · subst e
      have ev : cv n A b (exch T r j) j = bas m A T r := by
        unfold cv bas
        rw [if_pos hc, exch_cl sp hc, if_pos rfl, if_pos hr]
      rw [ev]
      have e1 : ∀ i, i < m + 1 → en m (exch T r j) i j * upd (bas m A T) r vc i t = (- sg (en m T r j)) * (en m T i j * bas m A T i t) + if i = r then sg (en m T r j) * T.den * vc t + sg (en m T r j) * en m T r j * bas m A T r t else 0 := fun i hi => by
        rw [exch_en sp hr hc (by omega) hj, if_pos rfl, if_pos rfl]
        by_cases z : i = r
        · subst z
          rw [if_pos rfl, if_pos rfl, upd_at]
          grind
        · rw [if_neg z, if_neg z, upd_ne z]
          grind
      rw [sumN_congr e1, sumN_spot (by omega), sumN_mul, ← ec]
      grind
    · have ev : cv n A b (exch T r c) j = cv n A b T j := by
        unfold cv
        split
        · rw [exch_cl sp hc, if_neg e]
        · rfl
      rw [ev]
      refine Int.eq_of_mul_eq_mul_left (Int.ne_of_gt d0) ?_
      rw [← sumN_mul]
      have e1 : ∀ i, i < m + 1 → T.den * (en m (exch T r c) i j * upd (bas m A T) r vc i t) = (sg (en m T r c) * en m T r c * (en m T i j * bas m A T i t) + (- (sg (en m T r c) * en m T r j)) * (en m T i c * bas m A T i t)) + if i = r then T.den * sg (en m T r c) * en m T r j * vc t else 0 := fun i hi => by
        by_cases z : i = r
        · subst z
          rw [exch_en sp hr hc (by omega) hj, if_pos rfl, if_neg e, if_pos rfl, upd_at]
          grind
        · have := exch_mul h hr hc (i := i) (j := j) (by omega) hj z e
          rw [if_neg z, upd_ne z]
          grind
      rw [sumN_congr e1, sumN_spot (by omega), sumN_add, sumN_mul, sumN_mul, ← ec, ← ej]
      grind
  · obtain ⟨s, hs, hd⟩ := h.sig
    refine ⟨s * sg (en m T r c), ?_, ?_⟩
    · unfold sg
      split <;> omega
    · rw [bas_exch sp hr, exch_den hr, sg_abs]
      have ec := h.eqn c (by omega)
      unfold cv at ec
      rw [if_pos hc] at ec
      have c1 := cramer (i := r) ec (by omega)
      refine Int.eq_of_mul_eq_mul_left (Int.ne_of_gt d0) ?_
      rw [c1, hd]
      grind
  · intro i j hi hj e
    rw [exch_bs sp hr, exch_bs sp hr] at e
    by_cases a : i = r
    · by_cases b : j = r
      · omega
      · rw [if_pos a, if_neg b] at e
        exact absurd e.symm (h.bc j c hj hc)
    · by_cases b : j = r
      · rw [if_neg a, if_pos b] at e
        exact absurd e (h.bc i c hi hc)
      · rw [if_neg a, if_neg b] at e
        exact h.bb i j hi hj e
  · intro i j hi hj e
    rw [exch_cl sp hc, exch_cl sp hc] at e
    by_cases a : i = c
    · by_cases b : j = c
      · omega
      · rw [if_pos a, if_neg b] at e
        exact absurd e (h.bc r j hr hj)
    · by_cases b : j = c
      · rw [if_neg a, if_pos b] at e
        exact absurd e.symm (h.bc r i hr hi)
      · rw [if_neg a, if_neg b] at e
        exact h.cc i j hi hj e
  · intro i j hi hj e
    rw [exch_bs sp hr, exch_cl sp hc] at e
    by_cases a : i = r
    · by_cases b : j = c
      · rw [if_pos a, if_pos b] at e
        exact h.bc r c hr hc e.symm
      · rw [if_pos a, if_neg b] at e
        exact b (h.cc c j hc hj e).symm
    · by_cases b : j = c
      · rw [if_neg a, if_pos b] at e
        exact a (h.bb i r hi hr e)
      · rw [if_neg a, if_neg b] at e
        exact h.bc i j hi hj e
  · intro v hv
    rcases h.cov v hv with ⟨i, hi, e⟩ | ⟨j, hj, e⟩
    · by_cases a : i = r
      · exact .inr ⟨c, hc, by rw [exch_cl sp hc, if_pos rfl, ← a]; exact e⟩
      · exact .inl ⟨i, hi, by rw [exch_bs sp hr, if_neg a]; exact e⟩
    · by_cases a : j = c
      · exact .inl ⟨r, hr, by rw [exch_bs sp hr, if_pos rfl, ← a]; exact e⟩
      · exact .inr ⟨j, hj, by rw [exch_cl sp hc, if_neg a]; exact e⟩
  · intro i hi
    rw [exch_bs sp hr]
    split
    · exact h.cl' c hc
    · exact h.bl i hi
  · intro j hj
    rw [exch_cl sp hc]
    split
    · exact h.bl r hr
    · exact h.cl' j hj
/-! ### sizes -/
theorem prodN_mono {c d : Nat → Nat} : ∀ {n : Nat}, (∀ i, i < n → c i ≤ d i) → prodN n c ≤ prodN n d
  | 0, _ => Nat.le_refl _
  | n + 1, h => Nat.mul_le_mul (prodN_mono fun i hi => h i (by omega)) (h n (by omega))
theorem prodN_mul (c d : Nat → Nat) : ∀ n : Nat, prodN n (fun k => c k * d k) = prodN n c * prodN n d
  | 0 => rfl
  | n + 1 => by
    show prodN n (fun k => c k * d k) * (c n * d n) = prodN n c * c n * (prodN n d * d n)
    rw [prodN_mul c d n]
    grind
theorem prodN_ones {c : Nat → Nat} : ∀ {n : Nat}, (∀ i, i < n → c i = 1) → prodN n c = 1
  | 0, _ => rfl
  | n + 1, h => by
    show prodN n c * c n = 1
    rw [prodN_ones fun i hi => h i (by omega), h n (by omega)]
theorem prodN_spot {f : Nat → Nat} {C v : Nat} (hC : 1 ≤ C) : ∀ N : Nat, (∀ i j, i < N → j < N → f i = v → f j = v → i = j) → prodN N (fun k => if f k = v then C else 1) ≤ C
  | 0, _ => hC
  | N + 1, h => by
    show prodN N _ * (if f N = v then C else 1) ≤ C
    by_cases e : f N = v
    · rw [if_pos e, prodN_ones fun i hi => if_neg fun z => by have := h i N (by omega) (by omega) z e; omega, Nat.one_mul]
      exact Nat.le_refl _
    · rw [if_neg e, Nat.mul_one]
      exact prodN_spot hC N fun i j hi hj => h i j (by omega) (by omega)
theorem prodN_inj {c f : Nat → Nat} (c1 : ∀ v, 1 ≤ c v) (N : Nat) : ∀ n : Nat, (∀ i j, i < N → j < N → f i = f j → f i < n → i = j) → prodN N (fun k => if f k < n then c (f k) else 1) ≤ prodN n c
  | 0, _ => by
    rw [prodN_ones fun i _ => if_neg (by omega)]
    exact Nat.le_refl _
  | n + 1, h => by
    have ih := prodN_inj (c := c) (f := f) c1 N n fun i j hi hj e l => h i j hi hj e (by omega)
    have sp := prodN_spot (f := f) (v := n) (c1 n) N fun i j hi hj e1 e2 => h i j hi hj (by omega) (by omega)
    refine Nat.le_trans ?_ (Nat.mul_le_mul ih sp)
    rw [← prodN_mul]
    refine prodN_mono fun i hi => ?_
    by_cases e : f i = n
    · rw [if_pos (by omega), if_neg (by omega), if_pos e, e, Nat.one_mul]
      exact Nat.le_refl _
    · by_cases l : f i < n
      · rw [if_pos (by omega), if_pos l, if_neg e, Nat.mul_one]
        exact Nat.le_refl _
      · rw [if_neg (by omega), if_neg l, if_neg e]
        exact Nat.le_refl _
/-- the sums of the sizes of the vectors: those of the first n variables, and of the bounds; slack has 1 -/
structure Bnd (m n : Nat) (A : Nat → Vec) (b : Vec) (W : Nat) : Prop where
  ex : ∃ (c : Nat → Nat) (R : Nat), (∀ v, 1 ≤ c v) ∧ 1 ≤ R ∧ (∀ v, v < n → sumN (m + 1) (fun t => ((A v t).natAbs : Int)) ≤ c v) ∧ (∀ v, n ≤ v → v < n + m → sumN (m + 1) (fun t => ((A v t).natAbs : Int)) ≤ 1) ∧ sumN (m + 1) (fun t => ((b t).natAbs : Int)) ≤ R ∧ prodN n c * R ≤ W
  sm : W < 2 ^ 4000
theorem unit_l1 (m : Nat) : sumN (m + 1) (fun t => ((unitV m t).natAbs : Int)) = 1 := by
  rw [sumN_one (k := m) (by omega) fun i hi ne => by unfold unitV; rw [if_neg ne]; rfl]
  unfold unitV
  rw [if_pos rfl]
  rfl
theorem var_l1 {m n v : Nat} {A : Nat → Vec} {c : Nat → Nat} (h1 : ∀ v, v < n → sumN (m + 1) (fun t => ((A v t).natAbs : Int)) ≤ c v) (h2 : ∀ v, n ≤ v → v < n + m → sumN (m + 1) (fun t => ((A v t).natAbs : Int)) ≤ 1) (hv : v < n + m) : sumN (m + 1) (fun t => ((A v t).natAbs : Int)) ≤ ((if v < n then c v else 1 : Nat) : Int) := by
  split
  · rename_i h; exact h1 v h
  · exact h2 v (by omega) hv
theorem inv_sm {T : Tab} {m n W : Nat} {A : Nat → Vec} {b : Vec} (h : Inv T m n A b) (hb : Bnd m n A b W) {i j : Nat} (hi : i ≤ m) (hj : j ≤ n) : (en m T i j).natAbs ≤ W := by
  obtain ⟨s, hs, hd⟩ := h.sig
  have d0 := h.d0
  have c1 := cramer (i := i) (h.eqn j hj) (by omega)
  have f1 : det (m + 1) (upd (bas m A T) i (cv n A b T j)) = s * en m T i j := by
    refine Int.eq_of_mul_eq_mul_left (Int.ne_of_gt d0) ?_
    rw [c1, hd]
    grind
  have e : (en m T i j).natAbs = (det (m + 1) (upd (bas m A T) i (cv n A b T j))).natAbs := by
    rw [f1, Int.natAbs_mul]
    rcases hs with z | z <;> rw [z] <;> simp
  rw [e]
  obtain ⟨c, R, cc, R1, hv, hs1, hr, hW⟩ := hb.ex
  let f : Nat → Nat := fun k => if k = i then (if j < n then cl T j else n + m) else if k < m then bs T k else n + m
  refine Nat.le_trans (det_le (c := fun k => (if f k < n then c (f k) else 1) * (if k = i then R else 1)) fun k hk => ?_) ?_
  · have big : ∀ x : Nat, (x : Int) ≤ ((x * (if k = i then R else 1) : Nat) : Int) := fun x => by
      split
      · have := Nat.mul_le_mul_left x R1
        omega
      · omega
    by_cases z : k = i
    · subst z
      rw [upd_at]
      unfold cv
      by_cases jn : j < n
      · rw [if_pos jn]
        have ef : f k = cl T j := by show (if k = k then _ else _) = _; rw [if_pos rfl, if_pos jn]
        rw [ef]
        exact Int.le_trans (var_l1 hv hs1 (h.cl' j jn)) (big _)
      · rw [if_neg jn]
        have ef : f k = n + m := by show (if k = k then _ else _) = _; rw [if_pos rfl, if_neg jn]
        rw [ef, if_neg (by omega), if_pos rfl, Nat.one_mul]
        exact hr
    · rw [upd_ne z, if_neg z, Nat.mul_one]
      unfold bas
      by_cases km : k < m
      · rw [if_pos km]
        have ef : f k = bs T k := by show (if k = i then _ else _) = _; rw [if_neg z, if_pos km]
        rw [ef]
        exact var_l1 hv hs1 (h.bl k km)
      · rw [if_neg km, unit_l1]
        have ef : f k = n + m := by show (if k = i then _ else _) = _; rw [if_neg z, if_neg km]
        rw [ef, if_neg (by omega)]
        exact Int.le_refl _
  · rw [prodN_mul]
    refine Nat.le_trans (Nat.mul_le_mul (prodN_inj cc (m + 1) n fun x y hx hy e l => ?_) (prodN_spot (f := fun k => k) R1 (m + 1) fun x y _ _ e1 e2 => e1.trans e2.symm)) hW
    have val : ∀ k, f k < n → (k = i ∧ j < n ∧ f k = cl T j) ∨ (k ≠ i ∧ k < m ∧ f k = bs T k) := fun k lk => by
      by_cases z : k = i
      · by_cases jn : j < n
        · refine .inl ⟨z, jn, ?_⟩
          show (if k = i then _ else _) = _
          rw [if_pos z, if_pos jn]
        · have ef : f k = n + m := by show (if k = i then _ else _) = _; rw [if_pos z, if_neg jn]
          omega
      · by_cases km : k < m
        · refine .inr ⟨z, km, ?_⟩
          show (if k = i then _ else _) = _
          rw [if_neg z, if_pos km]
        · have ef : f k = n + m := by show (if k = i then _ else _) = _; rw [if_neg z, if_neg km]
          omega
    rcases val x l with ⟨a1, a2, a3⟩ | ⟨a1, a2, a3⟩ <;> rcases val y (e ▸ l) with ⟨b1, b2, b3⟩ | ⟨b1, b2, b3⟩
    · omega
    · exact absurd (show bs T y = cl T j by omega) (h.bc y j b2 a2)
    · exact absurd (show bs T x = cl T j by omega) (h.bc x j a2 b2)
    · exact h.bb x y a2 b2 (by omega)
theorem inv_den {T : Tab} {m n W : Nat} {A : Nat → Vec} {b : Vec} (h : Inv T m n A b) (hb : Bnd m n A b W) : T.den.natAbs ≤ W := by
  obtain ⟨s, hs, hd⟩ := h.sig
  have e : T.den.natAbs = (det (m + 1) (bas m A T)).natAbs := by
    rw [hd, Int.natAbs_mul]
    rcases hs with z | z <;> rw [z] <;> simp
  rw [e]
  obtain ⟨c, R, cc, R1, hv, hs1, hr, hW⟩ := hb.ex
  let f : Nat → Nat := fun k => if k < m then bs T k else n + m
  refine Nat.le_trans (det_le (c := fun k => if f k < n then c (f k) else 1) fun k hk => ?_) (Nat.le_trans (prodN_inj cc (m + 1) n fun x y hx hy e l => ?_) (Nat.le_trans (Nat.le_mul_of_pos_right _ R1) hW))
  · unfold bas
    by_cases km : k < m
    · rw [if_pos km]
      have ef : f k = bs T k := if_pos km
      rw [ef]
      exact var_l1 hv hs1 (h.bl k km)
    · rw [if_neg km, unit_l1]
      have ef : f k = n + m := if_neg km
      rw [ef, if_neg (by omega)]
      exact Int.le_refl _
  · have val : ∀ k, f k < n → k < m ∧ f k = bs T k := fun k lk => by
      by_cases km : k < m
      · exact ⟨km, if_pos km⟩
      · have ef : f k = n + m := if_neg km
        omega
    obtain ⟨a1, a2⟩ := val x l
    obtain ⟨b1, b2⟩ := val y (e ▸ l)
    exact h.bb x y a1 b1 (by omega)
theorem inv_ok {T : Tab} {m n W : Nat} {A : Nat → Vec} {b : Vec} (h : Inv T m n A b) (hb : Bnd m n A b W) : TabOk T m n := by
  have sp := h.shp
  have sm := hb.sm
  have at_ : ∀ {l : List Int} {x : Int}, x ∈ l → ∃ j, j < l.length ∧ l.getD j 0 = x := fun {l x} hx => by
    obtain ⟨j, hj, e⟩ := List.getElem_of_mem hx
    exact ⟨j, hj, by rw [List.getD_eq_getElem?_getD, List.getElem?_eq_getElem hj]; exact e⟩
  refine ⟨sp.rows, fun r hr => ⟨sp.row r hr, fun x hx => ?_⟩, ⟨sp.goal, fun x hx => ?_⟩, sp.cols, sp.basis, h.d0, ?_⟩
  · obtain ⟨i, hi, e⟩ := List.getElem_of_mem hr
    obtain ⟨j, hj, e2⟩ := at_ hx
    have lr := sp.row r hr
    have lrs := sp.rows
    have := inv_sm h hb (i := i) (j := j) (by omega) (by omega)
    rw [en_ent (by omega)] at this
    unfold ent at this
    rw [List.getD_eq_getElem?_getD (l := T.rows), List.getElem?_eq_getElem hi, Option.getD_some, e, e2] at this
    exact Nat.lt_of_le_of_lt this sm
  · obtain ⟨j, hj, e2⟩ := at_ hx
    have lg := sp.goal
    have := inv_sm h hb (i := m) (j := j) (by omega) (by omega)
    rw [en_goal, e2] at this
    exact Nat.lt_of_le_of_lt this sm
  · exact Nat.lt_of_le_of_lt (inv_den h hb) sm


end G

set_option Elab.async false
set_option linter.all false
set_option maxRecDepth 100000
set_option autoImplicit false
set_option maxHeartbeats 2000000
namespace G
open PySem PySem.Spec PyProof.Rows L2
local macro_rules
  | `(tactic| get_elem_tactic_trivial) => `(tactic| first
    | (with_reducible first
      | refine st_seqSet ?_ | refine st_seqAsg ?_ | refine st_seqDo ?_ | refine st_seqPar ?_ | refine st_seqPar3 ?_ | refine st_seqFor ?_ | refine st_seqWhile ?_ | refine st_seqAug ?_ | refine st_seqSkip ?_ | refine st_seqRet ?_
      | refine st_skip ?_ | refine st_ret ?_ | refine st_retN ?_ | refine st_do ?_ | refine st_if ?_ | refine st_set ?_ | refine st_asg ?_ | refine st_par ?_ | refine st_par3 ?_
      | refine st_c ?_ | refine st_op2 ?_ | refine st_op1 ?_ | refine st_test ?_ | refine st_tbl ?_ | refine st_and ?_ | refine st_or ?_ | refine st_not ?_ | refine st_andV ?_ | refine st_orV ?_ | refine st_notV ?_ | refine st_bl ?_
      | refine st_chain ?_ | refine st_ifE ?_ | refine st_nil ?_ | refine st_cons ?_ | refine st_call ?_ | refine st_fr ?_ | refine st_lv ?_ | refine st_one ?_ | refine st_two ?_
      | refine st_gN ?_ | refine st_lst ?_ | refine st_tup ?_ | refine st_slF ?_ | refine st_oNo ?_ | refine st_oS ?_ | refine st_enum ?_ | refine st_scr ?_ | refine st_list ?_ | refine st_it ?_ | refine st_comp ?_ | refine st_for ?_ | refine st_gIx ?_ | refine st_range1 ?_ | refine st_app ?_ | refine st_zip ?_ | refine st_rev1 ?_ | refine st_meth ?_ | refine st_isS ?_ | refine st_count ?_ | refine st_sl ?_ | refine st_slT ?_ | refine st_slL ?_ | refine st_max2 ?_ | refine st_min2 ?_
      | refine st_add ?_ | refine st_sub ?_ | refine st_int ?_ | refine st_neg ?_ | refine st_lt ?_ | refine st_le ?_ | refine st_gt ?_ | refine st_ge ?_ | refine st_eq ?_ | refine st_ne ?_ | refine st_eqB ?_ | refine st_neB ?_ | refine st_eqS ?_ | refine st_neS ?_ | refine st_isN ?_ | refine st_sorted ?_ | refine st_abs ?_ | refine st_isNotN ?_
      | refine br_t ?_ | refine br_f ?_)
    | ((with_reducible refine st_var (d := ?_) ?_ ?_); rotate_left; (exact rfl))
    | ((with_reducible refine st_isi2 (k := ?_) (b := true) ?_ ?_ ?_); rotate_left; (exact rfl); (exact rfl))
    | ((with_reducible refine st_isi2 (k := ?_) (b := false) ?_ ?_ ?_); rotate_left; (exact rfl); (exact rfl))
    | ((with_reducible refine st_ix (ds := ?_) (d := ?_) ?_ ?_ ?_); rotate_left 2; (first | exact rfl | exact seq_at (by assumption)); (exact rfl))
    | ((with_reducible refine st_len2 (ds := ?_) (n := ?_) ?_ ?_ ?_); rotate_left 2; (first | exact rfl | exact seq_at (by assumption)); (exact rfl))
    | ((with_reducible refine st_addLL (a := ?_) (b := ?_) ?_ ?_ ?_ ?_); rotate_left 2; (first | exact rfl | exact lst_at (by assumption)); (first | exact rfl | exact lst_at (by assumption)); (exact Nat.le_of_ble_eq_true rfl))
    | ((with_reducible refine st_pow ?_ ?_); (exact ⟨by decide, by decide, by decide⟩))
    | ((with_reducible refine st_mod ?_ ?_); (first | decide | omega))
    | ((with_reducible refine st_size ?_ ?_); (exact rfl))
    | ((with_reducible refine st_gT2 ?_ ?_); (exact rfl))
    | ((with_reducible refine st_gsC ?_))
    | ((with_reducible refine st_gsN ?_))
    | ((with_reducible refine st_mulS ?_ ?_ ?_); omega; omega)
    | ((with_reducible refine br_ct ?_ ?_); (exact rfl))
    | ((with_reducible refine br_cf ?_ ?_); (exact rfl))
    | (rw [list_tup])
    | (rw [list_lst])
    | (rw [items_tup])
    | (rw [items_lst])
    | ((refine st_listM (ds := ?_) ?_ ?_); rotate_left; (first | exact rfl | exact seq_at (by assumption)))
    | ((refine st_itM (it := ?_) ?_ ?_); rotate_left; (first | exact rfl | exact it_at (by assumption))))

/-! ### the exchanges end -/
theorem bas_lt {m : Nat} {A : Nat → Vec} {T : Tab} {i : Nat} (h : i < m) : bas m A T i = A (bs T i) := if_pos h
theorem bas_m {m : Nat} {A : Nat → Vec} {T : Tab} : bas m A T m = unitV m := if_neg (Nat.lt_irrefl m)
theorem cv_lt {n : Nat} {A : Nat → Vec} {b : Vec} {T : Tab} {j : Nat} (h : j < n) : cv n A b T j = A (cl T j) := if_pos h
theorem cv_n {n : Nat} {A : Nat → Vec} {b : Vec} {T : Tab} : cv n A b T n = b := if_neg (Nat.lt_irrefl n)
/-- a form on the vectors, laid on a column of a table -/
theorem psi_eqn {T : Tab} {m n j k : Nat} {A : Nat → Vec} {b : Vec} {M : Nat → Vec} (h : Inv T m n A b) (hj : j ≤ n) (hk : k < m + 1) : T.den * det (m + 1) (upd M k (cv n A b T j)) = sumN (m + 1) fun i => en m T i j * det (m + 1) (upd M k (bas m A T i)) := by
  rw [← det_sum hk]
  have a := det_lin (n := m + 1) (M := M) (i := k) T.den 0 (cv n A b T j) (fun _ => 0) hk
  simp only [Int.zero_mul, Int.add_zero] at a
  rw [← a]
  refine det_congr fun i hi t ht => ?_
  by_cases e : i = k
  · subst e
    rw [upd_at, upd_at, h.eqn j hj t ht]
  · rw [upd_ne e, upd_ne e]
/-- the form of a table: its goal row for all variables -/
structure Psi (T : Tab) (m n : Nat) (A : Nat → Vec) (b : Vec) (f : Vec → Int) : Prop where
  bas0 : ∀ i, i < m → f (A (bs T i)) = 0
  col : ∀ j, j < n → f (A (cl T j)) = en m T m j
  rhs : f b = en m T m n
  top : f (unitV m) = T.den
  lin : ∀ (T2 : Tab), Inv T2 m n A b → ∀ j, j ≤ n → T2.den * f (cv n A b T2 j) = sumN (m + 1) fun i => en m T2 i j * f (bas m A T2 i)
  gen : ∀ (k : Nat) (c : Nat → Int) (u : Nat → Vec), f (fun t => sumN k fun l => c l * u l t) = sumN k fun l => c l * f (u l)
  cong : ∀ u v : Vec, (∀ t, t < m + 1 → u t = v t) → f u = f v
theorem psi_of {T : Tab} {m n : Nat} {A : Nat → Vec} {b : Vec} (h : Inv T m n A b) : ∃ f, Psi T m n A b f := by
  obtain ⟨s, hs, hd⟩ := h.sig
  have ss : s * s = 1 := by rcases hs with e | e <;> rw [e] <;> rfl
  have d0 := h.d0
  have col : ∀ j, j ≤ n → s * det (m + 1) (upd (bas m A T) m (cv n A b T j)) = en m T m j := fun j hj => by
    have c1 := cramer (i := m) (h.eqn j hj) (by omega)
    refine Int.eq_of_mul_eq_mul_left (Int.ne_of_gt d0) ?_
    rw [hd] at c1
    grind
  refine ⟨fun u => s * det (m + 1) (upd (bas m A T) m u), fun i hi => ?_, fun j hj => ?_, ?_, ?_, fun T2 h2 j hj => ?_, fun k c u => ?_, fun u v e => ?_⟩
  · rw [det_dup (i := i) (j := m) (by omega) (by omega) (by omega) fun t ht => by rw [upd_ne (by omega), upd_at, bas_lt hi], Int.mul_zero]
  · rw [← cv_lt (A := A) (T := T) (b := b) hj]
    exact col j (by omega)
  · have := col n (Nat.le_refl _)
    rw [cv_n] at this
    exact this
  · rw [← bas_m (A := A) (T := T), upd_self, hd]
    grind
  · have := psi_eqn (M := bas m A T) h2 hj (k := m) (by omega)
    have e : T2.den * (s * det (m + 1) (upd (bas m A T) m (cv n A b T2 j))) = s * (T2.den * det (m + 1) (upd (bas m A T) m (cv n A b T2 j))) := by grind
    rw [e, this, ← sumN_mul]
    exact sumN_congr fun i hi => by grind
  · rw [det_sum (by omega), ← sumN_mul]
    exact sumN_congr fun i hi => by grind
  · congr 1
    refine det_congr fun i hi t ht => ?_
    by_cases z : i = m
    · subst z
      rw [upd_at, upd_at, e t ht]
    · rw [upd_ne z, upd_ne z]
theorem bland {T1 T2 : Tab} {m n c1 c2 r2 : Nat} {A : Nat → Vec} {b : Vec} (h1 : Inv T1 m n A b) (h2 : Inv T2 m n A b) (e1 : Enter T1 n c1) (e2 : Enter T2 n c2) (l2 : Leave T2 m n c2 r2) (same : cl T1 c1 = bs T2 r2) (hv : ∀ i j, i < m → j < n → bs T2 i = cl T1 j → bs T2 i ≤ bs T2 r2 ∧ en m T2 i n = 0) (hs : cl T2 c2 ≤ bs T2 r2) : False := by
  obtain ⟨f, F⟩ := psi_of h1
  have lin := F.lin T2 h2 c2 (by have := e2.1; omega)
  rw [cv_lt e2.1] at lin
  have d1 := h1.d0
  have d2 := h2.d0
  have r0 : en m T2 r2 n = 0 := (hv r2 c1 l2.1 e1.1 same.symm).2
  have g2 : en m T2 m c2 < 0 := by rw [en_goal]; exact e2.2.1
  have min1 : ∀ j, j < n → en m T1 m j < 0 → cl T1 c1 ≤ cl T1 j := fun j hj hg => e1.2.2 j hj (by rw [en_goal] at hg; exact hg)
  have g1 : en m T1 m c1 < 0 := by rw [en_goal]; exact e1.2.1
  have top : en m T2 m c2 * f (bas m A T2 m) < 0 := by
    rw [bas_m, F.top]
    exact Int.mul_neg_of_neg_of_pos g2 d1
  have pos : 0 ≤ f (A (cl T2 c2)) := by
    rcases h1.cov _ (h2.cl' c2 e2.1) with ⟨i, hi, e⟩ | ⟨j, hj, e⟩
    · rw [← e, F.bas0 i hi]
      exact Int.le_refl _
    · rw [← e, F.col j hj]
      by_cases z : 0 ≤ en m T1 m j
      · exact z
      · have := min1 j hj (by omega)
        exact absurd (show bs T2 r2 = cl T2 c2 by omega) (h2.bc r2 c2 l2.1 e2.1)
  have rest : sumN m (fun i => en m T2 i c2 * f (bas m A T2 i)) ≤ 0 := by
    have := sumN_le (n := m) (f := fun i => en m T2 i c2 * f (bas m A T2 i)) (g := fun _ => 0) fun i hi => by
      rw [bas_lt hi]
      rcases h1.cov _ (h2.bl i hi) with ⟨i', hi', e⟩ | ⟨j, hj, e⟩
      · rw [← e, F.bas0 i' hi', Int.mul_zero]
        exact Int.le_refl _
      · obtain ⟨v1, v2⟩ := hv i j hi hj e.symm
        rw [← e, F.col j hj]
        by_cases z : en m T1 m j < 0
        · have := min1 j hj z
          have ir : i = r2 := h2.bb i r2 hi l2.1 (by omega)
          have p := l2.2.1
          rw [← en_ent l2.1, ← ir] at p
          exact Int.le_of_lt (Int.mul_neg_of_pos_of_neg p z)
        · by_cases y : en m T2 i c2 ≤ 0
          · exact Int.mul_nonpos_of_nonpos_of_nonneg y (by omega)
          · have ne : bs T2 i ≠ bs T2 r2 := fun q => by
              have : j = c1 := h1.cc j c1 hj e1.1 (by omega)
              rw [this] at z
              exact z g1
            have mo := l2.2.2 i hi (by rw [← en_ent hi]; omega)
            unfold more at mo
            rw [← en_ent hi, ← en_ent hi, ← en_ent l2.1, ← en_ent l2.1, v2, r0] at mo
            simp only [Int.zero_mul, Bool.or_eq_false_iff, decide_eq_false_iff_not, Bool.and_eq_false_iff, decide_true, Bool.true_eq_false, false_or] at mo
            have : ¬ bs T2 i < bs T2 r2 := mo.2
            omega
    rw [sumN_zero (f := fun _ => 0) fun _ _ => rfl] at this
    exact this
  have l := Int.mul_nonneg (Int.le_of_lt d2) pos
  have e : sumN (m + 1) (fun i => en m T2 i c2 * f (bas m A T2 i)) = sumN m (fun i => en m T2 i c2 * f (bas m A T2 i)) + en m T2 m c2 * f (bas m A T2 m) := rfl
  omega
def Feas (m n : Nat) (T : Tab) : Prop := ∀ i, i < m → 0 ≤ en m T i n
theorem sg_pos {x : Int} (h : 0 < x) : sg x = 1 := if_neg (by omega)
theorem feas_exch {T : Tab} {m n r c : Nat} {A : Nat → Vec} {b : Vec} (h : Inv T m n A b) (f : Feas m n T) (hc : c < n) (l : Leave T m n c r) : Feas m n (exch T r c) := fun i hi => by
  have hr := l.1
  have p := l.2.1
  rw [← en_ent hr] at p
  by_cases e : i = r
  · subst e
    rw [exch_en h.shp hr hc (by omega) (Nat.le_refl _), sg_pos p, if_pos rfl, if_neg (by omega), Int.one_mul]
    exact f i hi
  · have q := exch_mul h hr hc (i := i) (j := n) (by omega) (Nat.le_refl _) e (by omega)
    rw [sg_pos p, Int.one_mul] at q
    have : 0 ≤ en m T i n * en m T r c - en m T i c * en m T r n := by
      by_cases z : 0 < en m T i c
      · have mo := l.2.2 i hi (by rw [← en_ent hi]; exact z)
        unfold more at mo
        rw [← en_ent hi, ← en_ent hi, ← en_ent hr, ← en_ent hr] at mo
        simp only [Bool.or_eq_false_iff, decide_eq_false_iff_not] at mo
        have := mo.1
        have : en m T r n * en m T i c = en m T i c * en m T r n := Int.mul_comm _ _
        omega
      · have a := Int.mul_nonneg (f i hi) (Int.le_of_lt p)
        have b := Int.mul_nonpos_of_nonpos_of_nonneg (show en m T i c ≤ 0 by omega) (f r hr)
        omega
    rw [← q] at this
    exact Int.nonneg_of_mul_nonneg_right this h.d0
/-- the value of the goal in steps of the smallest size -/
def phi (m n : Nat) (L : Int) (T : Tab) : Int := (en m T m n * L) / T.den
theorem goal_step {T : Tab} {m n r c : Nat} {A : Nat → Vec} {b : Vec} (h : Inv T m n A b) (hc : c < n) (hr : r < m) (p : 0 < en m T r c) : T.den * en m (exch T r c) m n = en m T m n * (exch T r c).den - en m T m c * en m T r n := by
  have q := exch_mul h hr hc (i := m) (j := n) (Nat.le_refl _) (Nat.le_refl _) (by omega) (by omega)
  rw [q, sg_pos p, Int.one_mul, exch_den hr]
  congr 2
  omega
theorem phi_mono {T : Tab} {m n r c : Nat} {A : Nat → Vec} {b : Vec} {M : Int} (h : Inv T m n A b) (h' : Inv (exch T r c) m n A b) (f : Feas m n T) (e : Enter T n c) (l : Leave T m n c r) (dM : T.den ≤ M) (dM' : (exch T r c).den ≤ M) : phi m n (M * M) T ≤ phi m n (M * M) (exch T r c) ∧ (0 < en m T r n → phi m n (M * M) T < phi m n (M * M) (exch T r c)) := by
  have hr := l.1
  have p := l.2.1
  rw [← en_ent hr] at p
  have g := goal_step h e.1 hr p
  have gc : en m T m c < 0 := by rw [en_goal]; exact e.2.1
  have d0 := h.d0
  have d0' := h'.d0
  have rn := f r hr
  unfold phi
  generalize en m (exch T r c) m n = G' at *
  generalize (exch T r c).den = D' at *
  generalize en m T m n = G at *
  generalize T.den = D at *
  generalize en m T m c = gcv at *
  generalize en m T r n = e at *
  have M0 : 0 ≤ M * M := Int.mul_nonneg (by omega) (by omega)
  have DM : D * D' ≤ M * M := Int.mul_le_mul dM dM' (by omega) (by omega)
  have q := Int.ediv_mul_le (G * (M * M)) (Int.ne_of_gt d0)
  generalize G * (M * M) / D = x at *
  have ge : 0 ≤ (- gcv) * e := Int.mul_nonneg (by omega) rn
  have q1 : x * D * D' ≤ G * (M * M) * D' := Int.mul_le_mul_of_nonneg_right q (by omega)
  constructor
  · refine Int.le_ediv_of_mul_le d0' ?_
    refine Int.le_of_mul_le_mul_left (a := D) ?_ d0
    have s1 : G * D' ≤ D * G' := by rw [g]; grind
    have s2 := Int.mul_le_mul_of_nonneg_right s1 M0
    grind
  · intro ep
    refine Int.add_one_le_iff.mp (Int.le_ediv_of_mul_le d0' ?_)
    refine Int.le_of_mul_le_mul_left (a := D) ?_ d0
    have ge1 : 0 < (- gcv) * e := Int.mul_pos (by omega) ep
    have s1 : G * D' + 1 ≤ D * G' := by rw [g]; grind
    have s2 := Int.mul_le_mul_of_nonneg_right s1 M0
    grind
theorem mono_stops {f : Nat → Int} {U : Int} (mo : ∀ k, f k ≤ f (k + 1)) (up : ∀ k, f k ≤ U) : ∃ N, ∀ k, N ≤ k → f (k + 1) = f k := by
  have le : ∀ a d, f a ≤ f (a + d) := fun a d => by
    induction d with
    | zero => exact Int.le_refl _
    | succ d ih => exact Int.le_trans ih (mo (a + d))
  have main : ∀ (d N : Nat), U - f N ≤ (d : Int) → ∃ N', ∀ k, N' ≤ k → f (k + 1) = f k := by
    intro d
    induction d with
    | zero =>
      intro N h
      refine ⟨N, fun k hk => ?_⟩
      have a := le N (k - N)
      rw [show N + (k - N) = k by omega] at a
      have b := mo k
      have c := up (k + 1)
      omega
    | succ d ih =>
      intro N h
      by_cases z : ∀ k, N ≤ k → f (k + 1) = f k
      · exact ⟨N, z⟩
      · obtain ⟨k, hk⟩ := Classical.not_forall.mp z
        obtain ⟨hk, ne⟩ := Classical.not_imp.mp hk
        have a := le N (k - N)
        rw [show N + (k - N) = k by omega] at a
        have b := mo k
        exact ih (k + 1) (by omega)
  exact main (U - f 0).toNat 0 (by omega)
/-- endless exchanges -/
structure Path (m n : Nat) (A : Nat → Vec) (b : Vec) (s : Nat → Tab) (c r : Nat → Nat) : Prop where
  inv : ∀ k, Inv (s k) m n A b
  feas : ∀ k, Feas m n (s k)
  ent : ∀ k, Enter (s k) n (c k)
  lv : ∀ k, Leave (s k) m n (c k) (r k)
  nx : ∀ k, s (k + 1) = exch (s k) (r k) (c k)
def Basic (m : Nat) (T : Tab) (v : Nat) : Prop := ∃ i, i < m ∧ bs T i = v
theorem basic_exch {T : Tab} {m n r c v : Nat} {A : Nat → Vec} {b : Vec} (h : Inv T m n A b) (hr : r < m) (hc : c < n) : Basic m (exch T r c) v ↔ v = cl T c ∨ (Basic m T v ∧ v ≠ bs T r) := by
  constructor
  · intro ⟨i, hi, e⟩
    rw [exch_bs h.shp hr] at e
    by_cases z : i = r
    · rw [if_pos z] at e
      exact .inl e.symm
    · rw [if_neg z] at e
      exact .inr ⟨⟨i, hi, e⟩, fun y => z (h.bb i r hi hr (e.trans y))⟩
  · intro e
    rcases e with e | ⟨⟨i, hi, e⟩, y⟩
    · exact ⟨r, hr, by rw [exch_bs h.shp hr, if_pos rfl, e]⟩
    · exact ⟨i, hi, by rw [exch_bs h.shp hr, if_neg fun z => y (by rw [← e, z])]; exact e⟩
def Zed (m n : Nat) (T : Tab) (v : Nat) : Prop := ∀ i, i < m → bs T i = v → en m T i n = 0
theorem zed_exch {T : Tab} {m n r c v : Nat} {A : Nat → Vec} {b : Vec} (h : Inv T m n A b) (hr : r < m) (hc : c < n) (p : en m T r c ≠ 0) (z0 : en m T r n = 0) : Zed m n (exch T r c) v ↔ Zed m n T v := by
  have d0 := h.d0
  have sn : sg (en m T r c) ≠ 0 := by unfold sg; split <;> decide
  have mul : ∀ i, i < m → i ≠ r → T.den * en m (exch T r c) i n = sg (en m T r c) * (en m T i n * en m T r c) := fun i hi ne => by
    rw [exch_mul h hr hc (i := i) (j := n) (by omega) (Nat.le_refl _) ne (by omega), z0, Int.mul_zero, Int.sub_zero]
  constructor
  · intro z i hi e
    by_cases y : i = r
    · rw [y]; exact z0
    · have a := z i hi (by rw [exch_bs h.shp hr, if_neg y]; exact e)
      have b := mul i hi y
      rw [a, Int.mul_zero] at b
      rcases Int.mul_eq_zero.mp b.symm with w | w
      · exact absurd w sn
      · rcases Int.mul_eq_zero.mp w with w | w
        · exact w
        · exact absurd w p
  · intro z i hi e
    by_cases y : i = r
    · subst y
      rw [exch_en h.shp hr hc (by omega) (Nat.le_refl _), if_pos rfl, if_neg (by omega), z0, Int.mul_zero]
    · rw [exch_bs h.shp hr, if_neg y] at e
      have b := mul i hi y
      rw [z i hi e, Int.zero_mul, Int.mul_zero] at b
      rcases Int.mul_eq_zero.mp b with w | w
      · omega
      · exact w
section
variable {m n : Nat} {A : Nat → Vec} {b : Vec} {s : Nat → Tab} {c r : Nat → Nat}
theorem Path.p0 (P : Path m n A b s c r) (k : Nat) : 0 < en m (s k) (r k) (c k) := by
  have := (P.lv k).2.1
  rw [← en_ent (P.lv k).1] at this
  exact this
theorem Path.zed (P : Path m n A b s c r) {N : Nat} (dg : ∀ k, N ≤ k → en m (s k) (r k) n = 0) (v d : Nat) : Zed m n (s (N + d)) v ↔ Zed m n (s N) v := by
  induction d with
  | zero => exact Iff.rfl
  | succ d ih =>
    rw [← ih, show N + (d + 1) = (N + d) + 1 from rfl, P.nx]
    exact zed_exch (P.inv _) (P.lv _).1 (P.ent _).1 (Int.ne_of_gt (P.p0 _)) (dg _ (by omega))
theorem Path.bas_same (P : Path m n A b s c r) {N t : Nat} (nm : ∀ k, N ≤ k → cl (s k) (c k) < t ∧ bs (s k) (r k) < t) (v d : Nat) (hv : t ≤ v) : Basic m (s (N + d)) v ↔ Basic m (s N) v := by
  induction d with
  | zero => exact Iff.rfl
  | succ d ih =>
    rw [← ih, show N + (d + 1) = (N + d) + 1 from rfl, P.nx, basic_exch (P.inv _) (P.lv _).1 (P.ent _).1]
    have := nm (N + d) (by omega)
    constructor
    · rintro (e | e)
      · omega
      · exact e.1
    · exact fun e => .inr ⟨e, by omega⟩
theorem Path.none (P : Path m n A b s c r) : ∀ (t N : Nat), (∀ k, N ≤ k → en m (s k) (r k) n = 0) → (∀ k, N ≤ k → cl (s k) (c k) < t ∧ bs (s k) (r k) < t) → False
  | 0, N, _, nm => by have := nm N (Nat.le_refl _); omega
  | t + 1, N, dg, nm => by
    have later : ∀ N', N ≤ N' → (∀ k, N' ≤ k → cl (s k) (c k) ≠ t ∧ bs (s k) (r k) ≠ t) → False := fun N' hN h => P.none t N' (fun k hk => dg k (by omega)) fun k hk => by
      have a := nm k (by omega)
      have b := h k hk
      omega
    have lb : ∀ k, Basic m (s k) (bs (s k) (r k)) := fun k => ⟨r k, (P.lv k).1, rfl⟩
    have nb : ∀ k, ¬ Basic m (s k) (cl (s k) (c k)) := fun k ⟨i, hi, e⟩ => (P.inv k).bc i (c k) hi (P.ent k).1 e
    by_cases x : ∃ k, N ≤ k ∧ cl (s k) (c k) = t
    · obtain ⟨k, hk, ek⟩ := x
      by_cases y : ∃ l, N ≤ l ∧ bs (s l) (r l) = t
      · obtain ⟨l, hl, el⟩ := y
        refine bland (P.inv k) (P.inv l) (P.ent k) (P.ent l) (P.lv l) (by omega) (fun i j hi hj e => ⟨?_, ?_⟩) ?_
        · rw [el]
          by_cases z : bs (s l) i ≤ t
          · exact z
          · have a := (P.bas_same nm (bs (s l) i) (l - N) (by omega))
            have b := (P.bas_same nm (bs (s l) i) (k - N) (by omega))
            rw [show N + (l - N) = l by omega] at a
            rw [show N + (k - N) = k by omega] at b
            obtain ⟨i', hi', e'⟩ := b.mpr (a.mp ⟨i, hi, rfl⟩)
            exact absurd (e'.trans e) ((P.inv k).bc i' j hi' hj)
        · have a := P.zed dg (bs (s l) i) (l - N)
          have b := P.zed dg (bs (s l) i) (k - N)
          rw [show N + (l - N) = l by omega] at a
          rw [show N + (k - N) = k by omega] at b
          exact a.mpr (b.mp fun i' hi' e' => absurd (e'.trans e) ((P.inv k).bc i' j hi' hj)) i hi rfl
        · have := (nm l hl).1
          omega
      · have nl : ∀ l, N ≤ l → bs (s l) (r l) ≠ t := fun l hl e => y ⟨l, hl, e⟩
        have bb : ∀ d, Basic m (s (k + 1 + d)) t := fun d => by
          induction d with
          | zero =>
            show Basic m (s (k + 1)) t
            rw [P.nx, basic_exch (P.inv _) (P.lv _).1 (P.ent _).1]
            exact .inl ek.symm
          | succ d ih =>
            show Basic m (s (k + 1 + d + 1)) t
            rw [P.nx, basic_exch (P.inv _) (P.lv _).1 (P.ent _).1]
            exact .inr ⟨ih, fun z => nl _ (by omega) z.symm⟩
        refine later (k + 1) (by omega) fun j hj => ⟨fun z => ?_, nl j (by omega)⟩
        have := bb (j - (k + 1))
        rw [show k + 1 + (j - (k + 1)) = j by omega, ← z] at this
        exact nb j this
    · have ne : ∀ k, N ≤ k → cl (s k) (c k) ≠ t := fun k hk e => x ⟨k, hk, e⟩
      by_cases y : ∃ l, N ≤ l ∧ bs (s l) (r l) = t
      · obtain ⟨l, hl, el⟩ := y
        have bb : ∀ d, ¬ Basic m (s (l + 1 + d)) t := fun d => by
          induction d with
          | zero =>
            show ¬ Basic m (s (l + 1)) t
            rw [P.nx, basic_exch (P.inv _) (P.lv _).1 (P.ent _).1]
            rintro (z | z)
            · exact ne l hl z.symm
            · exact z.2 el.symm
          | succ d ih =>
            show ¬ Basic m (s (l + 1 + d + 1)) t
            rw [P.nx, basic_exch (P.inv _) (P.lv _).1 (P.ent _).1]
            rintro (z | z)
            · exact ne _ (by omega) z.symm
            · exact ih z.1
        refine later (l + 1) (by omega) fun j hj => ⟨ne j (by omega), fun z => ?_⟩
        have := bb (j - (l + 1))
        rw [show l + 1 + (j - (l + 1)) = j by omega, ← z] at this
        exact this (lb j)
      · exact later N (Nat.le_refl _) fun j hj => ⟨ne j hj, fun e => y ⟨j, hj, e⟩⟩
theorem Path.false {W : Nat} (P : Path m n A b s c r) (hb : Bnd m n A b W) : False := by
  have dM : ∀ k, (s k).den ≤ ((W : Nat) : Int) := fun k => by
    have := inv_den (P.inv k) hb
    have := (P.inv k).d0
    omega
  have gM : ∀ k, en m (s k) m n ≤ ((W : Nat) : Int) := fun k => by
    have := inv_sm (P.inv k) hb (i := m) (j := n) (Nat.le_refl _) (Nat.le_refl _)
    omega
  generalize ((W : Nat) : Int) = M at *
  have M0 : 0 ≤ M := by
    have a := dM 0
    have b := (P.inv 0).d0
    omega
  have MM : 0 ≤ M * M := Int.mul_nonneg M0 M0
  have st : ∀ k, _ := fun k => phi_mono (M := M) (P.inv k) (by rw [← P.nx]; exact P.inv (k + 1)) (P.feas k) (P.ent k) (P.lv k) (dM k) (by rw [← P.nx]; exact dM (k + 1))
  have up : ∀ k, phi m n (M * M) (s k) ≤ M * (M * M) := fun k => by
    unfold phi
    have d0 := (P.inv k).d0
    have a := Int.mul_le_mul_of_nonneg_right (gM k) MM
    refine Int.ediv_le_of_le_mul d0 (Int.le_trans a ?_)
    have := Int.mul_le_mul_of_nonneg_left (show (1 : Int) ≤ (s k).den by omega) (Int.mul_nonneg M0 MM)
    omega
  obtain ⟨N, hN⟩ := mono_stops (f := fun k => phi m n (M * M) (s k)) (fun k => by
    rw [P.nx]
    exact (st k).1) up
  refine P.none (n + m) N (fun k hk => ?_) fun k hk => ⟨(P.inv k).cl' _ (P.ent k).1, (P.inv k).bl _ (P.lv k).1⟩
  by_cases z : 0 < en m (s k) (r k) n
  · have a := (st k).2 z
    have b := hN k hk
    rw [P.nx] at b
    omega
  · have := P.feas k (r k) (P.lv k).1
    omega
end
theorem Run.succ {m n : Nat} {P : Tab → Prop} : ∀ {k : Nat} {T : Tab}, Run m n P k T → Run m n P (k + 1) T
  | 0, _, h => h.elim
  | k + 1, T, h => ⟨h.1, h.2.1, fun c hc => ⟨(h.2.2 c hc).1, fun r hr => ((h.2.2 c hc).2 r hr).succ⟩⟩
theorem Run.add {m n k : Nat} {P : Tab → Prop} {T : Tab} (h : Run m n P k T) (d : Nat) : Run m n P (k + d) T := by
  induction d with
  | zero => exact h
  | succ d ih => exact ih.succ
theorem bounded_ex {Q : Nat → Nat → Prop} (mo : ∀ x k d, Q x k → Q x (k + d)) : ∀ n, (∀ x, x < n → ∃ k, Q x k) → ∃ K, ∀ x, x < n → Q x K
  | 0, _ => ⟨0, fun x hx => by omega⟩
  | n + 1, h => by
    obtain ⟨K, hK⟩ := bounded_ex mo n fun x hx => h x (by omega)
    obtain ⟨k, hk⟩ := h n (by omega)
    refine ⟨K + k, fun x hx => ?_⟩
    by_cases e : x = n
    · subst e
      rw [Nat.add_comm]
      exact mo x k K hk
    · exact mo x K k (hK x (by omega))
/-- where the exchanges end -/
structure Opt (m n : Nat) (A : Nat → Vec) (b : Vec) (T : Tab) : Prop where
  inv : Inv T m n A b
  feas : Feas m n T
  opt : ∀ c, c < n → 0 ≤ en m T m c
theorem run_ex {m n W : Nat} {A : Nat → Vec} {b : Vec} (hb : Bnd m n A b W) (pos : ∀ T, Inv T m n A b → ∀ c, c < n → en m T m c < 0 → ∃ r, r < m ∧ 0 < en m T r c) {T : Tab} (h : Inv T m n A b) (f : Feas m n T) : ∃ k, Run m n (Opt m n A b) k T := by
  refine Classical.byContradiction fun no => ?_
  let Bad : Tab → Prop := fun T => Inv T m n A b ∧ Feas m n T ∧ ∀ k, ¬ Run m n (Opt m n A b) k T
  have step : ∀ T, Bad T → ∃ c r, Enter T n c ∧ Leave T m n c r ∧ Bad (exch T r c) := fun T ⟨hi, hf, hn⟩ => by
    refine Classical.byContradiction fun no2 => ?_
    have all : ∀ c, c < n → ∀ r, r < m → ∃ k, Enter T n c → Leave T m n c r → Run m n (Opt m n A b) k (exch T r c) := fun c hc r hr => by
      by_cases e : Enter T n c
      · by_cases l : Leave T m n c r
        · have p := l.2.1
          rw [← en_ent hr] at p
          have bi := inv_exch hi hr hc (Int.ne_of_gt p)
          have bf := feas_exch hi hf hc l
          refine Classical.byContradiction fun no3 => no2 ⟨c, r, e, l, bi, bf, fun k hk => no3 ⟨k, fun _ _ => hk⟩⟩
        · exact ⟨0, fun _ z => absurd z l⟩
      · exact ⟨0, fun z => absurd z e⟩
    have all2 : ∀ c, c < n → ∃ K, ∀ r, r < m → Enter T n c → Leave T m n c r → Run m n (Opt m n A b) K (exch T r c) := fun c hc => bounded_ex (Q := fun r K => Enter T n c → Leave T m n c r → Run m n (Opt m n A b) K (exch T r c)) (fun r k d q a b => (q a b).add d) m (all c hc)
    obtain ⟨K, hK⟩ := bounded_ex (Q := fun c K => ∀ r, r < m → Enter T n c → Leave T m n c r → Run m n (Opt m n A b) K (exch T r c)) (fun c k d q r hr a b => (q r hr a b).add d) n all2
    refine hn (K + 1) ⟨inv_ok hi hb, fun z => ⟨hi, hf, fun c hc => by rw [en_goal]; exact z c hc⟩, fun c hc => ⟨?_, fun r hr => hK c hc.1 r hr.1 hc hr⟩⟩
    obtain ⟨r, hr, hp⟩ := pos T hi c hc.1 (by rw [en_goal]; exact hc.2.1)
    exact ⟨r, hr, by rw [← en_ent hr]; exact hp⟩
  have st0 : Bad T := ⟨h, f, fun k hk => no ⟨k, hk⟩⟩
  let nxt : {T // Bad T} → {T // Bad T} := fun x => ⟨exch x.1 (Classical.choose (Classical.choose_spec (step x.1 x.2))) (Classical.choose (step x.1 x.2)), (Classical.choose_spec (Classical.choose_spec (step x.1 x.2))).2.2⟩
  let s : Nat → {T // Bad T} := fun k => Nat.rec ⟨T, st0⟩ (fun _ x => nxt x) k
  refine Path.false (s := fun k => (s k).1) (c := fun k => Classical.choose (step (s k).1 (s k).2)) (r := fun k => Classical.choose (Classical.choose_spec (step (s k).1 (s k).2))) ⟨fun k => (s k).2.1, fun k => (s k).2.2.1, fun k => (Classical.choose_spec (Classical.choose_spec (step (s k).1 (s k).2))).1, fun k => (Classical.choose_spec (Classical.choose_spec (step (s k).1 (s k).2))).2.1, fun k => rfl⟩ hb
/-- a form that bounds the goal -/
structure Cap (m n : Nat) (A : Nat → Vec) (y : Vec) : Prop where
  top : y m = 1
  nn : ∀ v, v < n + m → 0 ≤ sumN (m + 1) fun t => y t * A v t
theorem cap_pos {m n : Nat} {A : Nat → Vec} {b : Vec} {y : Vec} (cap : Cap m n A y) {T : Tab} (h : Inv T m n A b) {c : Nat} (hc : c < n) (hg : en m T m c < 0) : ∃ r, r < m ∧ 0 < en m T r c := by
  refine Classical.byContradiction fun no => ?_
  have le : ∀ r, r < m → en m T r c ≤ 0 := fun r hr => by
    by_cases z : en m T r c ≤ 0
    · exact z
    · exact absurd ⟨r, hr, by omega⟩ no
  have e : T.den * sumN (m + 1) (fun t => y t * A (cl T c) t) = sumN (m + 1) fun i => en m T i c * sumN (m + 1) fun t => y t * bas m A T i t := by
    have e1 : ∀ i, i < m + 1 → (en m T i c * sumN (m + 1) fun t => y t * bas m A T i t) = sumN (m + 1) fun t => y t * (en m T i c * bas m A T i t) := fun i hi => by
      rw [← sumN_mul]
      exact sumN_congr fun t ht => by grind
    rw [sumN_congr e1, sumN_comm, ← sumN_mul]
    refine sumN_congr fun t ht => ?_
    have := h.eqn c (by omega) t ht
    rw [cv_lt hc] at this
    rw [sumN_mul, ← this]
    grind
  have top : sumN (m + 1) (fun t => y t * bas m A T m t) = 1 := by
    rw [bas_m, sumN_one (k := m) (by omega) fun i hi ne => by unfold unitV; rw [if_neg ne, Int.mul_zero]]
    unfold unitV
    rw [if_pos rfl, cap.top]
    rfl
  have rest : sumN m (fun i => en m T i c * sumN (m + 1) fun t => y t * bas m A T i t) ≤ 0 := by
    have := sumN_le (n := m) (f := fun i => en m T i c * sumN (m + 1) fun t => y t * bas m A T i t) (g := fun _ => 0) fun i hi => by
      rw [bas_lt hi]
      exact Int.mul_nonpos_of_nonpos_of_nonneg (le i hi) (cap.nn _ (h.bl i hi))
    rw [sumN_zero (f := fun _ => 0) fun _ _ => rfl] at this
    exact this
  have l := Int.mul_nonneg (Int.le_of_lt h.d0) (cap.nn _ (h.cl' c hc))
  rw [e] at l
  have e2 : sumN (m + 1) (fun i => en m T i c * sumN (m + 1) fun t => y t * bas m A T i t) = sumN m (fun i => en m T i c * sumN (m + 1) fun t => y t * bas m A T i t) + en m T m c * sumN (m + 1) (fun t => y t * bas m A T m t) := rfl
  rw [e2, top] at l
  omega


end G

set_option Elab.async false
set_option linter.all false
set_option maxRecDepth 100000
set_option autoImplicit false
set_option maxHeartbeats 2000000
namespace G
open PySem PySem.Spec PyProof.Rows L2
local macro_rules
  | `(tactic| get_elem_tactic_trivial) => `(tactic| first
    | (with_reducible first
      | refine st_seqSet ?_ | refine st_seqAsg ?_ | refine st_seqDo ?_ | refine st_seqPar ?_ | refine st_seqPar3 ?_ | refine st_seqFor ?_ | refine st_seqWhile ?_ | refine st_seqAug ?_ | refine st_seqSkip ?_ | refine st_seqRet ?_
      | refine st_skip ?_ | refine st_ret ?_ | refine st_retN ?_ | refine st_do ?_ | refine st_if ?_ | refine st_set ?_ | refine st_asg ?_ | refine st_par ?_ | refine st_par3 ?_
      | refine st_c ?_ | refine st_op2 ?_ | refine st_op1 ?_ | refine st_test ?_ | refine st_tbl ?_ | refine st_and ?_ | refine st_or ?_ | refine st_not ?_ | refine st_andV ?_ | refine st_orV ?_ | refine st_notV ?_ | refine st_bl ?_
      | refine st_chain ?_ | refine st_ifE ?_ | refine st_nil ?_ | refine st_cons ?_ | refine st_call ?_ | refine st_fr ?_ | refine st_lv ?_ | refine st_one ?_ | refine st_two ?_
      | refine st_gN ?_ | refine st_lst ?_ | refine st_tup ?_ | refine st_slF ?_ | refine st_oNo ?_ | refine st_oS ?_ | refine st_enum ?_ | refine st_scr ?_ | refine st_list ?_ | refine st_it ?_ | refine st_comp ?_ | refine st_for ?_ | refine st_gIx ?_ | refine st_range1 ?_ | refine st_app ?_ | refine st_zip ?_ | refine st_rev1 ?_ | refine st_meth ?_ | refine st_isS ?_ | refine st_count ?_ | refine st_sl ?_ | refine st_slT ?_ | refine st_slL ?_ | refine st_max2 ?_ | refine st_min2 ?_
      | refine st_add ?_ | refine st_sub ?_ | refine st_int ?_ | refine st_neg ?_ | refine st_lt ?_ | refine st_le ?_ | refine st_gt ?_ | refine st_ge ?_ | refine st_eq ?_ | refine st_ne ?_ | refine st_eqB ?_ | refine st_neB ?_ | refine st_eqS ?_ | refine st_neS ?_ | refine st_isN ?_ | refine st_sorted ?_ | refine st_abs ?_ | refine st_isNotN ?_
      | refine br_t ?_ | refine br_f ?_)
    | ((with_reducible refine st_var (d := ?_) ?_ ?_); rotate_left; (exact rfl))
    | ((with_reducible refine st_isi2 (k := ?_) (b := true) ?_ ?_ ?_); rotate_left; (exact rfl); (exact rfl))
    | ((with_reducible refine st_isi2 (k := ?_) (b := false) ?_ ?_ ?_); rotate_left; (exact rfl); (exact rfl))
    | ((with_reducible refine st_ix (ds := ?_) (d := ?_) ?_ ?_ ?_); rotate_left 2; (first | exact rfl | exact seq_at (by assumption)); (exact rfl))
    | ((with_reducible refine st_len2 (ds := ?_) (n := ?_) ?_ ?_ ?_); rotate_left 2; (first | exact rfl | exact seq_at (by assumption)); (exact rfl))
    | ((with_reducible refine st_addLL (a := ?_) (b := ?_) ?_ ?_ ?_ ?_); rotate_left 2; (first | exact rfl | exact lst_at (by assumption)); (first | exact rfl | exact lst_at (by assumption)); (exact Nat.le_of_ble_eq_true rfl))
    | ((with_reducible refine st_pow ?_ ?_); (exact ⟨by decide, by decide, by decide⟩))
    | ((with_reducible refine st_mod ?_ ?_); (first | decide | omega))
    | ((with_reducible refine st_size ?_ ?_); (exact rfl))
    | ((with_reducible refine st_gT2 ?_ ?_); (exact rfl))
    | ((with_reducible refine st_gsC ?_))
    | ((with_reducible refine st_gsN ?_))
    | ((with_reducible refine st_mulS ?_ ?_ ?_); omega; omega)
    | ((with_reducible refine br_ct ?_ ?_); (exact rfl))
    | ((with_reducible refine br_cf ?_ ?_); (exact rfl))
    | (rw [list_tup])
    | (rw [list_lst])
    | (rw [items_tup])
    | (rw [items_lst])
    | ((refine st_listM (ds := ?_) ?_ ?_); rotate_left; (first | exact rfl | exact seq_at (by assumption)))
    | ((refine st_itM (it := ?_) ?_ ?_); rotate_left; (first | exact rfl | exact it_at (by assumption))))

/-! ### one end only -/
theorem enter_one {T : Tab} {m n c c' : Nat} {A : Nat → Vec} {b : Vec} (h : Inv T m n A b) (e : Enter T n c) (e' : Enter T n c') : c = c' := by
  have a := e.2.2 c' e'.1 e'.2.1
  have b := e'.2.2 c e.1 e.2.1
  exact h.cc c c' e.1 e'.1 (Nat.le_antisymm a b)
theorem leave_one {T : Tab} {m n c r r' : Nat} {A : Nat → Vec} {b : Vec} (h : Inv T m n A b) (l : Leave T m n c r) (l' : Leave T m n c r') : r = r' := by
  have a := l.2.2 r' l'.1 l'.2.1
  have b := l'.2.2 r l.1 l.2.1
  unfold more at a b
  simp only [Bool.or_eq_false_iff, decide_eq_false_iff_not, Bool.and_eq_false_iff] at a b
  refine h.bb r r' l.1 l'.1 ?_
  unfold bs
  omega
/-- the exchanges from a table end at one table -/
theorem run_det {m n : Nat} {P : Tab → Prop} {A : Nat → Vec} {b : Vec} : ∀ {k : Nat} {T : Tab}, Inv T m n A b → Run m n P k T → ∃ E, Run m n (fun T' => T' = E ∧ P T') k T
  | 0, _, _, h => h.elim
  | k + 1, T, hi, h => by
    by_cases e : ∃ c, Enter T n c
    · obtain ⟨c, hc⟩ := e
      have no : ¬ ∀ c, c < n → 0 ≤ T.goal.getD c 0 := fun z => by
        have := z c hc.1
        have := hc.2.1
        omega
      by_cases l : ∃ r, Leave T m n c r
      · obtain ⟨r, hr⟩ := l
        have p := hr.2.1
        rw [← en_ent hr.1] at p
        obtain ⟨E, hE⟩ := run_det (inv_exch hi hr.1 hc.1 (Int.ne_of_gt p)) ((h.2.2 c hc).2 r hr)
        refine ⟨E, h.1, fun z => absurd z no, fun c' hc' => ⟨(h.2.2 c' hc').1, fun r' hr' => ?_⟩⟩
        have ec := enter_one hi hc hc'
        subst ec
        have er := leave_one hi hr hr'
        subst er
        exact hE
      · refine ⟨T, h.1, fun z => absurd z no, fun c' hc' => ⟨(h.2.2 c' hc').1, fun r' hr' => ?_⟩⟩
        have ec := enter_one hi hc hc'
        subst ec
        exact absurd ⟨r', hr'⟩ l
    · refine ⟨T, h.1, fun z => ⟨rfl, h.2.1 z⟩, fun c' hc' => absurd ⟨c', hc'⟩ e⟩


end G

set_option Elab.async false
set_option linter.all false
set_option maxRecDepth 100000
set_option autoImplicit false
set_option maxHeartbeats 2000000
namespace G
open PySem PySem.Spec PyProof.Rows L2
local macro_rules
  | `(tactic| get_elem_tactic_trivial) => `(tactic| first
    | (with_reducible first
      | refine st_seqSet ?_ | refine st_seqAsg ?_ | refine st_seqDo ?_ | refine st_seqPar ?_ | refine st_seqPar3 ?_ | refine st_seqFor ?_ | refine st_seqWhile ?_ | refine st_seqAug ?_ | refine st_seqSkip ?_ | refine st_seqRet ?_
      | refine st_skip ?_ | refine st_ret ?_ | refine st_retN ?_ | refine st_do ?_ | refine st_if ?_ | refine st_set ?_ | refine st_asg ?_ | refine st_par ?_ | refine st_par3 ?_
      | refine st_c ?_ | refine st_op2 ?_ | refine st_op1 ?_ | refine st_test ?_ | refine st_tbl ?_ | refine st_and ?_ | refine st_or ?_ | refine st_not ?_ | refine st_andV ?_ | refine st_orV ?_ | refine st_notV ?_ | refine st_bl ?_
      | refine st_chain ?_ | refine st_ifE ?_ | refine st_nil ?_ | refine st_cons ?_ | refine st_call ?_ | refine st_fr ?_ | refine st_lv ?_ | refine st_one ?_ | refine st_two ?_
      | refine st_gN ?_ | refine st_lst ?_ | refine st_tup ?_ | refine st_slF ?_ | refine st_oNo ?_ | refine st_oS ?_ | refine st_enum ?_ | refine st_scr ?_ | refine st_list ?_ | refine st_it ?_ | refine st_comp ?_ | refine st_for ?_ | refine st_gIx ?_ | refine st_range1 ?_ | refine st_app ?_ | refine st_zip ?_ | refine st_rev1 ?_ | refine st_meth ?_ | refine st_isS ?_ | refine st_count ?_ | refine st_sl ?_ | refine st_slT ?_ | refine st_slL ?_ | refine st_max2 ?_ | refine st_min2 ?_
      | refine st_add ?_ | refine st_sub ?_ | refine st_int ?_ | refine st_neg ?_ | refine st_lt ?_ | refine st_le ?_ | refine st_gt ?_ | refine st_ge ?_ | refine st_eq ?_ | refine st_ne ?_ | refine st_eqB ?_ | refine st_neB ?_ | refine st_eqS ?_ | refine st_neS ?_ | refine st_isN ?_ | refine st_sorted ?_ | refine st_abs ?_ | refine st_isNotN ?_
      | refine br_t ?_ | refine br_f ?_)
    | ((with_reducible refine st_var (d := ?_) ?_ ?_); rotate_left; (exact rfl))
    | ((with_reducible refine st_isi2 (k := ?_) (b := true) ?_ ?_ ?_); rotate_left; (exact rfl); (exact rfl))
    | ((with_reducible refine st_isi2 (k := ?_) (b := false) ?_ ?_ ?_); rotate_left; (exact rfl); (exact rfl))
    | ((with_reducible refine st_ix (ds := ?_) (d := ?_) ?_ ?_ ?_); rotate_left 2; (first | exact rfl | exact seq_at (by assumption)); (exact rfl))
    | ((with_reducible refine st_len2 (ds := ?_) (n := ?_) ?_ ?_ ?_); rotate_left 2; (first | exact rfl | exact seq_at (by assumption)); (exact rfl))
    | ((with_reducible refine st_addLL (a := ?_) (b := ?_) ?_ ?_ ?_ ?_); rotate_left 2; (first | exact rfl | exact lst_at (by assumption)); (first | exact rfl | exact lst_at (by assumption)); (exact Nat.le_of_ble_eq_true rfl))
    | ((with_reducible refine st_pow ?_ ?_); (exact ⟨by decide, by decide, by decide⟩))
    | ((with_reducible refine st_mod ?_ ?_); (first | decide | omega))
    | ((with_reducible refine st_size ?_ ?_); (exact rfl))
    | ((with_reducible refine st_gT2 ?_ ?_); (exact rfl))
    | ((with_reducible refine st_gsC ?_))
    | ((with_reducible refine st_gsN ?_))
    | ((with_reducible refine st_mulS ?_ ?_ ?_); omega; omega)
    | ((with_reducible refine br_ct ?_ ?_); (exact rfl))
    | ((with_reducible refine br_cf ?_ ?_); (exact rfl))
    | (rw [list_tup])
    | (rw [list_lst])
    | (rw [items_tup])
    | (rw [items_lst])
    | ((refine st_listM (ds := ?_) ?_ ?_); rotate_left; (first | exact rfl | exact seq_at (by assumption)))
    | ((refine st_itM (it := ?_) ?_ ?_); rotate_left; (first | exact rfl | exact it_at (by assumption))))

local macro_rules
  | `(tactic| get_elem_tactic_trivial) => `(tactic| first
    | (with_reducible refine st_fld ?_)
    | (with_reducible refine st_mt ?_)
    | (with_reducible refine st_gFld ?_)
    | (with_reducible refine st_lix ?_)
    | (with_reducible refine st_rep ?_)
    | (with_reducible refine st_cat ?_)
    | (with_reducible refine st_lrng ?_)
    | (with_reducible refine st_frz ?_)
    | ((with_reducible refine fld_size (T := ?_) (pc := ?_) (pb := ?_) ?_ ?_); rotate_left 3; (assumption))
    | ((with_reducible refine fld_rows (T := ?_) (pc := ?_) (pb := ?_) ?_ ?_); rotate_left 3; (assumption))
    | ((with_reducible refine fld_goal (T := ?_) (pc := ?_) (pb := ?_) ?_ ?_); rotate_left 3; (assumption))
    | ((with_reducible refine fld_cols (T := ?_) (pc := ?_) (pb := ?_) ?_ ?_); rotate_left 3; (assumption))
    | ((with_reducible refine fld_basis (T := ?_) (pc := ?_) (pb := ?_) ?_ ?_); rotate_left 3; (assumption))
    | ((with_reducible refine fld_den (T := ?_) (pc := ?_) (pb := ?_) ?_ ?_); rotate_left 3; (assumption))
    | ((with_reducible refine mt_go (T := ?_) (pc := ?_) (pb := ?_) ?_ ?_ ?_); rotate_left 3; (assumption); (exact rfl)))

/-! ### a new table, what is read of one -/
def tab0 (rows : List (List Int)) (bounds goal : List Int) : Tab :=
  { size := goal.length, rows := (List.zip rows bounds).map fun q => q.1 ++ [q.2], goal := goal.map (fun x => 0 - x) ++ [0], cols := List.range goal.length, basis := (List.range rows.length).map (goal.length + ·), den := 1 }
theorem zipD_rows : ∀ (a : List (List Int)) (b : List Int), zipD (a.map rowD) (b.map D.int) = (List.zip a b).map fun q => .tup [rowD q.1, .int q.2]
  | [], b => by cases b <;> rfl
  | _ :: _, [] => rfl
  | x :: a, y :: b => by
    show D.tup [rowD x, .int y] :: zipD (a.map rowD) (b.map D.int) = _
    rw [zipD_rows a b]
    rfl
theorem sp_init {Fr : PySem.W.Frag} {p : Addr} {rows : List (List Int)} {bounds goal : List Int} {S : Sto} {K : KE} (hp : S p = some (.obj (He.ga Fr "Table") [])) (hb : rows.length = bounds.length) (hm : rows.length ≤ 900) (hn : goal.length ≤ 900) (hr : ∀ r, r ∈ rows → r.length ≤ 1000) (h : ∀ pc pb S', S pc = none → S pb = none → TabAt Fr S' p pc pb (tab0 rows bounds goal) → (∀ b, b ≠ p → S b ≠ none → S' b = S b) → K .non S') : c_Table_init Fr [.cell p, .lst (rows.map rowD), rowD bounds, rowD goal] S K := by
  unfold rowD
  refine st_def rfl ?_
  unfold w_Table_init
  repeat get_elem_tactic_trivial
  try dsimp only [List.set_cons_succ, List.set_cons_zero]
  rw [List.length_map]
  refine ⟨p, _, _, rfl, hp, List.mem_singleton.mpr rfl, by decide, ?_⟩
  repeat get_elem_tactic_trivial
  try dsimp only [List.set_cons_succ, List.set_cons_zero]
  refine ⟨_, _, rfl, rfl, fun _ => by rw [List.length_map, List.length_map, hb], ?_⟩
  have ez := zipD_rows rows bounds
  unfold rowD at ez
  rw [ez]
  refine comp_mapL (List.zip rows bounds) (fun q => .tup [.lst (q.1.map D.int), .int q.2]) (fun q => .lst ((q.1 ++ [q.2]).map D.int)) ⟨trivial, trivial⟩ (by rw [List.length_zip]; unfold sizeLine; omega) (fun q hq K1 F1 k => ?_) ?_
  · have := hr _ (List.of_mem_zip hq).1
    repeat get_elem_tactic_trivial
    try dsimp only [List.set_cons_succ, List.set_cons_zero]
    refine st_addLL (a := q.1.map D.int) (b := [.int q.2]) rfl rfl (by rw [List.length_map]; simp only [List.length_singleton]; unfold sizeLine; omega) ?_
    rw [List.map_append] at k
    exact k
  repeat get_elem_tactic_trivial
  try dsimp only [List.set_cons_succ, List.set_cons_zero]
  refine ⟨p, _, _, rfl, Sto.set_same, List.mem_singleton.mpr rfl, by show (1 : Nat) < 1000; decide, ?_⟩
  rw [Sto.set_set]
  repeat get_elem_tactic_trivial
  try dsimp only [List.set_cons_succ, List.set_cons_zero]
  refine comp_mapL goal D.int (fun x => D.int (0 - x)) trivial (by unfold sizeLine; omega) (fun x hx K1 F1 k => ?_) ?_
  · repeat get_elem_tactic_trivial
    try dsimp only [List.set_cons_succ, List.set_cons_zero]
    exact k
  repeat get_elem_tactic_trivial
  try dsimp only [List.set_cons_succ, List.set_cons_zero]
  refine st_addLL (a := goal.map fun x => D.int (0 - x)) (b := [.int 0]) rfl rfl (by rw [List.length_map]; simp only [List.length_singleton]; unfold sizeLine; omega) ?_
  repeat get_elem_tactic_trivial
  try dsimp only [List.set_cons_succ, List.set_cons_zero]
  refine ⟨p, _, _, rfl, Sto.set_same, List.mem_singleton.mpr rfl, by show (2 : Nat) < 1000; decide, ?_⟩
  rw [Sto.set_set]
  repeat get_elem_tactic_trivial
  try dsimp only [List.set_cons_succ, List.set_cons_zero]
  refine ⟨p, _, _, _, rfl, Sto.set_same, List.mem_singleton.mpr rfl, rfl, ?_⟩
  repeat get_elem_tactic_trivial
  try dsimp only [List.set_cons_succ, List.set_cons_zero]
  refine ⟨_, rfl, by omega, by omega, ?_⟩
  intro pc npc
  have pcp : p ≠ pc := fun z => by rw [← z, Sto.set_same] at npc; cases npc
  repeat get_elem_tactic_trivial
  try dsimp only [List.set_cons_succ, List.set_cons_zero]
  refine ⟨p, _, _, rfl, (Sto.set_ne pcp).trans Sto.set_same, List.mem_singleton.mpr rfl, by show (3 : Nat) < 1000; decide, ?_⟩
  repeat get_elem_tactic_trivial
  try dsimp only [List.set_cons_succ, List.set_cons_zero]
  rw [List.length_map]
  refine ⟨_, rfl, by omega, by omega, ?_⟩
  rw [show ((rows.length : Nat) : Int).toNat = rows.length by omega, irangeZ]
  refine comp_mapL (List.range rows.length) (fun i => D.int ((i : Nat) : Int)) (fun i => D.int (((goal.length + i : Nat) : Nat) : Int)) trivial (by rw [List.length_range]; unfold sizeLine; omega) (fun i hi K1 F1 k => ?_) ?_
  · repeat get_elem_tactic_trivial
    try dsimp only [List.set_cons_succ, List.set_cons_zero]
    refine ⟨p, _, _, _, rfl, Sto.set_same, List.mem_singleton.mpr rfl, rfl, ?_⟩
    repeat get_elem_tactic_trivial
    try dsimp only [List.set_cons_succ, List.set_cons_zero]
    exact k
  intro pb npb
  have pbp : p ≠ pb := fun z => by rw [← z, Sto.set_same] at npb; cases npb
  have pcb : pc ≠ pb := fun z => by rw [← z, Sto.set_ne (Ne.symm pcp), Sto.set_same] at npb; cases npb
  repeat get_elem_tactic_trivial
  try dsimp only [List.set_cons_succ, List.set_cons_zero]
  refine ⟨p, _, _, rfl, (Sto.set_ne pbp).trans Sto.set_same, List.mem_singleton.mpr rfl, by show (4 : Nat) < 1000; decide, ?_⟩
  repeat get_elem_tactic_trivial
  try dsimp only [List.set_cons_succ, List.set_cons_zero]
  refine ⟨p, _, _, rfl, Sto.set_same, List.mem_singleton.mpr rfl, by show (5 : Nat) < 1000; decide, ?_⟩
  repeat get_elem_tactic_trivial
  try dsimp only [List.set_cons_succ, List.set_cons_zero]
  have npc0 : S pc = none := by rw [Sto.set_ne (Ne.symm pcp)] at npc; exact npc
  have npb0 : S pb = none := by rw [Sto.set_ne (Ne.symm pbp), Sto.set_ne (Ne.symm pcb), Sto.set_ne (Ne.symm pbp)] at npb; exact npb
  refine fin.of (h pc pb _ npc0 npb0 ⟨?_, ?_, ?_, pcp, pbp, pcb⟩ fun b hb hs => ?_)
  · rw [Sto.set_same]
    have e1 : (((natsI []).map D.int) : List D) = [] := rfl
    have e2 : ((List.zip rows bounds).map fun q => q.1 ++ [q.2]).map rowD = (List.zip rows bounds).map fun q => D.lst ((q.1 ++ [q.2]).map D.int) := by rw [List.map_map]; rfl
    have e3 : rowD (goal.map (fun x => 0 - x) ++ [0]) = .lst ((goal.map fun x => D.int (0 - x)) ++ [.int 0]) := by
      unfold rowD
      rw [List.map_append, List.map_map]
      rfl
    unfold tabFs tab0
    dsimp only
    rw [e2, e3]
    rfl
  · rw [Sto.set_ne (Ne.symm pcp), Sto.set_ne (Ne.symm pcp), Sto.set_ne pcb, Sto.set_ne (Ne.symm pcp), Sto.set_same]
    have e : irange 0 ((goal.length : Nat) : Int).toNat = (natsI (List.range goal.length)).map D.int := by
      rw [show ((goal.length : Nat) : Int).toNat = goal.length by omega, irangeZ]
      unfold natsI
      rw [List.map_map]
      rfl
    rw [e]
    rfl
  · rw [Sto.set_ne (Ne.symm pbp), Sto.set_ne (Ne.symm pbp), Sto.set_same]
    show some (Cell.lst _) = some (Cell.lst ((natsI ((List.range rows.length).map (goal.length + ·))).map D.int))
    unfold natsI
    rw [List.map_map, List.map_map]
    rfl
  · have b1 : b ≠ pc := fun z => hs (by rw [z]; exact npc0)
    have b2 : b ≠ pb := fun z => hs (by rw [z]; exact npb0)
    rw [Sto.set_ne hb, Sto.set_ne hb, Sto.set_ne b2, Sto.set_ne hb, Sto.set_ne b1, Sto.set_ne hb]
theorem sp_with_slack {rows : List (List Int)} {S : Sto} {K : KE} (hm : rows.length ≤ 1000) (hr : ∀ r, r ∈ rows → r.length ≤ 1000) (h : K (.lst ((rows.map fun r => r ++ [-1]).map rowD)) S) : c_with_slack [.lst (rows.map rowD)] S K := by
  refine st_def rfl ?_
  unfold w_with_slack
  repeat get_elem_tactic_trivial
  try dsimp only [List.set_cons_succ, List.set_cons_zero]
  refine comp_mapL rows rowD (fun r => rowD (r ++ [-1])) trivial (by unfold sizeLine; omega) (fun r hrr K1 F1 k => ?_) ?_
  · have := hr r hrr
    unfold rowD
    repeat get_elem_tactic_trivial
    try dsimp only [List.set_cons_succ, List.set_cons_zero]
    refine st_addLL (a := r.map D.int) (b := [.int (0 - 1)]) rfl rfl (by rw [List.length_map]; simp only [List.length_singleton]; unfold sizeLine; omega) ?_
    unfold rowD at k
    rw [List.map_append] at k
    exact k
  · repeat get_elem_tactic_trivial
    try dsimp only [List.set_cons_succ, List.set_cons_zero]
    rw [List.map_map] at h
    exact fin.of h
/-- the multipliers -/
def multF (size : Nat) : List (Nat × Int) → List Int → List Int
  | [], f => f
  | q :: qs, f => multF size qs (if size ≤ q.1 then f.set (q.1 - size) q.2 else f)
def multT (T : Tab) : List Int := multF T.size (List.zip T.cols T.goal) (List.replicate T.rows.length 0)
theorem zipD_natsI : ∀ (a : List Nat) (b : List Int), zipD ((natsI a).map D.int) (b.map D.int) = (List.zip a b).map fun q => .tup [.int ((q.1 : Nat) : Int), .int q.2]
  | [], b => by cases b <;> rfl
  | _ :: _, [] => rfl
  | x :: a, y :: b => by
    show D.tup [.int ((x : Nat) : Int), .int y] :: zipD ((natsI a).map D.int) (b.map D.int) = _
    rw [zipD_natsI a b]
    rfl
theorem zip_take {α β : Type} : ∀ (a : List α) (b : List β), List.zip a (b.take a.length) = List.zip a b
  | [], b => by simp
  | x :: a, [] => by simp
  | x :: a, y :: b => by
    rw [List.length_cons, List.take_succ_cons, List.zip_cons_cons, List.zip_cons_cons, zip_take a b]
theorem rep_zero (n : Nat) : (List.replicate n [D.int 0]).flatten = (List.replicate n (0 : Int)).map D.int := by
  induction n with
  | zero => rfl
  | succ n ih =>
    rw [List.replicate_succ, List.flatten_cons, ih, List.replicate_succ]
    rfl
theorem multF_len (size : Nat) : ∀ (qs : List (Nat × Int)) (f : List Int), (multF size qs f).length = f.length
  | [], f => rfl
  | q :: qs, f => by
    show (multF size qs _).length = _
    rw [multF_len size qs]
    split
    · rw [List.length_set]
    · rfl
theorem sp_multipliers {Fr : PySem.W.Frag} {T : Tab} {p pc pb : Addr} {m n : Nat} {S : Sto} {K : KE} (hT : TabAt Fr S p pc pb T) (ok : TabOk T m n) (hm : m ≤ 900) (hn : n ≤ 900) (hc : ∀ x, x ∈ T.cols → x < T.size + m) (h : K (rowD (multT T)) S) : c_Table_multipliers Fr [.cell p] S K := by
  have l1 := ok.rows
  have l2 := ok.cols
  have lg := ok.goal.len
  refine st_def rfl ?_
  unfold w_Table_multipliers
  repeat get_elem_tactic_trivial
  try dsimp only [List.set_cons_succ, List.set_cons_zero]
  rw [List.length_map, l1]
  refine ⟨_, _, rfl, rfl, by omega, by omega, by simp only [List.length_singleton]; unfold sizeLine; omega, ?_⟩
  intro q nq
  rw [show ((m : Nat) : Int).toNat = m by omega, rep_zero]
  obtain ⟨q1, q2, q3⟩ : q ≠ p ∧ q ≠ pc ∧ q ≠ pb := ⟨fun z => (by rw [z, hT.obj] at nq; cases nq), fun z => (by rw [z, hT.cols] at nq; cases nq), fun z => (by rw [z, hT.basis] at nq; cases nq)⟩
  have hT1 := hT.setO (c := .lst ((List.replicate m (0 : Int)).map D.int)) nq
  unfold rowD at *
  repeat get_elem_tactic_trivial
  try dsimp only [List.set_cons_succ, List.set_cons_zero]
  have eg : cutD (T.goal.map D.int) none (some (-1)) = (T.goal.take n).map D.int := by
    rw [cut_last, ← List.map_dropLast, List.dropLast_eq_take, lg, Nat.add_sub_cancel]
  unfold rowD
  repeat get_elem_tactic_trivial
  try dsimp only [List.set_cons_succ, List.set_cons_zero]
  rw [eg]
  refine ⟨_, _, seq_at hT1.cols, rfl, fun _ => by rw [len_nats, List.length_map, List.length_take]; omega, ?_⟩
  rw [zipD_natsI, ← l2, zip_take]
  have mem : ∀ x, x ∈ List.zip T.cols T.goal → x.1 < T.size + m := fun x hx => hc _ (List.of_mem_zip hx).1
  refine for_ind (I := fun ds ρ S1 => ∃ (qs : List (Nat × Int)) (f : List Int) (x2 x3 : Option D), ds = qs.map (fun q => .tup [.int ((q.1 : Nat) : Int), .int q.2]) ∧ ρ = [some (.cell p), some (.cell q), x2, x3] ∧ S1 = S.set q (.lst (f.map D.int)) ∧ f.length = m ∧ multF T.size qs f = multT T ∧ ∀ x, x ∈ qs → x.1 < T.size + m) ⟨List.zip T.cols T.goal, List.replicate m 0, _, _, rfl, rfl, rfl, by simp, by unfold multT; rw [l1], mem⟩ (fun ρ S1 ⟨qs, f, x2, x3, e1, e2, e3, e4, e5, e6⟩ => ⟨?_, ?_⟩) fun d ds F ih ρ S1 ⟨qs, f, x2, x3, e1, e2, e3, e4, e5, e6⟩ => ⟨?_, ?_⟩
  · subst e3
    exact ⟨(hT.setO nq).cols, trivial⟩
  · subst e2 e3
    cases qs with
    | cons _ _ => cases e1
    | nil =>
      repeat get_elem_tactic_trivial
      try dsimp only [List.set_cons_succ, List.set_cons_zero]
      refine ⟨q, rfl, .inl ⟨_, Sto.set_same, ?_⟩⟩
      rw [Sto.set_del nq]
      have e5 : f = multT T := e5
      rw [e5]
      exact fin.of h
  · subst e3
    exact ⟨(hT.setO nq).cols, trivial⟩
  · subst e2 e3
    have hT2 := hT.setO (c := .lst (f.map D.int)) nq
    cases qs with
    | nil => cases e1
    | cons x qs =>
      injection e1 with e1 e9
      subst e1
      have hx := e6 x (List.mem_cons_self ..)
      repeat get_elem_tactic_trivial
      try dsimp only [List.set_cons_succ, List.set_cons_zero]
      have e5 : multF T.size qs (if T.size ≤ x.1 then f.set (x.1 - T.size) x.2 else f) = multT T := e5
      refine br_d (fun e => ?_) fun e => ?_
      · rw [if_pos (by omega)] at e5
        repeat get_elem_tactic_trivial
        try dsimp only [List.set_cons_succ, List.set_cons_zero]
        refine ⟨q, _, _, x.1 - T.size, rfl, Sto.set_same, rfl, ?_, ?_⟩
        · rw [show ((x.1 : Nat) : Int) - ((T.size : Nat) : Int) = ((x.1 - T.size : Nat) : Int) by omega]
          exact ixN_nat (by rw [List.length_map]; omega)
        · refine ih _ _ ⟨qs, f.set (x.1 - T.size) x.2, _, _, e9, rfl, ?_, by rw [List.length_set]; exact e4, e5, fun y hy => e6 y (List.mem_cons_of_mem _ hy)⟩
          rw [Sto.set_set, List.map_set]
      · rw [if_neg (by omega)] at e5
        repeat get_elem_tactic_trivial
        try dsimp only [List.set_cons_succ, List.set_cons_zero]
        exact ih _ _ ⟨qs, f, _, _, e9, rfl, rfl, e4, e5, fun y hy => e6 y (List.mem_cons_of_mem _ hy)⟩
/-- the point -/
def ptF (size n : Nat) : List (Nat × List Int) → List Int → List Int
  | [], f => f
  | q :: qs, f => ptF size n qs (if q.1 < size then f.set q.1 (q.2.getD n 0) else f)
def ptT (T : Tab) (n : Nat) : List Int := ptF T.size n (List.zip T.basis T.rows) (List.replicate T.size 0)
theorem zipD_natsR : ∀ (a : List Nat) (b : List (List Int)), zipD ((natsI a).map D.int) (b.map rowD) = (List.zip a b).map fun q => .tup [.int ((q.1 : Nat) : Int), rowD q.2]
  | [], b => by cases b <;> rfl
  | _ :: _, [] => rfl
  | x :: a, y :: b => by
    show D.tup [.int ((x : Nat) : Int), rowD y] :: zipD ((natsI a).map D.int) (b.map rowD) = _
    rw [zipD_natsR a b]
    rfl
theorem sp_point {Fr : PySem.W.Frag} {T : Tab} {p pc pb : Addr} {m n : Nat} {S : Sto} {K : KE} (hT : TabAt Fr S p pc pb T) (ok : TabOk T m n) (hm : m ≤ 900) (hn : n ≤ 900) (hs : T.size ≤ 900) (h : K (rowD (ptT T n)) S) : c_Table_point Fr [.cell p] S K := by
  have l1 := ok.rows
  have l3 := ok.basis
  refine st_def rfl ?_
  unfold w_Table_point
  repeat get_elem_tactic_trivial
  try dsimp only [List.set_cons_succ, List.set_cons_zero]
  refine ⟨_, _, rfl, rfl, by omega, by omega, by simp only [List.length_singleton]; unfold sizeLine; omega, ?_⟩
  intro q nq
  rw [show ((T.size : Nat) : Int).toNat = T.size by omega, rep_zero]
  obtain ⟨q1, q2, q3⟩ : q ≠ p ∧ q ≠ pc ∧ q ≠ pb := ⟨fun z => (by rw [z, hT.obj] at nq; cases nq), fun z => (by rw [z, hT.cols] at nq; cases nq), fun z => (by rw [z, hT.basis] at nq; cases nq)⟩
  have hT1 := hT.setO (c := .lst ((List.replicate T.size (0 : Int)).map D.int)) nq
  repeat get_elem_tactic_trivial
  try dsimp only [List.set_cons_succ, List.set_cons_zero]
  refine ⟨_, _, seq_at hT1.basis, rfl, fun _ => by rw [len_nats, List.length_map]; omega, ?_⟩
  rw [zipD_natsR]
  have mem : ∀ x, x ∈ List.zip T.basis T.rows → x.2 ∈ T.rows := fun x hx => (List.of_mem_zip hx).2
  refine for_ind (I := fun ds ρ S1 => ∃ (qs : List (Nat × List Int)) (f : List Int) (x2 x3 : Option D), ds = qs.map (fun q => .tup [.int ((q.1 : Nat) : Int), rowD q.2]) ∧ ρ = [some (.cell p), some (.cell q), x2, x3] ∧ S1 = S.set q (.lst (f.map D.int)) ∧ f.length = T.size ∧ ptF T.size n qs f = ptT T n ∧ ∀ x, x ∈ qs → x.2 ∈ T.rows) ⟨List.zip T.basis T.rows, List.replicate T.size 0, _, _, rfl, rfl, rfl, by simp, rfl, mem⟩ (fun ρ S1 ⟨qs, f, x2, x3, e1, e2, e3, e4, e5, e6⟩ => ⟨?_, ?_⟩) fun d ds F ih ρ S1 ⟨qs, f, x2, x3, e1, e2, e3, e4, e5, e6⟩ => ⟨?_, ?_⟩
  · subst e3
    exact ⟨(hT.setO nq).basis, trivial⟩
  · subst e2 e3
    cases qs with
    | cons _ _ => cases e1
    | nil =>
      repeat get_elem_tactic_trivial
      try dsimp only [List.set_cons_succ, List.set_cons_zero]
      refine ⟨q, rfl, .inl ⟨_, Sto.set_same, ?_⟩⟩
      rw [Sto.set_del nq]
      have e5 : f = ptT T n := e5
      rw [e5]
      exact fin.of h
  · subst e3
    exact ⟨(hT.setO nq).basis, trivial⟩
  · subst e2 e3
    have hT2 := hT.setO (c := .lst (f.map D.int)) nq
    cases qs with
    | nil => cases e1
    | cons x qs =>
      injection e1 with e1 e9
      subst e1
      have hx := ok.row _ (e6 x (List.mem_cons_self ..))
      have e5 : ptF T.size n qs (if x.1 < T.size then f.set x.1 (x.2.getD n 0) else f) = ptT T n := e5
      unfold rowD at e9 ⊢
      repeat get_elem_tactic_trivial
      try dsimp only [List.set_cons_succ, List.set_cons_zero]
      refine br_d (fun e => ?_) fun e => ?_
      · rw [if_pos (by omega)] at e5
        repeat get_elem_tactic_trivial
        try dsimp only [List.set_cons_succ, List.set_cons_zero]
        refine st_ixLast (ds := x.2.map D.int) rfl (last_row hx.len) ?_
        repeat get_elem_tactic_trivial
        try dsimp only [List.set_cons_succ, List.set_cons_zero]
        refine ⟨q, _, _, x.1, rfl, Sto.set_same, rfl, ixN_nat (by rw [List.length_map]; omega), ?_⟩
        refine ih _ _ ⟨qs, f.set x.1 (x.2.getD n 0), _, _, e9, rfl, ?_, by rw [List.length_set]; exact e4, e5, fun y hy => e6 y (List.mem_cons_of_mem _ hy)⟩
        rw [Sto.set_set, List.map_set]
      · rw [if_neg (by omega)] at e5
        repeat get_elem_tactic_trivial
        try dsimp only [List.set_cons_succ, List.set_cons_zero]
        exact ih _ _ ⟨qs, f, _, _, e9, rfl, rfl, e4, e5, fun y hy => e6 y (List.mem_cons_of_mem _ hy)⟩


end G

set_option Elab.async false
set_option linter.all false
set_option maxRecDepth 100000
set_option autoImplicit false
set_option maxHeartbeats 2000000
namespace G
open PySem PySem.Spec PyProof.Rows L2
local macro_rules
  | `(tactic| get_elem_tactic_trivial) => `(tactic| first
    | (with_reducible first
      | refine st_seqSet ?_ | refine st_seqAsg ?_ | refine st_seqDo ?_ | refine st_seqPar ?_ | refine st_seqPar3 ?_ | refine st_seqFor ?_ | refine st_seqWhile ?_ | refine st_seqAug ?_ | refine st_seqSkip ?_ | refine st_seqRet ?_
      | refine st_skip ?_ | refine st_ret ?_ | refine st_retN ?_ | refine st_do ?_ | refine st_if ?_ | refine st_set ?_ | refine st_asg ?_ | refine st_par ?_ | refine st_par3 ?_
      | refine st_c ?_ | refine st_op2 ?_ | refine st_op1 ?_ | refine st_test ?_ | refine st_tbl ?_ | refine st_and ?_ | refine st_or ?_ | refine st_not ?_ | refine st_andV ?_ | refine st_orV ?_ | refine st_notV ?_ | refine st_bl ?_
      | refine st_chain ?_ | refine st_ifE ?_ | refine st_nil ?_ | refine st_cons ?_ | refine st_call ?_ | refine st_fr ?_ | refine st_lv ?_ | refine st_one ?_ | refine st_two ?_
      | refine st_gN ?_ | refine st_lst ?_ | refine st_tup ?_ | refine st_slF ?_ | refine st_oNo ?_ | refine st_oS ?_ | refine st_enum ?_ | refine st_scr ?_ | refine st_list ?_ | refine st_it ?_ | refine st_comp ?_ | refine st_for ?_ | refine st_gIx ?_ | refine st_range1 ?_ | refine st_app ?_ | refine st_zip ?_ | refine st_rev1 ?_ | refine st_meth ?_ | refine st_isS ?_ | refine st_count ?_ | refine st_sl ?_ | refine st_slT ?_ | refine st_slL ?_ | refine st_max2 ?_ | refine st_min2 ?_
      | refine st_add ?_ | refine st_sub ?_ | refine st_int ?_ | refine st_neg ?_ | refine st_lt ?_ | refine st_le ?_ | refine st_gt ?_ | refine st_ge ?_ | refine st_eq ?_ | refine st_ne ?_ | refine st_eqB ?_ | refine st_neB ?_ | refine st_eqS ?_ | refine st_neS ?_ | refine st_isN ?_ | refine st_sorted ?_ | refine st_abs ?_ | refine st_isNotN ?_
      | refine br_t ?_ | refine br_f ?_)
    | ((with_reducible refine st_var (d := ?_) ?_ ?_); rotate_left; (exact rfl))
    | ((with_reducible refine st_isi2 (k := ?_) (b := true) ?_ ?_ ?_); rotate_left; (exact rfl); (exact rfl))
    | ((with_reducible refine st_isi2 (k := ?_) (b := false) ?_ ?_ ?_); rotate_left; (exact rfl); (exact rfl))
    | ((with_reducible refine st_ix (ds := ?_) (d := ?_) ?_ ?_ ?_); rotate_left 2; (first | exact rfl | exact seq_at (by assumption)); (exact rfl))
    | ((with_reducible refine st_len2 (ds := ?_) (n := ?_) ?_ ?_ ?_); rotate_left 2; (first | exact rfl | exact seq_at (by assumption)); (exact rfl))
    | ((with_reducible refine st_addLL (a := ?_) (b := ?_) ?_ ?_ ?_ ?_); rotate_left 2; (first | exact rfl | exact lst_at (by assumption)); (first | exact rfl | exact lst_at (by assumption)); (exact Nat.le_of_ble_eq_true rfl))
    | ((with_reducible refine st_pow ?_ ?_); (exact ⟨by decide, by decide, by decide⟩))
    | ((with_reducible refine st_mod ?_ ?_); (first | decide | omega))
    | ((with_reducible refine st_size ?_ ?_); (exact rfl))
    | ((with_reducible refine st_gT2 ?_ ?_); (exact rfl))
    | ((with_reducible refine st_gsC ?_))
    | ((with_reducible refine st_gsN ?_))
    | ((with_reducible refine st_mulS ?_ ?_ ?_); omega; omega)
    | ((with_reducible refine br_ct ?_ ?_); (exact rfl))
    | ((with_reducible refine br_cf ?_ ?_); (exact rfl))
    | (rw [list_tup])
    | (rw [list_lst])
    | (rw [items_tup])
    | (rw [items_lst])
    | ((refine st_listM (ds := ?_) ?_ ?_); rotate_left; (first | exact rfl | exact seq_at (by assumption)))
    | ((refine st_itM (it := ?_) ?_ ?_); rotate_left; (first | exact rfl | exact it_at (by assumption))))

local macro_rules
  | `(tactic| get_elem_tactic_trivial) => `(tactic| first
    | (with_reducible refine st_fld ?_)
    | (with_reducible refine st_mt ?_)
    | (with_reducible refine st_gFld ?_)
    | (with_reducible refine st_lix ?_)
    | (with_reducible refine st_rep ?_)
    | (with_reducible refine st_cat ?_)
    | (with_reducible refine st_lrng ?_)
    | (with_reducible refine st_frz ?_)
    | ((with_reducible refine fld_size (T := ?_) (pc := ?_) (pb := ?_) ?_ ?_); rotate_left 3; (assumption))
    | ((with_reducible refine fld_rows (T := ?_) (pc := ?_) (pb := ?_) ?_ ?_); rotate_left 3; (assumption))
    | ((with_reducible refine fld_goal (T := ?_) (pc := ?_) (pb := ?_) ?_ ?_); rotate_left 3; (assumption))
    | ((with_reducible refine fld_cols (T := ?_) (pc := ?_) (pb := ?_) ?_ ?_); rotate_left 3; (assumption))
    | ((with_reducible refine fld_basis (T := ?_) (pc := ?_) (pb := ?_) ?_ ?_); rotate_left 3; (assumption))
    | ((with_reducible refine fld_den (T := ?_) (pc := ?_) (pb := ?_) ?_ ?_); rotate_left 3; (assumption))
    | ((with_reducible refine mt_go (T := ?_) (pc := ?_) (pb := ?_) ?_ ?_ ?_); rotate_left 3; (assumption); (exact rfl)))

/-! ### the goal's row -/
def rgI (n : Nat) (f : Nat → Int) : List Int := (List.range n).map f
theorem rgI_len {n : Nat} {f : Nat → Int} : (rgI n f).length = n := by unfold rgI; rw [List.length_map, List.length_range]
theorem rgI_get {n i : Nat} {f : Nat → Int} (h : i < n) : (rgI n f)[i]? = some (f i) := by
  unfold rgI
  rw [List.getElem?_map, List.getElem?_range h]
  rfl
theorem rgI_at {n i : Nat} {f : Nat → Int} (h : i < n) : (rgI n f).getD i 0 = f i := by
  rw [List.getD_eq_getElem?_getD, rgI_get h]
  rfl
theorem rgI_congr {n : Nat} {f g : Nat → Int} (h : ∀ i, i < n → f i = g i) : rgI n f = rgI n g := by
  unfold rgI
  exact List.map_congr_left fun i hi => h i (List.mem_range.mp hi)
theorem rgI_set {n k : Nat} {f : Nat → Int} {v : Int} : (rgI n f).set k v = rgI n fun j => if j = k then v else f j := by
  refine List.ext_getElem? fun i => ?_
  by_cases h : i < n
  · rw [rgI_get h]
    by_cases e : i = k
    · subst e
      rw [List.getElem?_set_self (by rw [rgI_len]; exact h), if_pos rfl]
    · rw [List.getElem?_set_ne (by omega), rgI_get h, if_neg e]
  · rw [List.getElem?_eq_none (by rw [List.length_set, rgI_len]; omega), List.getElem?_eq_none (by rw [rgI_len]; omega)]
theorem rgI_zip {n : Nat} {f : Nat → Int} {r : List Int} {h : Int → Int → Int} (l : r.length = n) : (List.zip (rgI n f) r).map (fun q => h q.1 q.2) = rgI n fun j => h (f j) (r.getD j 0) := by
  refine List.ext_getElem? fun i => ?_
  by_cases hi : i < n
  · have e2 : (List.zip (rgI n f) r)[i]? = some (f i, r.getD i 0) := List.getElem?_zip_eq_some.mpr ⟨rgI_get hi, by
      rw [List.getD_eq_getElem?_getD, List.getElem?_eq_getElem (by omega)]
      rfl⟩
    rw [rgI_get hi, List.getElem?_map, e2]
    rfl
  · rw [List.getElem?_eq_none (by rw [List.length_map, List.length_zip, rgI_len]; omega), List.getElem?_eq_none (by rw [rgI_len]; omega)]
def gBase (T : Tab) (g : List Int) (n j : Nat) : Int := if j < n then 0 - g.getD (T.cols.getD j 0) 0 * T.den else 0
def goalE (T : Tab) (g : List Int) (n k j : Nat) : Int := gBase T g n j + sumN k fun i => g.getD (T.basis.getD i 0) 0 * ent T i j
theorem getD_mem {l : List Int} {i : Nat} (h : i < l.length) : l.getD i 0 ∈ l := by
  rw [List.getD_eq_getElem?_getD, List.getElem?_eq_getElem h]
  exact List.getElem_mem _
theorem getD_out {l : List Int} {i : Nat} (h : ¬ i < l.length) : l.getD i 0 = 0 := by
  rw [List.getD_eq_getElem?_getD, List.getElem?_eq_none (by omega)]
  rfl
theorem sp_goal_row {Fr : PySem.W.Frag} {T : Tab} {p pc pb : Addr} {m n : Nat} {g : List Int} {S : Sto} {K : KE} (hT : TabAt Fr S p pc pb T) (l1 : T.rows.length = m) (lr : ∀ r, r ∈ T.rows → RowOk r (n + 1)) (l2 : T.cols.length = n) (l3 : T.basis.length = m) (dsm : Sm T.den) (gs : ∀ x, x ∈ g → Sm x) (hm : m ≤ 900) (hn : n ≤ 900) (hg : g.length ≤ 900) (h : K (rowD (rgI (n + 1) (goalE T g n m))) S) : c_goal_row Fr [.cell p, rowD g] S K := by
  refine st_def rfl ?_
  unfold w_goal_row
  have hcols := hT.cols
  have hbasis := hT.basis
  unfold rowD at *
  repeat get_elem_tactic_trivial
  try dsimp only [List.set_cons_succ, List.set_cons_zero]
  rw [len_nats, l2]
  refine ⟨_, _, rfl, rfl, by omega, by omega, by simp only [List.length_singleton]; unfold sizeLine; omega, ?_⟩
  intro q nq
  rw [show ((n : Nat) : Int) + 1 = ((n + 1 : Nat) : Int) from rfl, Int.toNat_natCast, rep_zero]
  obtain ⟨q1, q2, q3⟩ : q ≠ p ∧ q ≠ pc ∧ q ≠ pb := ⟨fun z => (by rw [z, hT.obj] at nq; cases nq), fun z => (by rw [z, hT.cols] at nq; cases nq), fun z => (by rw [z, hT.basis] at nq; cases nq)⟩
  have hT1 := hT.setO (c := .lst ((List.replicate (n + 1) (0 : Int)).map D.int)) nq
  have hcols1 := hT1.cols
  repeat get_elem_tactic_trivial
  try dsimp only [List.set_cons_succ, List.set_cons_zero]
  rw [hcols1]
  show forW _ _ _ _ (ienum 0 ((natsI T.cols).map D.int)) _ _
  rw [ienum_nats]
  refine for_ind (I := fun ds ρ S1 => ∃ (k : Nat) (x3 x4 : Option D), ds = ((T.cols.drop k).zipIdx k).map (fun q => .tup [.int ((q.2 : Nat) : Int), .int ((q.1 : Nat) : Int)]) ∧ k ≤ n ∧ ρ = [some (.cell p), some (.lst (g.map D.int)), some (.cell q), x3, x4, none, none, none] ∧ S1 = S.set q (.lst ((rgI (n + 1) fun j => gBase T g k j).map D.int))) ⟨0, _, _, rfl, Nat.zero_le _, rfl, ?_⟩ (fun ρ S1 ⟨k, x3, x4, e1, e2, e3, e4⟩ => ⟨?_, ?_⟩) fun d ds F ih ρ S1 ⟨k, x3, x4, e1, e2, e3, e4⟩ => ⟨?_, ?_⟩
  · congr 2
    refine List.ext_getElem? fun i => ?_
    by_cases hi : i < n + 1
    · rw [List.getElem?_map, List.getElem?_map, rgI_get hi, List.getElem?_replicate, if_pos hi]
      rfl
    · rw [List.getElem?_eq_none (by simp; omega), List.getElem?_eq_none (by rw [List.length_map, rgI_len]; omega)]
  · subst e4
    exact (hT.setO nq).cols
  · subst e3 e4
    have ek : k = n := by
      have := congrArg List.length e1
      rw [List.length_map, List.length_zipIdx, List.length_drop] at this
      simp at this
      omega
    subst ek
    have hT2 := hT.setO (c := .lst ((rgI (k + 1) fun j => gBase T g k j).map D.int)) nq
    repeat get_elem_tactic_trivial
    try dsimp only [List.set_cons_succ, List.set_cons_zero]
    refine ⟨_, _, seq_at hT2.basis, rfl, fun _ => by rw [len_nats, List.length_map]; omega, ?_⟩
    rw [zipD_natsR]
    refine for_ind (I := fun ds ρ S1 => ∃ (j : Nat) (qq : Addr) (x3 x4 x5 : Option D), ds = ((List.zip T.basis T.rows).drop j).map (fun q => .tup [.int ((q.1 : Nat) : Int), rowD q.2]) ∧ j ≤ m ∧ ρ = [some (.cell p), some (.lst (g.map D.int)), some (.cell qq), x3, x4, x5, none, none] ∧ S1 qq = some (.lst ((rgI (k + 1) (goalE T g k j)).map D.int)) ∧ S qq = none ∧ ∀ b, S b ≠ none → S1 b = S b) ⟨0, q, _, _, _, rfl, Nat.zero_le _, rfl, ?_, nq, fun b hb => Sto.set_ne fun z => hb (z ▸ nq)⟩ (fun ρ S1 ⟨j, qq, x3, x4, x5, e1, e2, e3, e4, e5, e6⟩ => ⟨?_, ?_⟩) fun d ds F ih ρ S1 ⟨j, qq, x3, x4, x5, e1, e2, e3, e4, e5, e6⟩ => ⟨?_, ?_⟩
    · rw [Sto.set_same]
      congr 3
      exact rgI_congr fun i hi => (Int.add_zero _).symm
    · exact ⟨(e6 pb (by rw [hT.basis]; simp)).trans hT.basis, trivial⟩
    · subst e3
      have ej : j = m := by
        have := congrArg List.length e1
        rw [List.length_map, List.length_drop, List.length_zip] at this
        simp at this
        omega
      subst ej
      repeat get_elem_tactic_trivial
      try dsimp only [List.set_cons_succ, List.set_cons_zero]
      refine ⟨qq, rfl, .inl ⟨_, e4, ?_⟩⟩
      refine ⟨S, fun a c e => ?_, h⟩
      have na : a ≠ qq := fun z => by rw [z, e5] at e; cases e
      rw [Sto.del_ne na, e6 a (by rw [e]; simp)]
      exact e
    · exact ⟨(e6 pb (by rw [hT.basis]; simp)).trans hT.basis, trivial⟩
    · subst e3
      have hj : j < m := by
        have := congrArg List.length e1
        rw [List.length_map, List.length_drop, List.length_zip, List.length_cons] at this
        omega
      have ed : (List.zip T.basis T.rows).drop j = (T.basis.getD j 0, T.rows.getD j []) :: (List.zip T.basis T.rows).drop (j + 1) := by
        rw [List.drop_eq_getElem_cons (by rw [List.length_zip]; omega), List.getElem_zip, List.getD_eq_getElem?_getD, List.getElem?_eq_getElem (by omega), List.getD_eq_getElem?_getD, List.getElem?_eq_getElem (by omega)]
        rfl
      rw [ed] at e1
      injection e1 with e1 e9
      subst e1
      unfold rowD at e9 ⊢
      have rj : RowOk (T.rows.getD j []) (k + 1) := by
        rw [List.getD_eq_getElem?_getD, List.getElem?_eq_getElem (by omega)]
        exact lr _ (List.getElem_mem _)
      have ljr := rj.len
      have ent_ : ∀ i, ent T j i = (T.rows.getD j []).getD i 0 := fun i => rfl
      have stepE : ∀ i, goalE T g k (j + 1) i = goalE T g k j i + g.getD (T.basis.getD j 0) 0 * (T.rows.getD j []).getD i 0 := fun i => by
        unfold goalE
        rw [Int.add_assoc]
        rfl
      obtain ⟨row, erow⟩ : ∃ row, T.rows.getD j [] = row := ⟨_, rfl⟩
      obtain ⟨nm, enm⟩ : ∃ nm, T.basis.getD j 0 = nm := ⟨_, rfl⟩
      rw [erow] at rj ljr ⊢
      rw [enm]
      have stepE : ∀ i, goalE T g k (j + 1) i = goalE T g k j i + g.getD nm 0 * row.getD i 0 := fun i => by rw [← erow, ← enm]; exact stepE i
      repeat get_elem_tactic_trivial
      try dsimp only [List.set_cons_succ, List.set_cons_zero]
      refine br_d (fun e => ?_) fun e => ?_
      · rw [List.length_map] at e
        have sg_ := gs _ (getD_mem (l := g) (i := nm) (by omega))
        repeat get_elem_tactic_trivial
        try dsimp only [List.set_cons_succ, List.set_cons_zero]
        refine ⟨_, _, seq_at e4, rfl, fun _ => by rw [List.length_map, List.length_map, rgI_len, ljr], ?_⟩
        rw [zipD_ints]
        refine comp_mapL (List.zip (rgI (k + 1) (goalE T g k j)) row) (fun q => .tup [.int q.1, .int q.2]) (fun q => .int (q.1 + g.getD nm 0 * q.2)) ⟨e4, trivial⟩ (by rw [List.length_zip]; unfold sizeLine; omega) (fun q hq K1 F1 kk => ?_) ?_
        · have hz := List.of_mem_zip hq
          repeat get_elem_tactic_trivial
          try dsimp only [List.set_cons_succ, List.set_cons_zero]
          refine st_ix (ds := g.map D.int) rfl (at_row (by omega)) ?_
          repeat get_elem_tactic_trivial
          try dsimp only [List.set_cons_succ, List.set_cons_zero]
          refine st_mulM sg_ (rj.sm _ hz.2) ?_
          repeat get_elem_tactic_trivial
          try dsimp only [List.set_cons_succ, List.set_cons_zero]
          exact kk
        · repeat get_elem_tactic_trivial
          try dsimp only [List.set_cons_succ, List.set_cons_zero]
          intro q' nq'
          repeat get_elem_tactic_trivial
          try dsimp only [List.set_cons_succ, List.set_cons_zero]
          refine ih _ _ ⟨j + 1, q', _, _, _, (by exact e9), by omega, rfl, ?_, ?_, fun b hb => ?_⟩
          · rw [Sto.set_same]
            have e7 := rgI_zip (f := goalE T g k j) (h := fun a b => a + g.getD nm 0 * b) ljr
            have e8 : (List.zip (rgI (k + 1) (goalE T g k j)) row).map (fun q => D.int (q.1 + g.getD nm 0 * q.2)) = ((List.zip (rgI (k + 1) (goalE T g k j)) row).map fun q => q.1 + g.getD nm 0 * q.2).map D.int := by
              rw [List.map_map]
              rfl
            rw [e8, e7]
            congr 3
            exact rgI_congr fun i hi => (stepE i).symm
          · cases es : S q' with
            | none => rfl
            | some c =>
              have := e6 q' (by rw [es]; simp)
              rw [nq', es] at this
              cases this
          · have nb : b ≠ q' := fun z => by
              have := e6 b hb
              rw [z, nq'] at this
              rw [z, ← this] at hb
              exact hb rfl
            rw [Sto.set_ne nb]
            exact e6 b hb
      · rw [List.length_map] at e
        repeat get_elem_tactic_trivial
        try dsimp only [List.set_cons_succ, List.set_cons_zero]
        refine ih _ _ ⟨j + 1, qq, _, _, _, (by exact e9), by omega, rfl, ?_, e5, e6⟩
        rw [e4]
        congr 3
        refine rgI_congr fun i hi => ?_
        rw [stepE, getD_out (by omega), Int.zero_mul, Int.add_zero]
  · subst e4
    exact (hT.setO nq).cols
  · subst e3 e4
    have hk : k < n := by
      have := congrArg List.length e1
      rw [List.length_map, List.length_zipIdx, List.length_drop, List.length_cons] at this
      omega
    have ed : (T.cols.drop k).zipIdx k = (T.cols.getD k 0, k) :: (T.cols.drop (k + 1)).zipIdx (k + 1) := by
      rw [List.drop_eq_getElem_cons (by omega), List.zipIdx_cons, List.getD_eq_getElem?_getD, List.getElem?_eq_getElem (by omega)]
      rfl
    rw [ed] at e1
    injection e1 with e1 e9
    subst e1
    have hT2 := hT.setO (c := .lst ((rgI (n + 1) fun j => gBase T g k j).map D.int)) nq
    have fin_ : ∀ S1, S1 = S.set q (.lst ((rgI (n + 1) fun j => gBase T g (k + 1) j).map D.int)) → F [some (.cell p), some (.lst (g.map D.int)), some (.cell q), some (.int (k : Nat)), some (.int ((T.cols.getD k 0 : Nat) : Int)), none, none, none] S1 := fun S1 e => ih _ _ ⟨k + 1, _, _, e9, by omega, rfl, e⟩
    repeat get_elem_tactic_trivial
    try dsimp only [List.set_cons_succ, List.set_cons_zero]
    refine br_d (fun e => ?_) fun e => ?_
    · rw [List.length_map] at e
      have sg_ := gs _ (getD_mem (l := g) (i := T.cols.getD k 0) (by omega))
      refine st_augIx ?_
      repeat get_elem_tactic_trivial
      try dsimp only [List.set_cons_succ, List.set_cons_zero]
      refine ⟨q, _, _, k, gBase T g k k, rfl, Sto.set_same, rfl, ixN_nat (by rw [List.length_map, rgI_len]; omega), by rw [List.getElem?_map, rgI_get (by omega)]; rfl, by omega, by omega, ?_⟩
      repeat get_elem_tactic_trivial
      try dsimp only [List.set_cons_succ, List.set_cons_zero]
      refine st_ix (ds := g.map D.int) rfl (at_row (by omega)) ?_
      repeat get_elem_tactic_trivial
      try dsimp only [List.set_cons_succ, List.set_cons_zero]
      refine st_mulM sg_ dsm ?_
      refine ⟨_, _, rfl, Sto.set_same, ixN_nat (by rw [List.length_map, rgI_len]; omega), fin_ _ ?_⟩
      rw [Sto.set_set, ← List.map_set, rgI_set]
      congr 3
      refine rgI_congr fun i hi => ?_
      unfold gBase
      by_cases z : i = k
      · subst z
        rw [if_pos rfl, if_neg (by omega), if_pos (by omega)]
      · rw [if_neg z]
        by_cases y : i < k
        · rw [if_pos y, if_pos (by omega)]
        · rw [if_neg y, if_neg (by omega)]
    · rw [List.length_map] at e
      repeat get_elem_tactic_trivial
      try dsimp only [List.set_cons_succ, List.set_cons_zero]
      refine fin_ _ ?_
      congr 3
      refine rgI_congr fun i hi => ?_
      unfold gBase
      by_cases z : i = k
      · subst z
        rw [if_neg (by omega), if_pos (by omega), getD_out (by omega), Int.zero_mul]
        rfl
      · by_cases y : i < k
        · rw [if_pos y, if_pos (by omega)]
        · rw [if_neg y, if_neg (by omega)]


end G

set_option Elab.async false
set_option linter.all false
set_option maxRecDepth 100000
set_option autoImplicit false
set_option maxHeartbeats 2000000
namespace G
open PySem PySem.Spec PyProof.Rows L2
local macro_rules
  | `(tactic| get_elem_tactic_trivial) => `(tactic| first
    | (with_reducible first
      | refine st_seqSet ?_ | refine st_seqAsg ?_ | refine st_seqDo ?_ | refine st_seqPar ?_ | refine st_seqPar3 ?_ | refine st_seqFor ?_ | refine st_seqWhile ?_ | refine st_seqAug ?_ | refine st_seqSkip ?_ | refine st_seqRet ?_
      | refine st_skip ?_ | refine st_ret ?_ | refine st_retN ?_ | refine st_do ?_ | refine st_if ?_ | refine st_set ?_ | refine st_asg ?_ | refine st_par ?_ | refine st_par3 ?_
      | refine st_c ?_ | refine st_op2 ?_ | refine st_op1 ?_ | refine st_test ?_ | refine st_tbl ?_ | refine st_and ?_ | refine st_or ?_ | refine st_not ?_ | refine st_andV ?_ | refine st_orV ?_ | refine st_notV ?_ | refine st_bl ?_
      | refine st_chain ?_ | refine st_ifE ?_ | refine st_nil ?_ | refine st_cons ?_ | refine st_call ?_ | refine st_fr ?_ | refine st_lv ?_ | refine st_one ?_ | refine st_two ?_
      | refine st_gN ?_ | refine st_lst ?_ | refine st_tup ?_ | refine st_slF ?_ | refine st_oNo ?_ | refine st_oS ?_ | refine st_enum ?_ | refine st_scr ?_ | refine st_list ?_ | refine st_it ?_ | refine st_comp ?_ | refine st_for ?_ | refine st_gIx ?_ | refine st_range1 ?_ | refine st_app ?_ | refine st_zip ?_ | refine st_rev1 ?_ | refine st_meth ?_ | refine st_isS ?_ | refine st_count ?_ | refine st_sl ?_ | refine st_slT ?_ | refine st_slL ?_ | refine st_max2 ?_ | refine st_min2 ?_
      | refine st_add ?_ | refine st_sub ?_ | refine st_int ?_ | refine st_neg ?_ | refine st_lt ?_ | refine st_le ?_ | refine st_gt ?_ | refine st_ge ?_ | refine st_eq ?_ | refine st_ne ?_ | refine st_eqB ?_ | refine st_neB ?_ | refine st_eqS ?_ | refine st_neS ?_ | refine st_isN ?_ | refine st_sorted ?_ | refine st_abs ?_ | refine st_isNotN ?_
      | refine br_t ?_ | refine br_f ?_)
    | ((with_reducible refine st_var (d := ?_) ?_ ?_); rotate_left; (exact rfl))
    | ((with_reducible refine st_isi2 (k := ?_) (b := true) ?_ ?_ ?_); rotate_left; (exact rfl); (exact rfl))
    | ((with_reducible refine st_isi2 (k := ?_) (b := false) ?_ ?_ ?_); rotate_left; (exact rfl); (exact rfl))
    | ((with_reducible refine st_ix (ds := ?_) (d := ?_) ?_ ?_ ?_); rotate_left 2; (first | exact rfl | exact seq_at (by assumption)); (exact rfl))
    | ((with_reducible refine st_len2 (ds := ?_) (n := ?_) ?_ ?_ ?_); rotate_left 2; (first | exact rfl | exact seq_at (by assumption)); (exact rfl))
    | ((with_reducible refine st_addLL (a := ?_) (b := ?_) ?_ ?_ ?_ ?_); rotate_left 2; (first | exact rfl | exact lst_at (by assumption)); (first | exact rfl | exact lst_at (by assumption)); (exact Nat.le_of_ble_eq_true rfl))
    | ((with_reducible refine st_pow ?_ ?_); (exact ⟨by decide, by decide, by decide⟩))
    | ((with_reducible refine st_mod ?_ ?_); (first | decide | omega))
    | ((with_reducible refine st_size ?_ ?_); (exact rfl))
    | ((with_reducible refine st_gT2 ?_ ?_); (exact rfl))
    | ((with_reducible refine st_gsC ?_))
    | ((with_reducible refine st_gsN ?_))
    | ((with_reducible refine st_mulS ?_ ?_ ?_); omega; omega)
    | ((with_reducible refine br_ct ?_ ?_); (exact rfl))
    | ((with_reducible refine br_cf ?_ ?_); (exact rfl))
    | (rw [list_tup])
    | (rw [list_lst])
    | (rw [items_tup])
    | (rw [items_lst])
    | ((refine st_listM (ds := ?_) ?_ ?_); rotate_left; (first | exact rfl | exact seq_at (by assumption)))
    | ((refine st_itM (it := ?_) ?_ ?_); rotate_left; (first | exact rfl | exact it_at (by assumption))))

local macro_rules
  | `(tactic| get_elem_tactic_trivial) => `(tactic| first
    | (with_reducible refine st_fld ?_)
    | (with_reducible refine st_mt ?_)
    | (with_reducible refine st_gFld ?_)
    | (with_reducible refine st_lix ?_)
    | (with_reducible refine st_rep ?_)
    | (with_reducible refine st_cat ?_)
    | (with_reducible refine st_lrng ?_)
    | (with_reducible refine st_frz ?_)
    | ((with_reducible refine fld_size (T := ?_) (pc := ?_) (pb := ?_) ?_ ?_); rotate_left 3; (assumption))
    | ((with_reducible refine fld_rows (T := ?_) (pc := ?_) (pb := ?_) ?_ ?_); rotate_left 3; (assumption))
    | ((with_reducible refine fld_goal (T := ?_) (pc := ?_) (pb := ?_) ?_ ?_); rotate_left 3; (assumption))
    | ((with_reducible refine fld_cols (T := ?_) (pc := ?_) (pb := ?_) ?_ ?_); rotate_left 3; (assumption))
    | ((with_reducible refine fld_basis (T := ?_) (pc := ?_) (pb := ?_) ?_ ?_); rotate_left 3; (assumption))
    | ((with_reducible refine fld_den (T := ?_) (pc := ?_) (pb := ?_) ?_ ?_); rotate_left 3; (assumption))
    | ((with_reducible refine mt_go (T := ?_) (pc := ?_) (pb := ?_) ?_ ?_ ?_); rotate_left 3; (assumption); (exact rfl)))

/-! ### the table without the last variable -/
def dn (e v : Nat) : Nat := if e < v then v - 1 else v
def drp0 (T : Tab) (c e : Nat) (g : List Int) : Tab := { size := g.length, rows := T.rows.map fun r => r.take c ++ r.drop (c + 1), goal := g.map (fun x => 0 - x) ++ [0], cols := (T.cols.filter fun v => decide (v ≠ e)).map (dn e), basis := T.basis.map (dn e), den := T.den }
def drpT (T : Tab) (c e n m : Nat) (g : List Int) : Tab := { drp0 T c e g with goal := rgI (n + 1) (goalE (drp0 T c e g) g n m) }
section
variable {Fr : PySem.W.Frag} {S : Sto} {p pc pb : Addr} {T : Tab}
theorem set_rowsT (h : TabAt Fr S p pc pb T) (rows : List (List Int)) : TabAt Fr (S.set p (.obj (He.ga Fr "Table") (putD "rows" (.lst (rows.map rowD)) (tabFs T pc pb)))) p pc pb { T with rows := rows } := ⟨Sto.set_same, (Sto.set_ne (Ne.symm h.n1)).trans h.cols, (Sto.set_ne (Ne.symm h.n2)).trans h.basis, h.n1, h.n2, h.n3⟩
theorem set_goalT (h : TabAt Fr S p pc pb T) (goal : List Int) : TabAt Fr (S.set p (.obj (He.ga Fr "Table") (putD "goal" (rowD goal) (tabFs T pc pb)))) p pc pb { T with goal := goal } := ⟨Sto.set_same, (Sto.set_ne (Ne.symm h.n1)).trans h.cols, (Sto.set_ne (Ne.symm h.n2)).trans h.basis, h.n1, h.n2, h.n3⟩
theorem set_denT (h : TabAt Fr S p pc pb T) (den : Int) : TabAt Fr (S.set p (.obj (He.ga Fr "Table") (putD "denominator" (.int den) (tabFs T pc pb)))) p pc pb { T with den := den } := ⟨Sto.set_same, (Sto.set_ne (Ne.symm h.n1)).trans h.cols, (Sto.set_ne (Ne.symm h.n2)).trans h.basis, h.n1, h.n2, h.n3⟩
theorem set_colsT (h : TabAt Fr S p pc pb T) {q : Addr} {cols : List Nat} (nq : S q = none) : TabAt Fr ((S.set q (.lst ((natsI cols).map D.int))).set p (.obj (He.ga Fr "Table") (putD "columns" (.cell q) (tabFs T pc pb)))) p q pb { T with cols := cols } := by
  have a : p ≠ q := fun z => by rw [← z, h.obj] at nq; cases nq
  have b : pb ≠ q := fun z => by rw [← z, h.basis] at nq; cases nq
  exact ⟨Sto.set_same, (Sto.set_ne (Ne.symm a)).trans Sto.set_same, (Sto.set_ne (Ne.symm h.n2)).trans ((Sto.set_ne b).trans h.basis), a, h.n2, Ne.symm b⟩
theorem set_basisT (h : TabAt Fr S p pc pb T) {q : Addr} {basis : List Nat} (nq : S q = none) : TabAt Fr ((S.set q (.lst ((natsI basis).map D.int))).set p (.obj (He.ga Fr "Table") (putD "basis" (.cell q) (tabFs T pc pb)))) p pc q { T with basis := basis } := by
  have a : p ≠ q := fun z => by rw [← z, h.obj] at nq; cases nq
  have b : pc ≠ q := fun z => by rw [← z, h.cols] at nq; cases nq
  exact ⟨Sto.set_same, (Sto.set_ne (Ne.symm h.n1)).trans ((Sto.set_ne b).trans h.cols), (Sto.set_ne (Ne.symm a)).trans Sto.set_same, h.n1, a, b⟩
end
theorem ienum_ints : ∀ (l : List Int) (k : Nat), ienum k (l.map D.int) = (l.zipIdx k).map fun q => .tup [.int ((q.2 : Nat) : Int), .int q.1]
  | [], _ => rfl
  | x :: l, k => by
    show D.tup [.int (k : Nat), .int x] :: ienum (k + 1) (l.map D.int) = _
    rw [ienum_ints l (k + 1), List.zipIdx_cons, List.map_cons]
theorem eqv_int (a b : Int) : PyData.eqv (.int a) (.int b) = decide (a = b) := by
  simp only [PyData.eqv]
  rfl
theorem getI {l : List Int} {i : Nat} (h : i < l.length) : l[i]? = some (l.getD i 0) := by
  rw [List.getD_eq_getElem?_getD, List.getElem?_eq_getElem h]
  rfl
theorem at_zero (d : D) (ds : List D) : atI (d :: ds) 0 = some d := by
  unfold atI
  rw [ixN_in (by omega) (by rw [List.length_cons]; omega)]
  rfl
theorem st_intB {b : Bool} {S : Sto} {K : KE} (h : K (.int (if b then 1 else 0)) S) : oInt (.bl b) S K := h
theorem natsI_D (l : List Nat) : (natsI l).map D.int = l.map fun v => D.int ((v : Nat) : Int) := by
  unfold natsI
  rw [List.map_map]
  rfl
theorem dn_int (e v : Nat) : ((v : Nat) : Int) - (if decide (((e : Nat) : Int) < ((v : Nat) : Int)) then 1 else 0) = ((dn e v : Nat) : Int) := by
  unfold dn
  by_cases z : e < v
  · rw [if_pos (decide_eq_true (by omega)), if_pos z]; omega
  · rw [if_neg (by rw [decide_eq_true_eq]; omega), if_neg z]; omega
theorem st_inI {x : D} {ns : List Int} {i : Int} {S : Sto} {K : KE} (e : seqOf S x = some (ns.map D.int)) (hx : ∀ z, x ≠ .str z) (h : K (.bl (decide (i ∈ ns))) S) : oIn (.int i) x S K := by
  have sh : SeqAt.shaped (PyData.list (ns.map PyData.int)) = true := (Sh.list (n := 0) fun p hp => by
      obtain ⟨i, _, e⟩ := List.mem_map.mp hp
      rw [← e]
      exact .int i 0).shaped (by decide)
  have r : ∃ ds p qs, seqOf S x = some ds ∧ (top S (.int i)).pd = some p ∧ pds ds = some qs ∧ SeqAt.shaped p = true ∧ SeqAt.shaped (.list qs) = true ∧ K (.bl (id (qs.any fun z => PyData.eqv z p))) S := by
    refine ⟨_, .int i, _, e, rfl, pd_ints ns, shaped_int i, sh, ?_⟩
    have ea : (id ((ns.map PyData.int).any fun z => PyData.eqv z (.int i))) = decide (i ∈ ns) := by
      show (ns.map PyData.int).any _ = _
      rw [List.any_map, Bool.eq_iff_iff, List.any_eq_true, decide_eq_true_eq]
      constructor
      · intro ⟨y, hy, ey⟩
        have ey : PyData.eqv (.int y) (.int i) = true := ey
        rw [eqv_int, decide_eq_true_eq] at ey
        rw [← ey]
        exact hy
      · intro hy
        exact ⟨i, hy, by show PyData.eqv (.int i) (.int i) = true; rw [eqv_int]; simp⟩
    rw [ea]
    exact h
  cases x with
  | str z => exact absurd rfl (hx z)
  | _ => exact r
theorem natsI_mem {l : List Nat} {v : Nat} : ((v : Nat) : Int) ∈ natsI l ↔ v ∈ l := by
  unfold natsI
  rw [List.mem_map]
  constructor
  · intro ⟨a, ha, e⟩
    have : a = v := by omega
    rw [← this]; exact ha
  · exact fun h => ⟨v, h, rfl⟩
theorem natsI_get {l : List Nat} {i : Nat} (h : i < l.length) : (natsI l)[i]? = some ((l.getD i 0 : Nat) : Int) := by
  unfold natsI
  rw [List.getElem?_map, List.getElem?_eq_getElem h, List.getD_eq_getElem?_getD, List.getElem?_eq_getElem h]
  rfl
theorem first_at {l : List Nat} {v : Nat} (h : v ∈ l) : ∃ i, i < l.length ∧ l.getD i 0 = v ∧ ∀ j, j < i → l.getD j 0 ≠ v := by
  induction l with
  | nil => cases h
  | cons x l ih =>
    by_cases e : x = v
    · exact ⟨0, by simp, by rw [e]; rfl, fun j hj => by omega⟩
    · rcases List.mem_cons.mp h with z | z
      · exact absurd z.symm e
      · obtain ⟨i, a, b, c⟩ := ih z
        refine ⟨i + 1, by simp; exact a, b, fun j hj => ?_⟩
        cases j with
        | zero => exact e
        | succ j => exact c j (by omega)
theorem getD_ne {l : List Nat} {v j : Nat} (hj : j < l.length) (h : l.getD j 0 ≠ v) : (natsI l)[j]? ≠ some ((v : Nat) : Int) := fun z => by
  rw [natsI_get hj] at z
  injection z with z
  omega
theorem zipIdx_up {α : Type} : ∀ (l : List α) (k : Nat), (l.zipIdx k).Pairwise fun a b => a.2 < b.2
  | [], _ => List.Pairwise.nil
  | x :: l, k => by
    rw [List.zipIdx_cons]
    refine List.Pairwise.cons (fun b hb => ?_) (zipIdx_up l (k + 1))
    have := List.le_snd_of_mem_zipIdx hb
    show k < b.2
    omega
theorem sp_without_slack {Fr : PySem.W.Frag} {T : Tab} {p pc pb : Addr} {m n : Nat} {g : List Int} {S : Sto} {K : KE} {Q : Tab → Prop} (hT : TabAt Fr S p pc pb T) (ok : TabOk T m (n + 1)) (n1 : T.size = n + 1) (gs : ∀ x, x ∈ g → Sm x) (hg : g.length ≤ 800) (hm : m ≤ 800) (hn : n ≤ 800)
    (hin : ∀ i, i < m → T.basis.getD i 0 = n → (∃ c, c < n + 1 ∧ ent T i c ≠ 0) ∧ ∀ c, c < n + 1 → ent T i c ≠ 0 → (∀ c', c' < c → ent T i c' = 0) → Q (exch T i c))
    (hout : (∀ i, i < m → T.basis.getD i 0 ≠ n) → Q T)
    (hQ : ∀ T', Q T' → TabOk T' m (n + 1) ∧ (∃ c, c < n + 1 ∧ T'.cols.getD c 0 = n) ∧ (T'.cols.filter fun v => decide (v ≠ n)).length = n)
    (h : ∀ T' c S' p' pc' pb', S p' = none → S pc' = none → S pb' = none → Q T' → c < n + 1 → T'.cols.getD c 0 = n → (∀ j, j < c → T'.cols.getD j 0 ≠ n) → TabAt Fr S' p' pc' pb' (drpT T' c n n m g) → (∀ b, b ≠ p → b ≠ pc → b ≠ pb → S b ≠ none → S' b = S b) → K (.cell p') S') : c_without_slack Fr [.cell p, rowD g] S K := by
  have l1 := ok.rows
  have l2 := ok.cols
  have l3 := ok.basis
  unfold rowD
  refine st_def rfl ?_
  unfold w_without_slack
  repeat get_elem_tactic_trivial
  try dsimp only [List.set_cons_succ, List.set_cons_zero]
  rw [n1, show ((n + 1 : Nat) : Int) - 1 = ((n : Nat) : Int) by omega]
  refine ⟨fun ρ1 S1 => ∃ T' x3 x4, ρ1 = [some (.cell p), some (.lst (g.map D.int)), some (.int (n : Nat)), x3, x4, none, none, none, none, none] ∧ Q T' ∧ TabAt Fr S1 p pc pb T' ∧ Oth3 p pc pb S S1, ?_, ?_⟩
  · repeat get_elem_tactic_trivial
    try dsimp only [List.set_cons_succ, List.set_cons_zero]
    refine st_inI (seq_at hT.basis) (fun z e => by cases e) ?_
    repeat get_elem_tactic_trivial
    try dsimp only [List.set_cons_succ, List.set_cons_zero]
    refine br_d (fun e => ?_) fun e => ?_
    · obtain ⟨i, hi, ei, fi⟩ := first_at (natsI_mem.mp e)
      rw [l3] at hi
      obtain ⟨hex, hall⟩ := hin i hi ei
      have ok1 := ok.at hi
      have lk := ok1.len
      refine st_seq ?_
      repeat get_elem_tactic_trivial
      try dsimp only [List.set_cons_succ, List.set_cons_zero]
      refine ⟨⟨_, lst_at hT.basis⟩, ?_⟩
      repeat get_elem_tactic_trivial
      try dsimp only [List.set_cons_succ, List.set_cons_zero]
      refine ⟨natsI T.basis, _, i, lst_at hT.basis, rfl, by rw [natsI_get (by omega), ei], fun j hj => getD_ne (by omega) (fi j hj), ?_⟩
      repeat get_elem_tactic_trivial
      try dsimp only [List.set_cons_succ, List.set_cons_zero]
      refine st_ix (ds := T.rows.map rowD) rfl (at_rows (by omega)) ?_
      unfold rowD
      repeat get_elem_tactic_trivial
      try dsimp only [List.set_cons_succ, List.set_cons_zero]
      rw [cut_last, ← List.map_dropLast, List.dropLast_eq_take, lk, Nat.add_sub_cancel]
      show compW _ _ _ _ _ (ienum 0 (((T.rows.getD i []).take (n + 1)).map D.int)) [] S _
      rw [ienum_ints]
      refine comp_filterL (((T.rows.getD i []).take (n + 1)).zipIdx 0) (fun q => .tup [.int ((q.2 : Nat) : Int), .int q.1]) (fun q => .int ((q.2 : Nat) : Int)) (fun q => decide (q.1 ≠ 0)) trivial (by rw [List.length_zipIdx, List.length_take]; unfold sizeLine; omega) (fun q hq K1 F1 k1 k2 => ?_) ?_
      · repeat get_elem_tactic_trivial
        try dsimp only [List.set_cons_succ, List.set_cons_zero]
        refine br_b (fun e => ?_) fun e => ?_
        · repeat get_elem_tactic_trivial
          try dsimp only [List.set_cons_succ, List.set_cons_zero]
          exact k1 (by simpa using e)
        · exact k2 (by simpa using e)
      · have mem : ∀ q, q ∈ ((((T.rows.getD i []).take (n + 1)).zipIdx 0).filter fun q => decide (q.1 ≠ 0)) ↔ ((T.rows.getD i []).take (n + 1))[q.2]? = some q.1 ∧ q.1 ≠ 0 := fun q => by
          rw [List.mem_filter, List.mem_zipIdx_iff_getElem?]
          simp
        have pw := (zipIdx_up ((T.rows.getD i []).take (n + 1)) 0).filter fun q => decide (q.1 ≠ 0)
        generalize (((T.rows.getD i []).take (n + 1)).zipIdx 0).filter (fun q => decide (q.1 ≠ 0)) = qs at *
        cases qs with
        | nil =>
          obtain ⟨c, hc, hne⟩ := hex
          have := (mem ((T.rows.getD i []).getD c 0, c)).mpr ⟨by
            rw [List.getElem?_take_of_lt hc]
            exact getI (by omega), hne⟩
          cases this
        | cons q qs =>
          obtain ⟨q1, q2⟩ := (mem q).mp (List.mem_cons_self ..)
          have hc : q.2 < n + 1 := by
            have := (List.getElem?_eq_some_iff.mp q1).1
            rw [List.length_take] at this
            omega
          have eq1 : ent T i q.2 = q.1 := by
            rw [List.getElem?_take_of_lt hc] at q1
            unfold ent
            rw [List.getD_eq_getElem?_getD, q1]
            rfl
          repeat get_elem_tactic_trivial
          try dsimp only [List.set_cons_succ, List.set_cons_zero]
          refine st_ix (ds := D.int ((q.2 : Nat) : Int) :: qs.map fun q => D.int ((q.2 : Nat) : Int)) rfl (at_zero _ _) ?_
          repeat get_elem_tactic_trivial
          try dsimp only [List.set_cons_succ, List.set_cons_zero]
          refine sp_exchange hT ok hi hc (by omega) (by omega) fun S' hT' o' => ?_
          exact ⟨_, _, _, rfl, hall q.2 hc (by rw [eq1]; exact q2) (fun c' hc' => Classical.byContradiction fun ne => by
            have := (mem (ent T i c', c')).mpr ⟨by
              rw [List.getElem?_take_of_lt (by show c' < n + 1; omega)]
              exact getI (by show c' < _; omega), ne⟩
            rcases List.mem_cons.mp this with z | z
            · rw [← z] at hc'
              exact absurd hc' (Nat.lt_irrefl _)
            · have := (List.pairwise_cons.mp pw).1 _ z
              exact absurd hc' (by show ¬ c' < q.2; have : q.2 < c' := this; omega)), hT', o'⟩
    · repeat get_elem_tactic_trivial
      try dsimp only [List.set_cons_succ, List.set_cons_zero]
      refine ⟨T, _, _, rfl, hout fun i hi z => e (natsI_mem.mpr ?_), hT, .refl⟩
      rw [← z, List.getD_eq_getElem?_getD, List.getElem?_eq_getElem (by omega)]
      exact List.getElem_mem _
  · intro ρ1 S1 ⟨T', x3, x4, e1, hq, hT', o'⟩
    subst e1
    obtain ⟨ok', ⟨c0, hc0, ec0⟩, fl⟩ := hQ T' hq
    have l1' := ok'.rows
    have l2' := ok'.cols
    have l3' := ok'.basis
    obtain ⟨c, hc, ec, fc⟩ := first_at (l := T'.cols) (v := n) (by
      rw [← ec0, List.getD_eq_getElem?_getD, List.getElem?_eq_getElem (by omega)]
      exact List.getElem_mem _)
    rw [l2'] at hc
    repeat get_elem_tactic_trivial
    try dsimp only [List.set_cons_succ, List.set_cons_zero]
    refine ⟨⟨_, lst_at hT'.cols⟩, ?_⟩
    repeat get_elem_tactic_trivial
    try dsimp only [List.set_cons_succ, List.set_cons_zero]
    refine ⟨natsI T'.cols, _, c, lst_at hT'.cols, rfl, by rw [natsI_get (by omega), ec], fun j hj => getD_ne (by omega) (fc j hj), ?_⟩
    repeat get_elem_tactic_trivial
    try dsimp only [List.set_cons_succ, List.set_cons_zero]
    refine st_make ?_
    repeat get_elem_tactic_trivial
    try dsimp only [List.set_cons_succ, List.set_cons_zero]
    intro p' np'
    have hp1 : p ≠ p' := fun z => by rw [← z, hT'.obj] at np'; cases np'
    have hp2 : pc ≠ p' := fun z => by rw [← z, hT'.cols] at np'; cases np'
    have hp3 : pb ≠ p' := fun z => by rw [← z, hT'.basis] at np'; cases np'
    have np0 : S p' = none := by rw [← o' p' (Ne.symm hp1) (Ne.symm hp2) (Ne.symm hp3)]; exact np'
    refine sp_init (rows := []) (bounds := []) (goal := g) Sto.set_same rfl (by simp) (by omega) (fun r hr => by cases hr) fun pc' pb' S2 _ _ hN ag => ⟨rfl, ?_⟩
    have A : ∀ b, S1 b ≠ none → S2 b = S1 b := fun b hb => by
      have nb : b ≠ p' := fun z => hb (z ▸ np')
      rw [ag b nb (by rw [Sto.set_ne nb]; exact hb), Sto.set_ne nb]
    clear ag
    have hO : TabAt Fr S2 p pc pb T' := hT'.agr fun b x e => by rw [A b (by rw [e]; simp), e]
    repeat get_elem_tactic_trivial
    try dsimp only [List.set_cons_succ, List.set_cons_zero]
    refine comp_mapL T'.rows rowD (fun r => rowD (r.take c ++ r.drop (c + 1))) trivial (by unfold sizeLine; omega) (fun r hr K1 F1 k => ?_) ?_
    · have lr := (ok'.row r hr).len
      unfold rowD
      repeat get_elem_tactic_trivial
      try dsimp only [List.set_cons_succ, List.set_cons_zero]
      rw [cut_lo]
      repeat get_elem_tactic_trivial
      try dsimp only [List.set_cons_succ, List.set_cons_zero]
      rw [show ((c : Nat) : Int) + 1 = ((c + 1 : Nat) : Int) from rfl, cut_l]
      refine st_addLL (a := (r.map D.int).take c) (b := (r.map D.int).drop (c + 1)) rfl rfl (by rw [List.length_take, List.length_drop, List.length_map]; unfold sizeLine; omega) ?_
      unfold rowD at k
      rw [List.map_append, List.map_take, List.map_drop] at k
      exact k
    repeat get_elem_tactic_trivial
    try dsimp only [List.set_cons_succ, List.set_cons_zero]
    refine ⟨p', _, _, rfl, hN.obj, List.mem_singleton.mpr rfl, by show (6 : Nat) < 1000; decide, ?_⟩
    have eR : (T'.rows.map fun r => rowD (r.take c ++ r.drop (c + 1))) = (T'.rows.map fun r => r.take c ++ r.drop (c + 1)).map rowD := by rw [List.map_map]; rfl
    rw [eR]
    have hN1 := set_rowsT hN (T'.rows.map fun r => r.take c ++ r.drop (c + 1))
    obtain ⟨S3, e3⟩ : ∃ S3, S3 = S2.set p' (.obj (He.ga Fr "Table") (putD "rows" (.lst ((T'.rows.map fun r => r.take c ++ r.drop (c + 1)).map rowD)) (tabFs (tab0 [] [] g) pc' pb'))) := ⟨_, rfl⟩
    rw [← e3] at hN1 ⊢
    have A3 : ∀ b, S1 b ≠ none → S3 b = S1 b := fun b hb => by
      rw [e3, Sto.set_ne fun z => hb (by rw [z]; exact np')]
      exact A b hb
    clear e3 A hO hN
    have hO3 : TabAt Fr S3 p pc pb T' := hT'.agr fun b x e => by rw [A3 b (by rw [e]; simp), e]
    have fr3 : ∀ {Sx : Sto} {q : Addr}, (∀ b, S1 b ≠ none → Sx b = S1 b) → Sx q = none → S1 q = none := fun {Sx q} a e => by
      cases es : S1 q with
      | none => rfl
      | some x =>
        have := a q (by rw [es]; simp)
        rw [e, es] at this
        cases this
    repeat get_elem_tactic_trivial
    try dsimp only [List.set_cons_succ, List.set_cons_zero]
    rw [it_at hO3.cols]
    show compW _ _ _ _ _ ((natsI T'.cols).map D.int) [] S3 _
    rw [natsI_D]
    refine comp_filterL T'.cols (fun v => D.int ((v : Nat) : Int)) (fun v => D.int ((dn n v : Nat) : Int)) (fun v => decide (v ≠ n)) (by show S3 pc = some (Cell.lst (T'.cols.map fun v => D.int ((v : Nat) : Int))); rw [← natsI_D]; exact hO3.cols) (by unfold sizeLine; omega) (fun v hv K1 F1 k1 k2 => ?_) ?_
    · repeat get_elem_tactic_trivial
      try dsimp only [List.set_cons_succ, List.set_cons_zero]
      refine br_b (fun e => ?_) fun e => ?_
      · repeat get_elem_tactic_trivial
        try dsimp only [List.set_cons_succ, List.set_cons_zero]
        refine st_intB ?_
        repeat get_elem_tactic_trivial
        try dsimp only [List.set_cons_succ, List.set_cons_zero]
        rw [dn_int]
        refine k1 ?_
        simp only [Bool.not_eq_true', decide_eq_false_iff_not] at e
        exact decide_eq_true (by omega)
      · refine k2 ?_
        simp only [Bool.not_eq_false', decide_eq_true_eq] at e
        exact decide_eq_false (by omega)
    repeat get_elem_tactic_trivial
    try dsimp only [List.set_cons_succ, List.set_cons_zero]
    intro q nq
    have eC : ((T'.cols.filter fun v => decide (v ≠ n)).map fun v => D.int ((dn n v : Nat) : Int)) = (natsI ((T'.cols.filter fun v => decide (v ≠ n)).map (dn n))).map D.int := by
      rw [natsI_D, List.map_map]
      rfl
    rw [eC]
    have hN2 := set_colsT hN1 (cols := (T'.cols.filter fun v => decide (v ≠ n)).map (dn n)) nq
    have pq : p' ≠ q := fun z => by rw [← z, hN1.obj] at nq; cases nq
    repeat get_elem_tactic_trivial
    try dsimp only [List.set_cons_succ, List.set_cons_zero]
    refine ⟨p', _, _, rfl, (Sto.set_ne pq).trans hN1.obj, List.mem_singleton.mpr rfl, by show (6 : Nat) < 1000; decide, ?_⟩
    obtain ⟨S4, e4⟩ : ∃ S4, S4 = (S3.set q (.lst ((natsI ((T'.cols.filter fun v => decide (v ≠ n)).map (dn n))).map D.int))).set p' (.obj (He.ga Fr "Table") (putD "columns" (.cell q) (tabFs { tab0 [] [] g with rows := T'.rows.map fun r => r.take c ++ r.drop (c + 1) } pc' pb'))) := ⟨_, rfl⟩
    rw [← e4] at hN2 ⊢
    have A4 : ∀ b, S1 b ≠ none → S4 b = S1 b := fun b hb => by
      rw [e4, Sto.set_ne fun z => hb (by rw [z]; exact np'), Sto.set_ne fun z => hb (by rw [z]; exact fr3 A3 nq)]
      exact A3 b hb
    have nq0 := fr3 A3 nq
    clear e4 A3 hO3 hN1 nq
    have hO4 : TabAt Fr S4 p pc pb T' := hT'.agr fun b x e => by rw [A4 b (by rw [e]; simp), e]
    repeat get_elem_tactic_trivial
    try dsimp only [List.set_cons_succ, List.set_cons_zero]
    rw [it_at hO4.basis]
    show compW _ _ _ _ _ ((natsI T'.basis).map D.int) [] S4 _
    rw [natsI_D]
    refine comp_mapL T'.basis (fun v => D.int ((v : Nat) : Int)) (fun v => D.int ((dn n v : Nat) : Int)) (by show S4 pb = some (Cell.lst (T'.basis.map fun v => D.int ((v : Nat) : Int))); rw [← natsI_D]; exact hO4.basis) (by unfold sizeLine; omega) (fun v hv K1 F1 k1 => ?_) ?_
    · repeat get_elem_tactic_trivial
      try dsimp only [List.set_cons_succ, List.set_cons_zero]
      refine st_intB ?_
      repeat get_elem_tactic_trivial
      try dsimp only [List.set_cons_succ, List.set_cons_zero]
      rw [dn_int]
      exact k1
    repeat get_elem_tactic_trivial
    try dsimp only [List.set_cons_succ, List.set_cons_zero]
    intro q2 nq2
    have eB : (T'.basis.map fun v => D.int ((dn n v : Nat) : Int)) = (natsI (T'.basis.map (dn n))).map D.int := by
      rw [natsI_D, List.map_map]
      rfl
    rw [eB]
    have hN3 := set_basisT hN2 (basis := T'.basis.map (dn n)) nq2
    have pq2 : p' ≠ q2 := fun z => by rw [← z, hN2.obj] at nq2; cases nq2
    repeat get_elem_tactic_trivial
    try dsimp only [List.set_cons_succ, List.set_cons_zero]
    refine ⟨p', _, _, rfl, (Sto.set_ne pq2).trans hN2.obj, List.mem_singleton.mpr rfl, by show (6 : Nat) < 1000; decide, ?_⟩
    obtain ⟨S5, e5⟩ : ∃ S5, S5 = (S4.set q2 (.lst ((natsI (T'.basis.map (dn n))).map D.int))).set p' (.obj (He.ga Fr "Table") (putD "basis" (.cell q2) (tabFs { tab0 [] [] g with rows := T'.rows.map fun r => r.take c ++ r.drop (c + 1), cols := (T'.cols.filter fun v => decide (v ≠ n)).map (dn n) } q pb'))) := ⟨_, rfl⟩
    rw [← e5] at hN3 ⊢
    have A5 : ∀ b, S1 b ≠ none → S5 b = S1 b := fun b hb => by
      rw [e5, Sto.set_ne fun z => hb (by rw [z]; exact np'), Sto.set_ne fun z => hb (by rw [z]; exact fr3 A4 nq2)]
      exact A4 b hb
    have nq20 := fr3 A4 nq2
    clear e5 A4 hO4 hN2 nq2
    have hO5 : TabAt Fr S5 p pc pb T' := hT'.agr fun b x e => by rw [A5 b (by rw [e]; simp), e]
    repeat get_elem_tactic_trivial
    try dsimp only [List.set_cons_succ, List.set_cons_zero]
    refine ⟨p', _, _, rfl, hN3.obj, List.mem_singleton.mpr rfl, by show (6 : Nat) < 1000; decide, ?_⟩
    have hN4 := set_denT hN3 T'.den
    obtain ⟨S6, e6⟩ : ∃ S6, S6 = S5.set p' (.obj (He.ga Fr "Table") (putD "denominator" (.int T'.den) (tabFs { tab0 [] [] g with rows := T'.rows.map fun r => r.take c ++ r.drop (c + 1), cols := (T'.cols.filter fun v => decide (v ≠ n)).map (dn n), basis := T'.basis.map (dn n) } q q2))) := ⟨_, rfl⟩
    rw [← e6] at hN4 ⊢
    have A6 : ∀ b, S1 b ≠ none → S6 b = S1 b := fun b hb => by
      rw [e6, Sto.set_ne fun z => hb (by rw [z]; exact np')]
      exact A5 b hb
    clear e6 A5 hO5 hN3
    repeat get_elem_tactic_trivial
    try dsimp only [List.set_cons_succ, List.set_cons_zero]
    refine sp_goal_row (T := drp0 T' c n g) (m := m) (n := n) (g := g) hN4 (by show (T'.rows.map _).length = m; rw [List.length_map]; exact l1') (fun r hr => ?_) (by show (List.map _ _).length = n; rw [List.length_map]; exact fl) (by show (List.map _ _).length = m; rw [List.length_map]; exact l3') ok'.dsm gs (by omega) (by omega) (by omega) ?_
    · obtain ⟨r0, h0, er⟩ := List.mem_map.mp hr
      have o0 := ok'.row r0 h0
      have lr := o0.len
      rw [← er]
      refine ⟨by rw [List.length_append, List.length_take, List.length_drop]; omega, fun x hx => ?_⟩
      rcases List.mem_append.mp hx with hx | hx
      · exact o0.sm x (List.mem_of_mem_take hx)
      · exact o0.sm x (List.mem_of_mem_drop hx)
    repeat get_elem_tactic_trivial
    try dsimp only [List.set_cons_succ, List.set_cons_zero]
    refine ⟨p', _, _, rfl, hN4.obj, List.mem_singleton.mpr rfl, by show (6 : Nat) < 1000; decide, ?_⟩
    have hN5 := set_goalT hN4 (rgI (n + 1) (goalE (drp0 T' c n g) g n m))
    obtain ⟨S7, e7⟩ : ∃ S7, S7 = S6.set p' (.obj (He.ga Fr "Table") (putD "goal" (rowD (rgI (n + 1) (goalE (drp0 T' c n g) g n m))) (tabFs { tab0 [] [] g with rows := T'.rows.map fun r => r.take c ++ r.drop (c + 1), cols := (T'.cols.filter fun v => decide (v ≠ n)).map (dn n), basis := T'.basis.map (dn n), den := T'.den } q q2))) := ⟨_, rfl⟩
    rw [← e7] at hN5 ⊢
    have A7 : ∀ b, S1 b ≠ none → S7 b = S1 b := fun b hb => by
      rw [e7, Sto.set_ne fun z => hb (by rw [z]; exact np')]
      exact A6 b hb
    repeat get_elem_tactic_trivial
    try dsimp only [List.set_cons_succ, List.set_cons_zero]
    have old : ∀ x, S1 x = none → S x = none := fun x hx => by
      have x1 : x ≠ p := fun z => by rw [z, hT'.obj] at hx; cases hx
      have x2 : x ≠ pc := fun z => by rw [z, hT'.cols] at hx; cases hx
      have x3 : x ≠ pb := fun z => by rw [z, hT'.basis] at hx; cases hx
      rw [← o' x x1 x2 x3]
      exact hx
    refine fin.of (h T' c S7 p' q q2 (old _ np') (old _ nq0) (old _ nq20) hq hc ec fc hN5 fun b b1 b2 b3 hb => ?_)
    have := o' b b1 b2 b3
    rw [A7 b (by rw [this]; exact hb), this]


end G

set_option Elab.async false
set_option linter.all false
set_option maxRecDepth 100000
set_option autoImplicit false
set_option maxHeartbeats 2000000
namespace G
open PySem PySem.Spec PyProof.Rows L2
local macro_rules
  | `(tactic| get_elem_tactic_trivial) => `(tactic| first
    | (with_reducible first
      | refine st_seqSet ?_ | refine st_seqAsg ?_ | refine st_seqDo ?_ | refine st_seqPar ?_ | refine st_seqPar3 ?_ | refine st_seqFor ?_ | refine st_seqWhile ?_ | refine st_seqAug ?_ | refine st_seqSkip ?_ | refine st_seqRet ?_
      | refine st_skip ?_ | refine st_ret ?_ | refine st_retN ?_ | refine st_do ?_ | refine st_if ?_ | refine st_set ?_ | refine st_asg ?_ | refine st_par ?_ | refine st_par3 ?_
      | refine st_c ?_ | refine st_op2 ?_ | refine st_op1 ?_ | refine st_test ?_ | refine st_tbl ?_ | refine st_and ?_ | refine st_or ?_ | refine st_not ?_ | refine st_andV ?_ | refine st_orV ?_ | refine st_notV ?_ | refine st_bl ?_
      | refine st_chain ?_ | refine st_ifE ?_ | refine st_nil ?_ | refine st_cons ?_ | refine st_call ?_ | refine st_fr ?_ | refine st_lv ?_ | refine st_one ?_ | refine st_two ?_
      | refine st_gN ?_ | refine st_lst ?_ | refine st_tup ?_ | refine st_slF ?_ | refine st_oNo ?_ | refine st_oS ?_ | refine st_enum ?_ | refine st_scr ?_ | refine st_list ?_ | refine st_it ?_ | refine st_comp ?_ | refine st_for ?_ | refine st_gIx ?_ | refine st_range1 ?_ | refine st_app ?_ | refine st_zip ?_ | refine st_rev1 ?_ | refine st_meth ?_ | refine st_isS ?_ | refine st_count ?_ | refine st_sl ?_ | refine st_slT ?_ | refine st_slL ?_ | refine st_max2 ?_ | refine st_min2 ?_
      | refine st_add ?_ | refine st_sub ?_ | refine st_int ?_ | refine st_neg ?_ | refine st_lt ?_ | refine st_le ?_ | refine st_gt ?_ | refine st_ge ?_ | refine st_eq ?_ | refine st_ne ?_ | refine st_eqB ?_ | refine st_neB ?_ | refine st_eqS ?_ | refine st_neS ?_ | refine st_isN ?_ | refine st_sorted ?_ | refine st_abs ?_ | refine st_isNotN ?_
      | refine br_t ?_ | refine br_f ?_)
    | ((with_reducible refine st_var (d := ?_) ?_ ?_); rotate_left; (exact rfl))
    | ((with_reducible refine st_isi2 (k := ?_) (b := true) ?_ ?_ ?_); rotate_left; (exact rfl); (exact rfl))
    | ((with_reducible refine st_isi2 (k := ?_) (b := false) ?_ ?_ ?_); rotate_left; (exact rfl); (exact rfl))
    | ((with_reducible refine st_ix (ds := ?_) (d := ?_) ?_ ?_ ?_); rotate_left 2; (first | exact rfl | exact seq_at (by assumption)); (exact rfl))
    | ((with_reducible refine st_len2 (ds := ?_) (n := ?_) ?_ ?_ ?_); rotate_left 2; (first | exact rfl | exact seq_at (by assumption)); (exact rfl))
    | ((with_reducible refine st_addLL (a := ?_) (b := ?_) ?_ ?_ ?_ ?_); rotate_left 2; (first | exact rfl | exact lst_at (by assumption)); (first | exact rfl | exact lst_at (by assumption)); (exact Nat.le_of_ble_eq_true rfl))
    | ((with_reducible refine st_pow ?_ ?_); (exact ⟨by decide, by decide, by decide⟩))
    | ((with_reducible refine st_mod ?_ ?_); (first | decide | omega))
    | ((with_reducible refine st_size ?_ ?_); (exact rfl))
    | ((with_reducible refine st_gT2 ?_ ?_); (exact rfl))
    | ((with_reducible refine st_gsC ?_))
    | ((with_reducible refine st_gsN ?_))
    | ((with_reducible refine st_mulS ?_ ?_ ?_); omega; omega)
    | ((with_reducible refine br_ct ?_ ?_); (exact rfl))
    | ((with_reducible refine br_cf ?_ ?_); (exact rfl))
    | (rw [list_tup])
    | (rw [list_lst])
    | (rw [items_tup])
    | (rw [items_lst])
    | ((refine st_listM (ds := ?_) ?_ ?_); rotate_left; (first | exact rfl | exact seq_at (by assumption)))
    | ((refine st_itM (it := ?_) ?_ ?_); rotate_left; (first | exact rfl | exact it_at (by assumption))))

/-! ### the first table, and the one without the last variable -/
def av (m n : Nat) (rows : List (List Int)) (goal : List Int) (v : Nat) : Vec := fun t => if v < n then (if t < m then (rows.getD t []).getD v 0 else 0 - goal.getD v 0) else unitV (v - n) t
def bv (m : Nat) (bounds : List Int) : Vec := fun t => if t < m then bounds.getD t 0 else 0
structure Prob (m n : Nat) (rows : List (List Int)) (bounds goal : List Int) : Prop where
  hr : rows.length = m
  hw : ∀ r, r ∈ rows → r.length = n
  hb : bounds.length = m
  hg : goal.length = n
theorem getD_app {α : Type} {l : List α} {x d : α} {i : Nat} (h : i ≤ l.length) : (l ++ [x]).getD i d = if i < l.length then l.getD i d else x := by
  rw [List.getD_eq_getElem?_getD]
  by_cases e : i < l.length
  · rw [if_pos e, List.getElem?_append_left e, List.getD_eq_getElem?_getD]
  · rw [if_neg e, List.getElem?_append_right (by omega), show i - l.length = 0 by omega]
    rfl
theorem Prob.at {m n : Nat} {rows : List (List Int)} {bounds goal : List Int} (h : Prob m n rows bounds goal) {i : Nat} (hi : i < m) : (rows.getD i []).length = n := by
  have l := h.hr
  rw [List.getD_eq_getElem?_getD, List.getElem?_eq_getElem (by omega)]
  exact h.hw _ (List.getElem_mem _)
theorem tab0_en {m n : Nat} {rows : List (List Int)} {bounds goal : List Int} (h : Prob m n rows bounds goal) {i j : Nat} (hi : i ≤ m) (hj : j ≤ n) : en m (tab0 rows bounds goal) i j = if j < n then av m n rows goal j i else bv m bounds i := by
  have l1 := h.hr
  have l2 := h.hb
  have l3 := h.hg
  unfold en av bv
  by_cases e : i < m
  · have lr := h.at e
    have ez : (List.zip rows bounds).getD i ([], 0) = (rows.getD i [], bounds.getD i 0) := by
      rw [List.getD_eq_getElem?_getD, List.getElem?_eq_getElem (by rw [List.length_zip]; omega), Option.getD_some, List.getElem_zip, List.getD_eq_getElem?_getD, List.getElem?_eq_getElem (by omega), List.getD_eq_getElem?_getD, List.getElem?_eq_getElem (by omega)]
      rfl
    rw [if_pos e, if_pos e, if_pos e]
    show (((List.zip rows bounds).map fun q => q.1 ++ [q.2]).getD i []).getD j 0 = _
    rw [getD_map' (x := ([], 0)) (by rw [List.length_zip]; omega), ez]
    show (rows.getD i [] ++ [bounds.getD i 0]).getD j 0 = _
    rw [getD_app (by omega), lr]
    by_cases z : j < n
    · rw [if_pos z, if_pos z, if_pos z]
    · rw [if_neg z, if_neg z]
  · rw [if_neg e, if_neg e, if_neg e]
    show (goal.map (fun x => 0 - x) ++ [0]).getD j 0 = _
    rw [getD_app (by rw [List.length_map]; omega), List.length_map, l3]
    split
    · rw [getD_map' (x := 0) (by omega)]
    · rfl
theorem tab0_cl {rows : List (List Int)} {bounds goal : List Int} {j : Nat} (hj : j < goal.length) : cl (tab0 rows bounds goal) j = j := by
  show (List.range goal.length).getD j 0 = j
  rw [List.getD_eq_getElem?_getD, List.getElem?_range hj]
  rfl
theorem tab0_bs {rows : List (List Int)} {bounds goal : List Int} {i : Nat} (hi : i < rows.length) : bs (tab0 rows bounds goal) i = goal.length + i := by
  show ((List.range rows.length).map (goal.length + ·)).getD i 0 = _
  rw [getD_map' (x := 0) (by rw [List.length_range]; exact hi), List.getD_eq_getElem?_getD, List.getElem?_range hi]
  rfl
theorem av_slack {m n i : Nat} {rows : List (List Int)} {goal : List Int} : av m n rows goal (n + i) = unitV i := by
  funext t
  unfold av
  rw [if_neg (by omega), Nat.add_sub_cancel_left]
theorem inv_start {m n : Nat} {rows : List (List Int)} {bounds goal : List Int} (h : Prob m n rows bounds goal) : Inv (tab0 rows bounds goal) m n (av m n rows goal) (bv m bounds) := by
  have l1 := h.hr
  have l2 := h.hb
  have l3 := h.hg
  have eb : ∀ i, i ≤ m → bas m (av m n rows goal) (tab0 rows bounds goal) i = unitV i := fun i hi => by
    unfold bas
    split
    · rename_i e
      rw [tab0_bs (by omega), l3, av_slack]
    · rw [show i = m by omega]
  refine ⟨⟨?_, fun r hr => ?_, ?_, ?_, ?_⟩, Int.one_pos, fun j hj t ht => ?_, ⟨1, .inl rfl, ?_⟩, ?_, ?_, ?_, ?_, ?_, ?_⟩
  · show (List.map _ _).length = m
    rw [List.length_map, List.length_zip]; omega
  · obtain ⟨q, hq, e⟩ := List.mem_map.mp hr
    rw [← e, List.length_append, h.hw _ (List.of_mem_zip hq).1]
    rfl
  · show (List.map _ _ ++ _).length = _
    rw [List.length_append, List.length_map, l3]
    rfl
  · show (List.range _).length = n
    rw [List.length_range, l3]
  · show (List.map _ (List.range _)).length = m
    rw [List.length_map, List.length_range, l1]
  · rw [sumN_one (k := t) ht fun i hi ne => by
      rw [eb i (by omega)]
      unfold unitV
      rw [if_neg (by omega), Int.mul_zero], eb t (by omega), tab0_en h (by omega) hj]
    unfold unitV cv
    rw [if_pos rfl]
    show 1 * _ = _
    rw [Int.one_mul, Int.mul_one]
    by_cases e : j < n
    · rw [if_pos e, if_pos e, tab0_cl (by omega)]
    · rw [if_neg e, if_neg e]
  · show _ = 1 * 1
    rw [det_one fun i hi t ht => by rw [eb i (by omega)]; rfl]
    rfl
  · intro i j hi hj e
    rw [tab0_bs (by omega), tab0_bs (by omega)] at e
    omega
  · intro i j hi hj e
    rw [tab0_cl (by omega), tab0_cl (by omega)] at e
    exact e
  · intro i j hi hj e
    rw [tab0_bs (by omega), tab0_cl (by omega)] at e
    omega
  · intro v hv
    by_cases e : v < n
    · exact .inr ⟨v, e, tab0_cl (by omega)⟩
    · exact .inl ⟨v - n, by omega, by rw [tab0_bs (by omega)]; omega⟩
  · intro i hi
    rw [tab0_bs (by omega)]
    omega
  · intro j hj
    rw [tab0_cl (by omega)]
    omega
theorem cut_getD {α : Type} {l : List α} {c j : Nat} {d : α} (h : c < l.length) : (l.take c ++ l.drop (c + 1)).getD j d = l.getD (sk c j) d := by
  rw [List.getD_eq_getElem?_getD, List.getD_eq_getElem?_getD]
  unfold sk
  by_cases e : j < c
  · rw [if_pos e, List.getElem?_append_left (by rw [List.length_take]; omega), List.getElem?_take_of_lt e]
  · rw [if_neg e, List.getElem?_append_right (by rw [List.length_take]; omega), List.getElem?_drop, List.length_take]
    congr 2
    omega
theorem filter_cut {l : List Nat} {c e : Nat} (h : c < l.length) (he : l.getD c 0 = e) (u : ∀ j, j < l.length → l.getD j 0 = e → j = c) : (l.filter fun v => decide (v ≠ e)) = l.take c ++ l.drop (c + 1) := by
  have gd : ∀ (j : Nat) (h : j < l.length), l[j] = l.getD j 0 := fun j h => by
    rw [List.getD_eq_getElem?_getD, List.getElem?_eq_getElem h]
    rfl
  have a : l = l.take c ++ e :: l.drop (c + 1) := by
    conv => lhs; rw [← List.take_append_drop c l, List.drop_eq_getElem_cons h, gd c h, he]
  have b : (l.take c).filter (fun v => decide (v ≠ e)) = l.take c := List.filter_eq_self.mpr fun v hv => by
    obtain ⟨j, hj, ej⟩ := List.getElem_of_mem hv
    rw [List.length_take] at hj
    rw [List.getElem_take, gd j (by omega)] at ej
    refine decide_eq_true fun z => ?_
    have := u j (by omega) (by rw [ej, z])
    omega
  have d : (l.drop (c + 1)).filter (fun v => decide (v ≠ e)) = l.drop (c + 1) := List.filter_eq_self.mpr fun v hv => by
    obtain ⟨j, hj, ej⟩ := List.getElem_of_mem hv
    rw [List.length_drop] at hj
    rw [List.getElem_drop, gd _ (by omega)] at ej
    refine decide_eq_true fun z => ?_
    have := u _ (by omega) (ej.trans z)
    omega
  conv => lhs; rw [a]
  rw [List.filter_append, List.filter_cons_of_neg (by simp), b, d]
theorem inv_drop {m n c : Nat} {rows : List (List Int)} {bounds g g1 : List Int} {T : Tab} (h : Prob m n rows bounds g) (hi : Inv T m (n + 1) (av m (n + 1) (rows.map fun r => r ++ [-1]) g1) (bv m bounds)) (hc : c < n + 1) (ec : cl T c = n) : Inv (drpT T c n n m g) m n (av m n rows g) (bv m bounds) := by
  have sp := hi.shp
  have lr := sp.rows
  have lc := sp.cols
  have lb := sp.basis
  have l1 := h.hr
  have l3 := h.hg
  have fc : (T.cols.filter fun v => decide (v ≠ n)) = T.cols.take c ++ T.cols.drop (c + 1) := filter_cut (by omega) ec fun j hj e => hi.cc j c (by omega) hc (e.trans ec.symm)
  have skl : ∀ {j}, j < n → sk c j < n + 1 := fun {j} hj => sk_lt hj
  have skn : sk c n = n + 1 := by unfold sk; rw [if_neg (by omega)]
  have nc : ∀ {j}, j < n → cl T (sk c j) ≠ n := fun {j} hj e => by
    have := hi.cc (sk c j) c (skl hj) hc (e.trans ec.symm)
    unfold sk at this
    split at this <;> omega
  have nb : ∀ {i}, i < m → bs T i ≠ n := fun {i} h e => hi.bc i c h hc (e.trans ec.symm)
  have cl2 : ∀ {j}, j < n → cl (drpT T c n n m g) j = dn n (cl T (sk c j)) := fun {j} hj => by
    show (((T.cols.filter fun v => decide (v ≠ n)).map (dn n))).getD j 0 = _
    rw [fc, getD_map' (x := 0) (by rw [List.length_append, List.length_take, List.length_drop]; omega), cut_getD (by omega)]
    rfl
  have bs2 : ∀ {i}, i < m → bs (drpT T c n n m g) i = dn n (bs T i) := fun {i} h => by
    show (T.basis.map (dn n)).getD i 0 = _
    rw [getD_map' (x := 0) (by omega)]
    rfl
  have ent2 : ∀ {i j}, i < m → j ≤ n → ent (drp0 T c n g) i j = en m T i (sk c j) := fun {i j} h hj => by
    rw [en_ent h]
    show ((T.rows.map fun r => r.take c ++ r.drop (c + 1)).getD i []).getD j 0 = _
    have := sp.at h
    rw [getD_map' (x := []) (by omega), cut_getD (by omega)]
    rfl
  have en2 : ∀ {i j}, i < m → j ≤ n → en m (drpT T c n n m g) i j = en m T i (sk c j) := fun {i j} h hj => by
    rw [← ent2 h hj, en_ent h]
    rfl
  have enm : ∀ {j}, j ≤ n → en m (drpT T c n n m g) m j = goalE (drp0 T c n g) g n m j := fun {j} hj => by
    rw [en_goal]
    exact rgI_at (by omega)
  have A12 : ∀ {v t}, v ≠ n → t < m → av m n rows g (dn n v) t = av m (n + 1) (rows.map fun r => r ++ [-1]) g1 v t := fun {v t} hv ht => by
    by_cases e : v < n
    · have := h.at ht
      rw [show dn n v = v from by unfold dn; rw [if_neg (by omega)]]
      unfold av
      rw [if_pos e, if_pos (show v < n + 1 by omega), if_pos ht, getD_map' (x := []) (by omega), getD_app (by omega), this, if_pos e, if_pos ht]
    · rw [show dn n v = v - 1 from by unfold dn; rw [if_pos (by omega)]]
      unfold av
      rw [if_neg (by omega), if_neg (by omega), show v - 1 - n = v - (n + 1) by omega]
  have A2m : ∀ {v}, v < n + m → av m n rows g v m = 0 - g.getD v 0 := fun {v} hv => by
    unfold av
    by_cases e : v < n
    · rw [if_pos e, if_neg (by omega)]
    · rw [if_neg e, getD_out (by omega)]
      unfold unitV
      rw [if_neg (by omega)]
      rfl
  have dlt : ∀ {v}, v < n + 1 + m → v ≠ n → dn n v < n + m := fun {v} h1 h2 => by
    unfold dn
    split <;> omega
  have dinj : ∀ {u v}, u ≠ n → v ≠ n → dn n u = dn n v → u = v := fun {u v} h1 h2 e => by
    unfold dn at e
    split at e <;> split at e <;> omega
  have bas2 : ∀ {i t}, i < m → t < m → bas m (av m n rows g) (drpT T c n n m g) i t = bas m (av m (n + 1) (rows.map fun r => r ++ [-1]) g1) T i t := fun {i t} h ht => by
    rw [bas_lt h, bas_lt h, bs2 h, A12 (nb h) ht]
  refine ⟨⟨?_, fun r hr => ?_, ?_, ?_, ?_⟩, hi.d0, fun j hj t ht => ?_, ?_, ?_, ?_, ?_, ?_, ?_, ?_⟩
  · show (List.map _ _).length = m
    rw [List.length_map, lr]
  · obtain ⟨r0, h0, er⟩ := List.mem_map.mp hr
    have := sp.row r0 h0
    rw [← er, List.length_append, List.length_take, List.length_drop]
    omega
  · exact rgI_len
  · show (List.map _ _).length = n
    rw [List.length_map, fc, List.length_append, List.length_take, List.length_drop]
    omega
  · show (List.map _ _).length = m
    rw [List.length_map, lb]
  · show T.den * _ = _
    have key : sumN (m + 1) (fun i => en m (drpT T c n n m g) i j * bas m (av m n rows g) (drpT T c n n m g) i t) = sumN m (fun i => en m (drpT T c n n m g) i j * bas m (av m n rows g) (drpT T c n n m g) i t) + en m (drpT T c n n m g) m j * bas m (av m n rows g) (drpT T c n n m g) m t := rfl
    rw [key, bas_m]
    by_cases e : t < m
    · have old := hi.eqn (sk c j) (by unfold sk; split <;> omega) t ht
      have key1 : sumN (m + 1) (fun i => en m T i (sk c j) * bas m (av m (n + 1) (rows.map fun r => r ++ [-1]) g1) T i t) = sumN m (fun i => en m T i (sk c j) * bas m (av m (n + 1) (rows.map fun r => r ++ [-1]) g1) T i t) + en m T m (sk c j) * bas m (av m (n + 1) (rows.map fun r => r ++ [-1]) g1) T m t := rfl
      have u0 : unitV m t = 0 := by unfold unitV; rw [if_neg (by omega)]
      rw [key1, bas_m, u0, Int.mul_zero, Int.add_zero] at old
      rw [u0, Int.mul_zero, Int.add_zero, sumN_congr fun i h => by rw [en2 h hj, bas2 h e], ← old]
      congr 1
      unfold cv
      by_cases z : j < n
      · rw [if_pos z, if_pos (skl z), cl2 z, A12 (nc z) e]
      · rw [if_neg z, show j = n by omega, skn, if_neg (by omega)]
    · have e : t = m := by omega
      subst e
      have u1 : unitV t t = 1 := by unfold unitV; rw [if_pos rfl]
      rw [u1, Int.mul_one, enm hj]
      unfold goalE
      have s0 : sumN t (fun i => en t (drpT T c n n t g) i j * bas t (av t n rows g) (drpT T c n n t g) i t) = -1 * sumN t (fun i => g.getD ((drp0 T c n g).basis.getD i 0) 0 * ent (drp0 T c n g) i j) := by
        rw [← sumN_mul]
        refine sumN_congr fun i h => ?_
        rw [bas_lt h, en2 h hj, ent2 h hj, bs2 h, A2m (dlt (by have := hi.bl i h; omega) (nb h))]
        have : (drp0 T c n g).basis.getD i 0 = dn n (bs T i) := bs2 h
        rw [this]
        grind
      rw [s0]
      unfold gBase cv
      by_cases z : j < n
      · rw [if_pos z, if_pos z, cl2 z, A2m (dlt (by have := hi.cl' _ (skl z); omega) (nc z))]
        have : (drp0 T c n g).cols.getD j 0 = dn n (cl T (sk c j)) := cl2 z
        rw [this]
        show T.den * _ = _ + (0 - _ * T.den + _)
        grind
      · rw [if_neg z, if_neg z]
        unfold bv
        rw [if_neg (by omega)]
        omega
  · obtain ⟨s, hs, hd⟩ := hi.sig
    refine ⟨s, hs, ?_⟩
    show _ = s * T.den
    rw [← hd, det_last fun t ht => by rw [bas_m]; rfl, det_last fun t ht => by rw [bas_m]; rfl]
    exact det_congr fun i h t ht => bas2 h ht
  · intro i j h1 h2 e
    rw [bs2 h1, bs2 h2] at e
    exact hi.bb i j h1 h2 (dinj (nb h1) (nb h2) e)
  · intro i j h1 h2 e
    rw [cl2 h1, cl2 h2] at e
    have := hi.cc _ _ (skl h1) (skl h2) (dinj (nc h1) (nc h2) e)
    unfold sk at this
    split at this <;> split at this <;> omega
  · intro i j h1 h2 e
    rw [bs2 h1, cl2 h2] at e
    exact hi.bc _ _ h1 (skl h2) (dinj (nb h1) (nc h2) e)
  · intro v hv
    rcases hi.cov (if v < n then v else v + 1) (by split <;> omega) with ⟨i, h1, e⟩ | ⟨j, h1, e⟩
    · refine .inl ⟨i, h1, ?_⟩
      rw [bs2 h1, e]
      unfold dn
      split <;> split <;> omega
    · have jc : j ≠ c := fun z => by
        rw [z, ec] at e
        split at e <;> omega
      refine .inr ⟨if j < c then j else j - 1, by split <;> omega, ?_⟩
      rw [cl2 (by split <;> omega), show sk c (if j < c then j else j - 1) = j from (by
        by_cases z : j < c
        · rw [if_pos z]; unfold sk; rw [if_pos z]
        · rw [if_neg z]; unfold sk; rw [if_neg (by omega)]; omega), e]
      unfold dn
      split <;> split <;> omega
  · intro i h1
    rw [bs2 h1]
    exact dlt (by have := hi.bl i h1; omega) (nb h1)
  · intro j h1
    rw [cl2 h1]
    exact dlt (by have := hi.cl' _ (skl h1); omega) (nc h1)


end G

set_option Elab.async false
set_option linter.all false
set_option maxRecDepth 100000
set_option autoImplicit false
set_option maxHeartbeats 2000000
namespace G
open PySem PySem.Spec PyProof.Rows L2
local macro_rules
  | `(tactic| get_elem_tactic_trivial) => `(tactic| first
    | (with_reducible first
      | refine st_seqSet ?_ | refine st_seqAsg ?_ | refine st_seqDo ?_ | refine st_seqPar ?_ | refine st_seqPar3 ?_ | refine st_seqFor ?_ | refine st_seqWhile ?_ | refine st_seqAug ?_ | refine st_seqSkip ?_ | refine st_seqRet ?_
      | refine st_skip ?_ | refine st_ret ?_ | refine st_retN ?_ | refine st_do ?_ | refine st_if ?_ | refine st_set ?_ | refine st_asg ?_ | refine st_par ?_ | refine st_par3 ?_
      | refine st_c ?_ | refine st_op2 ?_ | refine st_op1 ?_ | refine st_test ?_ | refine st_tbl ?_ | refine st_and ?_ | refine st_or ?_ | refine st_not ?_ | refine st_andV ?_ | refine st_orV ?_ | refine st_notV ?_ | refine st_bl ?_
      | refine st_chain ?_ | refine st_ifE ?_ | refine st_nil ?_ | refine st_cons ?_ | refine st_call ?_ | refine st_fr ?_ | refine st_lv ?_ | refine st_one ?_ | refine st_two ?_
      | refine st_gN ?_ | refine st_lst ?_ | refine st_tup ?_ | refine st_slF ?_ | refine st_oNo ?_ | refine st_oS ?_ | refine st_enum ?_ | refine st_scr ?_ | refine st_list ?_ | refine st_it ?_ | refine st_comp ?_ | refine st_for ?_ | refine st_gIx ?_ | refine st_range1 ?_ | refine st_app ?_ | refine st_zip ?_ | refine st_rev1 ?_ | refine st_meth ?_ | refine st_isS ?_ | refine st_count ?_ | refine st_sl ?_ | refine st_slT ?_ | refine st_slL ?_ | refine st_max2 ?_ | refine st_min2 ?_
      | refine st_add ?_ | refine st_sub ?_ | refine st_int ?_ | refine st_neg ?_ | refine st_lt ?_ | refine st_le ?_ | refine st_gt ?_ | refine st_ge ?_ | refine st_eq ?_ | refine st_ne ?_ | refine st_eqB ?_ | refine st_neB ?_ | refine st_eqS ?_ | refine st_neS ?_ | refine st_isN ?_ | refine st_sorted ?_ | refine st_abs ?_ | refine st_isNotN ?_
      | refine br_t ?_ | refine br_f ?_)
    | ((with_reducible refine st_var (d := ?_) ?_ ?_); rotate_left; (exact rfl))
    | ((with_reducible refine st_isi2 (k := ?_) (b := true) ?_ ?_ ?_); rotate_left; (exact rfl); (exact rfl))
    | ((with_reducible refine st_isi2 (k := ?_) (b := false) ?_ ?_ ?_); rotate_left; (exact rfl); (exact rfl))
    | ((with_reducible refine st_ix (ds := ?_) (d := ?_) ?_ ?_ ?_); rotate_left 2; (first | exact rfl | exact seq_at (by assumption)); (exact rfl))
    | ((with_reducible refine st_len2 (ds := ?_) (n := ?_) ?_ ?_ ?_); rotate_left 2; (first | exact rfl | exact seq_at (by assumption)); (exact rfl))
    | ((with_reducible refine st_addLL (a := ?_) (b := ?_) ?_ ?_ ?_ ?_); rotate_left 2; (first | exact rfl | exact lst_at (by assumption)); (first | exact rfl | exact lst_at (by assumption)); (exact Nat.le_of_ble_eq_true rfl))
    | ((with_reducible refine st_pow ?_ ?_); (exact ⟨by decide, by decide, by decide⟩))
    | ((with_reducible refine st_mod ?_ ?_); (first | decide | omega))
    | ((with_reducible refine st_size ?_ ?_); (exact rfl))
    | ((with_reducible refine st_gT2 ?_ ?_); (exact rfl))
    | ((with_reducible refine st_gsC ?_))
    | ((with_reducible refine st_gsN ?_))
    | ((with_reducible refine st_mulS ?_ ?_ ?_); omega; omega)
    | ((with_reducible refine br_ct ?_ ?_); (exact rfl))
    | ((with_reducible refine br_cf ?_ ?_); (exact rfl))
    | (rw [list_tup])
    | (rw [list_lst])
    | (rw [items_tup])
    | (rw [items_lst])
    | ((refine st_listM (ds := ?_) ?_ ?_); rotate_left; (first | exact rfl | exact seq_at (by assumption)))
    | ((refine st_itM (it := ?_) ?_ ?_); rotate_left; (first | exact rfl | exact it_at (by assumption))))

/-! ### the first phase -/
theorem cap_sum {m n v : Nat} {A : Nat → Vec} : sumN (m + 1) (fun t => unitV m t * A v t) = A v m := by
  rw [sumN_one (k := m) (by omega) fun i hi ne => by unfold unitV; rw [if_neg ne, Int.zero_mul]]
  unfold unitV
  rw [if_pos rfl, Int.one_mul]
def goal1 (n : Nat) : List Int := List.replicate n 0 ++ [-1]
def rows1 (rows : List (List Int)) : List (List Int) := rows.map fun r => r ++ [-1]
theorem goal1_at {n v : Nat} (h : v ≤ n) : (goal1 n).getD v 0 = if v = n then -1 else 0 := by
  unfold goal1
  rw [getD_app (by rw [List.length_replicate]; exact h), List.length_replicate]
  by_cases e : v < n
  · rw [if_pos e, if_neg (by omega), List.getD_eq_getElem?_getD, List.getElem?_replicate, if_pos e]
    rfl
  · rw [if_neg e, if_pos (by omega)]
theorem prob1 {m n : Nat} {rows : List (List Int)} {bounds g : List Int} (h : Prob m n rows bounds g) : Prob m (n + 1) (rows1 rows) bounds (goal1 n) := by
  refine ⟨by unfold rows1; rw [List.length_map]; exact h.hr, fun r hr => ?_, h.hb, by unfold goal1; rw [List.length_append, List.length_replicate]; rfl⟩
  obtain ⟨r0, h0, e⟩ := List.mem_map.mp hr
  rw [← e, List.length_append, h.hw r0 h0]
  rfl
theorem av1_m {m n v : Nat} {rows : List (List Int)} (h : v < n + 1 + m) : av m (n + 1) rows (goal1 n) v m = if v = n then 1 else 0 := by
  unfold av
  by_cases e : v < n + 1
  · rw [if_pos e, if_neg (by omega), goal1_at (by omega)]
    split <;> rfl
  · rw [if_neg e, if_neg (by omega)]
    unfold unitV
    rw [if_neg (by omega)]
theorem cap1 {m n : Nat} {rows : List (List Int)} : Cap m (n + 1) (av m (n + 1) rows (goal1 n)) (unitV m) := by
  refine ⟨by unfold unitV; rw [if_pos rfl], fun v hv => ?_⟩
  rw [cap_sum (n := n), av1_m hv]
  split <;> decide
theorem feas_zero {T : Tab} {m n r c : Nat} {A : Nat → Vec} {b : Vec} (h : Inv T m n A b) (f : Feas m n T) (hr : r < m) (hc : c < n) (z : en m T r n = 0) : Feas m n (exch T r c) := fun i hi => by
  by_cases e : i = r
  · subst e
    rw [exch_en h.shp hr hc (by omega) (Nat.le_refl _), if_pos rfl, if_neg (by omega), z, Int.mul_zero]
    exact Int.le_refl _
  · have q := exch_mul h hr hc (i := i) (j := n) (by omega) (Nat.le_refl _) e (by omega)
    rw [z, Int.mul_zero, Int.sub_zero, Int.mul_comm (en m T i n), ← Int.mul_assoc, ← sg_abs] at q
    have : 0 ≤ (((en m T r c).natAbs : Nat) : Int) * en m T i n := Int.mul_nonneg (by omega) (f i hi)
    rw [← q] at this
    exact Int.nonneg_of_mul_nonneg_right this h.d0
theorem feas_first {m n r : Nat} {rows : List (List Int)} {bounds g : List Int} (h : Prob m n rows bounds g) (hr : r < m) (mi : ∀ i, i < m → bounds.getD r 0 ≤ bounds.getD i 0) (neg : bounds.getD r 0 < 0) : en m (tab0 (rows1 rows) bounds (goal1 n)) r n = -1 ∧ Feas m (n + 1) (exch (tab0 (rows1 rows) bounds (goal1 n)) r n) := by
  have p1 := prob1 h
  have inv := inv_start p1
  have e1 : ∀ i, i < m → en m (tab0 (rows1 rows) bounds (goal1 n)) i n = -1 := fun i hi => by
    rw [tab0_en p1 (by omega) (by omega), if_pos (by omega)]
    unfold av rows1
    have := h.at hi
    have l1 := h.hr
    rw [if_pos (by omega), if_pos hi, getD_map' (x := []) (by omega), getD_app (by omega), if_neg (by omega)]
  have e2 : ∀ i, i < m → en m (tab0 (rows1 rows) bounds (goal1 n)) i (n + 1) = bounds.getD i 0 := fun i hi => by
    rw [tab0_en p1 (by omega) (by omega), if_neg (by omega)]
    unfold bv
    rw [if_pos hi]
  refine ⟨e1 r hr, fun i hi => ?_⟩
  by_cases e : i = r
  · subst e
    rw [exch_en inv.shp hr (by omega) (by omega) (Nat.le_refl _), if_pos rfl, if_neg (by omega), e1 i hr, e2 i hr]
    show 0 ≤ -1 * _
    omega
  · have q := exch_mul inv hr (show n < n + 1 by omega) (i := i) (j := n + 1) (by omega) (Nat.le_refl _) e (by omega)
    rw [e1 r hr, e1 i hi, e2 i hi, e2 r hr] at q
    have q : 1 * en m (exch (tab0 (rows1 rows) bounds (goal1 n)) r n) i (n + 1) = -1 * (bounds.getD i 0 * -1 - -1 * bounds.getD r 0) := q
    have := mi i hi
    omega
theorem feas_tab0 {m n : Nat} {rows : List (List Int)} {bounds g : List Int} (h : Prob m n rows bounds g) (mi : ∀ i, i < m → 0 ≤ bounds.getD i 0) : Feas m n (tab0 rows bounds g) := fun i hi => by
  rw [tab0_en h (by omega) (Nat.le_refl _), if_neg (by omega)]
  unfold bv
  rw [if_pos hi]
  exact mi i hi
/-- the form of a row -/
theorem row_ne {T : Tab} {m n i : Nat} {rows : List (List Int)} {g bounds : List Int} (h : Inv T m (n + 1) (av m (n + 1) rows g) (bv m bounds)) (hi : i < m) (e : bs T i = n) : ∃ c, c < n + 1 ∧ ent T i c ≠ 0 := by
  refine Classical.byContradiction fun no => ?_
  have z : ∀ c, c < n + 1 → en m T i c = 0 := fun c hc => by
    rw [en_ent hi]
    exact Classical.byContradiction fun y => no ⟨c, hc, y⟩
  have d0 := h.d0
  have iN : i < m + 1 := by omega
  obtain ⟨s, hs, hd⟩ := h.sig
  have fu : ∀ k, k < m + 1 → det (m + 1) (upd (bas m (av m (n + 1) rows g) T) i (unitV k)) = 0 := fun k hk => by
    by_cases y : k = m
    · subst y
      exact det_dup (i := i) (j := k) (by omega) iN (by omega) fun t ht => by rw [upd_at, upd_ne (by omega), bas_m]
    · rw [← av_slack (m := m) (n := n + 1) (i := k) (rows := rows) (goal := g)]
      rcases h.cov (n + 1 + k) (by omega) with ⟨j, hj, ej⟩ | ⟨j, hj, ej⟩
      · have ij : j ≠ i := fun w => by rw [w, e] at ej; omega
        exact det_dup (i := i) (j := j) (Ne.symm ij) iN (by omega) fun t ht => by rw [upd_at, upd_ne ij, bas_lt hj, ej]
      · have c1 := cramer (i := i) (h.eqn j (by omega)) iN
        rw [z j hj, Int.zero_mul, cv_lt hj, ej] at c1
        rcases Int.mul_eq_zero.mp c1 with w | w
        · omega
        · exact w
  have full : det (m + 1) (upd (bas m (av m (n + 1) rows g) T) i fun t => sumN (m + 1) fun k => av m (n + 1) rows g n k * unitV k t) = 0 := by
    rw [det_sum iN]
    exact sumN_zero fun k hk => by rw [fu k hk, Int.mul_zero]
  have same : det (m + 1) (upd (bas m (av m (n + 1) rows g) T) i fun t => sumN (m + 1) fun k => av m (n + 1) rows g n k * unitV k t) = det (m + 1) (bas m (av m (n + 1) rows g) T) := det_congr fun j hj t ht => by
    by_cases y : j = i
    · subst y
      rw [upd_at, bas_lt hi, e, sumN_one (k := t) ht fun k hk ne => by unfold unitV; rw [if_neg (by omega), Int.mul_zero]]
      unfold unitV
      rw [if_pos rfl, Int.mul_one]
    · rw [upd_ne y]
  rw [same, hd] at full
  rcases Int.mul_eq_zero.mp full with w | w
  · rcases hs with y | y <;> rw [y] at w <;> cases w
  · omega
/-- at the end of the first phase, with no need of the last variable -/
theorem extra_zero {T : Tab} {m n i : Nat} {rows : List (List Int)} {bounds : List Int} (h : Inv T m (n + 1) (av m (n + 1) rows (goal1 n)) (bv m bounds)) (f : Feas m (n + 1) T) (g0 : 0 ≤ en m T m (n + 1)) (hi : i < m) (e : bs T i = n) : en m T i (n + 1) = 0 := by
  have q := h.eqn (n + 1) (Nat.le_refl _) m (by omega)
  rw [cv_n] at q
  have key : sumN (m + 1) (fun k => en m T k (n + 1) * bas m (av m (n + 1) rows (goal1 n)) T k m) = sumN m (fun k => en m T k (n + 1) * bas m (av m (n + 1) rows (goal1 n)) T k m) + en m T m (n + 1) * bas m (av m (n + 1) rows (goal1 n)) T m m := rfl
  rw [key, bas_m, sumN_one (k := i) hi fun k hk ne => by
    rw [bas_lt hk, av1_m (h.bl k hk), if_neg fun y => ne (h.bb k i hk hi (y.trans e.symm)), Int.mul_zero], bas_lt hi, e, av1_m (by omega), if_pos rfl] at q
  unfold bv unitV at q
  rw [if_neg (by omega), if_pos rfl] at q
  have := f i hi
  omega
structure Mid (m n : Nat) (rows : List (List Int)) (bounds : List Int) (T : Tab) : Prop where
  inv : Inv T m (n + 1) (av m (n + 1) (rows1 rows) (goal1 n)) (bv m bounds)
  feas : Feas m (n + 1) T
  col : ∃ c, c < n + 1 ∧ cl T c = n
theorem mid_in {T : Tab} {m n : Nat} {rows : List (List Int)} {bounds : List Int} (o : Opt m (n + 1) (av m (n + 1) (rows1 rows) (goal1 n)) (bv m bounds) T) (g0 : 0 ≤ en m T m (n + 1)) : (∀ i, i < m → T.basis.getD i 0 = n → (∃ c, c < n + 1 ∧ ent T i c ≠ 0) ∧ ∀ c, c < n + 1 → ent T i c ≠ 0 → (∀ c', c' < c → ent T i c' = 0) → Mid m n rows bounds (exch T i c)) ∧ ((∀ i, i < m → T.basis.getD i 0 ≠ n) → Mid m n rows bounds T) := by
  refine ⟨fun i hi e => ⟨row_ne o.inv hi e, fun c hc hne _ => ⟨inv_exch o.inv hi hc (by rw [en_ent hi]; exact hne), feas_zero o.inv o.feas hi hc (extra_zero o.inv o.feas g0 hi e), c, hc, ?_⟩⟩, fun no => ⟨o.inv, o.feas, ?_⟩⟩
  · rw [exch_cl o.inv.shp hc, if_pos rfl]
    exact e
  · rcases o.inv.cov n (by omega) with ⟨i, hi, e⟩ | h
    · exact absurd e (no i hi)
    · exact h
theorem mid_out {T : Tab} {m n W : Nat} {rows : List (List Int)} {bounds : List Int} (hb : Bnd m (n + 1) (av m (n + 1) (rows1 rows) (goal1 n)) (bv m bounds) W) (h : Mid m n rows bounds T) : TabOk T m (n + 1) ∧ (∃ c, c < n + 1 ∧ T.cols.getD c 0 = n) ∧ (T.cols.filter fun v => decide (v ≠ n)).length = n := by
  obtain ⟨c, hc, ec⟩ := h.col
  have lc := h.inv.shp.cols
  refine ⟨inv_ok h.inv hb, h.col, ?_⟩
  rw [filter_cut (by omega) ec fun j hj e => h.inv.cc j c (by omega) hc (e.trans ec.symm), List.length_append, List.length_take, List.length_drop]
  omega
theorem drop_feas {T : Tab} {m n c : Nat} {rows : List (List Int)} {bounds g : List Int} (h : Mid m n rows bounds T) (hc : c < n + 1) : Feas m n (drpT T c n n m g) := fun i hi => by
  have lr := h.inv.shp.rows
  have := h.inv.shp.at hi
  have e : en m (drpT T c n n m g) i n = en m T i (n + 1) := by
    rw [en_ent hi, en_ent hi]
    show ((T.rows.map fun r => r.take c ++ r.drop (c + 1)).getD i []).getD n 0 = _
    rw [getD_map' (x := []) (by omega), cut_getD (by omega), show sk c n = n + 1 from by unfold sk; rw [if_neg (by omega)]]
    rfl
  rw [e]
  exact h.feas i hi


end G

set_option Elab.async false
set_option linter.all false
set_option maxRecDepth 100000
set_option autoImplicit false
set_option maxHeartbeats 2000000
namespace G
open PySem PySem.Spec PyProof.Rows L2
local macro_rules
  | `(tactic| get_elem_tactic_trivial) => `(tactic| first
    | (with_reducible first
      | refine st_seqSet ?_ | refine st_seqAsg ?_ | refine st_seqDo ?_ | refine st_seqPar ?_ | refine st_seqPar3 ?_ | refine st_seqFor ?_ | refine st_seqWhile ?_ | refine st_seqAug ?_ | refine st_seqSkip ?_ | refine st_seqRet ?_
      | refine st_skip ?_ | refine st_ret ?_ | refine st_retN ?_ | refine st_do ?_ | refine st_if ?_ | refine st_set ?_ | refine st_asg ?_ | refine st_par ?_ | refine st_par3 ?_
      | refine st_c ?_ | refine st_op2 ?_ | refine st_op1 ?_ | refine st_test ?_ | refine st_tbl ?_ | refine st_and ?_ | refine st_or ?_ | refine st_not ?_ | refine st_andV ?_ | refine st_orV ?_ | refine st_notV ?_ | refine st_bl ?_
      | refine st_chain ?_ | refine st_ifE ?_ | refine st_nil ?_ | refine st_cons ?_ | refine st_call ?_ | refine st_fr ?_ | refine st_lv ?_ | refine st_one ?_ | refine st_two ?_
      | refine st_gN ?_ | refine st_lst ?_ | refine st_tup ?_ | refine st_slF ?_ | refine st_oNo ?_ | refine st_oS ?_ | refine st_enum ?_ | refine st_scr ?_ | refine st_list ?_ | refine st_it ?_ | refine st_comp ?_ | refine st_for ?_ | refine st_gIx ?_ | refine st_range1 ?_ | refine st_app ?_ | refine st_zip ?_ | refine st_rev1 ?_ | refine st_meth ?_ | refine st_isS ?_ | refine st_count ?_ | refine st_sl ?_ | refine st_slT ?_ | refine st_slL ?_ | refine st_max2 ?_ | refine st_min2 ?_
      | refine st_add ?_ | refine st_sub ?_ | refine st_int ?_ | refine st_neg ?_ | refine st_lt ?_ | refine st_le ?_ | refine st_gt ?_ | refine st_ge ?_ | refine st_eq ?_ | refine st_ne ?_ | refine st_eqB ?_ | refine st_neB ?_ | refine st_eqS ?_ | refine st_neS ?_ | refine st_isN ?_ | refine st_sorted ?_ | refine st_abs ?_ | refine st_isNotN ?_
      | refine br_t ?_ | refine br_f ?_)
    | ((with_reducible refine st_var (d := ?_) ?_ ?_); rotate_left; (exact rfl))
    | ((with_reducible refine st_isi2 (k := ?_) (b := true) ?_ ?_ ?_); rotate_left; (exact rfl); (exact rfl))
    | ((with_reducible refine st_isi2 (k := ?_) (b := false) ?_ ?_ ?_); rotate_left; (exact rfl); (exact rfl))
    | ((with_reducible refine st_ix (ds := ?_) (d := ?_) ?_ ?_ ?_); rotate_left 2; (first | exact rfl | exact seq_at (by assumption)); (exact rfl))
    | ((with_reducible refine st_len2 (ds := ?_) (n := ?_) ?_ ?_ ?_); rotate_left 2; (first | exact rfl | exact seq_at (by assumption)); (exact rfl))
    | ((with_reducible refine st_addLL (a := ?_) (b := ?_) ?_ ?_ ?_ ?_); rotate_left 2; (first | exact rfl | exact lst_at (by assumption)); (first | exact rfl | exact lst_at (by assumption)); (exact Nat.le_of_ble_eq_true rfl))
    | ((with_reducible refine st_pow ?_ ?_); (exact ⟨by decide, by decide, by decide⟩))
    | ((with_reducible refine st_mod ?_ ?_); (first | decide | omega))
    | ((with_reducible refine st_size ?_ ?_); (exact rfl))
    | ((with_reducible refine st_gT2 ?_ ?_); (exact rfl))
    | ((with_reducible refine st_gsC ?_))
    | ((with_reducible refine st_gsN ?_))
    | ((with_reducible refine st_mulS ?_ ?_ ?_); omega; omega)
    | ((with_reducible refine br_ct ?_ ?_); (exact rfl))
    | ((with_reducible refine br_cf ?_ ?_); (exact rfl))
    | (rw [list_tup])
    | (rw [list_lst])
    | (rw [items_tup])
    | (rw [items_lst])
    | ((refine st_listM (ds := ?_) ?_ ?_); rotate_left; (first | exact rfl | exact seq_at (by assumption)))
    | ((refine st_itM (it := ?_) ?_ ?_); rotate_left; (first | exact rfl | exact it_at (by assumption))))

local macro_rules
  | `(tactic| get_elem_tactic_trivial) => `(tactic| first
    | (with_reducible refine st_fld ?_)
    | (with_reducible refine st_mt ?_)
    | (with_reducible refine st_gFld ?_)
    | (with_reducible refine st_lix ?_)
    | (with_reducible refine st_rep ?_)
    | (with_reducible refine st_cat ?_)
    | (with_reducible refine st_lrng ?_)
    | (with_reducible refine st_frz ?_)
    | ((with_reducible refine fld_size (T := ?_) (pc := ?_) (pb := ?_) ?_ ?_); rotate_left 3; (assumption))
    | ((with_reducible refine fld_rows (T := ?_) (pc := ?_) (pb := ?_) ?_ ?_); rotate_left 3; (assumption))
    | ((with_reducible refine fld_goal (T := ?_) (pc := ?_) (pb := ?_) ?_ ?_); rotate_left 3; (assumption))
    | ((with_reducible refine fld_cols (T := ?_) (pc := ?_) (pb := ?_) ?_ ?_); rotate_left 3; (assumption))
    | ((with_reducible refine fld_basis (T := ?_) (pc := ?_) (pb := ?_) ?_ ?_); rotate_left 3; (assumption))
    | ((with_reducible refine fld_den (T := ?_) (pc := ?_) (pb := ?_) ?_ ?_); rotate_left 3; (assumption))
    | ((with_reducible refine mt_go (T := ?_) (pc := ?_) (pb := ?_) ?_ ?_ ?_); rotate_left 3; (assumption); (exact rfl)))

/-! ### solving -/
theorem Run.size {m n z : Nat} {P : Tab → Prop} : ∀ {k : Nat} {T : Tab}, T.size = z → Run m n P k T → Run m n (fun T => P T ∧ T.size = z) k T
  | 0, _, _, h => h.elim
  | k + 1, T, e, h => ⟨h.1, fun y => ⟨h.2.1 y, e⟩, fun c hc => ⟨(h.2.2 c hc).1, fun r hr => ((h.2.2 c hc).2 r hr).size e⟩⟩
theorem first_atI {l : List Int} {v : Int} (h : v ∈ l) : ∃ i, i < l.length ∧ l[i]? = some v ∧ ∀ j, j < i → l[j]? ≠ some v := by
  induction l with
  | nil => cases h
  | cons x l ih =>
    by_cases e : x = v
    · exact ⟨0, by simp, by rw [e]; rfl, fun j hj => by omega⟩
    · rcases List.mem_cons.mp h with z | z
      · exact absurd z.symm e
      · obtain ⟨i, a, b, c⟩ := ih z
        refine ⟨i + 1, by simp; exact a, b, fun j hj => ?_⟩
        cases j with
        | zero => exact fun w => e (by injection w)
        | succ j => exact c j (by omega)
theorem goal1_D (n : Nat) : (List.replicate n [D.int 0]).flatten ++ [D.int (0 - 1)] = (goal1 n).map D.int := by
  unfold goal1
  rw [rep_zero, List.map_append]
  rfl
def Keep (S S' : Sto) : Prop := ∀ b, S b ≠ none → S' b = S b
theorem start_det {m n : Nat} {rows : List (List Int)} {bounds g : List Int} (h : Prob m n rows bounds g) : ∃ Ts, Inv Ts m (n + 1) (av m (n + 1) (rows1 rows) (goal1 n)) (bv m bounds) ∧ Feas m (n + 1) Ts ∧ Ts.size = n + 1 ∧ ((∀ i, i < m → 0 ≤ bounds.getD i 0) → Ts = tab0 (rows1 rows) bounds (goal1 n)) ∧ ∀ r, r < m → (∀ i, i < m → bounds.getD r 0 ≤ bounds.getD i 0) → bounds.getD r 0 < 0 → (∀ j, j < r → bounds.getD j 0 ≠ bounds.getD r 0) → Ts = exch (tab0 (rows1 rows) bounds (goal1 n)) r n := by
  have p1 := prob1 h
  have inv0 := inv_start p1
  by_cases e : ∃ r, r < m ∧ (∀ i, i < m → bounds.getD r 0 ≤ bounds.getD i 0) ∧ bounds.getD r 0 < 0 ∧ ∀ j, j < r → bounds.getD j 0 ≠ bounds.getD r 0
  · obtain ⟨r, hr, mi, neg, fi⟩ := e
    have ff := feas_first h hr mi neg
    refine ⟨_, inv_exch inv0 hr (show n < n + 1 by omega) (by rw [ff.1]; decide), ff.2, p1.hg, fun z => ?_, fun r' hr' mi' neg' fi' => ?_⟩
    · have := z r hr
      omega
    · have a := mi r' hr'
      have b := mi' r hr
      have : r = r' := by
        rcases Nat.lt_trichotomy r r' with w | w | w
        · exact absurd (show bounds.getD r 0 = bounds.getD r' 0 by omega) (fi' r w)
        · exact w
        · exact absurd (show bounds.getD r' 0 = bounds.getD r 0 by omega) (fi r' w)
      rw [this]
  · by_cases z : ∀ i, i < m → 0 ≤ bounds.getD i 0
    · exact ⟨_, inv0, feas_tab0 p1 z, p1.hg, fun _ => rfl, fun r hr mi neg fi => absurd ⟨r, hr, mi, neg, fi⟩ e⟩
    · refine absurd ?_ e
      obtain ⟨i, hi⟩ := Classical.not_forall.mp z
      obtain ⟨hi, neg⟩ := Classical.not_imp.mp hi
      have mn : ∀ k, k ≤ m → (∀ i, i < k → 0 ≤ bounds.getD i 0) ∨ ∃ r, r < k ∧ (∀ i, i < k → bounds.getD r 0 ≤ bounds.getD i 0) ∧ bounds.getD r 0 < 0 ∧ ∀ j, j < r → bounds.getD j 0 ≠ bounds.getD r 0 := fun k => by
        induction k with
        | zero => exact fun _ => .inl fun i hi => by omega
        | succ k ih =>
          intro hk
          rcases ih (by omega) with a | ⟨r, hr, a, b, c⟩
          · by_cases y : 0 ≤ bounds.getD k 0
            · refine .inl fun i hi => ?_
              by_cases w : i = k
              · rw [w]; exact y
              · exact a i (by omega)
            · refine .inr ⟨k, by omega, fun i hi => ?_, by omega, fun j hj => ?_⟩
              · by_cases w : i = k
                · rw [w]; exact Int.le_refl _
                · have := a i (by omega); omega
              · have := a j hj; omega
          · by_cases y : bounds.getD r 0 ≤ bounds.getD k 0
            · refine .inr ⟨r, by omega, fun i hi => ?_, b, c⟩
              by_cases w : i = k
              · rw [w]; exact y
              · exact a i (by omega)
            · refine .inr ⟨k, by omega, fun i hi => ?_, by omega, fun j hj => ?_⟩
              · by_cases w : i = k
                · rw [w]; exact Int.le_refl _
                · have := a i (by omega); omega
              · have := a j hj; omega
      rcases mn m (Nat.le_refl _) with a | a
      · exact absurd (a i hi) neg
      · exact a
theorem mid_det {m n : Nat} {rows : List (List Int)} {bounds : List Int} (T : Tab) : ∃ Tm, Opt m (n + 1) (av m (n + 1) (rows1 rows) (goal1 n)) (bv m bounds) T → (∀ i, i < m → T.basis.getD i 0 = n → ∀ c, c < n + 1 → ent T i c ≠ 0 → (∀ c', c' < c → ent T i c' = 0) → exch T i c = Tm) ∧ ((∀ i, i < m → T.basis.getD i 0 ≠ n) → T = Tm) := by
  by_cases e : ∃ i c, i < m ∧ T.basis.getD i 0 = n ∧ c < n + 1 ∧ ent T i c ≠ 0 ∧ ∀ c', c' < c → ent T i c' = 0
  · obtain ⟨i, c, hi, ei, hc, hne, fc⟩ := e
    refine ⟨exch T i c, fun o => ⟨fun i' hi' ei' c' hc' hne' fc' => ?_, fun z => absurd ei (z i hi)⟩⟩
    have a : i' = i := o.inv.bb i' i hi' hi (by unfold bs; omega)
    subst a
    have : c' = c := by
      rcases Nat.lt_trichotomy c c' with w | w | w
      · exact absurd (fc' c w) hne
      · exact w.symm
      · exact absurd (fc c' w) hne'
    rw [this]
  · exact ⟨T, fun o => ⟨fun i hi ei c hc hne fc => absurd ⟨i, c, hi, ei, hc, hne, fc⟩ e, fun _ => rfl⟩⟩
theorem drp_det (T : Tab) (n m : Nat) (g : List Int) : ∃ T2, ∀ c, c < n + 1 → T.cols.getD c 0 = n → (∀ j, j < c → T.cols.getD j 0 ≠ n) → drpT T c n n m g = T2 := by
  by_cases e : ∃ c, c < n + 1 ∧ T.cols.getD c 0 = n ∧ ∀ j, j < c → T.cols.getD j 0 ≠ n
  · obtain ⟨c, hc, ec, fc⟩ := e
    refine ⟨drpT T c n n m g, fun c' hc' ec' fc' => ?_⟩
    have : c' = c := by
      rcases Nat.lt_trichotomy c c' with w | w | w
      · exact absurd ec (fc' c w)
      · exact w.symm
      · exact absurd ec' (fc c' w)
    rw [this]
  · exact ⟨T, fun c hc ec fc => absurd ⟨c, hc, ec, fc⟩ e⟩
theorem sp_feasible_table {m n W : Nat} {rows : List (List Int)} {bounds g : List Int} (h : Prob m n rows bounds g) (hm0 : 0 < m) (hm : m ≤ 700) (hn : n ≤ 700) (gs : ∀ x, x ∈ g → Sm x) (hb : Bnd m (n + 1) (av m (n + 1) (rows1 rows) (goal1 n)) (bv m bounds) W) : ∃ T1 T2, ∀ {Fr : PySem.W.Frag} {S : Sto} {K : KE},
    (Opt m (n + 1) (av m (n + 1) (rows1 rows) (goal1 n)) (bv m bounds) T1 → T1.size = n + 1 → en m T1 m (n + 1) < 0 → K (.tup [.non, rowD (multT T1)]) S) →
    (∀ S' p pc pb, 0 ≤ en m T1 m (n + 1) → S p = none → S pc = none → S pb = none → TabAt Fr S' p pc pb T2 → T2.size = n → Inv T2 m n (av m n rows g) (bv m bounds) → Feas m n T2 → Keep S S' → K (.tup [.cell p, .non]) S') → c_feasible_table Fr [.lst (rows.map rowD), rowD bounds, rowD g] S K := by
  obtain ⟨Ts, invS, feS, szS, s1, s2⟩ := start_det h
  obtain ⟨k, run0⟩ := run_ex hb (fun T hi c hc hg => cap_pos cap1 hi hc hg) invS feS
  obtain ⟨T1, run1⟩ := run_det invS run0
  obtain ⟨Tm, hTm⟩ := mid_det (m := m) (n := n) (rows := rows) (bounds := bounds) T1
  obtain ⟨T2, hT2'⟩ := drp_det Tm n m g
  refine ⟨T1, T2, fun {Fr S K} no yes => ?_⟩
  have p1 := prob1 h
  have l1 := h.hr
  have l2 := h.hb
  have l3 := h.hg
  have inv0 := inv_start p1
  have ok0 := inv_ok inv0 hb
  unfold rowD
  refine st_def rfl ?_
  unfold w_feasible_table
  repeat get_elem_tactic_trivial
  try dsimp only [List.set_cons_succ, List.set_cons_zero]
  rw [List.length_map, l3]
  refine st_make ?_
  repeat get_elem_tactic_trivial
  try dsimp only [List.set_cons_succ, List.set_cons_zero]
  refine sp_with_slack (by omega) (fun r hr => by have := h.hw r hr; omega) ?_
  repeat get_elem_tactic_trivial
  try dsimp only [List.set_cons_succ, List.set_cons_zero]
  refine ⟨by omega, by omega, by simp only [List.length_singleton]; unfold sizeLine; omega, ?_⟩
  rw [show ((n : Nat) : Int).toNat = n from Int.toNat_natCast n]
  repeat get_elem_tactic_trivial
  try dsimp only [List.set_cons_succ, List.set_cons_zero]
  refine st_addLL (a := (List.replicate n [D.int 0]).flatten) (b := [.int (0 - 1)]) rfl rfl (by rw [rep_zero, List.length_map, List.length_replicate]; simp only [List.length_singleton]; unfold sizeLine; omega) ?_
  repeat get_elem_tactic_trivial
  try dsimp only [List.set_cons_succ, List.set_cons_zero]
  rw [goal1_D]
  intro p np
  refine sp_init (rows := rows1 rows) (bounds := bounds) (goal := goal1 n) Sto.set_same (by rw [p1.hr, l2]) (by rw [p1.hr]; omega) (by rw [p1.hg]; omega) (fun r hr => by have := p1.hw r hr; omega) fun pc pb S1 npc npb hT ag => ⟨rfl, ?_⟩
  have pcp := hT.n1
  have pbp := hT.n2
  rw [Sto.set_ne (Ne.symm pcp)] at npc
  rw [Sto.set_ne (Ne.symm pbp)] at npb
  have A : Keep S S1 := fun b hb => by
    have nb : b ≠ p := fun z => hb (z ▸ np)
    rw [ag b nb (by rw [Sto.set_ne nb]; exact hb), Sto.set_ne nb]
  clear ag
  have oth : ∀ {S2 : Sto}, Oth3 p pc pb S1 S2 → Keep S S2 := fun {S2} o b hb => by
    rw [o b (fun z => hb (z ▸ np)) (fun z => hb (z ▸ npc)) (fun z => hb (z ▸ npb))]
    exact A b hb
  repeat get_elem_tactic_trivial
  try dsimp only [List.set_cons_succ, List.set_cons_zero]
  refine ⟨fun ρ1 S2 => ρ1 = [some (.lst (rows.map rowD)), some (.lst (bounds.map D.int)), some (.lst (g.map D.int)), some (.int (n : Nat)), some (.cell p)] ∧ TabAt Fr S2 p pc pb Ts ∧ Oth3 p pc pb S1 S2, ?_, ?_⟩
  · repeat get_elem_tactic_trivial
    try dsimp only [List.set_cons_succ, List.set_cons_zero]
    refine ⟨_, bounds, rfl, ints_map _, by omega, fun mn hm1 hm2 => ?_⟩
    repeat get_elem_tactic_trivial
    try dsimp only [List.set_cons_succ, List.set_cons_zero]
    refine br_d (fun e => ?_) fun e => ?_
    · repeat get_elem_tactic_trivial
      try dsimp only [List.set_cons_succ, List.set_cons_zero]
      refine ⟨⟨_, rfl⟩, ?_⟩
      repeat get_elem_tactic_trivial
      try dsimp only [List.set_cons_succ, List.set_cons_zero]
      refine ⟨_, bounds, rfl, ints_map _, by omega, fun mn' hm1' hm2' => ?_⟩
      obtain ⟨r, hr, er, fr⟩ := first_atI hm1'
      have er' : bounds.getD r 0 = mn' := by rw [List.getD_eq_getElem?_getD, er]; rfl
      refine ⟨bounds, mn', r, rfl, rfl, er, fr, ?_⟩
      repeat get_elem_tactic_trivial
      try dsimp only [List.set_cons_succ, List.set_cons_zero]
      have ff := feas_first h (show r < m by omega) (fun i hi => by rw [er']; exact hm2' _ (getD_mem (by omega))) (by rw [er']; have := hm2' mn hm1; omega)
      refine sp_exchange hT ok0 (show r < m by omega) (show n < n + 1 by omega) (by omega) (by omega) fun S2 hT2 o2 => ?_
      have es := s2 r (by omega) (fun i hi => by rw [er']; exact hm2' _ (getD_mem (by omega))) (by rw [er']; have := hm2' mn hm1; omega) fun j hj z => fr j hj (by rw [getI (by omega), z, er'])
      rw [← es] at hT2
      exact ⟨rfl, hT2, o2⟩
    · repeat get_elem_tactic_trivial
      try dsimp only [List.set_cons_succ, List.set_cons_zero]
      have es := s1 fun i hi => by
        have := hm2 (bounds.getD i 0) (getD_mem (by omega))
        omega
      rw [← es] at hT
      exact ⟨rfl, hT, .refl⟩
  · intro ρ1 S2 ⟨e1, hT2, o2⟩
    subst e1
    repeat get_elem_tactic_trivial
    try dsimp only [List.set_cons_succ, List.set_cons_zero]
    refine sp_improve hT2 (run1.size szS) (by omega) (by omega) fun S3 T3 hT3 o3 ok3 ⟨⟨eT, opt⟩, sz3⟩ => ?_
    subst eT
    have gl := ok3.goal.len
    have A3 : Keep S S3 := oth (o2.trans o3)
    refine st_seq ?_
    repeat get_elem_tactic_trivial
    try dsimp only [List.set_cons_succ, List.set_cons_zero]
    unfold rowD
    refine st_ixLast (ds := T3.goal.map D.int) rfl (last_row gl) ?_
    repeat get_elem_tactic_trivial
    try dsimp only [List.set_cons_succ, List.set_cons_zero]
    rw [← en_goal (m := m)]
    refine br_d (fun e => ?_) fun e => ?_
    · repeat get_elem_tactic_trivial
      try dsimp only [List.set_cons_succ, List.set_cons_zero]
      refine sp_multipliers hT3 ok3 (by omega) (by omega) (fun x hx => ?_) ?_
      · obtain ⟨j, hj, ej⟩ := List.getElem_of_mem hx
        have lc := ok3.cols
        have := opt.inv.cl' j (by omega)
        unfold cl at this
        rw [List.getD_eq_getElem?_getD, List.getElem?_eq_getElem hj, Option.getD_some, ej] at this
        omega
      · repeat get_elem_tactic_trivial
        try dsimp only [List.set_cons_succ, List.set_cons_zero]
        exact ⟨S, fun a c e => by rw [A3 a (by rw [e]; simp)]; exact e, no opt sz3 e⟩
    · obtain ⟨hin, hout⟩ := mid_in opt (by omega)
      repeat get_elem_tactic_trivial
      try dsimp only [List.set_cons_succ, List.set_cons_zero]
      have hTm := hTm opt
      refine sp_without_slack (Q := fun T' => T' = Tm ∧ Mid m n rows bounds T') (g := g) hT3 ok3 sz3 gs (by omega) (by omega) (by omega) (fun i hi ei => ⟨(hin i hi ei).1, fun c hc hne fc => ⟨hTm.1 i hi ei c hc hne fc, (hin i hi ei).2 c hc hne fc⟩⟩) (fun z => ⟨hTm.2 z, hout z⟩) (fun T' hq => mid_out hb hq.2) fun T' c S4 p' pc' pb' n1 n2 n3 ⟨eq, hq⟩ hc ec fc hT4 A4 => ?_
      subst eq
      have e2 := hT2' c hc ec fc
      repeat get_elem_tactic_trivial
      try dsimp only [List.set_cons_succ, List.set_cons_zero]
      have fresh : ∀ x, S3 x = none → S x = none := fun x hx => by
        cases es : S x with
        | none => rfl
        | some c =>
          have := A3 x (by rw [es]; simp)
          rw [hx, es] at this
          cases this
      have iv := inv_drop h hq.inv hc ec
      have fe := drop_feas (g := g) hq hc
      have sz2 : (drpT T' c n n m g).size = n := l3
      rw [e2] at hT4 iv fe sz2
      refine fin.of (yes S4 p' pc' pb' (by omega) (fresh _ n1) (fresh _ n2) (fresh _ n3) hT4 sz2 iv fe fun b hb => ?_)
      rw [A4 b (fun z => hb (z ▸ np)) (fun z => hb (z ▸ npc)) (fun z => hb (z ▸ npb)) (by rw [A3 b hb]; exact hb), A3 b hb]
theorem sp_solve {m n W W2 : Nat} {rows : List (List Int)} {bounds g : List Int} {y : Vec} (h : Prob m n rows bounds g) (hm0 : 0 < m) (hm : m ≤ 700) (hn : n ≤ 700) (gs : ∀ x, x ∈ g → Sm x) (hb : Bnd m (n + 1) (av m (n + 1) (rows1 rows) (goal1 n)) (bv m bounds) W) (hb2 : Bnd m n (av m n rows g) (bv m bounds) W2) (cap : Cap m n (av m n rows g) y) : ∃ T1 T3, ∀ {Fr : PySem.W.Frag} {S : Sto} {K : KE},
    (Opt m (n + 1) (av m (n + 1) (rows1 rows) (goal1 n)) (bv m bounds) T1 → T1.size = n + 1 → en m T1 m (n + 1) < 0 → K (.tup [.non, rowD (multT T1)]) S) →
    (∀ S' p pc pb, 0 ≤ en m T1 m (n + 1) → S p = none → S pc = none → S pb = none → TabAt Fr S' p pc pb T3 → T3.size = n → TabOk T3 m n → Opt m n (av m n rows g) (bv m bounds) T3 → Keep S S' → K (.tup [.cell p, .non]) S') → c_solve Fr [.lst (rows.map rowD), rowD bounds, rowD g] S K := by
  obtain ⟨T1, T2, hF⟩ := sp_feasible_table h hm0 hm hn gs hb
  obtain ⟨T3, hT3'⟩ : ∃ T3, Inv T2 m n (av m n rows g) (bv m bounds) → Feas m n T2 → ∃ k, Run m n (fun T' => T' = T3 ∧ Opt m n (av m n rows g) (bv m bounds) T') k T2 := by
    by_cases e : Inv T2 m n (av m n rows g) (bv m bounds) ∧ Feas m n T2
    · obtain ⟨k, run⟩ := run_ex hb2 (fun T hi c hc hg => cap_pos cap hi hc hg) e.1 e.2
      obtain ⟨T3, r⟩ := run_det e.1 run
      exact ⟨T3, fun _ _ => ⟨k, r⟩⟩
    · exact ⟨T2, fun a b => absurd ⟨a, b⟩ e⟩
  refine ⟨T1, T3, fun {Fr S K} no yes => ?_⟩
  have e0 : ∀ r : List Int, rowD r = .lst (r.map D.int) := fun _ => rfl
  refine st_def rfl ?_
  unfold w_solve
  repeat get_elem_tactic_trivial
  try dsimp only [List.set_cons_succ, List.set_cons_zero]
  refine hF (fun o sz ng => ?_) fun S1 p pc pb g0 np npc npb hT sz inv fe A => ?_
  · repeat get_elem_tactic_trivial
    try dsimp only [List.set_cons_succ, List.set_cons_zero]
    refine st_seq ?_
    repeat get_elem_tactic_trivial
    try dsimp only [List.set_cons_succ, List.set_cons_zero]
    exact fin.of (no o sz ng)
  · repeat get_elem_tactic_trivial
    try dsimp only [List.set_cons_succ, List.set_cons_zero]
    obtain ⟨k, run⟩ := hT3' inv fe
    refine st_seq ?_
    repeat get_elem_tactic_trivial
    try dsimp only [List.set_cons_succ, List.set_cons_zero]
    refine sp_improve hT (run.size sz) (by omega) (by omega) fun S3 T4 hT3 o3 ok3 ⟨⟨eT, opt⟩, sz3⟩ => ?_
    subst eT
    repeat get_elem_tactic_trivial
    try dsimp only [List.set_cons_succ, List.set_cons_zero]
    refine fin.of (yes S3 p pc pb g0 np npc npb hT3 sz3 ok3 opt fun b hb => ?_)
    rw [o3 b (fun z => hb (z ▸ np)) (fun z => hb (z ▸ npc)) (fun z => hb (z ▸ npb))]
    exact A b hb


end G

set_option Elab.async false
set_option linter.all false
set_option maxRecDepth 100000
set_option autoImplicit false
set_option maxHeartbeats 2000000
namespace G
open PySem PySem.Spec PyProof.Rows L2
local macro_rules
  | `(tactic| get_elem_tactic_trivial) => `(tactic| first
    | (with_reducible first
      | refine st_seqSet ?_ | refine st_seqAsg ?_ | refine st_seqDo ?_ | refine st_seqPar ?_ | refine st_seqPar3 ?_ | refine st_seqFor ?_ | refine st_seqWhile ?_ | refine st_seqAug ?_ | refine st_seqSkip ?_ | refine st_seqRet ?_
      | refine st_skip ?_ | refine st_ret ?_ | refine st_retN ?_ | refine st_do ?_ | refine st_if ?_ | refine st_set ?_ | refine st_asg ?_ | refine st_par ?_ | refine st_par3 ?_
      | refine st_c ?_ | refine st_op2 ?_ | refine st_op1 ?_ | refine st_test ?_ | refine st_tbl ?_ | refine st_and ?_ | refine st_or ?_ | refine st_not ?_ | refine st_andV ?_ | refine st_orV ?_ | refine st_notV ?_ | refine st_bl ?_
      | refine st_chain ?_ | refine st_ifE ?_ | refine st_nil ?_ | refine st_cons ?_ | refine st_call ?_ | refine st_fr ?_ | refine st_lv ?_ | refine st_one ?_ | refine st_two ?_
      | refine st_gN ?_ | refine st_lst ?_ | refine st_tup ?_ | refine st_slF ?_ | refine st_oNo ?_ | refine st_oS ?_ | refine st_enum ?_ | refine st_scr ?_ | refine st_list ?_ | refine st_it ?_ | refine st_comp ?_ | refine st_for ?_ | refine st_gIx ?_ | refine st_range1 ?_ | refine st_app ?_ | refine st_zip ?_ | refine st_rev1 ?_ | refine st_meth ?_ | refine st_isS ?_ | refine st_count ?_ | refine st_sl ?_ | refine st_slT ?_ | refine st_slL ?_ | refine st_max2 ?_ | refine st_min2 ?_
      | refine st_add ?_ | refine st_sub ?_ | refine st_int ?_ | refine st_neg ?_ | refine st_lt ?_ | refine st_le ?_ | refine st_gt ?_ | refine st_ge ?_ | refine st_eq ?_ | refine st_ne ?_ | refine st_eqB ?_ | refine st_neB ?_ | refine st_eqS ?_ | refine st_neS ?_ | refine st_isN ?_ | refine st_sorted ?_ | refine st_abs ?_ | refine st_isNotN ?_
      | refine br_t ?_ | refine br_f ?_)
    | ((with_reducible refine st_var (d := ?_) ?_ ?_); rotate_left; (exact rfl))
    | ((with_reducible refine st_isi2 (k := ?_) (b := true) ?_ ?_ ?_); rotate_left; (exact rfl); (exact rfl))
    | ((with_reducible refine st_isi2 (k := ?_) (b := false) ?_ ?_ ?_); rotate_left; (exact rfl); (exact rfl))
    | ((with_reducible refine st_ix (ds := ?_) (d := ?_) ?_ ?_ ?_); rotate_left 2; (first | exact rfl | exact seq_at (by assumption)); (exact rfl))
    | ((with_reducible refine st_len2 (ds := ?_) (n := ?_) ?_ ?_ ?_); rotate_left 2; (first | exact rfl | exact seq_at (by assumption)); (exact rfl))
    | ((with_reducible refine st_addLL (a := ?_) (b := ?_) ?_ ?_ ?_ ?_); rotate_left 2; (first | exact rfl | exact lst_at (by assumption)); (first | exact rfl | exact lst_at (by assumption)); (exact Nat.le_of_ble_eq_true rfl))
    | ((with_reducible refine st_pow ?_ ?_); (exact ⟨by decide, by decide, by decide⟩))
    | ((with_reducible refine st_mod ?_ ?_); (first | decide | omega))
    | ((with_reducible refine st_size ?_ ?_); (exact rfl))
    | ((with_reducible refine st_gT2 ?_ ?_); (exact rfl))
    | ((with_reducible refine st_gsC ?_))
    | ((with_reducible refine st_gsN ?_))
    | ((with_reducible refine st_mulS ?_ ?_ ?_); omega; omega)
    | ((with_reducible refine br_ct ?_ ?_); (exact rfl))
    | ((with_reducible refine br_cf ?_ ?_); (exact rfl))
    | (rw [list_tup])
    | (rw [list_lst])
    | (rw [items_tup])
    | (rw [items_lst])
    | ((refine st_listM (ds := ?_) ?_ ?_); rotate_left; (first | exact rfl | exact seq_at (by assumption)))
    | ((refine st_itM (it := ?_) ?_ ?_); rotate_left; (first | exact rfl | exact it_at (by assumption))))

/-! ### what the last table tells -/
theorem sumN_split (n m : Nat) (f : Nat → Int) : sumN (n + m) f = sumN n f + sumN m fun i => f (n + i) := by
  induction m with
  | zero => exact (Int.add_zero _).symm
  | succ m ih =>
    show sumN (n + m) f + f (n + m) = sumN n f + (sumN m (fun i => f (n + i)) + f (n + m))
    rw [ih]
    omega
theorem multF_at {size i : Nat} {val : Nat → Int} : ∀ (qs : List (Nat × Int)) (f : List Int), (∀ q, q ∈ qs → q.2 = val q.1) → i < f.length → ((∃ q, q ∈ qs ∧ q.1 = size + i) → (multF size qs f).getD i 0 = val (size + i)) ∧ ((∀ q, q ∈ qs → q.1 ≠ size + i) → (multF size qs f).getD i 0 = f.getD i 0)
  | [], f, _, _ => ⟨fun ⟨q, h, _⟩ => (by cases h), fun _ => rfl⟩
  | q :: qs, f, hv, hi => by
    obtain ⟨a, b⟩ := multF_at (size := size) (i := i) (val := val) qs (if size ≤ q.1 then f.set (q.1 - size) q.2 else f) (fun r hr => hv r (List.mem_cons_of_mem _ hr)) (by split <;> simp [hi])
    refine ⟨fun ⟨r, hr, er⟩ => ?_, fun no => ?_⟩
    · by_cases z : ∃ r, r ∈ qs ∧ r.1 = size + i
      · exact a z
      · rcases List.mem_cons.mp hr with w | w
        · subst w
          have := b fun r hr e => z ⟨r, hr, e⟩
          show (multF size qs _).getD i 0 = _
          rw [this, if_pos (by omega), getD_set' (by omega), if_pos (by omega), hv r (List.mem_cons_self ..), er]
        · exact absurd ⟨r, w, er⟩ z
    · have n0 := no q (List.mem_cons_self ..)
      have := b fun r hr => no r (List.mem_cons_of_mem _ hr)
      show (multF size qs _).getD i 0 = _
      rw [this]
      split
      · by_cases z : q.1 - size < f.length
        · rw [getD_set' z, if_neg (by omega)]
        · rw [List.set_eq_of_length_le (by omega)]
      · rfl
theorem ptF_at {size n v : Nat} {val : Nat → Int} : ∀ (qs : List (Nat × List Int)) (f : List Int), (∀ q, q ∈ qs → q.2.getD n 0 = val q.1) → v < f.length → v < size → ((∃ q, q ∈ qs ∧ q.1 = v) → (ptF size n qs f).getD v 0 = val v) ∧ ((∀ q, q ∈ qs → q.1 ≠ v) → (ptF size n qs f).getD v 0 = f.getD v 0)
  | [], f, _, _, _ => ⟨fun ⟨q, h, _⟩ => (by cases h), fun _ => rfl⟩
  | q :: qs, f, hv, hi, hs => by
    obtain ⟨a, b⟩ := ptF_at (size := size) (n := n) (v := v) (val := val) qs (if q.1 < size then f.set q.1 (q.2.getD n 0) else f) (fun r hr => hv r (List.mem_cons_of_mem _ hr)) (by split <;> simp [hi]) hs
    refine ⟨fun ⟨r, hr, er⟩ => ?_, fun no => ?_⟩
    · by_cases z : ∃ r, r ∈ qs ∧ r.1 = v
      · exact a z
      · rcases List.mem_cons.mp hr with w | w
        · subst w
          have := b fun r hr e => z ⟨r, hr, e⟩
          show (ptF size n qs _).getD v 0 = _
          rw [this, if_pos (by omega), getD_set' (by omega), if_pos (by omega), hv r (List.mem_cons_self ..), er]
        · exact absurd ⟨r, w, er⟩ z
    · have n0 := no q (List.mem_cons_self ..)
      have := b fun r hr => no r (List.mem_cons_of_mem _ hr)
      show (ptF size n qs _).getD v 0 = _
      rw [this]
      split
      · by_cases z : q.1 < f.length
        · rw [getD_set' z, if_neg (by omega)]
        · rw [List.set_eq_of_length_le (by omega)]
      · rfl
theorem ptF_len (size n : Nat) : ∀ (qs : List (Nat × List Int)) (f : List Int), (ptF size n qs f).length = f.length
  | [], f => rfl
  | q :: qs, f => by
    show (ptF size n qs _).length = _
    rw [ptF_len size n qs]
    split
    · rw [List.length_set]
    · rfl
theorem zip_memD {α β : Type} {a : List α} {b : List β} {q : α × β} (da : α) (db : β) (h : q ∈ List.zip a b) : ∃ j, j < a.length ∧ j < b.length ∧ q = (a.getD j da, b.getD j db) := by
  obtain ⟨j, hj, e⟩ := List.getElem_of_mem h
  rw [List.length_zip] at hj
  refine ⟨j, by omega, by omega, ?_⟩
  rw [← e, List.getElem_zip, List.getD_eq_getElem?_getD, List.getElem?_eq_getElem (by omega), List.getD_eq_getElem?_getD, List.getElem?_eq_getElem (by omega)]
  rfl
theorem mem_zip' {α β : Type} {a : List α} {b : List β} (da : α) (db : β) {j : Nat} (h1 : j < a.length) (h2 : j < b.length) : (a.getD j da, b.getD j db) ∈ List.zip a b := by
  have : (List.zip a b)[j]'(by rw [List.length_zip]; omega) = (a.getD j da, b.getD j db) := by
    rw [List.getElem_zip, List.getD_eq_getElem?_getD, List.getElem?_eq_getElem h1, List.getD_eq_getElem?_getD, List.getElem?_eq_getElem h2]
    rfl
  rw [← this]
  exact List.getElem_mem _
structure Mult (m n : Nat) (rows : List (List Int)) (bounds g : List Int) (T : Tab) (y : List Int) : Prop where
  len : y.length = m
  nn : ∀ i, i < m → 0 ≤ y.getD i 0
  col : ∀ v, v < n → T.den * g.getD v 0 ≤ sumN m fun i => (rows.getD i []).getD v 0 * y.getD i 0
  tot : en m T m n = sumN m fun i => bounds.getD i 0 * y.getD i 0
  src : ∀ i, i < m → y.getD i 0 = 0 ∨ ∃ j, j < n ∧ y.getD i 0 = en m T m j
theorem mult_of {T : Tab} {m n : Nat} {rows : List (List Int)} {bounds g : List Int} (h : Prob m n rows bounds g) (o : Opt m n (av m n rows g) (bv m bounds) T) (sz : T.size = n) : Mult m n rows bounds g T (multT T) := by
  obtain ⟨f, F⟩ := psi_of o.inv
  have sp := o.inv.shp
  have l1 := sp.rows
  have lc := sp.cols
  have lg := sp.goal
  have nn : ∀ v, v < n + m → 0 ≤ f (av m n rows g v) := fun v hv => by
    rcases o.inv.cov v hv with ⟨i, hi, e⟩ | ⟨j, hj, e⟩
    · rw [← e, F.bas0 i hi]; exact Int.le_refl _
    · rw [← e, F.col j hj]; exact o.opt j hj
  have yv : ∀ i, i < m → (multT T).getD i 0 = f (unitV i) := fun i hi => by
    have M := multF_at (size := T.size) (i := i) (val := fun v => f (av m n rows g v)) (List.zip T.cols T.goal) (List.replicate T.rows.length 0) (fun q hq => by
      obtain ⟨j, hj, _, e⟩ := zip_memD 0 0 hq
      rw [e]
      have := F.col j (by omega)
      rw [en_goal] at this
      exact this.symm) (by rw [List.length_replicate]; omega)
    have es : av m n rows g (n + i) = unitV i := av_slack
    rcases o.inv.cov (n + i) (by omega) with ⟨k, hk, e⟩ | ⟨j, hj, e⟩
    · have z : f (unitV i) = 0 := by rw [← es, ← e, F.bas0 k hk]
      rw [z]
      refine (M.2 fun q hq eq_ => ?_).trans ?_
      · obtain ⟨j, hj, _, ej⟩ := zip_memD 0 0 hq
        rw [ej, sz] at eq_
        exact o.inv.bc k j hk (by omega) (e.trans eq_.symm)
      · rw [List.getD_eq_getElem?_getD, List.getElem?_replicate]
        split <;> rfl
    · have := M.1 ⟨_, mem_zip' 0 0 (j := j) (by omega) (by omega), by rw [sz]; exact e⟩
      refine this.trans ?_
      rw [sz, es]
  have expand : ∀ u : Vec, f u = sumN m (fun k => u k * f (unitV k)) + u m * T.den := fun u => by
    rw [← F.top]
    have := F.gen (m + 1) (fun k => u k) unitV
    have e : f u = f fun t => sumN (m + 1) fun l => u l * unitV l t := F.cong _ _ fun t ht => by
      rw [sumN_one (k := t) ht fun k hk ne => by unfold unitV; rw [if_neg (by omega), Int.mul_zero]]
      unfold unitV
      rw [if_pos rfl, Int.mul_one]
    rw [e, this]
    rfl
  refine ⟨?_, fun i hi => ?_, fun v hv => ?_, ?_, fun i hi => ?_⟩
  · unfold multT
    rw [multF_len, List.length_replicate, l1]
  · rw [yv i hi, ← av_slack (m := m) (n := n) (rows := rows) (goal := g)]
    exact nn _ (by omega)
  · have a := nn v (by omega)
    rw [expand] at a
    have e1 : av m n rows g v m = 0 - g.getD v 0 := by unfold av; rw [if_pos hv, if_neg (by omega)]
    have e2 : sumN m (fun k => av m n rows g v k * f (unitV k)) = sumN m fun i => (rows.getD i []).getD v 0 * (multT T).getD i 0 := sumN_congr fun i hi => by
      rw [yv i hi]
      unfold av
      rw [if_pos hv, if_pos hi]
    rw [e1, e2, Int.sub_mul, Int.zero_mul, Int.mul_comm (g.getD v 0)] at a
    omega
  · rw [← F.rhs, expand]
    have e1 : bv m bounds m = 0 := by unfold bv; rw [if_neg (by omega)]
    rw [e1, Int.zero_mul, Int.add_zero]
    refine sumN_congr fun i hi => ?_
    rw [yv i hi]
    unfold bv
    rw [if_pos hi]
  · rw [yv i hi, ← av_slack (m := m) (n := n) (rows := rows) (goal := g)]
    rcases o.inv.cov (n + i) (by omega) with ⟨k, hk, e⟩ | ⟨j, hj, e⟩
    · exact .inl (by rw [← e, F.bas0 k hk])
    · exact .inr ⟨j, hj, by rw [← e, F.col j hj]⟩
structure Pt (m n : Nat) (rows : List (List Int)) (bounds g : List Int) (T : Tab) (X : List Int) : Prop where
  len : X.length = n
  nn : ∀ v, v < n → 0 ≤ X.getD v 0
  row : ∀ i, i < m → (sumN n fun v => X.getD v 0 * (rows.getD i []).getD v 0) ≤ T.den * bounds.getD i 0
  tot : en m T m n = sumN n fun v => X.getD v 0 * g.getD v 0
  src : ∀ v, v < n → X.getD v 0 = 0 ∨ ∃ i, i < m ∧ X.getD v 0 = en m T i n
theorem pt_of {T : Tab} {m n : Nat} {rows : List (List Int)} {bounds g : List Int} (h : Prob m n rows bounds g) (inv : Inv T m n (av m n rows g) (bv m bounds)) (fe : Feas m n T) (sz : T.size = n) : Pt m n rows bounds g T (ptT T n) := by
  have sp := inv.shp
  have l1 := sp.rows
  have lb := sp.basis
  let val : Nat → Int := fun v => sumN m fun i => if bs T i = v then en m T i n else 0
  have vb : ∀ i, i < m → val (bs T i) = en m T i n := fun i hi => by
    show sumN m _ = _
    rw [sumN_one (k := i) hi fun k hk ne => if_neg fun e => ne (inv.bb k i hk hi e), if_pos rfl]
  have vnn : ∀ v, 0 ≤ val v := fun v => sumN_nn fun i hi => by
    split
    · exact fe i hi
    · exact Int.le_refl _
  have xv : ∀ v, v < n → (ptT T n).getD v 0 = val v := fun v hv => by
    have M := ptF_at (size := T.size) (n := n) (v := v) (val := val) (List.zip T.basis T.rows) (List.replicate T.size 0) (fun q hq => by
      obtain ⟨j, hj, _, e⟩ := zip_memD 0 [] hq
      rw [e]
      have := vb j (by omega)
      rw [en_ent (by omega)] at this
      exact this.symm) (by rw [List.length_replicate]; omega) (by omega)
    by_cases z : ∃ i, i < m ∧ bs T i = v
    · obtain ⟨i, hi, e⟩ := z
      exact M.1 ⟨_, mem_zip' 0 [] (j := i) (by omega) (by omega), e⟩
    · have no : ∀ i, i < m → bs T i ≠ v := fun i hi e => z ⟨i, hi, e⟩
      have v0 : val v = 0 := sumN_zero fun i hi => if_neg (no i hi)
      rw [v0]
      refine (M.2 fun q hq e => ?_).trans ?_
      · obtain ⟨j, hj, _, ej⟩ := zip_memD 0 [] hq
        rw [ej] at e
        exact no j (by omega) e
      · rw [List.getD_eq_getElem?_getD, List.getElem?_replicate]
        split <;> rfl
  have main : ∀ t, t < m + 1 → T.den * bv m bounds t = (sumN n (fun v => val v * av m n rows g v t) + sumN m fun i => val (n + i) * unitV i t) + en m T m n * unitV m t := fun t ht => by
    have q := inv.eqn n (Nat.le_refl _) t ht
    rw [cv_n] at q
    have key : sumN (m + 1) (fun k => en m T k n * bas m (av m n rows g) T k t) = sumN m (fun k => en m T k n * bas m (av m n rows g) T k t) + en m T m n * bas m (av m n rows g) T m t := rfl
    rw [q, key, bas_m]
    congr 1
    have s1 : sumN m (fun i => val (n + i) * unitV i t) = sumN m fun i => val (n + i) * av m n rows g (n + i) t := sumN_congr fun i hi => by rw [av_slack]
    rw [s1, ← sumN_split n m fun v => val v * av m n rows g v t]
    have s2 : sumN (n + m) (fun v => val v * av m n rows g v t) = sumN (n + m) fun v => sumN m fun i => if bs T i = v then en m T i n * av m n rows g v t else 0 := sumN_congr fun v hv => by
      show (sumN m fun i => if bs T i = v then en m T i n else 0) * _ = _
      rw [Int.mul_comm, ← sumN_mul]
      refine sumN_congr fun i hi => ?_
      split
      · exact Int.mul_comm _ _
      · exact Int.mul_zero _
    rw [s2, sumN_comm]
    refine sumN_congr fun i hi => ?_
    rw [sumN_one (k := bs T i) (inv.bl i hi) fun v hv ne => if_neg fun e => ne e.symm, if_pos rfl, bas_lt hi]
  refine ⟨?_, fun v hv => ?_, fun i hi => ?_, ?_, fun v hv => ?_⟩
  · unfold ptT
    rw [ptF_len, List.length_replicate, sz]
  · rw [xv v hv]; exact vnn v
  · have q := main i (by omega)
    have b1 : bv m bounds i = bounds.getD i 0 := if_pos hi
    have u1 : unitV m i = 0 := if_neg (by omega)
    have s1 : sumN n (fun v => val v * av m n rows g v i) = sumN n fun v => (ptT T n).getD v 0 * (rows.getD i []).getD v 0 := sumN_congr fun v hv => by
      rw [xv v hv]
      unfold av
      rw [if_pos hv, if_pos hi]
    have s2 : 0 ≤ sumN m fun k => val (n + k) * unitV k i := sumN_nn fun k hk => by
      refine Int.mul_nonneg (vnn _) ?_
      unfold unitV
      split <;> decide
    rw [b1, u1, Int.mul_zero, s1] at q
    omega
  · have q := main m (by omega)
    have b1 : bv m bounds m = 0 := if_neg (by omega)
    have u1 : unitV m m = 1 := if_pos rfl
    have s1 : sumN n (fun v => val v * av m n rows g v m) = -1 * sumN n fun v => (ptT T n).getD v 0 * g.getD v 0 := by
      rw [← sumN_mul]
      refine sumN_congr fun v hv => ?_
      rw [xv v hv]
      unfold av
      rw [if_pos hv, if_neg (by omega)]
      grind
    have s2 : (sumN m fun k => val (n + k) * unitV k m) = 0 := sumN_zero fun k hk => by
      have : unitV k m = 0 := if_neg (by omega)
      rw [this, Int.mul_zero]
    rw [b1, u1, Int.mul_zero, Int.mul_one, s1, s2] at q
    omega
  · rw [xv v hv]
    by_cases z : ∃ i, i < m ∧ bs T i = v
    · obtain ⟨i, hi, e⟩ := z
      exact .inr ⟨i, hi, by rw [← e]; exact vb i hi⟩
    · exact .inl (sumN_zero fun i hi => if_neg fun e => z ⟨i, hi, e⟩)


end G

set_option Elab.async false
set_option linter.all false
set_option maxRecDepth 100000
set_option autoImplicit false
set_option maxHeartbeats 2000000
namespace G
open PySem PySem.Spec PyProof.Rows L2
local macro_rules
  | `(tactic| get_elem_tactic_trivial) => `(tactic| first
    | (with_reducible first
      | refine st_seqSet ?_ | refine st_seqAsg ?_ | refine st_seqDo ?_ | refine st_seqPar ?_ | refine st_seqPar3 ?_ | refine st_seqFor ?_ | refine st_seqWhile ?_ | refine st_seqAug ?_ | refine st_seqSkip ?_ | refine st_seqRet ?_
      | refine st_skip ?_ | refine st_ret ?_ | refine st_retN ?_ | refine st_do ?_ | refine st_if ?_ | refine st_set ?_ | refine st_asg ?_ | refine st_par ?_ | refine st_par3 ?_
      | refine st_c ?_ | refine st_op2 ?_ | refine st_op1 ?_ | refine st_test ?_ | refine st_tbl ?_ | refine st_and ?_ | refine st_or ?_ | refine st_not ?_ | refine st_andV ?_ | refine st_orV ?_ | refine st_notV ?_ | refine st_bl ?_
      | refine st_chain ?_ | refine st_ifE ?_ | refine st_nil ?_ | refine st_cons ?_ | refine st_call ?_ | refine st_fr ?_ | refine st_lv ?_ | refine st_one ?_ | refine st_two ?_
      | refine st_gN ?_ | refine st_lst ?_ | refine st_tup ?_ | refine st_slF ?_ | refine st_oNo ?_ | refine st_oS ?_ | refine st_enum ?_ | refine st_scr ?_ | refine st_list ?_ | refine st_it ?_ | refine st_comp ?_ | refine st_for ?_ | refine st_gIx ?_ | refine st_range1 ?_ | refine st_app ?_ | refine st_zip ?_ | refine st_rev1 ?_ | refine st_meth ?_ | refine st_isS ?_ | refine st_count ?_ | refine st_sl ?_ | refine st_slT ?_ | refine st_slL ?_ | refine st_max2 ?_ | refine st_min2 ?_
      | refine st_add ?_ | refine st_sub ?_ | refine st_int ?_ | refine st_neg ?_ | refine st_lt ?_ | refine st_le ?_ | refine st_gt ?_ | refine st_ge ?_ | refine st_eq ?_ | refine st_ne ?_ | refine st_eqB ?_ | refine st_neB ?_ | refine st_eqS ?_ | refine st_neS ?_ | refine st_isN ?_ | refine st_sorted ?_ | refine st_abs ?_ | refine st_isNotN ?_
      | refine br_t ?_ | refine br_f ?_)
    | ((with_reducible refine st_var (d := ?_) ?_ ?_); rotate_left; (exact rfl))
    | ((with_reducible refine st_isi2 (k := ?_) (b := true) ?_ ?_ ?_); rotate_left; (exact rfl); (exact rfl))
    | ((with_reducible refine st_isi2 (k := ?_) (b := false) ?_ ?_ ?_); rotate_left; (exact rfl); (exact rfl))
    | ((with_reducible refine st_ix (ds := ?_) (d := ?_) ?_ ?_ ?_); rotate_left 2; (first | exact rfl | exact seq_at (by assumption)); (exact rfl))
    | ((with_reducible refine st_len2 (ds := ?_) (n := ?_) ?_ ?_ ?_); rotate_left 2; (first | exact rfl | exact seq_at (by assumption)); (exact rfl))
    | ((with_reducible refine st_addLL (a := ?_) (b := ?_) ?_ ?_ ?_ ?_); rotate_left 2; (first | exact rfl | exact lst_at (by assumption)); (first | exact rfl | exact lst_at (by assumption)); (exact Nat.le_of_ble_eq_true rfl))
    | ((with_reducible refine st_pow ?_ ?_); (exact ⟨by decide, by decide, by decide⟩))
    | ((with_reducible refine st_mod ?_ ?_); (first | decide | omega))
    | ((with_reducible refine st_size ?_ ?_); (exact rfl))
    | ((with_reducible refine st_gT2 ?_ ?_); (exact rfl))
    | ((with_reducible refine st_gsC ?_))
    | ((with_reducible refine st_gsN ?_))
    | ((with_reducible refine st_mulS ?_ ?_ ?_); omega; omega)
    | ((with_reducible refine br_ct ?_ ?_); (exact rfl))
    | ((with_reducible refine br_cf ?_ ?_); (exact rfl))
    | (rw [list_tup])
    | (rw [list_lst])
    | (rw [items_tup])
    | (rw [items_lst])
    | ((refine st_listM (ds := ?_) ?_ ?_); rotate_left; (first | exact rfl | exact seq_at (by assumption)))
    | ((refine st_itM (it := ?_) ?_ ?_); rotate_left; (first | exact rfl | exact it_at (by assumption))))

/-! ### conditions as a problem -/
theorem sumN_succ (n : Nat) (f : Nat → Int) : sumN (n + 1) f = sumN n f + f n := rfl
theorem unit_nn (k t : Nat) : 0 ≤ unitV k t := by unfold unitV; split <;> decide
theorem sumN_const (n : Nat) (c : Int) : sumN n (fun _ => c) = (n : Int) * c := by
  induction n with
  | zero => exact (Int.zero_mul c).symm
  | succ n ih =>
    show sumN n _ + c = _
    rw [ih, show ((n + 1 : Nat) : Int) = (n : Int) + 1 from rfl, Int.add_mul, Int.one_mul]
theorem getD_abs {l : List Int} {i C : Nat} (h : ∀ x, x ∈ l → x.natAbs ≤ C) : (l.getD i 0).natAbs ≤ C := by
  by_cases e : i < l.length
  · exact h _ (getD_mem e)
  · rw [getD_out e]
    exact Nat.zero_le _
theorem unit_one {i m : Nat} (h : i < m + 1) : sumN (m + 1) (fun t => ((unitV i t).natAbs : Int)) = 1 := by
  rw [sumN_one (k := i) h fun t ht ne => by unfold unitV; rw [if_neg (by omega)]; rfl]
  unfold unitV
  rw [if_pos rfl]
  rfl
theorem bnd_gen {m n W : Nat} {rows : List (List Int)} {bounds g : List Int} (C : Nat → Nat) (R : Nat) (hr : ∀ r, r ∈ rows → ∀ v, v < n → (r.getD v 0).natAbs ≤ C v) (hb : ∀ x, x ∈ bounds → x.natAbs ≤ R) (hg : ∀ v, v < n → (g.getD v 0).natAbs ≤ C v) (c1 : ∀ v, 1 ≤ C v) (r1 : 1 ≤ R) (hm : m ≤ 127) (hW : prodN n (fun v => 128 * C v) * (128 * R) ≤ W) (sm : W < 2 ^ 4000) : Bnd m n (av m n rows g) (bv m bounds) W := by
  have le : ∀ (u : Vec) (D : Nat), (∀ t, (u t).natAbs ≤ D) → sumN (m + 1) (fun t => ((u t).natAbs : Int)) ≤ ((128 * D : Nat) : Int) := fun u D hu => by
    refine Int.le_trans (sumN_le (g := fun _ => (D : Int)) fun t ht => Int.ofNat_le.mpr (hu t)) ?_
    rw [sumN_const, ← Int.natCast_mul]
    exact Int.ofNat_le.mpr (Nat.mul_le_mul_right _ (by omega))
  refine ⟨⟨fun v => 128 * C v, 128 * R, fun v => by
    show 1 ≤ 128 * C v
    have := c1 v
    omega, by omega, fun v hv => le _ _ fun t => ?_, fun v h1 h2 => ?_, le _ _ fun t => ?_, hW⟩, sm⟩
  · unfold av
    rw [if_pos hv]
    split
    · rename_i ht
      by_cases e : t < rows.length
      · refine hr _ ?_ v hv
        rw [List.getD_eq_getElem?_getD, List.getElem?_eq_getElem e]
        exact List.getElem_mem _
      · rw [List.getD_eq_getElem?_getD (l := rows), List.getElem?_eq_none (by omega)]
        exact Nat.zero_le _
    · have := hg v hv
      omega
  · have e : av m n rows g v = unitV (v - n) := by
      funext t
      unfold av
      rw [if_neg (by omega)]
    rw [e, unit_one (by omega)]
    exact Int.le_refl _
  · unfold bv
    split
    · exact getD_abs hb
    · exact Nat.zero_le _
theorem prod_pow (C n : Nat) : prodN n (fun _ => C) = C ^ n := by
  induction n with
  | zero => rfl
  | succ n ih =>
    show prodN n _ * C = _
    rw [ih, Nat.pow_succ]
def c0 : Cond := ⟨[], 0, false⟩
def rowC (c : Cond) : List Int := c.fs ++ [if c.st then 1 else 0]
def goalF (k : Nat) : List Int := List.replicate k 0 ++ [1]
def rowsF (k : Nat) (cs : List Cond) : List (List Int) := cs.map rowC ++ [goalF k]
def bndF (cs : List Cond) : List Int := cs.map (·.b) ++ [1]
structure Sized (k : Nat) (cs : List Cond) : Prop where
  kl : k ≤ 126
  few : cs.length ≤ 126
  len : ∀ c, c ∈ cs → c.fs.length = k
  fs : ∀ c, c ∈ cs → ∀ f, f ∈ c.fs → f.natAbs ≤ 2 ^ 24
  b : ∀ c, c ∈ cs → c.b.natAbs ≤ 2 ^ 24
/-- the same for larger numbers: what each column and the bounds have at most -/
structure SizedX (k : Nat) (cs : List Cond) : Prop where
  few : cs.length ≤ 126
  len : ∀ c, c ∈ cs → c.fs.length = k
  bnd : ∃ (C : Nat → Nat) (R : Nat), (∀ v, 1 ≤ C v) ∧ 1 ≤ R ∧ (∀ c, c ∈ cs → ∀ v, v < k → (c.fs.getD v 0).natAbs ≤ C v) ∧ (∀ c, c ∈ cs → c.b.natAbs ≤ R) ∧ prodN k (fun v => 128 * C v) * (128 * (128 * (128 * R))) < 2 ^ 4000
theorem Sized.x {k : Nat} {cs : List Cond} (h : Sized k cs) : SizedX k cs := by
  refine ⟨h.few, h.len, fun _ => 2 ^ 24, 2 ^ 24, fun _ => Nat.one_le_two_pow, Nat.one_le_two_pow, fun c hc v hv => getD_abs (h.fs c hc), h.b, ?_⟩
  have kl := h.kl
  rw [prod_pow, show (128 : Nat) * 2 ^ 24 = 2 ^ 31 from by decide, show (128 : Nat) * (128 * 2 ^ 31) = 2 ^ 45 from by decide, ← Nat.pow_mul, ← Nat.pow_add]
  exact Nat.pow_lt_pow_right (by decide) (by omega)
theorem goalF_len (k : Nat) : (goalF k).length = k + 1 := by
  unfold goalF
  rw [List.length_append, List.length_replicate]
  rfl
theorem probF {k : Nat} {cs : List Cond} (h : SizedX k cs) : Prob (cs.length + 1) (k + 1) (rowsF k cs) (bndF cs) (goalF k) := by
  refine ⟨?_, fun r hr => ?_, ?_, goalF_len k⟩
  · unfold rowsF
    rw [List.length_append, List.length_map]
    rfl
  · rcases List.mem_append.mp hr with z | z
    · obtain ⟨c, hc, e⟩ := List.mem_map.mp z
      rw [← e]
      unfold rowC
      rw [List.length_append, h.len c hc]
      rfl
    · rw [List.mem_singleton.mp z, goalF_len]
  · unfold bndF
    rw [List.length_append, List.length_map]
    rfl
theorem goalF_at {k v : Nat} (h : v ≤ k) : (goalF k).getD v 0 = if v < k then 0 else 1 := by
  unfold goalF
  rw [getD_app (by rw [List.length_replicate]; exact h), List.length_replicate]
  split
  · rename_i e
    rw [List.getD_eq_getElem?_getD, List.getElem?_replicate, if_pos e]
    rfl
  · rfl
theorem rowsF_last {k : Nat} {cs : List Cond} : (rowsF k cs).getD cs.length [] = goalF k := by
  unfold rowsF
  rw [getD_app (by rw [List.length_map]; exact Nat.le_refl _), if_neg (by rw [List.length_map]; omega)]
theorem rowsF_at {k i : Nat} {cs : List Cond} (h : i < cs.length) : (rowsF k cs).getD i [] = rowC (cs.getD i c0) := by
  unfold rowsF
  rw [getD_app (by rw [List.length_map]; omega), if_pos (by rw [List.length_map]; exact h), getD_map' h]
theorem bndF_last {cs : List Cond} : (bndF cs).getD cs.length 0 = 1 := by
  unfold bndF
  rw [getD_app (by rw [List.length_map]; exact Nat.le_refl _), if_neg (by rw [List.length_map]; omega)]
theorem bndF_at {i : Nat} {cs : List Cond} (h : i < cs.length) : (bndF cs).getD i 0 = (cs.getD i c0).b := by
  unfold bndF
  rw [getD_app (by rw [List.length_map]; omega), if_pos (by rw [List.length_map]; exact h), getD_map' h]
theorem cs_mem {cs : List Cond} {i : Nat} (h : i < cs.length) : cs.getD i c0 ∈ cs := by
  rw [List.getD_eq_getElem?_getD, List.getElem?_eq_getElem h]
  exact List.getElem_mem _
theorem capF {k : Nat} {cs : List Cond} : Cap (cs.length + 1) (k + 1) (av (cs.length + 1) (k + 1) (rowsF k cs) (goalF k)) (fun t => unitV (cs.length + 1) t + unitV cs.length t) := by
  refine ⟨?_, fun v hv => ?_⟩
  · show unitV _ _ + unitV _ _ = 1
    unfold unitV
    rw [if_pos rfl, if_neg (by omega)]
    rfl
  · have e : sumN (cs.length + 1 + 1) (fun t => (unitV (cs.length + 1) t + unitV cs.length t) * av (cs.length + 1) (k + 1) (rowsF k cs) (goalF k) v t) = av (cs.length + 1) (k + 1) (rowsF k cs) (goalF k) v (cs.length + 1) + av (cs.length + 1) (k + 1) (rowsF k cs) (goalF k) v cs.length := by
      rw [sumN_congr fun t ht => Int.add_mul _ _ _, sumN_add, cap_sum (n := k + 1), sumN_one (k := cs.length) (by omega) fun i hi ne => by unfold unitV; rw [if_neg ne, Int.zero_mul]]
      unfold unitV
      rw [if_pos rfl, Int.one_mul]
    rw [e]
    unfold av
    by_cases z : v < k + 1
    · rw [if_pos z, if_neg (by omega), if_pos z, if_pos (by omega), rowsF_last]
      omega
    · rw [if_neg z, if_neg z]
      have a := unit_nn (v - (k + 1)) (cs.length + 1)
      have b := unit_nn (v - (k + 1)) cs.length
      omega
theorem rowC_at0 {c : Cond} {k j : Nat} (h : c.fs.length = k) (hj : j ≤ k) : (rowC c).getD j 0 = if j < k then c.fs.getD j 0 else if c.st then 1 else 0 := by
  unfold rowC
  rw [getD_app (by omega), h]
/-- the columns with those of the strict conditions and of the slack -/
def colX (k : Nat) (C : Nat → Nat) (v : Nat) : Nat := if v < k then C v else 1
theorem prod_colX {C : Nat → Nat} {k : Nat} : prodN k (fun v => 128 * colX k C v) = prodN k fun v => 128 * C v := by
  have go : ∀ n, n ≤ k → prodN n (fun v => 128 * colX k C v) = prodN n fun v => 128 * C v := fun n => by
    induction n with
    | zero => exact fun _ => rfl
    | succ n ih =>
      intro h
      show prodN n _ * (128 * colX k C n) = prodN n _ * (128 * C n)
      rw [ih (by omega)]
      unfold colX
      rw [if_pos (by omega)]
  exact go k (Nat.le_refl _)
def BW : Nat := 2 ^ 4000 - 1
theorem bw_lt : BW < 2 ^ 4000 := Nat.sub_lt (Nat.pow_pos (by decide)) (by decide)
theorem le_bw {x : Nat} (h : x < 2 ^ 4000) : x ≤ BW := Nat.le_sub_one_of_lt h
theorem bndF_ok {k : Nat} {cs : List Cond} (h : SizedX k cs) : Bnd (cs.length + 1) (k + 1 + 1) (av (cs.length + 1) (k + 1 + 1) (rows1 (rowsF k cs)) (goal1 (k + 1))) (bv (cs.length + 1) (bndF cs)) BW ∧ Bnd (cs.length + 1) (k + 1) (av (cs.length + 1) (k + 1) (rowsF k cs) (goalF k)) (bv (cs.length + 1) (bndF cs)) BW := by
  obtain ⟨C, R, c1, r1, hc, hR, hW⟩ := h.bnd
  have few := h.few
  have P := probF h
  have cx : ∀ v, 1 ≤ colX k C v := fun v => by
    unfold colX
    split
    · exact c1 v
    · exact Nat.le_refl _
  have hg : ∀ v, v < k + 1 → ((goalF k).getD v 0).natAbs ≤ colX k C v := fun v hv => by
    rw [goalF_at (by omega)]
    split
    · exact Nat.zero_le _
    · exact cx v
  have hr : ∀ r, r ∈ rowsF k cs → ∀ v, v < k + 1 → (r.getD v 0).natAbs ≤ colX k C v := fun r hr v hv => by
    rcases List.mem_append.mp hr with z | z
    · obtain ⟨c, hm, e⟩ := List.mem_map.mp z
      rw [← e, rowC_at0 (h.len c hm) (by omega)]
      by_cases y : v < k
      · rw [if_pos y]
        unfold colX
        rw [if_pos y]
        exact hc c hm v y
      · rw [if_neg y]
        have := cx v
        split <;> simp <;> omega
    · rw [List.mem_singleton.mp z]
      exact hg v hv
  have hb : ∀ x, x ∈ bndF cs → x.natAbs ≤ R := fun x hx => by
    rcases List.mem_append.mp hx with z | z
    · obtain ⟨c, hc, e⟩ := List.mem_map.mp z
      rw [← e]
      exact hR c hc
    · rw [List.mem_singleton.mp z]; exact r1
  have p1 : prodN (k + 1) (fun v => 128 * colX k C v) = prodN k (fun v => 128 * C v) * 128 := by
    show prodN k _ * (128 * colX k C k) = _
    rw [prod_colX]
    unfold colX
    rw [if_neg (by omega)]
  have p2 : prodN (k + 1 + 1) (fun v => 128 * colX k C v) = prodN k (fun v => 128 * C v) * 128 * 128 := by
    show prodN (k + 1) _ * (128 * colX k C (k + 1)) = _
    rw [p1]
    unfold colX
    rw [if_neg (by omega)]
  have small : prodN k (fun v => 128 * C v) * 128 * (128 * R) ≤ prodN k (fun v => 128 * C v) * (128 * (128 * (128 * R))) := by
    rw [Nat.mul_assoc]
    exact Nat.mul_le_mul_left _ (by omega)
  refine ⟨bnd_gen (colX k C) R (fun r hr' v hv => ?_) hb (fun v hv => ?_) cx r1 (by omega) ?_ bw_lt, bnd_gen (colX k C) R hr hb hg cx r1 (by omega) ?_ bw_lt⟩
  · obtain ⟨r0, h0, e⟩ := List.mem_map.mp hr'
    have l0 := P.hw r0 h0
    rw [← e, getD_app (by omega), l0]
    by_cases y : v < k + 1
    · rw [if_pos y]; exact hr r0 h0 v y
    · rw [if_neg y]; exact cx v
  · rw [goal1_at (by omega)]
    split
    · exact cx v
    · exact Nat.zero_le _
  · rw [p2]
    refine le_bw (Nat.lt_of_le_of_lt (Nat.le_of_eq ?_) hW)
    grind
  · rw [p1]
    exact le_bw (Nat.lt_of_le_of_lt small hW)
/-- multipliers that refute conditions on widths of at least 0 -/
structure Refutes (k : Nat) (cs : List Cond) (y : List Int) : Prop where
  len : y.length = cs.length
  nn : ∀ i, i < cs.length → 0 ≤ y.getD i 0
  sm : ∀ i, i < cs.length → Sm (y.getD i 0)
  col : ∀ j, j < k → 0 ≤ sumN cs.length fun i => (cs.getD i c0).fs.getD j 0 * y.getD i 0
  neg : (sumN cs.length fun i => (cs.getD i c0).b * y.getD i 0) < 0 ∨ ((sumN cs.length fun i => (cs.getD i c0).b * y.getD i 0) = 0 ∧ ∃ i, i < cs.length ∧ (cs.getD i c0).st = true ∧ 0 < y.getD i 0)
theorem mult_sm {T : Tab} {m n W i : Nat} {rows : List (List Int)} {bounds g y : List Int} {A : Nat → Vec} {b : Vec} (M : Mult m n rows bounds g T y) (h : Inv T m n A b) (hb : Bnd m n A b W) (hi : i < m) : Sm (y.getD i 0) := by
  rcases M.src i hi with z | ⟨j, hj, z⟩
  · rw [z]
    unfold Sm
    exact Nat.pow_pos (by decide)
  · rw [z, en_goal]
    exact (inv_ok h hb).goal.at (by omega)
theorem dropLast_at {l : List Int} {i : Nat} (h : i + 1 < l.length) : l.dropLast.getD i 0 = l.getD i 0 := by
  rw [List.getD_eq_getElem?_getD, List.getD_eq_getElem?_getD, List.getElem?_dropLast, if_pos (by omega)]
theorem rowC_at {c : Cond} {k j : Nat} (h : c.fs.length = k) (hj : j ≤ k) : (rowC c).getD j 0 = if j < k then c.fs.getD j 0 else if c.st then 1 else 0 := by
  unfold rowC
  rw [getD_app (by omega), h]
/-- no point at all -/
theorem refutes_one {k : Nat} {cs : List Cond} (hs : SizedX k cs) {T : Tab} (o : Opt (cs.length + 1) (k + 1 + 1) (av (cs.length + 1) (k + 1 + 1) (rows1 (rowsF k cs)) (goal1 (k + 1))) (bv (cs.length + 1) (bndF cs)) T) (sz : T.size = k + 1 + 1) (ng : en (cs.length + 1) T (cs.length + 1) (k + 1 + 1) < 0) : Refutes k cs (multT T).dropLast := by
  have P := probF hs
  have M := mult_of (prob1 P) o sz
  have at_ : ∀ i, i < cs.length → (multT T).dropLast.getD i 0 = (multT T).getD i 0 := fun i hi => dropLast_at (by rw [M.len]; omega)
  have r1 : ∀ i j, i < cs.length + 1 → j < k + 1 → ((rows1 (rowsF k cs)).getD i []).getD j 0 = ((rowsF k cs).getD i []).getD j 0 := fun i j hi hj => by
    unfold rows1
    have := P.at hi
    rw [getD_map' (x := []) (by rw [P.hr]; exact hi), getD_app (by omega), if_pos (by omega)]
  refine ⟨by rw [List.length_dropLast, M.len]; rfl, fun i hi => ?_, fun i hi => ?_, fun j hj => ?_, .inl ?_⟩
  · rw [at_ i hi]
    exact M.nn i (by omega)
  · rw [at_ i hi]
    exact mult_sm M o.inv (bndF_ok hs).1 (by omega)
  · have c := M.col j (by omega)
    rw [goal1_at (by omega), if_neg (by omega), Int.mul_zero] at c
    have e : sumN (cs.length + 1) (fun i => ((rows1 (rowsF k cs)).getD i []).getD j 0 * (multT T).getD i 0) = sumN cs.length (fun i => (cs.getD i c0).fs.getD j 0 * (multT T).dropLast.getD i 0) + 0 := by
      rw [sumN_succ]
      rw [r1 _ j (by omega) (by omega), rowsF_last, goalF_at (by omega), if_pos hj, Int.zero_mul]
      congr 1
      refine sumN_congr fun i hi => ?_
      rw [r1 i j (by omega) (by omega), rowsF_at hi, rowC_at (hs.len _ (cs_mem hi)) (by omega), if_pos hj, at_ i hi]
    rw [e] at c
    omega
  · have t := M.tot
    have e : sumN (cs.length + 1) (fun i => (bndF cs).getD i 0 * (multT T).getD i 0) = sumN cs.length (fun i => (cs.getD i c0).b * (multT T).dropLast.getD i 0) + (multT T).getD cs.length 0 := by
      rw [sumN_succ]
      rw [bndF_last, Int.one_mul]
      congr 1
      refine sumN_congr fun i hi => ?_
      rw [bndF_at hi, at_ i hi]
    have := M.nn cs.length (by omega)
    omega
/-- only points on the edge of a strict condition -/
theorem refutes_two {k : Nat} {cs : List Cond} (hs : SizedX k cs) {T : Tab} (o : Opt (cs.length + 1) (k + 1) (av (cs.length + 1) (k + 1) (rowsF k cs) (goalF k)) (bv (cs.length + 1) (bndF cs)) T) (sz : T.size = k + 1) (z0 : en (cs.length + 1) T (cs.length + 1) (k + 1) = 0) : Refutes k cs (multT T).dropLast := by
  have P := probF hs
  have M := mult_of P o sz
  have d0 := o.inv.d0
  have at_ : ∀ i, i < cs.length → (multT T).dropLast.getD i 0 = (multT T).getD i 0 := fun i hi => dropLast_at (by rw [M.len]; omega)
  have yl := M.nn cs.length (by omega)
  have tot : sumN cs.length (fun i => (cs.getD i c0).b * (multT T).dropLast.getD i 0) + (multT T).getD cs.length 0 = 0 := by
    have t := M.tot
    have e : sumN (cs.length + 1) (fun i => (bndF cs).getD i 0 * (multT T).getD i 0) = sumN cs.length (fun i => (cs.getD i c0).b * (multT T).dropLast.getD i 0) + (multT T).getD cs.length 0 := by
      rw [sumN_succ]
      rw [bndF_last, Int.one_mul]
      congr 1
      refine sumN_congr fun i hi => ?_
      rw [bndF_at hi, at_ i hi]
    omega
  refine ⟨by rw [List.length_dropLast, M.len]; rfl, fun i hi => ?_, fun i hi => ?_, fun j hj => ?_, ?_⟩
  · rw [at_ i hi]
    exact M.nn i (by omega)
  · rw [at_ i hi]
    exact mult_sm M o.inv (bndF_ok hs).2 (by omega)
  · have c := M.col j (by omega)
    rw [goalF_at (by omega), if_pos hj, Int.mul_zero] at c
    have e : sumN (cs.length + 1) (fun i => ((rowsF k cs).getD i []).getD j 0 * (multT T).getD i 0) = sumN cs.length (fun i => (cs.getD i c0).fs.getD j 0 * (multT T).dropLast.getD i 0) + 0 := by
      rw [sumN_succ]
      rw [rowsF_last, goalF_at (by omega), if_pos hj, Int.zero_mul]
      congr 1
      refine sumN_congr fun i hi => ?_
      rw [rowsF_at hi, rowC_at (hs.len _ (cs_mem hi)) (by omega), if_pos hj, at_ i hi]
    rw [e] at c
    omega
  · by_cases yz : (multT T).getD cs.length 0 = 0
    · refine .inr ⟨by omega, Classical.byContradiction fun no => ?_⟩
      have c := M.col k (by omega)
      rw [goalF_at (Nat.le_refl _), if_neg (by omega), Int.mul_one] at c
      have e : sumN (cs.length + 1) (fun i => ((rowsF k cs).getD i []).getD k 0 * (multT T).getD i 0) = 0 := by
        rw [sumN_succ]
        rw [yz, Int.mul_zero, Int.add_zero]
        refine sumN_zero fun i hi => ?_
        rw [rowsF_at hi, rowC_at (hs.len _ (cs_mem hi)) (Nat.le_refl _), if_neg (by omega)]
        by_cases w : (cs.getD i c0).st = true
        · have a := M.nn i (by omega)
          have b : ¬ 0 < (multT T).dropLast.getD i 0 := fun q => no ⟨i, hi, w, q⟩
          rw [at_ i hi] at b
          rw [show (multT T).getD i 0 = 0 by omega, Int.mul_zero]
        · rw [if_neg w, Int.zero_mul]
      omega
    · exact .inl (by omega)
/-- a point that keeps all conditions -/
structure Keeps (k : Nat) (cs : List Cond) (u : Int) (ws : List Int) : Prop where
  len : ws.length = k
  u0 : 0 < u
  nn : ∀ j, j < k → 0 ≤ ws.getD j 0
  row : ∀ i, i < cs.length → (sumN k fun j => ws.getD j 0 * (cs.getD i c0).fs.getD j 0) + (if (cs.getD i c0).st then 1 else 0) ≤ u * (cs.getD i c0).b
  usm : Sm u
  wsm : ∀ x, x ∈ ws → Sm x
theorem keeps_of {k : Nat} {cs : List Cond} (hs : SizedX k cs) {T : Tab} (o : Opt (cs.length + 1) (k + 1) (av (cs.length + 1) (k + 1) (rowsF k cs) (goalF k)) (bv (cs.length + 1) (bndF cs)) T) (ok : TabOk T (cs.length + 1) (k + 1)) (sz : T.size = k + 1) (z0 : en (cs.length + 1) T (cs.length + 1) (k + 1) ≠ 0) : Keeps k cs T.den (ptT T (k + 1)).dropLast := by
  have P := probF hs
  have X := pt_of P o.inv o.feas sz
  have at_ : ∀ i, i < k → (ptT T (k + 1)).dropLast.getD i 0 = (ptT T (k + 1)).getD i 0 := fun i hi => dropLast_at (by rw [X.len]; omega)
  have xk := X.nn k (by omega)
  have tot := X.tot
  have e : sumN (k + 1) (fun v => (ptT T (k + 1)).getD v 0 * (goalF k).getD v 0) = (ptT T (k + 1)).getD k 0 := by
    rw [sumN_one (k := k) (by omega) fun v hv ne => by rw [goalF_at (by omega), if_pos (by omega), Int.mul_zero], goalF_at (Nat.le_refl _), if_neg (by omega), Int.mul_one]
  rw [e] at tot
  refine ⟨by rw [List.length_dropLast, X.len]; rfl, o.inv.d0, fun j hj => ?_, fun i hi => ?_, ok.dsm, fun x hx => ?_⟩
  · rw [at_ j hj]
    exact X.nn j (by omega)
  · have r := X.row i (by omega)
    rw [bndF_at hi] at r
    have e2 : sumN (k + 1) (fun v => (ptT T (k + 1)).getD v 0 * ((rowsF k cs).getD i []).getD v 0) = sumN k (fun j => (ptT T (k + 1)).dropLast.getD j 0 * (cs.getD i c0).fs.getD j 0) + (ptT T (k + 1)).getD k 0 * (if (cs.getD i c0).st then 1 else 0) := by
      rw [sumN_succ]
      rw [rowsF_at hi, rowC_at (hs.len _ (cs_mem hi)) (Nat.le_refl _), if_neg (by omega)]
      congr 1
      refine sumN_congr fun j hj => ?_
      rw [rowC_at (hs.len _ (cs_mem hi)) (by omega), if_pos hj, at_ j hj]
    rw [e2] at r
    by_cases w : (cs.getD i c0).st = true
    · rw [if_pos w, Int.mul_one] at r
      rw [if_pos w]
      omega
    · rw [if_neg w, Int.mul_zero] at r
      rw [if_neg w]
      exact r
  · obtain ⟨v, hv, ev⟩ := List.getElem_of_mem (show x ∈ ptT T (k + 1) from by rw [List.dropLast_eq_take] at hx; exact List.mem_of_mem_take hx)
    rw [X.len] at hv
    have ev : (ptT T (k + 1)).getD v 0 = x := by
      rw [List.getD_eq_getElem?_getD, List.getElem?_eq_getElem (by rw [X.len]; exact hv)]
      exact ev
    rcases X.src v hv with z | ⟨i, hi, z⟩
    · rw [← ev, z]
      unfold Sm
      exact Nat.pow_pos (by decide)
    · rw [← ev, z, en_ent hi]
      exact (ok.at hi).at (by omega)


end G

set_option Elab.async false
set_option linter.all false
set_option maxRecDepth 100000
set_option autoImplicit false
set_option maxHeartbeats 2000000
namespace G
open PySem PySem.Spec PyProof.Rows L2
local macro_rules
  | `(tactic| get_elem_tactic_trivial) => `(tactic| first
    | (with_reducible first
      | refine st_seqSet ?_ | refine st_seqAsg ?_ | refine st_seqDo ?_ | refine st_seqPar ?_ | refine st_seqPar3 ?_ | refine st_seqFor ?_ | refine st_seqWhile ?_ | refine st_seqAug ?_ | refine st_seqSkip ?_ | refine st_seqRet ?_
      | refine st_skip ?_ | refine st_ret ?_ | refine st_retN ?_ | refine st_do ?_ | refine st_if ?_ | refine st_set ?_ | refine st_asg ?_ | refine st_par ?_ | refine st_par3 ?_
      | refine st_c ?_ | refine st_op2 ?_ | refine st_op1 ?_ | refine st_test ?_ | refine st_tbl ?_ | refine st_and ?_ | refine st_or ?_ | refine st_not ?_ | refine st_andV ?_ | refine st_orV ?_ | refine st_notV ?_ | refine st_bl ?_
      | refine st_chain ?_ | refine st_ifE ?_ | refine st_nil ?_ | refine st_cons ?_ | refine st_call ?_ | refine st_fr ?_ | refine st_lv ?_ | refine st_one ?_ | refine st_two ?_
      | refine st_gN ?_ | refine st_lst ?_ | refine st_tup ?_ | refine st_slF ?_ | refine st_oNo ?_ | refine st_oS ?_ | refine st_enum ?_ | refine st_scr ?_ | refine st_list ?_ | refine st_it ?_ | refine st_comp ?_ | refine st_for ?_ | refine st_gIx ?_ | refine st_range1 ?_ | refine st_app ?_ | refine st_zip ?_ | refine st_rev1 ?_ | refine st_meth ?_ | refine st_isS ?_ | refine st_count ?_ | refine st_sl ?_ | refine st_slT ?_ | refine st_slL ?_ | refine st_max2 ?_ | refine st_min2 ?_
      | refine st_add ?_ | refine st_sub ?_ | refine st_int ?_ | refine st_neg ?_ | refine st_lt ?_ | refine st_le ?_ | refine st_gt ?_ | refine st_ge ?_ | refine st_eq ?_ | refine st_ne ?_ | refine st_eqB ?_ | refine st_neB ?_ | refine st_eqS ?_ | refine st_neS ?_ | refine st_isN ?_ | refine st_sorted ?_ | refine st_abs ?_ | refine st_isNotN ?_
      | refine br_t ?_ | refine br_f ?_)
    | ((with_reducible refine st_var (d := ?_) ?_ ?_); rotate_left; (exact rfl))
    | ((with_reducible refine st_isi2 (k := ?_) (b := true) ?_ ?_ ?_); rotate_left; (exact rfl); (exact rfl))
    | ((with_reducible refine st_isi2 (k := ?_) (b := false) ?_ ?_ ?_); rotate_left; (exact rfl); (exact rfl))
    | ((with_reducible refine st_ix (ds := ?_) (d := ?_) ?_ ?_ ?_); rotate_left 2; (first | exact rfl | exact seq_at (by assumption)); (exact rfl))
    | ((with_reducible refine st_len2 (ds := ?_) (n := ?_) ?_ ?_ ?_); rotate_left 2; (first | exact rfl | exact seq_at (by assumption)); (exact rfl))
    | ((with_reducible refine st_addLL (a := ?_) (b := ?_) ?_ ?_ ?_ ?_); rotate_left 2; (first | exact rfl | exact lst_at (by assumption)); (first | exact rfl | exact lst_at (by assumption)); (exact Nat.le_of_ble_eq_true rfl))
    | ((with_reducible refine st_pow ?_ ?_); (exact ⟨by decide, by decide, by decide⟩))
    | ((with_reducible refine st_mod ?_ ?_); (first | decide | omega))
    | ((with_reducible refine st_size ?_ ?_); (exact rfl))
    | ((with_reducible refine st_gT2 ?_ ?_); (exact rfl))
    | ((with_reducible refine st_gsC ?_))
    | ((with_reducible refine st_gsN ?_))
    | ((with_reducible refine st_mulS ?_ ?_ ?_); omega; omega)
    | ((with_reducible refine br_ct ?_ ?_); (exact rfl))
    | ((with_reducible refine br_cf ?_ ?_); (exact rfl))
    | (rw [list_tup])
    | (rw [list_lst])
    | (rw [items_tup])
    | (rw [items_lst])
    | ((refine st_listM (ds := ?_) ?_ ?_); rotate_left; (first | exact rfl | exact seq_at (by assumption)))
    | ((refine st_itM (it := ?_) ?_ ?_); rotate_left; (first | exact rfl | exact it_at (by assumption))))

local macro_rules
  | `(tactic| get_elem_tactic_trivial) => `(tactic| first
    | (with_reducible refine st_fld ?_)
    | (with_reducible refine st_mt ?_)
    | (with_reducible refine st_gFld ?_)
    | (with_reducible refine st_lix ?_)
    | (with_reducible refine st_rep ?_)
    | (with_reducible refine st_cat ?_)
    | (with_reducible refine st_lrng ?_)
    | (with_reducible refine st_frz ?_)
    | ((with_reducible refine fld_size (T := ?_) (pc := ?_) (pb := ?_) ?_ ?_); rotate_left 3; (assumption))
    | ((with_reducible refine fld_rows (T := ?_) (pc := ?_) (pb := ?_) ?_ ?_); rotate_left 3; (assumption))
    | ((with_reducible refine fld_goal (T := ?_) (pc := ?_) (pb := ?_) ?_ ?_); rotate_left 3; (assumption))
    | ((with_reducible refine fld_cols (T := ?_) (pc := ?_) (pb := ?_) ?_ ?_); rotate_left 3; (assumption))
    | ((with_reducible refine fld_basis (T := ?_) (pc := ?_) (pb := ?_) ?_ ?_); rotate_left 3; (assumption))
    | ((with_reducible refine fld_den (T := ?_) (pc := ?_) (pb := ?_) ?_ ?_); rotate_left 3; (assumption))
    | ((with_reducible refine mt_go (T := ?_) (pc := ?_) (pb := ?_) ?_ ?_ ?_); rotate_left 3; (assumption); (exact rfl)))

/-! ### deciding -/
theorem goalF_D (n : Nat) : (List.replicate n [D.int 0]).flatten ++ [D.int 1] = (goalF n).map D.int := by
  unfold goalF
  rw [rep_zero, List.map_append]
  rfl
theorem rowsF_D (k : Nat) (cs : List Cond) : (cs.map fun c => rowD (rowC c)) ++ [D.lst ((goalF k).map D.int)] = (rowsF k cs).map rowD := by
  unfold rowsF
  rw [List.map_append, List.map_map]
  rfl
theorem bndF_D (cs : List Cond) : (cs.map fun c => D.int c.b) ++ [D.int 1] = (bndF cs).map D.int := by
  unfold bndF
  rw [List.map_append, List.map_map]
  rfl
/-- what deciding answers -/
def DecR (k : Nat) (cs : List Cond) (d : D) : Prop := (∃ y, d = .tup [.non, .lst (y.map D.int)] ∧ Refutes k cs y) ∨ ∃ u ws, d = .tup [.lst (ws.map D.int), .int u] ∧ Keeps k cs u ws
theorem sp_decideX {k : Nat} {cs : List Cond} (hs : SizedX k cs) (hk : k ≤ 600) : ∃ d, ∀ {Fr : PySem.W.Frag} {S : Sto} {K : KE}, (DecR k cs d → K d S) → c_decide Fr [.int (k : Nat), .lst (cs.map condD)] S K := by
  have few := hs.few
  have P := probF hs
  obtain ⟨b1, b2⟩ := bndF_ok hs
  obtain ⟨T1, T, hF⟩ := sp_solve P (by omega) (by omega) (by omega) (fun x hx => by
    have : x.natAbs ≤ 1 := by
      rcases List.mem_append.mp hx with z | z
      · rw [(List.mem_replicate.mp z).2]; decide
      · rw [List.mem_singleton.mp z]; decide
    exact Nat.lt_of_le_of_lt this (Nat.one_lt_two_pow (by decide))) b1 b2 capF
  refine ⟨if en (cs.length + 1) T1 (cs.length + 1) (k + 1 + 1) < 0 then .tup [.non, .lst ((multT T1).dropLast.map D.int)] else if en (cs.length + 1) T (cs.length + 1) (k + 1) = 0 then .tup [.non, .lst ((multT T).dropLast.map D.int)] else .tup [.lst ((ptT T (k + 1)).dropLast.map D.int), .int T.den], fun {Fr S K} h => ?_⟩
  refine st_def rfl ?_
  unfold w_decide
  repeat get_elem_tactic_trivial
  try dsimp only [List.set_cons_succ, List.set_cons_zero]
  refine comp_mapL cs condD (fun c => rowD (rowC c)) trivial (by unfold sizeLine; omega) (fun c hc K1 F1 k1 => ?_) ?_
  · have lc := hs.len c hc
    unfold condD
    repeat get_elem_tactic_trivial
    try dsimp only [List.set_cons_succ, List.set_cons_zero]
    refine st_intB ?_
    repeat get_elem_tactic_trivial
    try dsimp only [List.set_cons_succ, List.set_cons_zero]
    refine st_addLL (a := c.fs.map D.int) (b := [.int (if c.st then 1 else 0)]) rfl rfl (by rw [List.length_map]; simp only [List.length_singleton]; unfold sizeLine; omega) ?_
    unfold rowD rowC at k1
    rw [List.map_append] at k1
    exact k1
  repeat get_elem_tactic_trivial
  try dsimp only [List.set_cons_succ, List.set_cons_zero]
  refine ⟨by omega, by omega, by simp only [List.length_singleton]; unfold sizeLine; omega, ?_⟩
  rw [Int.toNat_natCast]
  repeat get_elem_tactic_trivial
  try dsimp only [List.set_cons_succ, List.set_cons_zero]
  refine st_addLL (a := (List.replicate k [D.int 0]).flatten) (b := [.int 1]) rfl rfl (by rw [rep_zero, List.length_map, List.length_replicate]; simp only [List.length_singleton]; unfold sizeLine; omega) ?_
  rw [goalF_D]
  repeat get_elem_tactic_trivial
  try dsimp only [List.set_cons_succ, List.set_cons_zero]
  refine st_addLL (a := cs.map fun c => rowD (rowC c)) (b := [.lst ((goalF k).map D.int)]) rfl rfl (by rw [List.length_map]; simp only [List.length_singleton]; unfold sizeLine; omega) ?_
  rw [rowsF_D]
  repeat get_elem_tactic_trivial
  try dsimp only [List.set_cons_succ, List.set_cons_zero]
  refine comp_mapL cs condD (fun c => D.int c.b) trivial (by unfold sizeLine; omega) (fun c hc K1 F1 k1 => ?_) ?_
  · unfold condD
    repeat get_elem_tactic_trivial
    try dsimp only [List.set_cons_succ, List.set_cons_zero]
    exact k1
  repeat get_elem_tactic_trivial
  try dsimp only [List.set_cons_succ, List.set_cons_zero]
  refine st_addLL (a := cs.map fun c => D.int c.b) (b := [.int 1]) rfl rfl (by rw [List.length_map]; simp only [List.length_singleton]; unfold sizeLine; omega) ?_
  rw [bndF_D]
  repeat get_elem_tactic_trivial
  try dsimp only [List.set_cons_succ, List.set_cons_zero]
  refine ⟨by omega, by omega, by simp only [List.length_singleton]; unfold sizeLine; omega, ?_⟩
  rw [Int.toNat_natCast]
  repeat get_elem_tactic_trivial
  try dsimp only [List.set_cons_succ, List.set_cons_zero]
  refine st_addLL (a := (List.replicate k [D.int 0]).flatten) (b := [.int 1]) rfl rfl (by rw [rep_zero, List.length_map, List.length_replicate]; simp only [List.length_singleton]; unfold sizeLine; omega) ?_
  rw [goalF_D]
  repeat get_elem_tactic_trivial
  try dsimp only [List.set_cons_succ, List.set_cons_zero]
  refine hF (fun o sz ng => ?_) fun S1 p pc pb g0 np npc npb hT sz ok o A => ?_
  · repeat get_elem_tactic_trivial
    try dsimp only [List.set_cons_succ, List.set_cons_zero]
    refine st_seq ?_
    unfold rowD
    repeat get_elem_tactic_trivial
    try dsimp only [List.set_cons_succ, List.set_cons_zero]
    rw [cut_last, ← List.map_dropLast]
    repeat get_elem_tactic_trivial
    try dsimp only [List.set_cons_succ, List.set_cons_zero]
    rw [if_pos ng] at h
    exact fin.of (h (.inl ⟨_, rfl, refutes_one hs o sz ng⟩))
  · have gl := ok.goal.len
    rw [if_neg (by omega)] at h
    repeat get_elem_tactic_trivial
    try dsimp only [List.set_cons_succ, List.set_cons_zero]
    refine st_seq ?_
    repeat get_elem_tactic_trivial
    try dsimp only [List.set_cons_succ, List.set_cons_zero]
    refine st_seq ?_
    repeat get_elem_tactic_trivial
    try dsimp only [List.set_cons_succ, List.set_cons_zero]
    unfold rowD
    refine st_ixLast (ds := T.goal.map D.int) rfl (last_row gl) ?_
    repeat get_elem_tactic_trivial
    try dsimp only [List.set_cons_succ, List.set_cons_zero]
    rw [← en_goal (m := cs.length + 1)]
    have back : ∀ {d : D}, K d S → fin K d S1 := fun {d} h => ⟨S, fun a c e => by rw [A a (by rw [e]; simp)]; exact e, h⟩
    refine br_d (fun e => ?_) fun e => ?_
    · repeat get_elem_tactic_trivial
      try dsimp only [List.set_cons_succ, List.set_cons_zero]
      refine sp_multipliers hT ok (by omega) (by omega) (fun x hx => ?_) ?_
      · obtain ⟨j, hj, ej⟩ := List.getElem_of_mem hx
        have lc := ok.cols
        have := o.inv.cl' j (by omega)
        unfold cl at this
        rw [List.getD_eq_getElem?_getD, List.getElem?_eq_getElem hj, Option.getD_some, ej] at this
        omega
      · unfold rowD
        repeat get_elem_tactic_trivial
        try dsimp only [List.set_cons_succ, List.set_cons_zero]
        rw [cut_last, ← List.map_dropLast]
        repeat get_elem_tactic_trivial
        try dsimp only [List.set_cons_succ, List.set_cons_zero]
        rw [if_pos e] at h
        exact back (h (.inl ⟨_, rfl, refutes_two hs o sz e⟩))
    · repeat get_elem_tactic_trivial
      try dsimp only [List.set_cons_succ, List.set_cons_zero]
      refine sp_point hT ok (by omega) (by omega) (by omega) ?_
      unfold rowD
      repeat get_elem_tactic_trivial
      try dsimp only [List.set_cons_succ, List.set_cons_zero]
      rw [cut_last, ← List.map_dropLast]
      repeat get_elem_tactic_trivial
      try dsimp only [List.set_cons_succ, List.set_cons_zero]
      rw [if_neg e] at h
      exact back (h (.inr ⟨_, _, rfl, keeps_of hs o ok sz e⟩))
theorem sp_decide {k : Nat} {cs : List Cond} (hs : Sized k cs) (hk : k ≤ 600) : ∃ d, ∀ {Fr : PySem.W.Frag} {S : Sto} {K : KE}, (DecR k cs d → K d S) → c_decide Fr [.int (k : Nat), .lst (cs.map condD)] S K := sp_decideX hs.x hk


end G

set_option Elab.async false
set_option linter.all false
set_option maxRecDepth 100000
set_option autoImplicit false
set_option maxHeartbeats 2000000
namespace G
open PySem PySem.Spec PyProof.Rows L2
local macro_rules
  | `(tactic| get_elem_tactic_trivial) => `(tactic| first
    | (with_reducible first
      | refine st_seqSet ?_ | refine st_seqAsg ?_ | refine st_seqDo ?_ | refine st_seqPar ?_ | refine st_seqPar3 ?_ | refine st_seqFor ?_ | refine st_seqWhile ?_ | refine st_seqAug ?_ | refine st_seqSkip ?_ | refine st_seqRet ?_
      | refine st_skip ?_ | refine st_ret ?_ | refine st_retN ?_ | refine st_do ?_ | refine st_if ?_ | refine st_set ?_ | refine st_asg ?_ | refine st_par ?_ | refine st_par3 ?_
      | refine st_c ?_ | refine st_op2 ?_ | refine st_op1 ?_ | refine st_test ?_ | refine st_tbl ?_ | refine st_and ?_ | refine st_or ?_ | refine st_not ?_ | refine st_andV ?_ | refine st_orV ?_ | refine st_notV ?_ | refine st_bl ?_
      | refine st_chain ?_ | refine st_ifE ?_ | refine st_nil ?_ | refine st_cons ?_ | refine st_call ?_ | refine st_fr ?_ | refine st_lv ?_ | refine st_one ?_ | refine st_two ?_
      | refine st_gN ?_ | refine st_lst ?_ | refine st_tup ?_ | refine st_slF ?_ | refine st_oNo ?_ | refine st_oS ?_ | refine st_enum ?_ | refine st_scr ?_ | refine st_list ?_ | refine st_it ?_ | refine st_comp ?_ | refine st_for ?_ | refine st_gIx ?_ | refine st_range1 ?_ | refine st_app ?_ | refine st_zip ?_ | refine st_rev1 ?_ | refine st_meth ?_ | refine st_isS ?_ | refine st_count ?_ | refine st_sl ?_ | refine st_slT ?_ | refine st_slL ?_ | refine st_max2 ?_ | refine st_min2 ?_
      | refine st_add ?_ | refine st_sub ?_ | refine st_int ?_ | refine st_neg ?_ | refine st_lt ?_ | refine st_le ?_ | refine st_gt ?_ | refine st_ge ?_ | refine st_eq ?_ | refine st_ne ?_ | refine st_eqB ?_ | refine st_neB ?_ | refine st_eqS ?_ | refine st_neS ?_ | refine st_isN ?_ | refine st_sorted ?_ | refine st_abs ?_ | refine st_isNotN ?_
      | refine br_t ?_ | refine br_f ?_)
    | ((with_reducible refine st_var (d := ?_) ?_ ?_); rotate_left; (exact rfl))
    | ((with_reducible refine st_isi2 (k := ?_) (b := true) ?_ ?_ ?_); rotate_left; (exact rfl); (exact rfl))
    | ((with_reducible refine st_isi2 (k := ?_) (b := false) ?_ ?_ ?_); rotate_left; (exact rfl); (exact rfl))
    | ((with_reducible refine st_ix (ds := ?_) (d := ?_) ?_ ?_ ?_); rotate_left 2; (first | exact rfl | exact seq_at (by assumption)); (exact rfl))
    | ((with_reducible refine st_len2 (ds := ?_) (n := ?_) ?_ ?_ ?_); rotate_left 2; (first | exact rfl | exact seq_at (by assumption)); (exact rfl))
    | ((with_reducible refine st_addLL (a := ?_) (b := ?_) ?_ ?_ ?_ ?_); rotate_left 2; (first | exact rfl | exact lst_at (by assumption)); (first | exact rfl | exact lst_at (by assumption)); (exact Nat.le_of_ble_eq_true rfl))
    | ((with_reducible refine st_pow ?_ ?_); (exact ⟨by decide, by decide, by decide⟩))
    | ((with_reducible refine st_mod ?_ ?_); (first | decide | omega))
    | ((with_reducible refine st_size ?_ ?_); (exact rfl))
    | ((with_reducible refine st_gT2 ?_ ?_); (exact rfl))
    | ((with_reducible refine st_gsC ?_))
    | ((with_reducible refine st_gsN ?_))
    | ((with_reducible refine st_mulS ?_ ?_ ?_); omega; omega)
    | ((with_reducible refine br_ct ?_ ?_); (exact rfl))
    | ((with_reducible refine br_cf ?_ ?_); (exact rfl))
    | (rw [list_tup])
    | (rw [list_lst])
    | (rw [items_tup])
    | (rw [items_lst])
    | ((refine st_listM (ds := ?_) ?_ ?_); rotate_left; (first | exact rfl | exact seq_at (by assumption)))
    | ((refine st_itM (it := ?_) ?_ ?_); rotate_left; (first | exact rfl | exact it_at (by assumption))))

local macro_rules
  | `(tactic| get_elem_tactic_trivial) => `(tactic| first
    | (with_reducible refine st_fld ?_)
    | (with_reducible refine st_mt ?_)
    | (with_reducible refine st_gFld ?_)
    | (with_reducible refine st_lix ?_)
    | (with_reducible refine st_rep ?_)
    | (with_reducible refine st_cat ?_)
    | (with_reducible refine st_lrng ?_)
    | (with_reducible refine st_frz ?_)
    | ((with_reducible refine fld_size (T := ?_) (pc := ?_) (pb := ?_) ?_ ?_); rotate_left 3; (assumption))
    | ((with_reducible refine fld_rows (T := ?_) (pc := ?_) (pb := ?_) ?_ ?_); rotate_left 3; (assumption))
    | ((with_reducible refine fld_goal (T := ?_) (pc := ?_) (pb := ?_) ?_ ?_); rotate_left 3; (assumption))
    | ((with_reducible refine fld_cols (T := ?_) (pc := ?_) (pb := ?_) ?_ ?_); rotate_left 3; (assumption))
    | ((with_reducible refine fld_basis (T := ?_) (pc := ?_) (pb := ?_) ?_ ?_); rotate_left 3; (assumption))
    | ((with_reducible refine fld_den (T := ?_) (pc := ?_) (pb := ?_) ?_ ?_); rotate_left 3; (assumption))
    | ((with_reducible refine mt_go (T := ?_) (pc := ?_) (pb := ?_) ?_ ?_ ?_); rotate_left 3; (assumption); (exact rfl)))

/-! ### the font that is found -/
def unitC (k p : Nat) (f b : Int) : Cond := ⟨(List.range k).map fun i => if i = p then f else 0, b, false⟩
theorem sp_unit_row {k p : Nat} {f b : Int} {S : Sto} {K : KE} (hk : k ≤ 1000) (h : K (condD (unitC k p f b)) S) : c_unit_row [.int (k : Nat), .int (p : Nat), .int f, .int b] S K := by
  refine st_def rfl ?_
  unfold w_unit_row
  repeat get_elem_tactic_trivial
  try dsimp only [List.set_cons_succ, List.set_cons_zero]
  refine ⟨_, rfl, by omega, by omega, ?_⟩
  rw [show ((k : Nat) : Int).toNat = k from Int.toNat_natCast k, irangeZ]
  refine comp_mapL (List.range k) (fun i => D.int ((i : Nat) : Int)) (fun i => .int (if i = p then f else 0)) trivial (by rw [List.length_range]; unfold sizeLine; omega) (fun i hi K1 F1 k1 => ?_) ?_
  · repeat get_elem_tactic_trivial
    try dsimp only [List.set_cons_succ, List.set_cons_zero]
    refine br_d (fun e => ?_) fun e => ?_
    · repeat get_elem_tactic_trivial
      try dsimp only [List.set_cons_succ, List.set_cons_zero]
      rw [if_pos (by omega)] at k1
      exact k1
    · repeat get_elem_tactic_trivial
      try dsimp only [List.set_cons_succ, List.set_cons_zero]
      rw [if_neg (by omega)] at k1
      exact k1
  · repeat get_elem_tactic_trivial
    try dsimp only [List.set_cons_succ, List.set_cons_zero]
    refine st_tuple rfl ?_
    repeat get_elem_tactic_trivial
    try dsimp only [List.set_cons_succ, List.set_cons_zero]
    unfold condD unitC at h
    rw [List.map_map] at h
    exact fin.of h
def highC (k : Nat) : List Cond := (List.range k).map fun p => unitC k p 1 20
theorem sp_high_rows {k : Nat} {S : Sto} {K : KE} (hk : k ≤ 1000) (h : K (.lst ((highC k).map condD)) S) : c_high_rows [.int (k : Nat)] S K := by
  refine st_def rfl ?_
  unfold w_high_rows
  repeat get_elem_tactic_trivial
  try dsimp only [List.set_cons_succ, List.set_cons_zero]
  refine ⟨_, rfl, by omega, by omega, ?_⟩
  rw [show ((k : Nat) : Int).toNat = k from Int.toNat_natCast k, irangeZ]
  refine comp_mapL (List.range k) (fun i => D.int ((i : Nat) : Int)) (fun i => condD (unitC k i 1 20)) trivial (by rw [List.length_range]; unfold sizeLine; omega) (fun i hi K1 F1 k1 => ?_) ?_
  · repeat get_elem_tactic_trivial
    try dsimp only [List.set_cons_succ, List.set_cons_zero]
    exact sp_unit_row hk k1
  · repeat get_elem_tactic_trivial
    try dsimp only [List.set_cons_succ, List.set_cons_zero]
    unfold highC at h
    rw [List.map_map] at h
    exact fin.of h
def allC (l : Str) (ks cs : List Cond) : List Cond := ks ++ cs ++ highC (l.length + 1)
theorem sp_all_conditions {l : Str} {ks cs : List Cond} {S : Sto} {K : KE} {x : D} (hx : listOf S x = some (cs.map condD)) (hl : l.length ≤ 500) (h1 : ks.length ≤ 1000) (h2 : cs.length ≤ 1000) (h : K (.lst ((allC l ks cs).map condD)) S) : c_all_conditions [knowD l ks, x] S K := by
  refine st_def rfl ?_
  unfold w_all_conditions knowD
  repeat get_elem_tactic_trivial
  try dsimp only [List.set_cons_succ, List.set_cons_zero]
  rw [hx]
  repeat get_elem_tactic_trivial
  try dsimp only [List.set_cons_succ, List.set_cons_zero]
  refine st_addLL (a := ks.map condD) (b := cs.map condD) rfl rfl (by rw [List.length_map, List.length_map]; unfold sizeLine; omega) ?_
  repeat get_elem_tactic_trivial
  try dsimp only [List.set_cons_succ, List.set_cons_zero]
  refine st_lenS (by unfold sizeLine; omega) ?_
  repeat get_elem_tactic_trivial
  try dsimp only [List.set_cons_succ, List.set_cons_zero]
  refine sp_high_rows (k := l.length + 1) (by omega) ?_
  repeat get_elem_tactic_trivial
  try dsimp only [List.set_cons_succ, List.set_cons_zero]
  refine st_addLL (a := ks.map condD ++ cs.map condD) (b := (highC (l.length + 1)).map condD) rfl rfl (by unfold highC; rw [List.length_append, List.length_map, List.length_map, List.length_map, List.length_map, List.length_range]; unfold sizeLine; omega) ?_
  unfold allC at h
  rw [List.map_append, List.map_append] at h
  exact fin.of h
theorem sp_divisor_of {ns : List Int} {S : Sto} {K : KE} (hn : ∀ x, x ∈ ns → 0 ≤ x) (h : K (.int ((gcds 0 ns : Nat) : Int)) S) : c_divisor_of [.lst (ns.map D.int)] S K := by
  refine st_def rfl ?_
  unfold w_divisor_of
  repeat get_elem_tactic_trivial
  try dsimp only [List.set_cons_succ, List.set_cons_zero]
  refine for_ind (I := fun ds ρ S1 => S1 = S ∧ ∃ (ms : List Int) (g : Nat) (x2 : Option D), ds = ms.map D.int ∧ ρ = [some (.lst (ns.map D.int)), some (.int (g : Nat)), x2] ∧ gcds g ms = gcds 0 ns ∧ ∀ x, x ∈ ms → 0 ≤ x) ⟨rfl, ns, 0, _, rfl, rfl, rfl, hn⟩ (fun ρ S1 ⟨e0, ms, g, x2, e1, e2, e3, e4⟩ => ⟨trivial, ?_⟩) fun d ds F ih ρ S1 ⟨e0, ms, g, x2, e1, e2, e3, e4⟩ => ⟨trivial, ?_⟩
  · subst e0 e2
    cases ms with
    | cons _ _ => cases e1
    | nil =>
      have e3 : g = gcds 0 ns := e3
      repeat get_elem_tactic_trivial
      try dsimp only [List.set_cons_succ, List.set_cons_zero]
      rw [e3]
      exact fin.of h
  · subst e0 e2
    cases ms with
    | nil => cases e1
    | cons x ms =>
      injection e1 with e1 e9
      subst e1
      have x0 := e4 x (List.mem_cons_self ..)
      obtain ⟨a, rfl⟩ : ∃ a : Nat, x = (a : Int) := ⟨x.toNat, by omega⟩
      repeat get_elem_tactic_trivial
      try dsimp only [List.set_cons_succ, List.set_cons_zero]
      refine sp_common ?_
      repeat get_elem_tactic_trivial
      try dsimp only [List.set_cons_succ, List.set_cons_zero]
      exact ih _ _ ⟨rfl, ms, Nat.gcd g a, _, e9, rfl, e3, fun y hy => e4 y (List.mem_cons_of_mem _ hy)⟩
theorem sp_font_of {u : Int} {ws : List Int} {k : Nat} {cs : List Cond} {S : Sto} {K : KE} (kp : Keeps k cs u ws) (hk : k ≤ 1000) (h : K (fontD (u / (gcds 0 (u :: ws) : Nat)) (ws.map fun w => w / (gcds 0 (u :: ws) : Nat))) S) : c_font_of [.lst (ws.map D.int), .int u] S K := by
  have lw := kp.len
  have u0 := kp.u0
  have nn : ∀ x, x ∈ u :: ws → 0 ≤ x := fun x hx => by
    rcases List.mem_cons.mp hx with z | z
    · omega
    · obtain ⟨j, hj, e⟩ := List.getElem_of_mem z
      have := kp.nn j (by omega)
      rw [List.getD_eq_getElem?_getD, List.getElem?_eq_getElem hj] at this
      rw [← e]
      exact this
  have gd : gcds 0 (u :: ws) ∣ u.natAbs := by
    have := gcds_dvd ws (Nat.gcd 0 u.natAbs)
    rw [Nat.gcd_zero_left] at this
    show gcds (Nat.gcd 0 u.natAbs) ws ∣ _
    rw [Nat.gcd_zero_left]
    exact this
  have gp : 0 < gcds 0 (u :: ws) := Nat.pos_of_dvd_of_pos gd (by omega)
  have gsm : Sm ((gcds 0 (u :: ws) : Nat) : Int) := Nat.lt_of_le_of_lt (show (gcds 0 (u :: ws)) ≤ u.natAbs from Nat.le_of_dvd (by omega) gd) kp.usm
  refine st_def rfl ?_
  unfold w_font_of
  repeat get_elem_tactic_trivial
  try dsimp only [List.set_cons_succ, List.set_cons_zero]
  refine st_addLL (a := [.int u]) (b := ws.map D.int) rfl rfl (by rw [List.length_map]; simp only [List.length_singleton]; unfold sizeLine; omega) ?_
  repeat get_elem_tactic_trivial
  try dsimp only [List.set_cons_succ, List.set_cons_zero]
  refine sp_divisor_of (ns := u :: ws) nn ?_
  generalize gcds 0 (u :: ws) = g at *
  repeat get_elem_tactic_trivial
  try dsimp only [List.set_cons_succ, List.set_cons_zero]
  refine st_divM (by omega) gsm ?_
  repeat get_elem_tactic_trivial
  try dsimp only [List.set_cons_succ, List.set_cons_zero]
  refine comp_mapL ws D.int (fun w => .int (w / (g : Nat))) trivial (by unfold sizeLine; omega) (fun w hw K1 F1 k1 => ?_) ?_
  · repeat get_elem_tactic_trivial
    try dsimp only [List.set_cons_succ, List.set_cons_zero]
    refine st_divM (by omega) gsm ?_
    exact k1
  · repeat get_elem_tactic_trivial
    try dsimp only [List.set_cons_succ, List.set_cons_zero]
    refine st_tuple rfl ?_
    repeat get_elem_tactic_trivial
    try dsimp only [List.set_cons_succ, List.set_cons_zero]
    unfold fontD at h
    rw [List.map_map] at h
    exact fin.of h
def fontOf (u : Int) (ws : List Int) : D := fontD (u / (gcds 0 (u :: ws) : Nat)) (ws.map fun w => w / (gcds 0 (u :: ws) : Nat))
/-- what find_font answers -/
def FontR (k : Nat) (cs : List Cond) (d : D) : Prop := (d = .non ∧ ∃ y, Refutes k cs y) ∨ ∃ u ws, d = fontOf u ws ∧ Keeps k cs u ws
theorem sp_find_font {l : Str} {ks cs : List Cond} (hs : Sized (l.length + 1) (allC l ks cs)) (hl : l.length ≤ 500) : ∃ d, ∀ {Fr : PySem.W.Frag} {S : Sto} {K : KE} {x : D}, listOf S x = some (cs.map condD) → (FontR (l.length + 1) (allC l ks cs) d → K d S) → c_find_font Fr [knowD l ks, x] S K := by
  have few := hs.few
  have la : (allC l ks cs).length = ks.length + cs.length + (l.length + 1) := by unfold allC highC; simp; omega
  obtain ⟨d0, hD⟩ := sp_decide hs (by omega)
  obtain ⟨d, hd⟩ : ∃ d, DecR (l.length + 1) (allC l ks cs) d0 → ((∃ y, d0 = .tup [.non, .lst (y.map D.int)] ∧ Refutes (l.length + 1) (allC l ks cs) y) ∧ d = .non) ∨ ∃ u ws, d0 = .tup [.lst (ws.map D.int), .int u] ∧ Keeps (l.length + 1) (allC l ks cs) u ws ∧ d = fontOf u ws := by
    by_cases e : DecR (l.length + 1) (allC l ks cs) d0
    · rcases e with e | ⟨u, ws, e1, kp⟩
      · exact ⟨.non, fun _ => .inl ⟨e, rfl⟩⟩
      · exact ⟨fontOf u ws, fun _ => .inr ⟨u, ws, e1, kp, rfl⟩⟩
    · exact ⟨.non, fun z => absurd z e⟩
  refine ⟨d, fun {Fr S K x} hx h => ?_⟩
  have kd : knowD l ks = .tup [.str l, .tup (ks.map condD)] := rfl
  refine st_def rfl ?_
  unfold w_find_font
  rw [kd]
  repeat get_elem_tactic_trivial
  try dsimp only [List.set_cons_succ, List.set_cons_zero]
  refine st_lenS (by unfold sizeLine; omega) ?_
  repeat get_elem_tactic_trivial
  try dsimp only [List.set_cons_succ, List.set_cons_zero]
  rw [← kd]
  refine sp_all_conditions hx hl (by omega) (by omega) ?_
  repeat get_elem_tactic_trivial
  try dsimp only [List.set_cons_succ, List.set_cons_zero]
  refine hD fun r => ?_
  rcases hd r with ⟨⟨y, e1, hy⟩, e2⟩ | ⟨u, ws, e1, kp, e2⟩
  · subst e1 e2
    repeat get_elem_tactic_trivial
    try dsimp only [List.set_cons_succ, List.set_cons_zero]
    exact fin.of (h (.inl ⟨rfl, y, hy⟩))
  · subst e1 e2
    repeat get_elem_tactic_trivial
    try dsimp only [List.set_cons_succ, List.set_cons_zero]
    refine sp_font_of kp (by omega) ?_
    exact fin.of (h (.inr ⟨u, ws, rfl, kp⟩))
theorem sp_has_font {l : Str} {ks : List Cond} (hs : Sized (l.length + 1) (allC l ks [])) (hl : l.length ≤ 500) : ∃ d, ∀ {Fr : PySem.W.Frag} {S : Sto} {K : KE}, (FontR (l.length + 1) (allC l ks []) d → K (.bl (!d.isNon)) S) → c_has_font Fr [knowD l ks] S K := by
  obtain ⟨d, hd⟩ := sp_find_font (cs := []) hs hl
  refine ⟨d, fun {Fr S K} h => ?_⟩
  refine st_def rfl ?_
  unfold w_has_font
  repeat get_elem_tactic_trivial
  try dsimp only [List.set_cons_succ, List.set_cons_zero]
  refine hd (Fr := Fr) rfl fun r => ?_
  repeat get_elem_tactic_trivial
  try dsimp only [List.set_cons_succ, List.set_cons_zero]
  exact fin.of (h r)


end G

set_option Elab.async false
set_option linter.all false
set_option maxRecDepth 100000
set_option autoImplicit false
set_option maxHeartbeats 2000000
namespace G
open PySem PySem.Spec PyProof.Rows L2
local macro_rules
  | `(tactic| get_elem_tactic_trivial) => `(tactic| first
    | (with_reducible first
      | refine st_seqSet ?_ | refine st_seqAsg ?_ | refine st_seqDo ?_ | refine st_seqPar ?_ | refine st_seqPar3 ?_ | refine st_seqFor ?_ | refine st_seqWhile ?_ | refine st_seqAug ?_ | refine st_seqSkip ?_ | refine st_seqRet ?_
      | refine st_skip ?_ | refine st_ret ?_ | refine st_retN ?_ | refine st_do ?_ | refine st_if ?_ | refine st_set ?_ | refine st_asg ?_ | refine st_par ?_ | refine st_par3 ?_
      | refine st_c ?_ | refine st_op2 ?_ | refine st_op1 ?_ | refine st_test ?_ | refine st_tbl ?_ | refine st_and ?_ | refine st_or ?_ | refine st_not ?_ | refine st_andV ?_ | refine st_orV ?_ | refine st_notV ?_ | refine st_bl ?_
      | refine st_chain ?_ | refine st_ifE ?_ | refine st_nil ?_ | refine st_cons ?_ | refine st_call ?_ | refine st_fr ?_ | refine st_lv ?_ | refine st_one ?_ | refine st_two ?_
      | refine st_gN ?_ | refine st_lst ?_ | refine st_tup ?_ | refine st_slF ?_ | refine st_oNo ?_ | refine st_oS ?_ | refine st_enum ?_ | refine st_scr ?_ | refine st_list ?_ | refine st_it ?_ | refine st_comp ?_ | refine st_for ?_ | refine st_gIx ?_ | refine st_range1 ?_ | refine st_app ?_ | refine st_zip ?_ | refine st_rev1 ?_ | refine st_meth ?_ | refine st_isS ?_ | refine st_count ?_ | refine st_sl ?_ | refine st_slT ?_ | refine st_slL ?_ | refine st_max2 ?_ | refine st_min2 ?_
      | refine st_add ?_ | refine st_sub ?_ | refine st_int ?_ | refine st_neg ?_ | refine st_lt ?_ | refine st_le ?_ | refine st_gt ?_ | refine st_ge ?_ | refine st_eq ?_ | refine st_ne ?_ | refine st_eqB ?_ | refine st_neB ?_ | refine st_eqS ?_ | refine st_neS ?_ | refine st_isN ?_ | refine st_sorted ?_ | refine st_abs ?_ | refine st_isNotN ?_
      | refine br_t ?_ | refine br_f ?_)
    | ((with_reducible refine st_var (d := ?_) ?_ ?_); rotate_left; (exact rfl))
    | ((with_reducible refine st_isi2 (k := ?_) (b := true) ?_ ?_ ?_); rotate_left; (exact rfl); (exact rfl))
    | ((with_reducible refine st_isi2 (k := ?_) (b := false) ?_ ?_ ?_); rotate_left; (exact rfl); (exact rfl))
    | ((with_reducible refine st_ix (ds := ?_) (d := ?_) ?_ ?_ ?_); rotate_left 2; (first | exact rfl | exact seq_at (by assumption)); (exact rfl))
    | ((with_reducible refine st_len2 (ds := ?_) (n := ?_) ?_ ?_ ?_); rotate_left 2; (first | exact rfl | exact seq_at (by assumption)); (exact rfl))
    | ((with_reducible refine st_addLL (a := ?_) (b := ?_) ?_ ?_ ?_ ?_); rotate_left 2; (first | exact rfl | exact lst_at (by assumption)); (first | exact rfl | exact lst_at (by assumption)); (exact Nat.le_of_ble_eq_true rfl))
    | ((with_reducible refine st_pow ?_ ?_); (exact ⟨by decide, by decide, by decide⟩))
    | ((with_reducible refine st_mod ?_ ?_); (first | decide | omega))
    | ((with_reducible refine st_size ?_ ?_); (exact rfl))
    | ((with_reducible refine st_gT2 ?_ ?_); (exact rfl))
    | ((with_reducible refine st_gsC ?_))
    | ((with_reducible refine st_gsN ?_))
    | ((with_reducible refine st_mulS ?_ ?_ ?_); omega; omega)
    | ((with_reducible refine br_ct ?_ ?_); (exact rfl))
    | ((with_reducible refine br_cf ?_ ?_); (exact rfl))
    | (rw [list_tup])
    | (rw [list_lst])
    | (rw [items_tup])
    | (rw [items_lst])
    | ((refine st_listM (ds := ?_) ?_ ?_); rotate_left; (first | exact rfl | exact seq_at (by assumption)))
    | ((refine st_itM (it := ?_) ?_ ?_); rotate_left; (first | exact rfl | exact it_at (by assumption))))

/-! ### refutations and points, plainly -/
theorem sumN_shift (n : Nat) (f : Nat → Int) : sumN (n + 1) f = f 0 + sumN n fun i => f (i + 1) := by
  induction n with
  | zero =>
    show 0 + f 0 = f 0 + 0
    omega
  | succ n ih =>
    rw [sumN_succ, ih, sumN_succ]
    omega
theorem dot_sumN : ∀ {n : Nat} {a b : List Int}, a.length = n → b.length = n → dot a b = sumN n fun j => a.getD j 0 * b.getD j 0
  | 0, [], [], _, _ => rfl
  | n + 1, x :: a, y :: b, ha, hb => by
    rw [sumN_shift]
    show x * y + dot a b = x * y + sumN n fun i => a.getD i 0 * b.getD i 0
    rw [dot_sumN (by simpa using ha) (by simpa using hb)]
  | 0, _ :: _, _, h, _ => by cases h
  | 0, [], _ :: _, _, h => by cases h
  | n + 1, [], _, h, _ => by cases h
  | n + 1, _ :: _, [], _, h => by cases h
theorem sumN_lt {n k : Nat} {f g : Nat → Int} (hk : k < n) (h : ∀ i, i < n → f i ≤ g i) (lt : f k < g k) : sumN n f < sumN n g := by
  induction n with
  | zero => omega
  | succ n ih =>
    rw [sumN_succ, sumN_succ]
    have l := h n (by omega)
    by_cases e : k = n
    · subst e
      have := sumN_le (n := k) (f := f) (g := g) fun i hi => h i (by omega)
      omega
    · have := ih (by omega) fun i hi => h i (by omega)
      omega
theorem holdsB_le {c : Cond} {u : Int} {ws : List Int} (h : holdsB c u ws = true) : dot c.fs ws ≤ c.b * u ∧ (c.st = true → dot c.fs ws < c.b * u) := by
  unfold holdsB at h
  split at h
  · have := of_decide_eq_true h
    exact ⟨by omega, fun _ => this⟩
  · rename_i z
    have := of_decide_eq_true h
    exact ⟨this, fun y => absurd y z⟩
theorem refutes_sound {k : Nat} {cs : List Cond} {y ws : List Int} {u : Int} (hl : ∀ c, c ∈ cs → c.fs.length = k) (r : Refutes k cs y) (lw : ws.length = k) (nn : ∀ j, j < k → 0 ≤ ws.getD j 0) (u0 : 0 < u) (h : ∀ c, c ∈ cs → holdsB c u ws = true) : False := by
  have e1 : sumN cs.length (fun i => y.getD i 0 * dot (cs.getD i c0).fs ws) = sumN k fun j => ws.getD j 0 * sumN cs.length fun i => (cs.getD i c0).fs.getD j 0 * y.getD i 0 := by
    have a : ∀ i, i < cs.length → y.getD i 0 * dot (cs.getD i c0).fs ws = sumN k fun j => ws.getD j 0 * ((cs.getD i c0).fs.getD j 0 * y.getD i 0) := fun i hi => by
      rw [dot_sumN (hl _ (cs_mem hi)) lw, ← sumN_mul]
      exact sumN_congr fun j hj => by grind
    rw [sumN_congr a, sumN_comm]
    exact sumN_congr fun j hj => by rw [sumN_mul]
  have p : 0 ≤ sumN cs.length fun i => y.getD i 0 * dot (cs.getD i c0).fs ws := by
    rw [e1]
    exact sumN_nn fun j hj => Int.mul_nonneg (nn j hj) (r.col j hj)
  have le : ∀ i, i < cs.length → y.getD i 0 * dot (cs.getD i c0).fs ws ≤ u * ((cs.getD i c0).b * y.getD i 0) := fun i hi => by
    have := Int.mul_le_mul_of_nonneg_left (holdsB_le (h _ (cs_mem hi))).1 (r.nn i hi)
    have e : y.getD i 0 * ((cs.getD i c0).b * u) = u * ((cs.getD i c0).b * y.getD i 0) := by grind
    omega
  have tot := sumN_mul cs.length u fun i => (cs.getD i c0).b * y.getD i 0
  rcases r.neg with n | ⟨z, i, hi, st, yp⟩
  · have a := sumN_le le
    have b := Int.mul_neg_of_pos_of_neg u0 n
    omega
  · have a := sumN_lt hi le (by
      have := Int.mul_lt_mul_of_pos_left ((holdsB_le (h _ (cs_mem hi))).2 st) yp
      have e : y.getD i 0 * ((cs.getD i c0).b * u) = u * ((cs.getD i c0).b * y.getD i 0) := by grind
      omega)
    rw [tot, z, Int.mul_zero] at a
    omega
theorem keeps_holds {k : Nat} {cs : List Cond} {u : Int} {ws : List Int} (hl : ∀ c, c ∈ cs → c.fs.length = k) (kp : Keeps k cs u ws) : ∀ c, c ∈ cs → holdsB c u ws = true := fun c hc => by
  obtain ⟨i, hi, e⟩ := List.getElem_of_mem hc
  have r := kp.row i hi
  have e : cs.getD i c0 = c := by rw [List.getD_eq_getElem?_getD, List.getElem?_eq_getElem hi]; exact e
  rw [e] at r
  have d : (sumN k fun j => ws.getD j 0 * c.fs.getD j 0) = dot c.fs ws := by
    rw [dot_sumN (hl c hc) kp.len]
    exact sumN_congr fun j hj => Int.mul_comm _ _
  rw [d, Int.mul_comm u] at r
  unfold holdsB
  split
  · rename_i z
    rw [if_pos z] at r
    exact decide_eq_true (by omega)
  · rename_i z
    rw [if_neg z] at r
    exact decide_eq_true (by omega)
theorem holdsB_scale {c : Cond} {u g : Int} {ws : List Int} (g0 : 0 < g) (l : c.fs.length = ws.length) : holdsB c (g * u) (ws.map fun w => g * w) = holdsB c u ws := by
  have d : dot c.fs (ws.map fun w => g * w) = g * dot c.fs ws := by
    rw [dot_sumN (n := ws.length) l (by rw [List.length_map]), dot_sumN (n := ws.length) l rfl, ← sumN_mul]
    refine sumN_congr fun j hj => ?_
    rw [getD_map' (x := 0) hj]
    grind
  have b : c.b * (g * u) = g * (c.b * u) := by grind
  unfold holdsB
  rw [d, b]
  split
  · exact decide_eq_decide.mpr ⟨fun h => Int.lt_of_mul_lt_mul_left h (by omega), fun h => Int.mul_lt_mul_of_pos_left h g0⟩
  · exact decide_eq_decide.mpr ⟨fun h => Int.le_of_mul_le_mul_left h g0, fun h => Int.mul_le_mul_of_nonneg_left h (by omega)⟩


end G

set_option Elab.async false
set_option linter.all false
set_option maxRecDepth 100000
set_option autoImplicit false
set_option maxHeartbeats 2000000
namespace G
open PySem PySem.Spec PyProof.Rows L2
local macro_rules
  | `(tactic| get_elem_tactic_trivial) => `(tactic| first
    | (with_reducible first
      | refine st_seqSet ?_ | refine st_seqAsg ?_ | refine st_seqDo ?_ | refine st_seqPar ?_ | refine st_seqPar3 ?_ | refine st_seqFor ?_ | refine st_seqWhile ?_ | refine st_seqAug ?_ | refine st_seqSkip ?_ | refine st_seqRet ?_
      | refine st_skip ?_ | refine st_ret ?_ | refine st_retN ?_ | refine st_do ?_ | refine st_if ?_ | refine st_set ?_ | refine st_asg ?_ | refine st_par ?_ | refine st_par3 ?_
      | refine st_c ?_ | refine st_op2 ?_ | refine st_op1 ?_ | refine st_test ?_ | refine st_tbl ?_ | refine st_and ?_ | refine st_or ?_ | refine st_not ?_ | refine st_andV ?_ | refine st_orV ?_ | refine st_notV ?_ | refine st_bl ?_
      | refine st_chain ?_ | refine st_ifE ?_ | refine st_nil ?_ | refine st_cons ?_ | refine st_call ?_ | refine st_fr ?_ | refine st_lv ?_ | refine st_one ?_ | refine st_two ?_
      | refine st_gN ?_ | refine st_lst ?_ | refine st_tup ?_ | refine st_slF ?_ | refine st_oNo ?_ | refine st_oS ?_ | refine st_enum ?_ | refine st_scr ?_ | refine st_list ?_ | refine st_it ?_ | refine st_comp ?_ | refine st_for ?_ | refine st_gIx ?_ | refine st_range1 ?_ | refine st_app ?_ | refine st_zip ?_ | refine st_rev1 ?_ | refine st_meth ?_ | refine st_isS ?_ | refine st_count ?_ | refine st_sl ?_ | refine st_slT ?_ | refine st_slL ?_ | refine st_max2 ?_ | refine st_min2 ?_
      | refine st_add ?_ | refine st_sub ?_ | refine st_int ?_ | refine st_neg ?_ | refine st_lt ?_ | refine st_le ?_ | refine st_gt ?_ | refine st_ge ?_ | refine st_eq ?_ | refine st_ne ?_ | refine st_eqB ?_ | refine st_neB ?_ | refine st_eqS ?_ | refine st_neS ?_ | refine st_isN ?_ | refine st_sorted ?_ | refine st_abs ?_ | refine st_isNotN ?_
      | refine br_t ?_ | refine br_f ?_)
    | ((with_reducible refine st_var (d := ?_) ?_ ?_); rotate_left; (exact rfl))
    | ((with_reducible refine st_isi2 (k := ?_) (b := true) ?_ ?_ ?_); rotate_left; (exact rfl); (exact rfl))
    | ((with_reducible refine st_isi2 (k := ?_) (b := false) ?_ ?_ ?_); rotate_left; (exact rfl); (exact rfl))
    | ((with_reducible refine st_ix (ds := ?_) (d := ?_) ?_ ?_ ?_); rotate_left 2; (first | exact rfl | exact seq_at (by assumption)); (exact rfl))
    | ((with_reducible refine st_len2 (ds := ?_) (n := ?_) ?_ ?_ ?_); rotate_left 2; (first | exact rfl | exact seq_at (by assumption)); (exact rfl))
    | ((with_reducible refine st_addLL (a := ?_) (b := ?_) ?_ ?_ ?_ ?_); rotate_left 2; (first | exact rfl | exact lst_at (by assumption)); (first | exact rfl | exact lst_at (by assumption)); (exact Nat.le_of_ble_eq_true rfl))
    | ((with_reducible refine st_pow ?_ ?_); (exact ⟨by decide, by decide, by decide⟩))
    | ((with_reducible refine st_mod ?_ ?_); (first | decide | omega))
    | ((with_reducible refine st_size ?_ ?_); (exact rfl))
    | ((with_reducible refine st_gT2 ?_ ?_); (exact rfl))
    | ((with_reducible refine st_gsC ?_))
    | ((with_reducible refine st_gsN ?_))
    | ((with_reducible refine st_mulS ?_ ?_ ?_); omega; omega)
    | ((with_reducible refine br_ct ?_ ?_); (exact rfl))
    | ((with_reducible refine br_cf ?_ ?_); (exact rfl))
    | (rw [list_tup])
    | (rw [list_lst])
    | (rw [items_tup])
    | (rw [items_lst])
    | ((refine st_listM (ds := ?_) ?_ ?_); rotate_left; (first | exact rfl | exact seq_at (by assumption)))
    | ((refine st_itM (it := ?_) ?_ ?_); rotate_left; (first | exact rfl | exact it_at (by assumption))))

/-! ### the found font -/
theorem gcds_mem : ∀ (ns : List Int) (g : Nat) (x : Int), x ∈ ns → gcds g ns ∣ x.natAbs
  | [], _, _, h => by cases h
  | n :: ns, g, x, h => by
    rcases List.mem_cons.mp h with z | z
    · subst z
      exact Nat.dvd_trans (gcds_dvd ns (Nat.gcd g x.natAbs)) (Nat.gcd_dvd_right g x.natAbs)
    · exact gcds_mem ns (Nat.gcd g n.natAbs) x z
theorem gcds_scale (g : Nat) : ∀ (ns : List Int) (a : Nat), gcds (g * a) (ns.map fun x => (g : Int) * x) = g * gcds a ns
  | [], _ => rfl
  | n :: ns, a => by
    show gcds (Nat.gcd (g * a) ((g : Int) * n).natAbs) (ns.map _) = g * gcds (Nat.gcd a n.natAbs) ns
    rw [Int.natAbs_mul, Int.natAbs_natCast, Nat.gcd_mul_left, gcds_scale g ns]
theorem div_back {g : Nat} {x : Int} (h : g ∣ x.natAbs) : (g : Int) * (x / (g : Int)) = x := Int.mul_ediv_cancel' (Int.natAbs_dvd_natAbs.mp (by rw [Int.natAbs_natCast]; exact h))
/-- a font in lowest terms, with numbers perhaps large -/
structure FontL (k : Nat) (u : Int) (ws : List Int) : Prop where
  u1 : 1 ≤ u
  usm : Sm u
  len : ws.length = k
  nn : ∀ w, w ∈ ws → 0 ≤ w
  gcd : gcds 0 (u :: ws) = 1
theorem fontL_of {k : Nat} {cs : List Cond} {u : Int} {ws : List Int} (hl : ∀ c, c ∈ cs → c.fs.length = k) (kp : Keeps k cs u ws) : FontL k (u / (gcds 0 (u :: ws) : Nat)) (ws.map fun w => w / (gcds 0 (u :: ws) : Nat)) ∧ ∀ c, c ∈ cs → holdsB c (u / (gcds 0 (u :: ws) : Nat)) (ws.map fun w => w / (gcds 0 (u :: ws) : Nat)) = true := by
  have u0 := kp.u0
  have du : gcds 0 (u :: ws) ∣ u.natAbs := gcds_mem _ 0 u (List.mem_cons_self ..)
  have gp : 0 < gcds 0 (u :: ws) := Nat.pos_of_dvd_of_pos du (by omega)
  have dw : ∀ w, w ∈ ws → gcds 0 (u :: ws) ∣ w.natAbs := fun w hw => gcds_mem _ 0 w (List.mem_cons_of_mem _ hw)
  have sc := gcds_scale (gcds 0 (u :: ws)) ((u :: ws).map fun w => w / (gcds 0 (u :: ws) : Nat)) 0
  have kh := keeps_holds hl kp
  obtain ⟨g, eg⟩ : ∃ g, gcds 0 (u :: ws) = g := ⟨_, rfl⟩
  rw [eg] at du gp dw sc ⊢
  have bu := div_back du
  have bw : (ws.map fun w => w / (g : Int)).map (fun w => (g : Int) * w) = ws := by
    rw [List.map_map]
    conv => rhs; rw [← List.map_id ws]
    exact List.map_congr_left fun w hw => div_back (dw w hw)
  have up : 0 < u / (g : Int) := by
    refine Int.lt_of_mul_lt_mul_left (a := (g : Int)) ?_ (by omega)
    rw [bu]
    omega
  refine ⟨⟨by omega, ?_, by rw [List.length_map]; exact kp.len, fun w hw => ?_, ?_⟩, fun c hc => ?_⟩
  · refine Nat.lt_of_le_of_lt ?_ kp.usm
    have := Int.ediv_le_self (g : Int) (show 0 ≤ u by omega)
    omega
  · obtain ⟨v, hv, e⟩ := List.getElem_of_mem hw
    rw [← e, List.getElem_map]
    rw [List.length_map] at hv
    have := kp.nn v (by rw [← kp.len]; exact hv)
    rw [List.getD_eq_getElem?_getD, List.getElem?_eq_getElem hv] at this
    exact Int.ediv_nonneg this (by omega)
  · rw [Nat.mul_zero] at sc
    have e : ((u :: ws).map fun w => w / (g : Int)).map (fun x => (g : Int) * x) = u :: ws := by
      rw [List.map_cons, List.map_cons, bw, bu]
    rw [e, eg] at sc
    have : g * 1 = g * gcds 0 ((u :: ws).map fun w => w / (g : Int)) := by omega
    exact (Nat.eq_of_mul_eq_mul_left gp this).symm
  · have := holdsB_scale (c := c) (u := u / (g : Int)) (g := (g : Int)) (ws := ws.map fun w => w / (g : Int)) (by omega) (by rw [List.length_map, hl c hc, kp.len])
    rw [bu, bw, kh c hc] at this
    exact this.symm
theorem unitC_dot {k p : Nat} {f b : Int} {ws : List Int} (hp : p < k) (lw : ws.length = k) : dot (unitC k p f b).fs ws = f * ws.getD p 0 := by
  have lu : (unitC k p f b).fs.length = k := by unfold unitC; rw [List.length_map, List.length_range]
  have at_ : ∀ j, j < k → (unitC k p f b).fs.getD j 0 = if j = p then f else 0 := fun j hj => by
    show ((List.range k).map fun i => if i = p then f else 0).getD j 0 = _
    rw [getD_map' (x := 0) (by rw [List.length_range]; exact hj), List.getD_eq_getElem?_getD, List.getElem?_range hj]
    rfl
  rw [dot_sumN lu lw, sumN_one (k := p) hp fun j hj ne => by rw [at_ j hj, if_neg ne, Int.zero_mul], at_ p hp, if_pos rfl]
theorem highC_len {k : Nat} : ∀ c, c ∈ highC k → c.fs.length = k := fun c hc => by
  obtain ⟨p, _, e⟩ := List.mem_map.mp hc
  rw [← e]
  unfold unitC
  rw [List.length_map, List.length_range]
theorem highC_holds {k : Nat} {u : Int} {ws : List Int} (lw : ws.length = k) : (∀ c, c ∈ highC k → holdsB c u ws = true) ↔ ∀ j, j < k → ws.getD j 0 ≤ 20 * u := by
  have one : ∀ p, p < k → (holdsB (unitC k p 1 20) u ws = true ↔ ws.getD p 0 ≤ 20 * u) := fun p hp => by
    unfold holdsB
    rw [unitC_dot hp lw, Int.one_mul]
    show (if false = true then _ else decide (ws.getD p 0 ≤ 20 * u)) = true ↔ _
    rw [if_neg (by decide), decide_eq_true_eq]
  constructor
  · exact fun h j hj => (one j hj).mp (h _ (List.mem_map.mpr ⟨j, List.mem_range.mpr hj, rfl⟩))
  · intro h c hc
    obtain ⟨p, hp, e⟩ := List.mem_map.mp hc
    rw [← e]
    exact (one p (List.mem_range.mp hp)).mpr (h p (List.mem_range.mp hp))
theorem sized_all {l : Str} {ks cs : List Cond} (n : ks.length + cs.length + (l.length + 1) ≤ 126) (h : ∀ c, c ∈ ks ++ cs → c.fs.length = l.length + 1 ∧ (∀ f, f ∈ c.fs → f.natAbs ≤ 2 ^ 24) ∧ c.b.natAbs ≤ 2 ^ 24) : Sized (l.length + 1) (allC l ks cs) := by
  have hi : ∀ c, c ∈ highC (l.length + 1) → (∀ f, f ∈ c.fs → f.natAbs ≤ 2 ^ 24) ∧ c.b.natAbs ≤ 2 ^ 24 := fun c hc => by
    obtain ⟨p, _, e⟩ := List.mem_map.mp hc
    rw [← e]
    refine ⟨fun f hf => ?_, by show (20 : Nat) ≤ 2 ^ 24; decide⟩
    obtain ⟨i, _, ef⟩ := List.mem_map.mp hf
    rw [← ef]
    split <;> decide
  refine ⟨by omega, ?_, fun c hc => ?_, fun c hc => ?_, fun c hc => ?_⟩
  · unfold allC highC
    rw [List.length_append, List.length_append, List.length_map, List.length_range]
    exact n
  · rcases List.mem_append.mp hc with z | z
    · exact (h c z).1
    · exact highC_len c z
  · rcases List.mem_append.mp hc with z | z
    · exact (h c z).2.1
    · exact (hi c z).1
  · rcases List.mem_append.mp hc with z | z
    · exact (h c z).2.2
    · exact (hi c z).2


end G

set_option Elab.async false
set_option linter.all false
set_option maxRecDepth 100000
set_option autoImplicit false
set_option maxHeartbeats 2000000
namespace G
open PySem PySem.Spec PyProof.Rows L2
local macro_rules
  | `(tactic| get_elem_tactic_trivial) => `(tactic| first
    | (with_reducible first
      | refine st_seqSet ?_ | refine st_seqAsg ?_ | refine st_seqDo ?_ | refine st_seqPar ?_ | refine st_seqPar3 ?_ | refine st_seqFor ?_ | refine st_seqWhile ?_ | refine st_seqAug ?_ | refine st_seqSkip ?_ | refine st_seqRet ?_
      | refine st_skip ?_ | refine st_ret ?_ | refine st_retN ?_ | refine st_do ?_ | refine st_if ?_ | refine st_set ?_ | refine st_asg ?_ | refine st_par ?_ | refine st_par3 ?_
      | refine st_c ?_ | refine st_op2 ?_ | refine st_op1 ?_ | refine st_test ?_ | refine st_tbl ?_ | refine st_and ?_ | refine st_or ?_ | refine st_not ?_ | refine st_andV ?_ | refine st_orV ?_ | refine st_notV ?_ | refine st_bl ?_
      | refine st_chain ?_ | refine st_ifE ?_ | refine st_nil ?_ | refine st_cons ?_ | refine st_call ?_ | refine st_fr ?_ | refine st_lv ?_ | refine st_one ?_ | refine st_two ?_
      | refine st_gN ?_ | refine st_lst ?_ | refine st_tup ?_ | refine st_slF ?_ | refine st_oNo ?_ | refine st_oS ?_ | refine st_enum ?_ | refine st_scr ?_ | refine st_list ?_ | refine st_it ?_ | refine st_comp ?_ | refine st_for ?_ | refine st_gIx ?_ | refine st_range1 ?_ | refine st_app ?_ | refine st_zip ?_ | refine st_rev1 ?_ | refine st_meth ?_ | refine st_isS ?_ | refine st_count ?_ | refine st_sl ?_ | refine st_slT ?_ | refine st_slL ?_ | refine st_max2 ?_ | refine st_min2 ?_
      | refine st_add ?_ | refine st_sub ?_ | refine st_int ?_ | refine st_neg ?_ | refine st_lt ?_ | refine st_le ?_ | refine st_gt ?_ | refine st_ge ?_ | refine st_eq ?_ | refine st_ne ?_ | refine st_eqB ?_ | refine st_neB ?_ | refine st_eqS ?_ | refine st_neS ?_ | refine st_isN ?_ | refine st_sorted ?_ | refine st_abs ?_ | refine st_isNotN ?_
      | refine br_t ?_ | refine br_f ?_)
    | ((with_reducible refine st_var (d := ?_) ?_ ?_); rotate_left; (exact rfl))
    | ((with_reducible refine st_isi2 (k := ?_) (b := true) ?_ ?_ ?_); rotate_left; (exact rfl); (exact rfl))
    | ((with_reducible refine st_isi2 (k := ?_) (b := false) ?_ ?_ ?_); rotate_left; (exact rfl); (exact rfl))
    | ((with_reducible refine st_ix (ds := ?_) (d := ?_) ?_ ?_ ?_); rotate_left 2; (first | exact rfl | exact seq_at (by assumption)); (exact rfl))
    | ((with_reducible refine st_len2 (ds := ?_) (n := ?_) ?_ ?_ ?_); rotate_left 2; (first | exact rfl | exact seq_at (by assumption)); (exact rfl))
    | ((with_reducible refine st_addLL (a := ?_) (b := ?_) ?_ ?_ ?_ ?_); rotate_left 2; (first | exact rfl | exact lst_at (by assumption)); (first | exact rfl | exact lst_at (by assumption)); (exact Nat.le_of_ble_eq_true rfl))
    | ((with_reducible refine st_pow ?_ ?_); (exact ⟨by decide, by decide, by decide⟩))
    | ((with_reducible refine st_mod ?_ ?_); (first | decide | omega))
    | ((with_reducible refine st_size ?_ ?_); (exact rfl))
    | ((with_reducible refine st_gT2 ?_ ?_); (exact rfl))
    | ((with_reducible refine st_gsC ?_))
    | ((with_reducible refine st_gsN ?_))
    | ((with_reducible refine st_mulS ?_ ?_ ?_); omega; omega)
    | ((with_reducible refine br_ct ?_ ?_); (exact rfl))
    | ((with_reducible refine br_cf ?_ ?_); (exact rfl))
    | (rw [list_tup])
    | (rw [list_lst])
    | (rw [items_tup])
    | (rw [items_lst])
    | ((refine st_listM (ds := ?_) ?_ ?_); rotate_left; (first | exact rfl | exact seq_at (by assumption)))
    | ((refine st_itM (it := ?_) ?_ ?_); rotate_left; (first | exact rfl | exact it_at (by assumption))))

local macro_rules
  | `(tactic| get_elem_tactic_trivial) => `(tactic| first
    | (with_reducible refine st_fld ?_)
    | (with_reducible refine st_mt ?_)
    | (with_reducible refine st_gFld ?_)
    | (with_reducible refine st_lix ?_)
    | (with_reducible refine st_rep ?_)
    | (with_reducible refine st_cat ?_)
    | (with_reducible refine st_lrng ?_)
    | (with_reducible refine st_frz ?_)
    | ((with_reducible refine fld_size (T := ?_) (pc := ?_) (pb := ?_) ?_ ?_); rotate_left 3; (assumption))
    | ((with_reducible refine fld_rows (T := ?_) (pc := ?_) (pb := ?_) ?_ ?_); rotate_left 3; (assumption))
    | ((with_reducible refine fld_goal (T := ?_) (pc := ?_) (pb := ?_) ?_ ?_); rotate_left 3; (assumption))
    | ((with_reducible refine fld_cols (T := ?_) (pc := ?_) (pb := ?_) ?_ ?_); rotate_left 3; (assumption))
    | ((with_reducible refine fld_basis (T := ?_) (pc := ?_) (pb := ?_) ?_ ?_); rotate_left 3; (assumption))
    | ((with_reducible refine fld_den (T := ?_) (pc := ?_) (pb := ?_) ?_ ?_); rotate_left 3; (assumption))
    | ((with_reducible refine mt_go (T := ?_) (pc := ?_) (pb := ?_) ?_ ?_ ?_); rotate_left 3; (assumption); (exact rfl)))

theorem cut_neg_lo {α : Type} (xs : List α) {k : Nat} (k0 : 0 < k) (h : k ≤ xs.length) : cutD xs none (some (-(k : Int))) = xs.take (xs.length - k) := by
  unfold cutD
  have e : HT.sIx xs.length xs.length (some (-(k : Int))) = xs.length - k := by
    unfold HT.sIx
    simp only
    split <;> omega
  rw [e]
  show (xs.drop 0).take (xs.length - k - 0) = _
  rw [List.drop_zero, Nat.sub_zero]
theorem cut_neg_hi {α : Type} (xs : List α) {k : Nat} (k0 : 0 < k) (h : k ≤ xs.length) : cutD xs (some (-(k : Int))) none = xs.drop (xs.length - k) := by
  unfold cutD
  have e : HT.sIx xs.length 0 (some (-(k : Int))) = xs.length - k := by
    unfold HT.sIx
    simp only
    split <;> omega
  rw [e]
  show (xs.drop (xs.length - k)).take (xs.length - (xs.length - k)) = _
  rw [List.take_of_length_le (by rw [List.length_drop]; omega)]

theorem sp_weightedL {a b : List Int} {S : Sto} {K : KE} (hl : a.length = b.length) (hs : a.length ≤ 1000) (ha : ∀ x, x ∈ a → Sm x) (hb : ∀ x, x ∈ b → Sm x) (h : K (.int (dot a b)) S) : c_weighted [.lst (a.map D.int), .lst (b.map D.int)] S K := by
  refine st_def rfl ?_
  unfold w_weighted
  repeat get_elem_tactic_trivial
  try dsimp only [List.set_cons_succ, List.set_cons_zero]
  refine ⟨_, _, rfl, rfl, fun _ => by rw [List.length_map, List.length_map, hl], ?_⟩
  rw [zipD_ints]
  refine comp_mapL (List.zip a b) (fun q => .tup [.int q.1, .int q.2]) (fun q => .int (q.1 * q.2)) ⟨trivial, trivial⟩ (by rw [List.length_zip]; unfold sizeLine; omega) (fun q hq K1 F1 k => ?_) ?_
  · have hz := List.of_mem_zip hq
    repeat get_elem_tactic_trivial
    try dsimp only [List.set_cons_succ, List.set_cons_zero]
    refine st_mulM (ha _ hz.1) (hb _ hz.2) ?_
    exact k
  · have e : ((List.zip a b).map fun q => D.int (q.1 * q.2)) = ((List.zip a b).map fun q => q.1 * q.2).map D.int := by rw [List.map_map]; rfl
    rw [e]
    repeat get_elem_tactic_trivial
    try dsimp only [List.set_cons_succ, List.set_cons_zero]
    exact st_sum rfl rfl (fin.of h)
def lowC (k : Nat) : List Cond := (List.range k).map fun p => unitC k p (-1) 0
def rowsC (l : Str) (ks cs : List Cond) : List Cond := ks ++ cs ++ lowC (l.length + 1) ++ highC (l.length + 1)

end G

set_option Elab.async false
set_option linter.all false
set_option maxRecDepth 100000
set_option autoImplicit false
set_option maxHeartbeats 2000000
namespace G
open PySem PySem.Spec PyProof.Rows L2
local macro_rules
  | `(tactic| get_elem_tactic_trivial) => `(tactic| first
    | (with_reducible first
      | refine st_seqSet ?_ | refine st_seqAsg ?_ | refine st_seqDo ?_ | refine st_seqPar ?_ | refine st_seqPar3 ?_ | refine st_seqFor ?_ | refine st_seqWhile ?_ | refine st_seqAug ?_ | refine st_seqSkip ?_ | refine st_seqRet ?_
      | refine st_skip ?_ | refine st_ret ?_ | refine st_retN ?_ | refine st_do ?_ | refine st_if ?_ | refine st_set ?_ | refine st_asg ?_ | refine st_par ?_ | refine st_par3 ?_
      | refine st_c ?_ | refine st_op2 ?_ | refine st_op1 ?_ | refine st_test ?_ | refine st_tbl ?_ | refine st_and ?_ | refine st_or ?_ | refine st_not ?_ | refine st_andV ?_ | refine st_orV ?_ | refine st_notV ?_ | refine st_bl ?_
      | refine st_chain ?_ | refine st_ifE ?_ | refine st_nil ?_ | refine st_cons ?_ | refine st_call ?_ | refine st_fr ?_ | refine st_lv ?_ | refine st_one ?_ | refine st_two ?_
      | refine st_gN ?_ | refine st_lst ?_ | refine st_tup ?_ | refine st_slF ?_ | refine st_oNo ?_ | refine st_oS ?_ | refine st_enum ?_ | refine st_scr ?_ | refine st_list ?_ | refine st_it ?_ | refine st_comp ?_ | refine st_for ?_ | refine st_gIx ?_ | refine st_range1 ?_ | refine st_app ?_ | refine st_zip ?_ | refine st_rev1 ?_ | refine st_meth ?_ | refine st_isS ?_ | refine st_count ?_ | refine st_sl ?_ | refine st_slT ?_ | refine st_slL ?_ | refine st_max2 ?_ | refine st_min2 ?_
      | refine st_add ?_ | refine st_sub ?_ | refine st_int ?_ | refine st_neg ?_ | refine st_lt ?_ | refine st_le ?_ | refine st_gt ?_ | refine st_ge ?_ | refine st_eq ?_ | refine st_ne ?_ | refine st_eqB ?_ | refine st_neB ?_ | refine st_eqS ?_ | refine st_neS ?_ | refine st_isN ?_ | refine st_sorted ?_ | refine st_abs ?_ | refine st_isNotN ?_
      | refine br_t ?_ | refine br_f ?_)
    | ((with_reducible refine st_var (d := ?_) ?_ ?_); rotate_left; (exact rfl))
    | ((with_reducible refine st_isi2 (k := ?_) (b := true) ?_ ?_ ?_); rotate_left; (exact rfl); (exact rfl))
    | ((with_reducible refine st_isi2 (k := ?_) (b := false) ?_ ?_ ?_); rotate_left; (exact rfl); (exact rfl))
    | ((with_reducible refine st_ix (ds := ?_) (d := ?_) ?_ ?_ ?_); rotate_left 2; (first | exact rfl | exact seq_at (by assumption)); (exact rfl))
    | ((with_reducible refine st_len2 (ds := ?_) (n := ?_) ?_ ?_ ?_); rotate_left 2; (first | exact rfl | exact seq_at (by assumption)); (exact rfl))
    | ((with_reducible refine st_addLL (a := ?_) (b := ?_) ?_ ?_ ?_ ?_); rotate_left 2; (first | exact rfl | exact lst_at (by assumption)); (first | exact rfl | exact lst_at (by assumption)); (exact Nat.le_of_ble_eq_true rfl))
    | ((with_reducible refine st_pow ?_ ?_); (exact ⟨by decide, by decide, by decide⟩))
    | ((with_reducible refine st_mod ?_ ?_); (first | decide | omega))
    | ((with_reducible refine st_size ?_ ?_); (exact rfl))
    | ((with_reducible refine st_gT2 ?_ ?_); (exact rfl))
    | ((with_reducible refine st_gsC ?_))
    | ((with_reducible refine st_gsN ?_))
    | ((with_reducible refine st_mulS ?_ ?_ ?_); omega; omega)
    | ((with_reducible refine br_ct ?_ ?_); (exact rfl))
    | ((with_reducible refine br_cf ?_ ?_); (exact rfl))
    | (rw [list_tup])
    | (rw [list_lst])
    | (rw [items_tup])
    | (rw [items_lst])
    | ((refine st_listM (ds := ?_) ?_ ?_); rotate_left; (first | exact rfl | exact seq_at (by assumption)))
    | ((refine st_itM (it := ?_) ?_ ?_); rotate_left; (first | exact rfl | exact it_at (by assumption))))

local macro_rules
  | `(tactic| get_elem_tactic_trivial) => `(tactic| first
    | (with_reducible refine st_fld ?_)
    | (with_reducible refine st_mt ?_)
    | (with_reducible refine st_gFld ?_)
    | (with_reducible refine st_lix ?_)
    | (with_reducible refine st_rep ?_)
    | (with_reducible refine st_cat ?_)
    | (with_reducible refine st_lrng ?_)
    | (with_reducible refine st_frz ?_)
    | ((with_reducible refine fld_size (T := ?_) (pc := ?_) (pb := ?_) ?_ ?_); rotate_left 3; (assumption))
    | ((with_reducible refine fld_rows (T := ?_) (pc := ?_) (pb := ?_) ?_ ?_); rotate_left 3; (assumption))
    | ((with_reducible refine fld_goal (T := ?_) (pc := ?_) (pb := ?_) ?_ ?_); rotate_left 3; (assumption))
    | ((with_reducible refine fld_cols (T := ?_) (pc := ?_) (pb := ?_) ?_ ?_); rotate_left 3; (assumption))
    | ((with_reducible refine fld_basis (T := ?_) (pc := ?_) (pb := ?_) ?_ ?_); rotate_left 3; (assumption))
    | ((with_reducible refine fld_den (T := ?_) (pc := ?_) (pb := ?_) ?_ ?_); rotate_left 3; (assumption))
    | ((with_reducible refine mt_go (T := ?_) (pc := ?_) (pb := ?_) ?_ ?_ ?_); rotate_left 3; (assumption); (exact rfl)))

/-! ### refutations -/
def colL (rs : List Cond) (p : Nat) : List Int := rs.map fun c => c.fs.getD p 0
def lowY (k : Nat) (rs : List Cond) (y : List Int) : List Int := (List.range k).map fun p => dot y (colL rs p)
def refY (k : Nat) (rs : List Cond) (y : List Int) : List Int := y.take (y.length - k) ++ lowY k rs y ++ y.drop (y.length - k)
/-- what find_refutation answers -/
def RefR (k : Nat) (cs : List Cond) (d : D) : Prop := (d = .non ∧ ∃ u ws, Keeps k cs u ws) ∨ ∃ y, d = .tup ((refY k cs y).map D.int) ∧ Refutes k cs y
theorem Refutes.mem {k : Nat} {cs : List Cond} {y : List Int} (r : Refutes k cs y) : ∀ m, m ∈ y → 0 ≤ m ∧ Sm m := fun m hm => by
  obtain ⟨i, hi, e⟩ := List.getElem_of_mem hm
  have l := r.len
  have a := r.nn i (by omega)
  have b := r.sm i (by omega)
  rw [List.getD_eq_getElem?_getD, List.getElem?_eq_getElem hi, Option.getD_some, e] at a b
  exact ⟨a, b⟩
theorem sm_small {x : Int} (h : x.natAbs ≤ 2 ^ 24) : Sm x := Nat.lt_of_le_of_lt h (Nat.pow_lt_pow_right (by decide) (by decide))
theorem sm_getD {l : List Int} {p : Nat} (h : ∀ f, f ∈ l → f.natAbs ≤ 2 ^ 24) : Sm (l.getD p 0) := sm_small (getD_abs h)
theorem sp_find_refutation {l : Str} {ks cs : List Cond} (hs : Sized (l.length + 1) (allC l ks cs)) (hl : l.length ≤ 500) : ∃ d, ∀ {Fr : PySem.W.Frag} {S : Sto} {K : KE} {x : D}, listOf S x = some (cs.map condD) → (RefR (l.length + 1) (allC l ks cs) d → K d S) → c_find_refutation Fr [knowD l ks, x] S K := by
  have few := hs.few
  have la : (allC l ks cs).length = ks.length + cs.length + (l.length + 1) := by unfold allC highC; simp; omega
  obtain ⟨d0, hD⟩ := sp_decide hs (by omega)
  obtain ⟨d, hd⟩ : ∃ d : D, DecR (l.length + 1) (allC l ks cs) d0 → (∃ y, d0 = .tup [.non, .lst (y.map D.int)] ∧ Refutes (l.length + 1) (allC l ks cs) y ∧ d = .tup ((refY (l.length + 1) (allC l ks cs) y).map D.int)) ∨ ∃ u ws, d0 = .tup [.lst (ws.map D.int), .int u] ∧ Keeps (l.length + 1) (allC l ks cs) u ws ∧ d = .non := by
    by_cases e : DecR (l.length + 1) (allC l ks cs) d0
    · rcases e with ⟨y, e1, hy⟩ | ⟨u, ws, e1, kp⟩
      · exact ⟨_, fun _ => .inl ⟨y, e1, hy, rfl⟩⟩
      · exact ⟨.non, fun _ => .inr ⟨u, ws, e1, kp, rfl⟩⟩
    · exact ⟨.non, fun z => absurd z e⟩
  refine ⟨d, fun {Fr S K x} hx h => ?_⟩
  have kd : knowD l ks = .tup [.str l, .tup (ks.map condD)] := rfl
  have en : ((l.length : Nat) : Int) + 1 = ((l.length + 1 : Nat) : Int) := rfl
  refine st_def rfl ?_
  unfold w_find_refutation
  rw [kd]
  repeat get_elem_tactic_trivial
  try dsimp only [List.set_cons_succ, List.set_cons_zero]
  refine st_lenS (by unfold sizeLine; omega) ?_
  repeat get_elem_tactic_trivial
  try dsimp only [List.set_cons_succ, List.set_cons_zero]
  rw [← kd]
  refine sp_all_conditions hx hl (by omega) (by omega) ?_
  repeat get_elem_tactic_trivial
  try dsimp only [List.set_cons_succ, List.set_cons_zero]
  refine hD fun r => ?_
  rcases hd r with ⟨y, e1, hy, e2⟩ | ⟨u, ws, e1, kp, e2⟩
  · subst e1 e2
    have ly := hy.len
    have hm := hy.mem
    repeat get_elem_tactic_trivial
    try dsimp only [List.set_cons_succ, List.set_cons_zero]
    refine st_seq ?_
    repeat get_elem_tactic_trivial
    try dsimp only [List.set_cons_succ, List.set_cons_zero]
    rw [en]
    refine ⟨_, rfl, by omega, by omega, ?_⟩
    rw [Int.toNat_natCast, irangeZ]
    refine comp_mapL (List.range (l.length + 1)) (fun i => D.int ((i : Nat) : Int)) (fun p => .int (dot y (colL (allC l ks cs) p))) trivial (by rw [List.length_range]; unfold sizeLine; omega) (fun p hp K1 F1 k1 => ?_) ?_
    · have hp := List.mem_range.mp hp
      repeat get_elem_tactic_trivial
      try dsimp only [List.set_cons_succ, List.set_cons_zero]
      refine comp_mapL (allC l ks cs) condD (fun c => .int (c.fs.getD p 0)) trivial (by unfold sizeLine; omega) (fun c hc K2 F2 k2 => ?_) ?_
      · have lc := hs.len c hc
        unfold condD
        repeat get_elem_tactic_trivial
        try dsimp only [List.set_cons_succ, List.set_cons_zero]
        exact st_ix rfl (at_row (by omega)) k2
      · have e : (allC l ks cs).map (fun c => D.int (c.fs.getD p 0)) = (colL (allC l ks cs) p).map D.int := by
          unfold colL
          rw [List.map_map]
          rfl
        rw [e]
        repeat get_elem_tactic_trivial
        try dsimp only [List.set_cons_succ, List.set_cons_zero]
        refine sp_weightedL (by unfold colL; rw [List.length_map]; exact ly) (by omega) (fun m h => (hm m h).2) (fun m h => ?_) k1
        obtain ⟨c, hc, e⟩ := List.mem_map.mp h
        rw [← e]
        exact sm_getD (hs.fs c hc)
    · have e : (List.range (l.length + 1)).map (fun p => D.int (dot y (colL (allC l ks cs) p))) = (lowY (l.length + 1) (allC l ks cs) y).map D.int := by
        unfold lowY
        rw [List.map_map]
        rfl
      rw [e]
      repeat get_elem_tactic_trivial
      try dsimp only [List.set_cons_succ, List.set_cons_zero]
      rw [cut_neg_lo (y.map D.int) (k := l.length + 1) (by omega) (by rw [List.length_map]; omega)]
      repeat get_elem_tactic_trivial
      try dsimp only [List.set_cons_succ, List.set_cons_zero]
      refine st_addLL (a := (y.map D.int).take ((y.map D.int).length - (l.length + 1))) (b := (lowY (l.length + 1) (allC l ks cs) y).map D.int) rfl rfl (by unfold lowY; rw [List.length_take, List.length_map, List.length_map, List.length_map, List.length_range]; unfold sizeLine; omega) ?_
      repeat get_elem_tactic_trivial
      try dsimp only [List.set_cons_succ, List.set_cons_zero]
      rw [cut_neg_hi (y.map D.int) (k := l.length + 1) (by omega) (by rw [List.length_map]; omega)]
      repeat get_elem_tactic_trivial
      try dsimp only [List.set_cons_succ, List.set_cons_zero]
      refine st_addLL (a := (y.map D.int).take ((y.map D.int).length - (l.length + 1)) ++ (lowY (l.length + 1) (allC l ks cs) y).map D.int) (b := (y.map D.int).drop ((y.map D.int).length - (l.length + 1))) rfl rfl (by unfold lowY; rw [List.length_append, List.length_take, List.length_drop, List.length_map, List.length_map, List.length_map, List.length_range]; unfold sizeLine; omega) ?_
      repeat get_elem_tactic_trivial
      try dsimp only [List.set_cons_succ, List.set_cons_zero]
      refine st_tuple rfl ?_
      have h := h (.inr ⟨y, rfl, hy⟩)
      unfold refY at h
      rw [List.map_append, List.map_append, List.map_take, List.map_drop] at h
      rw [List.length_map]
      exact fin.of h
  · subst e1 e2
    repeat get_elem_tactic_trivial
    try dsimp only [List.set_cons_succ, List.set_cons_zero]
    refine st_seq ?_
    repeat get_elem_tactic_trivial
    try dsimp only [List.set_cons_succ, List.set_cons_zero]
    exact fin.of (h (.inl ⟨rfl, u, ws, kp⟩))
def totL (rs : List Cond) (y : List Int) : Int := dot y (rs.map (·.b))
def anyS (rs : List Cond) (y : List Int) : Bool := (List.zip rs y).any fun q => q.1.st && decide (0 < q.2)
def nnI : D → Bool
  | .int i => decide (0 ≤ i)
  | _ => false
/-- whether numbers that are not negative are a refutation -/
def refB (k : Nat) (rs : List Cond) (y : List Int) : Bool := ((List.range k).all fun p => decide (dot y (colL rs p) = 0)) && (decide (totL rs y < 0) || (decide (totL rs y = 0) && anyS rs y))
def isI : D → Bool
  | .int _ => true
  | _ => false
def Lg (x : Int) : Prop := x.natAbs < 2 ^ 8000
theorem Sm.lg {x : Int} (h : Sm x) : Lg x := Nat.lt_trans h (Nat.pow_lt_pow_right (by decide) (by decide))
theorem lg_small {x : Int} (h : x.natAbs ≤ 2 ^ 24) : Lg x := (sm_small h).lg
theorem st_mulG {x y : Int} {S : Sto} {K : KE} (hx : Lg x) (hy : Lg y) (h : K (.int (x * y)) S) : oMul (.int x) (.int y) S K := by
  have a := lg_lt hx (by decide)
  have b := lg_lt hy (by decide)
  exact st_mul (by omega) h
def intOf : D → Int
  | .int i => i
  | _ => 0
theorem all_nnI {ds : List D} (h : ds.all nnI = true) : ∃ ys : List Int, ds = ys.map D.int ∧ ∀ y, y ∈ ys → 0 ≤ y := by
  refine ints_of fun d hd => ?_
  have := List.all_eq_true.mp h d hd
  cases d <;> first | exact ⟨_, rfl, of_decide_eq_true this⟩ | cases this
theorem intOf_map (ys : List Int) : (ys.map D.int).map intOf = ys := by
  rw [List.map_map]
  exact List.map_id ys
/-- whether any value is a refutation -/
def refV (k : Nat) (rs : List Cond) (v : D) : Bool := match v with
  | .tup ds => decide (ds.length = rs.length) && ds.all nnI && refB k rs (ds.map intOf)
  | _ => false
structure ValOk (S : Sto) (v : D) : Prop where
  kind : ∃ κ, kindOf S v = some κ
  els : ∀ ds, v = .tup ds → ds.length ≤ 100000 ∧ ∀ d, d ∈ ds → (∃ κ, kindOf S d = some κ) ∧ ∀ i, d = .int i → Lg i
theorem kind_tup {S : Sto} {v : D} (h : kindOf S v = some .tup) : ∃ ds, v = .tup ds := by
  cases v with
  | tup l => exact ⟨l, rfl⟩
  | cell p =>
    unfold kindOf at h
    dsimp only at h
    split at h <;> cases h
  | _ => cases h
theorem any_tup {κ : Kind} (h : κ ≠ .tup) : [Kind.tup].any κ.isa = false := by
  cases κ <;> first | rfl | exact absurd rfl h
structure RowsOk (k : Nat) (rs : List Cond) : Prop where
  few : rs.length ≤ 1000
  len : ∀ c, c ∈ rs → c.fs.length = k
  fs : ∀ c, c ∈ rs → ∀ f, f ∈ c.fs → f.natAbs ≤ 2 ^ 24
  b : ∀ c, c ∈ rs → c.b.natAbs ≤ 2 ^ 24
theorem unitC_ok {k p : Nat} {f b : Int} (hf : f.natAbs ≤ 2 ^ 24) : (unitC k p f b).fs.length = k ∧ ∀ x, x ∈ (unitC k p f b).fs → x.natAbs ≤ 2 ^ 24 := by
  refine ⟨by unfold unitC; rw [List.length_map, List.length_range], fun x hx => ?_⟩
  obtain ⟨i, _, e⟩ := List.mem_map.mp hx
  rw [← e]
  split
  · exact hf
  · decide
theorem rowsC_ok {l : Str} {ks cs : List Cond} (h1 : ks.length + cs.length + 2 * (l.length + 1) ≤ 1000) (h : ∀ c, c ∈ ks ++ cs → c.fs.length = l.length + 1 ∧ (∀ f, f ∈ c.fs → f.natAbs ≤ 2 ^ 24) ∧ c.b.natAbs ≤ 2 ^ 24) : RowsOk (l.length + 1) (rowsC l ks cs) := by
  have cases_ : ∀ c, c ∈ rowsC l ks cs → c.fs.length = l.length + 1 ∧ (∀ f, f ∈ c.fs → f.natAbs ≤ 2 ^ 24) ∧ c.b.natAbs ≤ 2 ^ 24 := fun c hc => by
    unfold rowsC at hc
    rcases List.mem_append.mp hc with hc | hc
    · rcases List.mem_append.mp hc with hc | hc
      · exact h c hc
      · obtain ⟨p, _, e⟩ := List.mem_map.mp hc
        rw [← e]
        have := unitC_ok (k := l.length + 1) (p := p) (f := -1) (b := 0) (by decide)
        exact ⟨this.1, this.2, by show (0 : Nat) ≤ _; omega⟩
    · obtain ⟨p, _, e⟩ := List.mem_map.mp hc
      rw [← e]
      have := unitC_ok (k := l.length + 1) (p := p) (f := 1) (b := 20) (by decide)
      exact ⟨this.1, this.2, by show (20 : Nat) ≤ _; decide⟩
  refine ⟨?_, fun c hc => (cases_ c hc).1, fun c hc => (cases_ c hc).2.1, fun c hc => (cases_ c hc).2.2⟩
  unfold rowsC lowC highC
  simp
  omega
theorem refV_len {k : Nat} {rs : List Cond} {ds : List D} (h : decide (ds.length = rs.length) = false) : refV k rs (.tup ds) = false := by
  show (decide (ds.length = rs.length) && ds.all nnI && refB k rs (ds.map intOf)) = false
  rw [h]
  rfl
theorem refV_nn {k : Nat} {rs : List Cond} {ds : List D} (h : ds.all nnI = false) : refV k rs (.tup ds) = false := by
  show (decide (ds.length = rs.length) && ds.all nnI && refB k rs (ds.map intOf)) = false
  rw [h, Bool.and_false]
  rfl
theorem refV_of {k : Nat} {rs : List Cond} {ys : List Int} (h : ys.length = rs.length) (h2 : ∀ y, y ∈ ys → 0 ≤ y) : refV k rs (.tup (ys.map D.int)) = refB k rs ys := by
  show (decide ((ys.map D.int).length = rs.length) && (ys.map D.int).all nnI && refB k rs ((ys.map D.int).map intOf)) = _
  have e : (ys.map D.int).all nnI = true := by
    rw [List.all_map]
    exact List.all_eq_true.mpr fun y hy => decide_eq_true (h2 y hy)
  rw [e, intOf_map, List.length_map, decide_eq_true h]
  rfl
theorem refB_col {k p : Nat} {rs : List Cond} {ys : List Int} (hp : p < k) (h : dot ys (colL rs p) ≠ 0) : refB k rs ys = false := by
  unfold refB
  rw [Bool.and_eq_false_iff]
  left
  rw [← Bool.not_eq_true, List.all_eq_true]
  intro z
  exact h (of_decide_eq_true (z p (List.mem_range.mpr hp)))
theorem refB_rest {k : Nat} {rs : List Cond} {ys : List Int} (h : ∀ p, p < k → dot ys (colL rs p) = 0) : refB k rs ys = (decide (totL rs ys < 0) || (decide (totL rs ys = 0) && anyS rs ys)) := by
  unfold refB
  have : ((List.range k).all fun p => decide (dot ys (colL rs p) = 0)) = true := List.all_eq_true.mpr fun p hp => decide_eq_true (h p (List.mem_range.mp hp))
  rw [this, Bool.true_and]
theorem RowsOk.col {k p : Nat} {rs : List Cond} (h : RowsOk k rs) : ∀ x, x ∈ colL rs p → Lg x := fun x hx => by
  obtain ⟨c, hc, e⟩ := List.mem_map.mp hx
  rw [← e]
  exact (sm_getD (h.fs c hc)).lg
theorem RowsOk.bs {k : Nat} {rs : List Cond} (h : RowsOk k rs) : ∀ x, x ∈ rs.map (·.b) → Lg x := fun x hx => by
  obtain ⟨c, hc, e⟩ := List.mem_map.mp hx
  rw [← e]
  exact lg_small (h.b c hc)

end G

set_option Elab.async false
set_option linter.all false
set_option maxRecDepth 100000
set_option autoImplicit false
set_option maxHeartbeats 2000000
namespace G
open PySem PySem.Spec PyProof.Rows L2
local macro_rules
  | `(tactic| get_elem_tactic_trivial) => `(tactic| first
    | (with_reducible first
      | refine st_seqSet ?_ | refine st_seqAsg ?_ | refine st_seqDo ?_ | refine st_seqPar ?_ | refine st_seqPar3 ?_ | refine st_seqFor ?_ | refine st_seqWhile ?_ | refine st_seqAug ?_ | refine st_seqSkip ?_ | refine st_seqRet ?_
      | refine st_skip ?_ | refine st_ret ?_ | refine st_retN ?_ | refine st_do ?_ | refine st_if ?_ | refine st_set ?_ | refine st_asg ?_ | refine st_par ?_ | refine st_par3 ?_
      | refine st_c ?_ | refine st_op2 ?_ | refine st_op1 ?_ | refine st_test ?_ | refine st_tbl ?_ | refine st_and ?_ | refine st_or ?_ | refine st_not ?_ | refine st_andV ?_ | refine st_orV ?_ | refine st_notV ?_ | refine st_bl ?_
      | refine st_chain ?_ | refine st_ifE ?_ | refine st_nil ?_ | refine st_cons ?_ | refine st_call ?_ | refine st_fr ?_ | refine st_lv ?_ | refine st_one ?_ | refine st_two ?_
      | refine st_gN ?_ | refine st_lst ?_ | refine st_tup ?_ | refine st_slF ?_ | refine st_oNo ?_ | refine st_oS ?_ | refine st_enum ?_ | refine st_scr ?_ | refine st_list ?_ | refine st_it ?_ | refine st_comp ?_ | refine st_for ?_ | refine st_gIx ?_ | refine st_range1 ?_ | refine st_app ?_ | refine st_zip ?_ | refine st_rev1 ?_ | refine st_meth ?_ | refine st_isS ?_ | refine st_count ?_ | refine st_sl ?_ | refine st_slT ?_ | refine st_slL ?_ | refine st_max2 ?_ | refine st_min2 ?_
      | refine st_add ?_ | refine st_sub ?_ | refine st_int ?_ | refine st_neg ?_ | refine st_lt ?_ | refine st_le ?_ | refine st_gt ?_ | refine st_ge ?_ | refine st_eq ?_ | refine st_ne ?_ | refine st_eqB ?_ | refine st_neB ?_ | refine st_eqS ?_ | refine st_neS ?_ | refine st_isN ?_ | refine st_sorted ?_ | refine st_abs ?_ | refine st_isNotN ?_
      | refine br_t ?_ | refine br_f ?_)
    | ((with_reducible refine st_var (d := ?_) ?_ ?_); rotate_left; (exact rfl))
    | ((with_reducible refine st_isi2 (k := ?_) (b := true) ?_ ?_ ?_); rotate_left; (exact rfl); (exact rfl))
    | ((with_reducible refine st_isi2 (k := ?_) (b := false) ?_ ?_ ?_); rotate_left; (exact rfl); (exact rfl))
    | ((with_reducible refine st_ix (ds := ?_) (d := ?_) ?_ ?_ ?_); rotate_left 2; (first | exact rfl | exact seq_at (by assumption)); (exact rfl))
    | ((with_reducible refine st_len2 (ds := ?_) (n := ?_) ?_ ?_ ?_); rotate_left 2; (first | exact rfl | exact seq_at (by assumption)); (exact rfl))
    | ((with_reducible refine st_addLL (a := ?_) (b := ?_) ?_ ?_ ?_ ?_); rotate_left 2; (first | exact rfl | exact lst_at (by assumption)); (first | exact rfl | exact lst_at (by assumption)); (exact Nat.le_of_ble_eq_true rfl))
    | ((with_reducible refine st_pow ?_ ?_); (exact ⟨by decide, by decide, by decide⟩))
    | ((with_reducible refine st_mod ?_ ?_); (first | decide | omega))
    | ((with_reducible refine st_size ?_ ?_); (exact rfl))
    | ((with_reducible refine st_gT2 ?_ ?_); (exact rfl))
    | ((with_reducible refine st_gsC ?_))
    | ((with_reducible refine st_gsN ?_))
    | ((with_reducible refine st_mulS ?_ ?_ ?_); omega; omega)
    | ((with_reducible refine br_ct ?_ ?_); (exact rfl))
    | ((with_reducible refine br_cf ?_ ?_); (exact rfl))
    | (rw [list_tup])
    | (rw [list_lst])
    | (rw [items_tup])
    | (rw [items_lst])
    | ((refine st_listM (ds := ?_) ?_ ?_); rotate_left; (first | exact rfl | exact seq_at (by assumption)))
    | ((refine st_itM (it := ?_) ?_ ?_); rotate_left; (first | exact rfl | exact it_at (by assumption))))

local macro_rules
  | `(tactic| get_elem_tactic_trivial) => `(tactic| first
    | (with_reducible refine st_fld ?_)
    | (with_reducible refine st_mt ?_)
    | (with_reducible refine st_gFld ?_)
    | (with_reducible refine st_lix ?_)
    | (with_reducible refine st_rep ?_)
    | (with_reducible refine st_cat ?_)
    | (with_reducible refine st_lrng ?_)
    | (with_reducible refine st_frz ?_)
    | ((with_reducible refine fld_size (T := ?_) (pc := ?_) (pb := ?_) ?_ ?_); rotate_left 3; (assumption))
    | ((with_reducible refine fld_rows (T := ?_) (pc := ?_) (pb := ?_) ?_ ?_); rotate_left 3; (assumption))
    | ((with_reducible refine fld_goal (T := ?_) (pc := ?_) (pb := ?_) ?_ ?_); rotate_left 3; (assumption))
    | ((with_reducible refine fld_cols (T := ?_) (pc := ?_) (pb := ?_) ?_ ?_); rotate_left 3; (assumption))
    | ((with_reducible refine fld_basis (T := ?_) (pc := ?_) (pb := ?_) ?_ ?_); rotate_left 3; (assumption))
    | ((with_reducible refine fld_den (T := ?_) (pc := ?_) (pb := ?_) ?_ ?_); rotate_left 3; (assumption))
    | ((with_reducible refine mt_go (T := ?_) (pc := ?_) (pb := ?_) ?_ ?_ ?_); rotate_left 3; (assumption); (exact rfl)))

/-! ### the law's own look at refutations -/
theorem sp_law_rows {l : Str} {ks cs : List Cond} {S : Sto} {K : KE} {x : D} (hx : listOf S x = some (cs.map condD)) (hl : l.length ≤ 500) (h1 : ks.length ≤ 1000) (h2 : cs.length ≤ 1000) (h : K (.lst ((rowsC l ks cs).map condD)) S) : c_law_rows [knowD l ks, x] S K := by
  refine st_def rfl ?_
  unfold w_law_rows knowD
  have en : ((l.length : Nat) : Int) + 1 = ((l.length + 1 : Nat) : Int) := rfl
  repeat get_elem_tactic_trivial
  try dsimp only [List.set_cons_succ, List.set_cons_zero]
  refine st_lenS (by unfold sizeLine; omega) ?_
  repeat get_elem_tactic_trivial
  try dsimp only [List.set_cons_succ, List.set_cons_zero]
  rw [en]
  refine ⟨_, rfl, by omega, by omega, ?_⟩
  rw [Int.toNat_natCast, irangeZ]
  refine comp_mapL (List.range (l.length + 1)) (fun i => D.int ((i : Nat) : Int)) (fun i => condD (unitC (l.length + 1) i (-1) 0)) trivial (by rw [List.length_range]; unfold sizeLine; omega) (fun i hi K1 F1 k1 => ?_) ?_
  · repeat get_elem_tactic_trivial
    try dsimp only [List.set_cons_succ, List.set_cons_zero]
    refine ⟨_, rfl, by omega, by omega, ?_⟩
    rw [Int.toNat_natCast, irangeZ]
    refine comp_mapL (List.range (l.length + 1)) (fun i => D.int ((i : Nat) : Int)) (fun j => .int (if j = i then -1 else 0)) trivial (by rw [List.length_range]; unfold sizeLine; omega) (fun j hj K2 F2 k2 => ?_) ?_
    · repeat get_elem_tactic_trivial
      try dsimp only [List.set_cons_succ, List.set_cons_zero]
      refine st_intB ?_
      repeat get_elem_tactic_trivial
      try dsimp only [List.set_cons_succ, List.set_cons_zero]
      have e : (0 : Int) - (if decide (((j : Nat) : Int) = ((i : Nat) : Int)) = true then 1 else 0) = if j = i then -1 else 0 := by
        by_cases z : j = i
        · rw [if_pos z, if_pos (decide_eq_true (by omega))]; rfl
        · rw [if_neg z, if_neg (by rw [decide_eq_true_eq]; omega)]; rfl
      rw [e]
      exact k2
    repeat get_elem_tactic_trivial
    try dsimp only [List.set_cons_succ, List.set_cons_zero]
    refine st_tuple rfl ?_
    repeat get_elem_tactic_trivial
    try dsimp only [List.set_cons_succ, List.set_cons_zero]
    unfold condD unitC at k1
    rw [List.map_map] at k1
    exact k1
  repeat get_elem_tactic_trivial
  try dsimp only [List.set_cons_succ, List.set_cons_zero]
  refine ⟨_, rfl, by omega, by omega, ?_⟩
  rw [Int.toNat_natCast, irangeZ]
  refine comp_mapL (List.range (l.length + 1)) (fun i => D.int ((i : Nat) : Int)) (fun i => condD (unitC (l.length + 1) i 1 20)) trivial (by rw [List.length_range]; unfold sizeLine; omega) (fun i hi K1 F1 k1 => ?_) ?_
  · repeat get_elem_tactic_trivial
    try dsimp only [List.set_cons_succ, List.set_cons_zero]
    refine ⟨_, rfl, by omega, by omega, ?_⟩
    rw [Int.toNat_natCast, irangeZ]
    refine comp_mapL (List.range (l.length + 1)) (fun i => D.int ((i : Nat) : Int)) (fun j => .int (if j = i then 1 else 0)) trivial (by rw [List.length_range]; unfold sizeLine; omega) (fun j hj K2 F2 k2 => ?_) ?_
    · repeat get_elem_tactic_trivial
      try dsimp only [List.set_cons_succ, List.set_cons_zero]
      refine st_intB ?_
      repeat get_elem_tactic_trivial
      try dsimp only [List.set_cons_succ, List.set_cons_zero]
      have e : (if decide (((j : Nat) : Int) = ((i : Nat) : Int)) = true then (1 : Int) else 0) = if j = i then 1 else 0 := by
        by_cases z : j = i
        · rw [if_pos z, if_pos (decide_eq_true (by omega))]
        · rw [if_neg z, if_neg (by rw [decide_eq_true_eq]; omega)]
      rw [e]
      exact k2
    repeat get_elem_tactic_trivial
    try dsimp only [List.set_cons_succ, List.set_cons_zero]
    refine st_tuple rfl ?_
    repeat get_elem_tactic_trivial
    try dsimp only [List.set_cons_succ, List.set_cons_zero]
    unfold condD unitC at k1
    rw [List.map_map] at k1
    exact k1
  repeat get_elem_tactic_trivial
  try dsimp only [List.set_cons_succ, List.set_cons_zero]
  rw [hx]
  repeat get_elem_tactic_trivial
  try dsimp only [List.set_cons_succ, List.set_cons_zero]
  refine st_addLL (a := ks.map condD) (b := cs.map condD) rfl rfl (by rw [List.length_map, List.length_map]; unfold sizeLine; omega) ?_
  repeat get_elem_tactic_trivial
  try dsimp only [List.set_cons_succ, List.set_cons_zero]
  refine st_addLL (a := ks.map condD ++ cs.map condD) (b := (List.range (l.length + 1)).map fun i => condD (unitC (l.length + 1) i (-1) 0)) rfl rfl (by rw [List.length_append, List.length_map, List.length_map, List.length_map, List.length_range]; unfold sizeLine; omega) ?_
  repeat get_elem_tactic_trivial
  try dsimp only [List.set_cons_succ, List.set_cons_zero]
  refine st_addLL (a := ks.map condD ++ cs.map condD ++ (List.range (l.length + 1)).map fun i => condD (unitC (l.length + 1) i (-1) 0)) (b := (List.range (l.length + 1)).map fun i => condD (unitC (l.length + 1) i 1 20)) rfl rfl (by rw [List.length_append, List.length_append, List.length_map, List.length_map, List.length_map, List.length_map, List.length_range]; unfold sizeLine; omega) ?_
  unfold rowsC lowC highC at h
  rw [List.map_append, List.map_append, List.map_append, List.map_map, List.map_map] at h
  exact fin.of h
theorem zipD_condsR : ∀ (a : List Int) (b : List Cond), zipD (a.map D.int) (b.map condD) = (List.zip a b).map fun q => .tup [.int q.1, condD q.2]
  | [], b => by cases b <;> rfl
  | _ :: _, [] => rfl
  | x :: a, y :: b => by
    show D.tup [.int x, condD y] :: zipD (a.map D.int) (b.map condD) = _
    rw [zipD_condsR a b]
    rfl
theorem zip_dot (f : Cond → Int) : ∀ (a : List Int) (b : List Cond), ((List.zip a b).map fun q => q.1 * f q.2).sum = dot a (b.map f)
  | [], b => by cases b <;> rfl
  | _ :: _, [] => rfl
  | x :: a, y :: b => by
    show x * f y + ((List.zip a b).map fun q => q.1 * f q.2).sum = x * f y + dot a (b.map f)
    rw [zip_dot f a b]
theorem anyS_filter : ∀ (rs : List Cond) (ys : List Int), decide ((List.zip ys rs).filter (fun q => q.2.st && decide (0 < q.1)) ≠ []) = anyS rs ys
  | [], ys => by cases ys <;> rfl
  | _ :: _, [] => rfl
  | c :: rs, y :: ys => by
    show decide (((y, c) :: List.zip ys rs).filter (fun q => q.2.st && decide (0 < q.1)) ≠ []) = ((c.st && decide (0 < y)) || anyS rs ys)
    rw [List.filter_cons, ← anyS_filter rs ys]
    by_cases z : (c.st && decide (0 < y)) = true
    · rw [if_pos z, z, Bool.true_or]
      exact decide_eq_true (by simp)
    · rw [if_neg z]
      rw [Bool.not_eq_true] at z
      rw [z, Bool.false_or]
/-- sums over a zip of numbers and rows -/
theorem sum_zip {rs : List Cond} {ys : List Int} {f : Cond → Int} {S : Sto} {K : KE} (h : K (.int (dot ys (rs.map f))) S) : oSum (.lst ((List.zip ys rs).map fun q => D.int (q.1 * f q.2))) S K := by
  have e : ((List.zip ys rs).map fun q => D.int (q.1 * f q.2)) = ((List.zip ys rs).map fun q => q.1 * f q.2).map D.int := by rw [List.map_map]; rfl
  refine st_sum (ns := (List.zip ys rs).map fun q => q.1 * f q.2) rfl e ?_
  rw [zip_dot f]
  exact h
theorem sp_law_refutes {l : Str} {ks cs : List Cond} {S : Sto} {K : KE} {x v : D} (hx : listOf S x = some (cs.map condD)) (hl : l.length ≤ 100) (h1 : ks.length ≤ 300) (h2 : cs.length ≤ 300) (hf : ∀ c, c ∈ ks ++ cs → c.fs.length = l.length + 1 ∧ (∀ f, f ∈ c.fs → f.natAbs ≤ 2 ^ 24) ∧ c.b.natAbs ≤ 2 ^ 24) (hv : ValOk S v) (h : K (.bl (refV (l.length + 1) (rowsC l ks cs) v)) S) : c_law_refutes [knowD l ks, x, v] S K := by
  have ok := rowsC_ok (l := l) (ks := ks) (cs := cs) (by omega) hf
  have kd : knowD l ks = .tup [.str l, .tup (ks.map condD)] := rfl
  refine st_def rfl ?_
  unfold w_law_refutes
  repeat get_elem_tactic_trivial
  try dsimp only [List.set_cons_succ, List.set_cons_zero]
  refine sp_law_rows hx (by omega) (by omega) (by omega) ?_
  generalize rowsC l ks cs = rs at *
  have few := ok.few
  obtain ⟨κ, hκ⟩ := hv.kind
  repeat get_elem_tactic_trivial
  try dsimp only [List.set_cons_succ, List.set_cons_zero]
  refine st_seq ?_
  repeat get_elem_tactic_trivial
  try dsimp only [List.set_cons_succ, List.set_cons_zero]
  by_cases t : ∃ ds, v = .tup ds
  case neg =>
    have nt : κ ≠ .tup := fun z => t (kind_tup (z ▸ hκ))
    have e : refV (l.length + 1) rs v = false := by
      cases v <;> first | rfl | exact absurd ⟨_, rfl⟩ t
    rw [e] at h
    refine st_isi2 (k := κ) (b := false) hκ (any_tup nt) ?_
    repeat get_elem_tactic_trivial
    try dsimp only [List.set_cons_succ, List.set_cons_zero]
    exact fin.of h
  obtain ⟨ds, rfl⟩ := t
  obtain ⟨ld, hd⟩ := hv.els ds rfl
  repeat get_elem_tactic_trivial
  try dsimp only [List.set_cons_succ, List.set_cons_zero]
  refine br_n (br_d (fun e => ?_) fun e => ?_)
  case refine_2 =>
    rw [List.length_map] at e
    rw [refV_len (decide_eq_false (by omega))] at h
    repeat get_elem_tactic_trivial
    try dsimp only [List.set_cons_succ, List.set_cons_zero]
    exact fin.of h
  rw [List.length_map] at e
  have e : ds.length = rs.length := by omega
  repeat get_elem_tactic_trivial
  try dsimp only [List.set_cons_succ, List.set_cons_zero]
  refine for_ind (I := fun es ρ S1 => S1 = S ∧ ∃ (x4 x5 x6 x7 x8 : Option D) (ps : List D), ps ++ es = ds ∧ ps.all nnI = true ∧ ρ = [some (knowD l ks), some x, some (.tup ds), some (.lst (rs.map condD)), x4, x5, x6, x7, x8]) ⟨rfl, _, _, _, _, _, [], rfl, rfl, rfl⟩ (fun ρ S1 ⟨e0, x4, x5, x6, x7, x8, ps, e3, e4, e5⟩ => ⟨trivial, ?_⟩) fun d es F ih ρ S1 ⟨e0, x4, x5, x6, x7, x8, ps, e3, e4, e5⟩ => ⟨trivial, ?_⟩
  case refine_2 =>
    subst e0 e5
    obtain ⟨⟨κ', hκ'⟩, _⟩ := hd d (by rw [← e3]; exact List.mem_append_right _ (List.mem_cons_self ..))
    have bad : nnI d = false → K (.bl false) S1 := fun z => by
      have : ds.all nnI = false := by rw [← e3, List.all_append, List.all_cons, z, Bool.false_and, Bool.and_false]
      rw [refV_nn this] at h
      exact h
    have good : nnI d = true → (ps ++ [d]).all nnI = true := fun z => by
      rw [List.all_append, e4, List.all_cons, z]
      rfl
    cases d with
    | int i =>
      repeat get_elem_tactic_trivial
      try dsimp only [List.set_cons_succ, List.set_cons_zero]
      refine br_d (fun z => ?_) fun z => ?_
      · repeat get_elem_tactic_trivial
        try dsimp only [List.set_cons_succ, List.set_cons_zero]
        exact fin.of (bad (decide_eq_false (by omega)))
      · repeat get_elem_tactic_trivial
        try dsimp only [List.set_cons_succ, List.set_cons_zero]
        exact ih _ _ ⟨rfl, _, x5, x6, x7, x8, ps ++ [.int i], by rw [List.append_assoc]; exact e3, good (decide_eq_true (by omega)), rfl⟩
    | dic l =>
      repeat get_elem_tactic_trivial
      try dsimp only [List.set_cons_succ, List.set_cons_zero]
      exact fin.of (bad rfl)
    | cell p =>
      have kk : (κ' = .lst ∨ κ' = .dic) := by
        unfold kindOf at hκ'
        dsimp only at hκ'
        split at hκ'
        · cases hκ'; exact .inl rfl
        · cases hκ'; exact .inr rfl
        · cases hκ'
      repeat get_elem_tactic_trivial
      try dsimp only [List.set_cons_succ, List.set_cons_zero]
      refine st_isi2 (k := κ') (b := false) hκ' (by rcases kk with rfl | rfl <;> rfl) ?_
      repeat get_elem_tactic_trivial
      try dsimp only [List.set_cons_succ, List.set_cons_zero]
      exact fin.of (bad rfl)
    | non =>
      repeat get_elem_tactic_trivial
      try dsimp only [List.set_cons_succ, List.set_cons_zero]
      exact fin.of (bad rfl)
    | bl b =>
      repeat get_elem_tactic_trivial
      try dsimp only [List.set_cons_succ, List.set_cons_zero]
      exact fin.of (bad rfl)
    | str z =>
      repeat get_elem_tactic_trivial
      try dsimp only [List.set_cons_succ, List.set_cons_zero]
      exact fin.of (bad rfl)
    | tup z =>
      repeat get_elem_tactic_trivial
      try dsimp only [List.set_cons_succ, List.set_cons_zero]
      exact fin.of (bad rfl)
    | lst z =>
      repeat get_elem_tactic_trivial
      try dsimp only [List.set_cons_succ, List.set_cons_zero]
      exact fin.of (bad rfl)
    | _ => cases hκ'
  subst e0 e5
  rw [List.append_nil] at e3
  subst e3
  obtain ⟨ys, rfl, ynn⟩ := all_nnI e4
  rw [List.length_map] at e
  rw [refV_of e ynn] at h
  have hy : ∀ m, m ∈ ys → Lg m := fun m hm => (hd (.int m) (List.mem_map_of_mem hm)).2 m rfl
  rw [kd]
  repeat get_elem_tactic_trivial
  try dsimp only [List.set_cons_succ, List.set_cons_zero]
  refine st_lenS (by unfold sizeLine; omega) ?_
  repeat get_elem_tactic_trivial
  try dsimp only [List.set_cons_succ, List.set_cons_zero]
  refine ⟨_, rfl, by omega, by omega, ?_⟩
  rw [show ((l.length : Nat) : Int) + 1 = ((l.length + 1 : Nat) : Int) from rfl, Int.toNat_natCast, irange_ups]
  rw [← kd]
  refine for_ind (I := fun ds ρ S2 => S2 = S1 ∧ ∃ (j : Nat) (x4 x5 x6 x7 x8 : Option D), ds = ups j (l.length + 1 - j) ∧ j ≤ l.length + 1 ∧ ρ = [some (knowD l ks), some x, some (.tup (ys.map D.int)), some (.lst (rs.map condD)), x4, x5, x6, x7, x8] ∧ ∀ p, p < j → dot ys (colL rs p) = 0) ⟨rfl, 0, x4, x5, x6, x7, x8, rfl, by omega, rfl, fun p hp => by omega⟩ (fun ρ S2 ⟨e0, j, x4, x5, x6, x7, x8, e3, e4, e5, e6⟩ => ⟨trivial, ?_⟩) fun d ds F ih ρ S2 ⟨e0, j, x4, x5, x6, x7, x8, e3, e4, e5, e6⟩ => ⟨trivial, ?_⟩
  · subst e0 e5
    have ej : l.length + 1 - j = 0 := by
      have := congrArg List.length e3
      rw [ups_length] at this
      exact this.symm
    rw [refB_rest fun p hp => e6 p (by omega)] at h
    repeat get_elem_tactic_trivial
    try dsimp only [List.set_cons_succ, List.set_cons_zero]
    refine ⟨_, _, rfl, rfl, fun z => (nomatch z), ?_⟩
    rw [zipD_condsR]
    refine comp_mapL (List.zip ys rs) (fun q => .tup [.int q.1, condD q.2]) (fun q => .int (q.1 * q.2.b)) ⟨trivial, trivial⟩ (by rw [List.length_zip]; unfold sizeLine; omega) (fun q hq K1 F1 k1 => ?_) ?_
    · have hz := List.of_mem_zip hq
      unfold condD
      repeat get_elem_tactic_trivial
      try dsimp only [List.set_cons_succ, List.set_cons_zero]
      exact st_mulG (hy _ hz.1) (lg_small (ok.b _ hz.2)) k1
    repeat get_elem_tactic_trivial
    try dsimp only [List.set_cons_succ, List.set_cons_zero]
    refine sum_zip (f := fun c => c.b) ?_
    have et : dot ys (rs.map (·.b)) = totL rs ys := rfl
    rw [et]
    repeat get_elem_tactic_trivial
    try dsimp only [List.set_cons_succ, List.set_cons_zero]
    refine ⟨_, _, rfl, rfl, fun z => (nomatch z), ?_⟩
    rw [zipD_condsR]
    refine comp_filterL (List.zip ys rs) (fun q => .tup [.int q.1, condD q.2]) (fun q => .int q.1) (fun q => q.2.st && decide (0 < q.1)) ⟨trivial, trivial⟩ (by rw [List.length_zip]; unfold sizeLine; omega) (fun q hq K1 F1 k1 k2 => ?_) ?_
    · unfold condD
      repeat get_elem_tactic_trivial
      try dsimp only [List.set_cons_succ, List.set_cons_zero]
      refine br_b (fun es => ?_) fun es => ?_
      · rw [es, Bool.true_and] at k1 k2
        repeat get_elem_tactic_trivial
        try dsimp only [List.set_cons_succ, List.set_cons_zero]
        exact br_b k1 k2
      · rw [es, Bool.false_and] at k2
        repeat get_elem_tactic_trivial
        try dsimp only [List.set_cons_succ, List.set_cons_zero]
        exact k2 rfl
    repeat get_elem_tactic_trivial
    try dsimp only [List.set_cons_succ, List.set_cons_zero]
    refine br_b (fun e7 => ?_) fun e7 => ?_
    · rw [e7, Bool.true_or] at h
      exact fin.of h
    · rw [e7, Bool.false_or] at h
      repeat get_elem_tactic_trivial
      try dsimp only [List.set_cons_succ, List.set_cons_zero]
      refine br_b (fun e8 => ?_) fun e8 => ?_
      · rw [e8, Bool.true_and] at h
        repeat get_elem_tactic_trivial
        try dsimp only [List.set_cons_succ, List.set_cons_zero]
        refine st_neNil (n := 0) rfl (fun d hd => ?_) (by decide) ?_
        · obtain ⟨q, _, eq⟩ := List.mem_map.mp hd
          rw [← eq]
          exact .int 0 _
        have e9 : decide (((List.zip ys rs).filter fun q => q.2.st && decide (0 < q.1)).map (fun q => D.int q.1) ≠ []) = anyS rs ys := by
          rw [← anyS_filter rs ys]
          exact decide_eq_decide.mpr (by rw [Ne, List.map_eq_nil_iff])
        rw [e9]
        exact fin.of h
      · rw [e8, Bool.false_and] at h
        exact fin.of h
  · subst e0 e5
    obtain ⟨m, em⟩ : ∃ m, l.length + 1 - j = m + 1 := by
      cases z : l.length + 1 - j with
      | zero => rw [z] at e3; cases e3
      | succ m => exact ⟨m, rfl⟩
    rw [em] at e3
    injection e3 with e3 e9
    subst e3
    repeat get_elem_tactic_trivial
    try dsimp only [List.set_cons_succ, List.set_cons_zero]
    refine ⟨_, _, rfl, rfl, fun z => (nomatch z), ?_⟩
    rw [zipD_condsR]
    refine comp_mapL (List.zip ys rs) (fun q => .tup [.int q.1, condD q.2]) (fun q => .int (q.1 * q.2.fs.getD j 0)) ⟨trivial, trivial⟩ (by rw [List.length_zip]; unfold sizeLine; omega) (fun q hq K1 F1 k1 => ?_) ?_
    · have hz := List.of_mem_zip hq
      have lc := ok.len _ hz.2
      unfold condD
      repeat get_elem_tactic_trivial
      try dsimp only [List.set_cons_succ, List.set_cons_zero]
      refine st_ix rfl (at_row (by omega)) ?_
      exact st_mulG (hy _ hz.1) (sm_getD (ok.fs _ hz.2)).lg k1
    repeat get_elem_tactic_trivial
    try dsimp only [List.set_cons_succ, List.set_cons_zero]
    refine sum_zip (f := fun c => c.fs.getD j 0) ?_
    have ec : rs.map (fun c => c.fs.getD j 0) = colL rs j := rfl
    rw [ec]
    repeat get_elem_tactic_trivial
    try dsimp only [List.set_cons_succ, List.set_cons_zero]
    refine br_n (br_d (fun e7 => ?_) fun e7 => ?_)
    · repeat get_elem_tactic_trivial
      try dsimp only [List.set_cons_succ, List.set_cons_zero]
      refine ih _ _ ⟨rfl, j + 1, _, _, x6, x7, x8, by rw [show l.length + 1 - (j + 1) = m by omega]; exact e9, by omega, rfl, fun p hp => ?_⟩
      by_cases z : p = j
      · rw [z]; exact e7
      · exact e6 p (by omega)
    · rw [refB_col (p := j) (by omega) e7] at h
      repeat get_elem_tactic_trivial
      try dsimp only [List.set_cons_succ, List.set_cons_zero]
      exact fin.of h


end G

set_option Elab.async false
set_option linter.all false
set_option maxRecDepth 100000
set_option autoImplicit false
set_option maxHeartbeats 2000000
namespace G
open PySem PySem.Spec PyProof.Rows L2
local macro_rules
  | `(tactic| get_elem_tactic_trivial) => `(tactic| first
    | (with_reducible first
      | refine st_seqSet ?_ | refine st_seqAsg ?_ | refine st_seqDo ?_ | refine st_seqPar ?_ | refine st_seqPar3 ?_ | refine st_seqFor ?_ | refine st_seqWhile ?_ | refine st_seqAug ?_ | refine st_seqSkip ?_ | refine st_seqRet ?_
      | refine st_skip ?_ | refine st_ret ?_ | refine st_retN ?_ | refine st_do ?_ | refine st_if ?_ | refine st_set ?_ | refine st_asg ?_ | refine st_par ?_ | refine st_par3 ?_
      | refine st_c ?_ | refine st_op2 ?_ | refine st_op1 ?_ | refine st_test ?_ | refine st_tbl ?_ | refine st_and ?_ | refine st_or ?_ | refine st_not ?_ | refine st_andV ?_ | refine st_orV ?_ | refine st_notV ?_ | refine st_bl ?_
      | refine st_chain ?_ | refine st_ifE ?_ | refine st_nil ?_ | refine st_cons ?_ | refine st_call ?_ | refine st_fr ?_ | refine st_lv ?_ | refine st_one ?_ | refine st_two ?_
      | refine st_gN ?_ | refine st_lst ?_ | refine st_tup ?_ | refine st_slF ?_ | refine st_oNo ?_ | refine st_oS ?_ | refine st_enum ?_ | refine st_scr ?_ | refine st_list ?_ | refine st_it ?_ | refine st_comp ?_ | refine st_for ?_ | refine st_gIx ?_ | refine st_range1 ?_ | refine st_app ?_ | refine st_zip ?_ | refine st_rev1 ?_ | refine st_meth ?_ | refine st_isS ?_ | refine st_count ?_ | refine st_sl ?_ | refine st_slT ?_ | refine st_slL ?_ | refine st_max2 ?_ | refine st_min2 ?_
      | refine st_add ?_ | refine st_sub ?_ | refine st_int ?_ | refine st_neg ?_ | refine st_lt ?_ | refine st_le ?_ | refine st_gt ?_ | refine st_ge ?_ | refine st_eq ?_ | refine st_ne ?_ | refine st_eqB ?_ | refine st_neB ?_ | refine st_eqS ?_ | refine st_neS ?_ | refine st_isN ?_ | refine st_sorted ?_ | refine st_abs ?_ | refine st_isNotN ?_
      | refine br_t ?_ | refine br_f ?_)
    | ((with_reducible refine st_var (d := ?_) ?_ ?_); rotate_left; (exact rfl))
    | ((with_reducible refine st_isi2 (k := ?_) (b := true) ?_ ?_ ?_); rotate_left; (exact rfl); (exact rfl))
    | ((with_reducible refine st_isi2 (k := ?_) (b := false) ?_ ?_ ?_); rotate_left; (exact rfl); (exact rfl))
    | ((with_reducible refine st_ix (ds := ?_) (d := ?_) ?_ ?_ ?_); rotate_left 2; (first | exact rfl | exact seq_at (by assumption)); (exact rfl))
    | ((with_reducible refine st_len2 (ds := ?_) (n := ?_) ?_ ?_ ?_); rotate_left 2; (first | exact rfl | exact seq_at (by assumption)); (exact rfl))
    | ((with_reducible refine st_addLL (a := ?_) (b := ?_) ?_ ?_ ?_ ?_); rotate_left 2; (first | exact rfl | exact lst_at (by assumption)); (first | exact rfl | exact lst_at (by assumption)); (exact Nat.le_of_ble_eq_true rfl))
    | ((with_reducible refine st_pow ?_ ?_); (exact ⟨by decide, by decide, by decide⟩))
    | ((with_reducible refine st_mod ?_ ?_); (first | decide | omega))
    | ((with_reducible refine st_size ?_ ?_); (exact rfl))
    | ((with_reducible refine st_gT2 ?_ ?_); (exact rfl))
    | ((with_reducible refine st_gsC ?_))
    | ((with_reducible refine st_gsN ?_))
    | ((with_reducible refine st_mulS ?_ ?_ ?_); omega; omega)
    | ((with_reducible refine br_ct ?_ ?_); (exact rfl))
    | ((with_reducible refine br_cf ?_ ?_); (exact rfl))
    | (rw [list_tup])
    | (rw [list_lst])
    | (rw [items_tup])
    | (rw [items_lst])
    | ((refine st_listM (ds := ?_) ?_ ?_); rotate_left; (first | exact rfl | exact seq_at (by assumption)))
    | ((refine st_itM (it := ?_) ?_ ?_); rotate_left; (first | exact rfl | exact it_at (by assumption))))

/-! ### refutations are right -/
theorem dot_app {a b c d : List Int} (h : a.length = b.length) : dot (a ++ c) (b ++ d) = dot a b + dot c d := by
  unfold dot
  rw [List.zip_append h, List.map_append, List.sum_append]
theorem colL_app (a b : List Cond) (p : Nat) : colL (a ++ b) p = colL a p ++ colL b p := List.map_append
theorem colL_len (a : List Cond) (p : Nat) : (colL a p).length = a.length := List.length_map ..
theorem dot_zeroR {n : Nat} {b : List Int} : dot b (List.replicate n 0) = 0 := by
  induction n generalizing b with
  | zero => cases b <;> rfl
  | succ n ih =>
    cases b with
    | nil => rfl
    | cons y b =>
      show y * 0 + dot b (List.replicate n 0) = 0
      rw [ih, Int.mul_zero, Int.add_zero]
theorem colL_low {k p : Nat} : colL (lowC k) p = (List.range k).map fun q => if p < k then (if p = q then -1 else 0) else 0 := by
  unfold colL lowC
  rw [List.map_map]
  refine List.map_congr_left fun q hq => ?_
  show (unitC k q (-1) 0).fs.getD p 0 = _
  unfold unitC
  by_cases hp : p < k
  · rw [if_pos hp, getD_map' (x := 0) (by rw [List.length_range]; exact hp), List.getD_eq_getElem?_getD, List.getElem?_range hp]
    rfl
  · rw [if_neg hp, List.getD_eq_getElem?_getD, List.getElem?_eq_none (by rw [List.length_map, List.length_range]; omega)]
    rfl
theorem dot_low {k p : Nat} {f : Nat → Int} (hp : p < k) : dot ((List.range k).map f) (colL (lowC k) p) = - f p := by
  rw [colL_low, dot_sumN (n := k) (by rw [List.length_map, List.length_range]) (by rw [List.length_map, List.length_range]), sumN_one (k := p) hp fun i hi ne => ?_]
  · rw [getD_map' (x := 0) (by rw [List.length_range]; exact hp), getD_map' (x := 0) (by rw [List.length_range]; exact hp), List.getD_eq_getElem?_getD, List.getElem?_range hp, Option.getD_some, if_pos hp, if_pos rfl]
    omega
  · rw [getD_map' (x := 0) (by rw [List.length_range]; exact hi), getD_map' (x := 0) (by rw [List.length_range]; exact hi), List.getD_eq_getElem?_getD, List.getElem?_range hi, Option.getD_some, if_pos hp, if_neg (by omega), Int.mul_zero]
theorem lowC_b (k : Nat) : (lowC k).map (·.b) = List.replicate k 0 := by
  unfold lowC
  rw [List.map_map]
  have : ((·.b) ∘ fun p => unitC k p (-1) 0) = fun _ => (0 : Int) := rfl
  rw [this, List.map_const', List.length_range]
theorem highC_lenL (k : Nat) : (highC k).length = k := by unfold highC; rw [List.length_map, List.length_range]
theorem lowC_lenL (k : Nat) : (lowC k).length = k := by unfold lowC; rw [List.length_map, List.length_range]
theorem lowY_len (k : Nat) (rs : List Cond) (y : List Int) : (lowY k rs y).length = k := by unfold lowY; rw [List.length_map, List.length_range]
theorem dot_rows {y : List Int} {cs : List Cond} {f : Cond → Int} (h : y.length = cs.length) : dot y (cs.map f) = sumN cs.length fun i => f (cs.getD i c0) * y.getD i 0 := by
  rw [dot_sumN (n := cs.length) h (by rw [List.length_map])]
  refine sumN_congr fun i hi => ?_
  rw [getD_map' (x := c0) hi]
  exact Int.mul_comm _ _
/-- the parts of what is told -/
structure RefOk (l : Str) (ks cs : List Cond) (z : List Int) : Prop where
  len : z.length = (rowsC l ks cs).length
  nn : ∀ m, m ∈ z → 0 ≤ m
  lg : ∀ m, m ∈ z → m.natAbs < 2 ^ 5000
  col : ∀ p, p < l.length + 1 → dot z (colL (rowsC l ks cs) p) = 0
  neg : (decide (totL (rowsC l ks cs) z < 0) || (decide (totL (rowsC l ks cs) z = 0) && anyS (rowsC l ks cs) z)) = true
theorem anyS_of {rs : List Cond} {ys : List Int} {i : Nat} (h1 : i < rs.length) (h2 : i < ys.length) (s : (rs.getD i c0).st = true) (p : 0 < ys.getD i 0) : anyS rs ys = true := by
  unfold anyS
  rw [List.any_eq_true]
  refine ⟨(rs[i], ys[i]), ?_, ?_⟩
  · rw [← List.getElem_zip (h := by rw [List.length_zip]; omega)]
    exact List.getElem_mem _
  · rw [List.getD_eq_getElem?_getD, List.getElem?_eq_getElem h1] at s
    rw [List.getD_eq_getElem?_getD, List.getElem?_eq_getElem h2] at p
    show (rs[i].st && decide (0 < ys[i])) = true
    rw [show rs[i].st = true from s, Bool.true_and]
    exact decide_eq_true p
theorem dot_natAbs {a b : List Int} {A B : Nat} (ha : ∀ x, x ∈ a → x.natAbs ≤ A) (hb : ∀ x, x ∈ b → x.natAbs ≤ B) : (dot a b).natAbs ≤ a.length * (A * B) := dot_bnd ha hb
theorem pow_fit {n : Nat} (h : n ≤ 1000) : n * (2 ^ 4000 * 2 ^ 24) < 2 ^ 5000 := by
  have a : n * (2 ^ 4000 * 2 ^ 24) ≤ 2 ^ 10 * (2 ^ 4000 * 2 ^ 24) := Nat.mul_le_mul_right _ (by omega)
  have b : (2 : Nat) ^ 10 * (2 ^ 4000 * 2 ^ 24) = 2 ^ (10 + (4000 + 24)) := by rw [Nat.pow_add 2 10, Nat.pow_add 2 4000]
  have c : (2 : Nat) ^ (10 + (4000 + 24)) < 2 ^ 5000 := Nat.pow_lt_pow_right (by decide) (by decide)
  rw [← b] at c
  exact Nat.lt_of_le_of_lt a c
theorem ref_parts {k : Nat} {F A R : List Cond} {y : List Int} (eA : A = F ++ highC k) (eR : R = F ++ lowC k ++ highC k) (few : A.length ≤ 126) (fs : ∀ c, c ∈ A → ∀ f, f ∈ c.fs → f.natAbs ≤ 2 ^ 24) (r : Refutes k A y) :
    (refY k A y).length = R.length ∧ (∀ m, m ∈ refY k A y → 0 ≤ m) ∧ (∀ m, m ∈ refY k A y → m.natAbs < 2 ^ 5000) ∧ (∀ p, p < k → dot (refY k A y) (colL R p) = 0) ∧ (decide (totL R (refY k A y) < 0) || (decide (totL R (refY k A y) = 0) && anyS R (refY k A y))) = true := by
  have ly := r.len
  have hm := r.mem
  have lA : A.length = F.length + k := by rw [eA, List.length_append, highC_lenL]
  have n1 : (y.take (y.length - k)).length = F.length := by rw [List.length_take]; omega
  have n2 : (y.drop (y.length - k)).length = k := by rw [List.length_drop]; omega
  have low : ∀ p, dot y (colL A p) = dot (y.take (y.length - k)) (colL F p) + dot (y.drop (y.length - k)) (colL (highC k) p) := fun p => by
    have e : dot y (colL A p) = dot (y.take (y.length - k) ++ y.drop (y.length - k)) (colL A p) := by rw [List.take_append_drop]
    rw [e, eA, colL_app]
    exact dot_app (by rw [n1, colL_len])
  have tot : dot y (A.map (·.b)) = dot (y.take (y.length - k)) (F.map (·.b)) + dot (y.drop (y.length - k)) ((highC k).map (·.b)) := by
    have e : dot y (A.map (·.b)) = dot (y.take (y.length - k) ++ y.drop (y.length - k)) (A.map (·.b)) := by rw [List.take_append_drop]
    rw [e, eA, List.map_append]
    exact dot_app (by rw [n1, List.length_map])
  have colA : ∀ p, p < k → 0 ≤ dot y (colL A p) := fun p hp => by
    unfold colL
    rw [dot_rows (f := fun c => c.fs.getD p 0) ly]
    exact r.col p hp
  have tz : totL R (refY k A y) = dot y (A.map (·.b)) := by
    unfold totL refY
    rw [eR, List.map_append, List.map_append, dot_app (by rw [List.length_append, List.length_append, List.length_map, List.length_map, n1, lowY_len, lowC_lenL]), dot_app (by rw [n1, List.length_map]), lowC_b, dot_zeroR, tot]
    omega
  have lz : (refY k A y).length = R.length := by
    rw [eR]
    unfold refY
    rw [List.length_append, List.length_append, List.length_append, List.length_append, n1, n2, lowY_len, lowC_lenL, highC_lenL]
  refine ⟨lz, fun m h => ?_, fun m h => ?_, fun p hp => ?_, ?_⟩
  · unfold refY at h
    rcases List.mem_append.mp h with h | h
    · rcases List.mem_append.mp h with h | h
      · exact (hm m (List.mem_of_mem_take h)).1
      · obtain ⟨p, hp, e⟩ := List.mem_map.mp h
        rw [← e]
        exact colA p (List.mem_range.mp hp)
    · exact (hm m (List.mem_of_mem_drop h)).1
  · have sm : ∀ m, m ∈ y → m.natAbs < 2 ^ 5000 := fun m h => Nat.lt_trans (hm m h).2 (Nat.pow_lt_pow_right (by decide) (by decide))
    unfold refY at h
    rcases List.mem_append.mp h with h | h
    · rcases List.mem_append.mp h with h | h
      · exact sm m (List.mem_of_mem_take h)
      · obtain ⟨p, hp, e⟩ := List.mem_map.mp h
        rw [← e]
        refine Nat.lt_of_le_of_lt (dot_natAbs (A := 2 ^ 4000) (B := 2 ^ 24) (fun x hx => Nat.le_of_lt (hm x hx).2) fun x hx => ?_) (pow_fit (by omega))
        obtain ⟨c, hc, e⟩ := List.mem_map.mp hx
        rw [← e]
        exact getD_abs (fs c hc)
    · exact sm m (List.mem_of_mem_drop h)
  · rw [eR, colL_app, colL_app]
    unfold refY
    rw [dot_app (by rw [List.length_append, List.length_append, colL_len, colL_len, n1, lowY_len, lowC_lenL]), dot_app (by rw [n1, colL_len])]
    unfold lowY
    rw [dot_low hp, low p]
    omega
  · rw [tz, dot_rows (f := fun c => c.b) ly]
    rcases r.neg with n | ⟨z, i, hi, st, yp⟩
    · rw [decide_eq_true n, Bool.true_or]
    · have iF : i < F.length := by
        rcases Nat.lt_or_ge i F.length with q | q
        · exact q
        · have e : A.getD i c0 ∈ highC k := by
            rw [eA, List.getD_eq_getElem?_getD, List.getElem?_append_right q, List.getElem?_eq_getElem (by rw [highC_lenL]; omega)]
            exact List.getElem_mem _
          obtain ⟨p, _, e⟩ := List.mem_map.mp e
          rw [← e] at st
          cases st
      have lR : R.length = F.length + k + k := by rw [eR, List.length_append, List.length_append, lowC_lenL, highC_lenL]
      have : anyS R (refY k A y) = true := by
        refine anyS_of (i := i) (by omega) (by omega) ?_ ?_
        · rw [eR, List.append_assoc, List.getD_eq_getElem?_getD, List.getElem?_append_left iF]
          rw [eA, List.getD_eq_getElem?_getD, List.getElem?_append_left iF] at st
          exact st
        · unfold refY
          rw [List.append_assoc, List.getD_eq_getElem?_getD, List.getElem?_append_left (by omega), List.getElem?_take_of_lt (by omega), ← List.getD_eq_getElem?_getD]
          exact yp
      rw [this, z]
      rfl
theorem refOk_of {l : Str} {ks cs : List Cond} {y : List Int} (hs : Sized (l.length + 1) (allC l ks cs)) (r : Refutes (l.length + 1) (allC l ks cs) y) : RefOk l ks cs (refY (l.length + 1) (allC l ks cs) y) := by
  obtain ⟨h1, h2, h3, h4, h5⟩ := ref_parts (F := ks ++ cs) (R := rowsC l ks cs) rfl rfl hs.few hs.fs r
  exact ⟨h1, h2, h3, h4, h5⟩
theorem RefOk.right {l : Str} {ks cs : List Cond} {z : List Int} (h : RefOk l ks cs z) : refV (l.length + 1) (rowsC l ks cs) (.tup (z.map D.int)) = true := by
  rw [refV_of h.len h.nn, refB_rest h.col]
  exact h.neg
theorem valOk_ints {S : Sto} {z : List Int} (l : z.length ≤ 100000) (h : ∀ m, m ∈ z → Lg m) : ValOk S (.tup (z.map D.int)) := ⟨⟨_, rfl⟩, fun ds e => by
  cases e
  refine ⟨by rw [List.length_map]; exact l, fun d hd => ?_⟩
  obtain ⟨m, hm, e⟩ := List.mem_map.mp hd
  rw [← e]
  exact ⟨⟨_, rfl⟩, fun i ei => by cases ei; exact h m hm⟩⟩
theorem lg_of5 {x : Int} (h : x.natAbs < 2 ^ 5000) : Lg x := Nat.lt_trans h (Nat.pow_lt_pow_right (by decide) (by decide))
theorem RefOk.last {l : Str} {ks cs : List Cond} {z : List Int} (h : RefOk l ks cs z) : ∃ w m, z = w ++ [m] := by
  have lr : (rowsC l ks cs).length = ks.length + cs.length + (l.length + 1) + (l.length + 1) := by unfold rowsC; rw [List.length_append, List.length_append, List.length_append, lowC_lenL, highC_lenL]
  have lz := h.len
  rcases List.eq_nil_or_concat z with e | ⟨w, m, e⟩
  · rw [e] at lz; simp at lz; omega
  · exact ⟨w, m, by rw [e, List.concat_eq_append]⟩
end G

set_option Elab.async false
set_option linter.all false
set_option maxRecDepth 100000
set_option autoImplicit false
set_option maxHeartbeats 2000000
namespace G
open PySem PySem.Spec PyProof.Rows L2
local macro_rules
  | `(tactic| get_elem_tactic_trivial) => `(tactic| first
    | (with_reducible first
      | refine st_seqSet ?_ | refine st_seqAsg ?_ | refine st_seqDo ?_ | refine st_seqPar ?_ | refine st_seqPar3 ?_ | refine st_seqFor ?_ | refine st_seqWhile ?_ | refine st_seqAug ?_ | refine st_seqSkip ?_ | refine st_seqRet ?_
      | refine st_skip ?_ | refine st_ret ?_ | refine st_retN ?_ | refine st_do ?_ | refine st_if ?_ | refine st_set ?_ | refine st_asg ?_ | refine st_par ?_ | refine st_par3 ?_
      | refine st_c ?_ | refine st_op2 ?_ | refine st_op1 ?_ | refine st_test ?_ | refine st_tbl ?_ | refine st_and ?_ | refine st_or ?_ | refine st_not ?_ | refine st_andV ?_ | refine st_orV ?_ | refine st_notV ?_ | refine st_bl ?_
      | refine st_chain ?_ | refine st_ifE ?_ | refine st_nil ?_ | refine st_cons ?_ | refine st_call ?_ | refine st_fr ?_ | refine st_lv ?_ | refine st_one ?_ | refine st_two ?_
      | refine st_gN ?_ | refine st_lst ?_ | refine st_tup ?_ | refine st_slF ?_ | refine st_oNo ?_ | refine st_oS ?_ | refine st_enum ?_ | refine st_scr ?_ | refine st_list ?_ | refine st_it ?_ | refine st_comp ?_ | refine st_for ?_ | refine st_gIx ?_ | refine st_range1 ?_ | refine st_app ?_ | refine st_zip ?_ | refine st_rev1 ?_ | refine st_meth ?_ | refine st_isS ?_ | refine st_count ?_ | refine st_sl ?_ | refine st_slT ?_ | refine st_slL ?_ | refine st_max2 ?_ | refine st_min2 ?_
      | refine st_add ?_ | refine st_sub ?_ | refine st_int ?_ | refine st_neg ?_ | refine st_lt ?_ | refine st_le ?_ | refine st_gt ?_ | refine st_ge ?_ | refine st_eq ?_ | refine st_ne ?_ | refine st_eqB ?_ | refine st_neB ?_ | refine st_eqS ?_ | refine st_neS ?_ | refine st_isN ?_ | refine st_sorted ?_ | refine st_abs ?_ | refine st_isNotN ?_
      | refine br_t ?_ | refine br_f ?_)
    | ((with_reducible refine st_var (d := ?_) ?_ ?_); rotate_left; (exact rfl))
    | ((with_reducible refine st_isi2 (k := ?_) (b := true) ?_ ?_ ?_); rotate_left; (exact rfl); (exact rfl))
    | ((with_reducible refine st_isi2 (k := ?_) (b := false) ?_ ?_ ?_); rotate_left; (exact rfl); (exact rfl))
    | ((with_reducible refine st_ix (ds := ?_) (d := ?_) ?_ ?_ ?_); rotate_left 2; (first | exact rfl | exact seq_at (by assumption)); (exact rfl))
    | ((with_reducible refine st_len2 (ds := ?_) (n := ?_) ?_ ?_ ?_); rotate_left 2; (first | exact rfl | exact seq_at (by assumption)); (exact rfl))
    | ((with_reducible refine st_addLL (a := ?_) (b := ?_) ?_ ?_ ?_ ?_); rotate_left 2; (first | exact rfl | exact lst_at (by assumption)); (first | exact rfl | exact lst_at (by assumption)); (exact Nat.le_of_ble_eq_true rfl))
    | ((with_reducible refine st_pow ?_ ?_); (exact ⟨by decide, by decide, by decide⟩))
    | ((with_reducible refine st_mod ?_ ?_); (first | decide | omega))
    | ((with_reducible refine st_size ?_ ?_); (exact rfl))
    | ((with_reducible refine st_gT2 ?_ ?_); (exact rfl))
    | ((with_reducible refine st_gsC ?_))
    | ((with_reducible refine st_gsN ?_))
    | ((with_reducible refine st_mulS ?_ ?_ ?_); omega; omega)
    | ((with_reducible refine br_ct ?_ ?_); (exact rfl))
    | ((with_reducible refine br_cf ?_ ?_); (exact rfl))
    | (rw [list_tup])
    | (rw [list_lst])
    | (rw [items_tup])
    | (rw [items_lst])
    | ((refine st_listM (ds := ?_) ?_ ?_); rotate_left; (first | exact rfl | exact seq_at (by assumption)))
    | ((refine st_itM (it := ?_) ?_ ?_); rotate_left; (first | exact rfl | exact it_at (by assumption))))

local macro_rules
  | `(tactic| get_elem_tactic_trivial) => `(tactic| first
    | (with_reducible refine st_fld ?_)
    | (with_reducible refine st_mt ?_)
    | (with_reducible refine st_gFld ?_)
    | (with_reducible refine st_lix ?_)
    | (with_reducible refine st_rep ?_)
    | (with_reducible refine st_cat ?_)
    | (with_reducible refine st_lrng ?_)
    | (with_reducible refine st_frz ?_)
    | ((with_reducible refine fld_size (T := ?_) (pc := ?_) (pb := ?_) ?_ ?_); rotate_left 3; (assumption))
    | ((with_reducible refine fld_rows (T := ?_) (pc := ?_) (pb := ?_) ?_ ?_); rotate_left 3; (assumption))
    | ((with_reducible refine fld_goal (T := ?_) (pc := ?_) (pb := ?_) ?_ ?_); rotate_left 3; (assumption))
    | ((with_reducible refine fld_cols (T := ?_) (pc := ?_) (pb := ?_) ?_ ?_); rotate_left 3; (assumption))
    | ((with_reducible refine fld_basis (T := ?_) (pc := ?_) (pb := ?_) ?_ ?_); rotate_left 3; (assumption))
    | ((with_reducible refine fld_den (T := ?_) (pc := ?_) (pb := ?_) ?_ ?_); rotate_left 3; (assumption))
    | ((with_reducible refine mt_go (T := ?_) (pc := ?_) (pb := ?_) ?_ ?_ ?_); rotate_left 3; (assumption); (exact rfl)))

/-! ### fonts of any size -/
structure FontG (k : Nat) (u : Int) (ws : List Int) : Prop where
  u1 : 1 ≤ u
  usm : Sm u
  len : ws.length = k
  nn : ∀ w, w ∈ ws → 0 ≤ w
  hi : ∀ w, w ∈ ws → w ≤ 20 * u
  gcd : gcds 0 (u :: ws) = 1
theorem FontG.lg {k : Nat} {u : Int} {ws : List Int} (h : FontG k u ws) : ∀ w, w ∈ ws → Lg w := fun w hw => by
  have a := h.nn w hw
  have b := h.hi w hw
  have c : u.natAbs < 2 ^ 4000 := h.usm
  have d : w.natAbs < 2 ^ 5 * 2 ^ 4000 := by omega
  refine Nat.lt_trans d ?_
  rw [← Nat.pow_add]
  exact Nat.pow_lt_pow_right (by decide) (by decide)
/-- a condition with numbers as the document bounds them -/
structure CondS (k : Nat) (c : Cond) : Prop where
  len : c.fs.length = k
  fs : ∀ f, f ∈ c.fs → f.natAbs ≤ 2 ^ 24
  b : c.b.natAbs ≤ 2 ^ 24
theorem sp_sumG {a : List Int} {u : Int} {b : List Int} {S : Sto} {K : KE} (hs : a.length ≤ 1000) (ha : ∀ x, x ∈ a → Lg x) (hb : ∀ x, x ∈ b → Lg x) (h : K (.int (dot a b)) S) : c_law_sum [.tup (a.map D.int), fontD u b] S K := by
  refine st_def rfl ?_
  unfold w_law_sum
  repeat get_elem_tactic_trivial
  try dsimp only [List.set_cons_succ, List.set_cons_zero]
  refine ⟨_, _, rfl, rfl, fun z => (nomatch z), ?_⟩
  rw [zipD_ints]
  refine comp_mapL (List.zip a b) (fun q => .tup [.int q.1, .int q.2]) (fun q => .int (q.1 * q.2)) ⟨trivial, trivial⟩ (by rw [List.length_zip]; unfold sizeLine; omega) (fun q hq K1 F1 k => ?_) ?_
  · have hz := List.of_mem_zip hq
    repeat get_elem_tactic_trivial
    try dsimp only [List.set_cons_succ, List.set_cons_zero]
    refine st_mulG (ha _ hz.1) (hb _ hz.2) ?_
    exact k
  · have e : ((List.zip a b).map fun q => D.int (q.1 * q.2)) = ((List.zip a b).map fun q => q.1 * q.2).map D.int := by rw [List.map_map]; rfl
    rw [e]
    repeat get_elem_tactic_trivial
    try dsimp only [List.set_cons_succ, List.set_cons_zero]
    exact st_sum rfl rfl (fin.of h)
theorem sp_law_holdsG {n : Nat} {c : Cond} {u : Int} {ws : List Int} {S : Sto} {K : KE} (hn : n ≤ 1000) (hc : CondS n c) (f : FontG n u ws) (h : K (.bl (holdsB c u ws)) S) : c_law_holds [condD c, fontD u ws] S K := by
  unfold condD
  refine st_def rfl ?_
  unfold w_law_holds
  have cl := hc.len
  repeat get_elem_tactic_trivial
  try dsimp only [List.set_cons_succ, List.set_cons_zero]
  refine sp_sumG (by omega) (fun x hx => lg_small (hc.fs x hx)) f.lg ?_
  unfold holdsB at h
  repeat get_elem_tactic_trivial
  try dsimp only [List.set_cons_succ, List.set_cons_zero]
  refine st_mulG (lg_small hc.b) f.usm.lg ?_
  repeat get_elem_tactic_trivial
  try dsimp only [List.set_cons_succ, List.set_cons_zero]
  refine br_b (fun e => ?_) fun e => ?_
  · rw [if_pos e] at h
    repeat get_elem_tactic_trivial
    try dsimp only [List.set_cons_succ, List.set_cons_zero]
    exact fin.of h
  · rw [if_neg (by rw [e]; decide)] at h
    repeat get_elem_tactic_trivial
    try dsimp only [List.set_cons_succ, List.set_cons_zero]
    exact fin.of h
theorem sp_law_fitsG {l : Str} {cs : List Cond} {u : Int} {ws : List Int} {S : Sto} {K : KE} (hl : l.length ≤ 100) (n : cs.length ≤ 1000) (hk : ∀ c, c ∈ cs → CondS (l.length + 1) c) (f : FontG (l.length + 1) u ws) (h : K (.bl (fitsB cs u ws)) S) : c_law_fits [knowD l cs, fontD u ws] S K := by
  refine st_def rfl ?_
  unfold w_law_fits
  repeat get_elem_tactic_trivial
  try dsimp only [List.set_cons_succ, List.set_cons_zero]
  refine comp_mapL cs condD (fun c => .bl (holdsB c u ws)) trivial (by unfold sizeLine; omega) (fun c hc K1 F k => ?_) ?_
  · repeat get_elem_tactic_trivial
    try dsimp only [List.set_cons_succ, List.set_cons_zero]
    exact sp_law_holdsG (by omega) (hk c hc) f k
  · repeat get_elem_tactic_trivial
    try dsimp only [List.set_cons_succ, List.set_cons_zero]
    have e : (cs.map fun c => D.bl (holdsB c u ws)) = (cs.map fun c => holdsB c u ws).map D.bl := by rw [List.map_map]; rfl
    rw [e]
    refine st_notInB ?_
    rw [List.all_map]
    exact fin.of h
theorem sp_divisorT {ns : List Int} {S : Sto} {K : KE} (h : K (.int ((gcds 0 ns : Nat) : Int)) S) : c_law_divisor [.tup (ns.map D.int)] S K := by
  refine st_def rfl ?_
  unfold w_law_divisor
  repeat get_elem_tactic_trivial
  refine for_ind (I := fun ds ρ S1 => S1 = S ∧ ∃ (x0 x2 x3 x4 : Option D) (g : Nat) (ms : List Int), ρ = [x0, some (.int (g : Nat)), x2, x3, x4] ∧ ds = ms.map D.int ∧ gcds g ms = gcds 0 ns) ⟨rfl, _, _, _, _, 0, ns, rfl, rfl, rfl⟩ (fun ρ S1 ⟨e1, x0, x2, x3, x4, g, ms, e2, e3, h2⟩ => ⟨trivial, ?_⟩) fun d ds F ih ρ S1 ⟨e1, x0, x2, x3, x4, g, ms, e2, e3, h2⟩ => ⟨trivial, ?_⟩
  · subst e1 e2
    cases ms with
    | cons m ms => cases e3
    | nil =>
      repeat get_elem_tactic_trivial
      have e : g = gcds 0 ns := h2
      rw [← e] at h
      exact fin.of h
  · subst e1 e2
    cases ms with
    | nil => cases e3
    | cons m ms =>
      injection e3 with e3 e4
      subst e3
      repeat get_elem_tactic_trivial
      refine while_ind (I := fun k ρ S2 => S2 = S1 ∧ ∃ a b : Nat, ρ = [x0, some (.int (g : Nat)), some (.int m), some (.int (a : Nat)), some (.int (b : Nat))] ∧ k = b ∧ Nat.gcd a b = Nat.gcd g m.natAbs) ⟨rfl, m.natAbs, g, rfl, rfl, Nat.gcd_comm ..⟩ fun k F2 ih2 ρ S2 ⟨z1, a, b, z2, z3, z4⟩ => ?_
      subst z1 z2 z3
      repeat get_elem_tactic_trivial
      refine br_b (fun e => ?_) fun e => ?_
      · have e : k ≠ 0 := by
          simp at e
          exact e
        repeat get_elem_tactic_trivial
        refine ih2 (a % k) (Nat.mod_lt _ (by omega)) _ _ ⟨rfl, k, a % k, rfl, rfl, ?_⟩
        rw [← z4, Nat.gcd_comm a k, Nat.gcd_rec k a, Nat.gcd_comm]
      · have eb : k = 0 := by
          simp at e
          exact e
        subst eb
        rw [Nat.gcd_zero_right] at z4
        repeat get_elem_tactic_trivial
        exact ih _ _ ⟨rfl, x0, _, _, _, a, ms, rfl, e4, by rw [← h2]; show gcds a ms = gcds (Nat.gcd g m.natAbs) ms; rw [z4]⟩
theorem filter_none {α : Type} (l : List α) : l.filter (fun _ => false) = [] := List.filter_eq_nil_iff.mpr fun _ _ => by decide
theorem sp_law_is_font {l : Str} {u : Int} {ws : List Int} {S : Sto} {K : KE} (hl : l.length ≤ 100) (f : FontG (l.length + 1) u ws) (h : K (.bl true) S) : c_law_is_font [.str l, fontD u ws] S K := by
  have u1 := f.u1
  have fl := f.len
  refine st_def rfl ?_
  unfold w_law_is_font fontD
  repeat get_elem_tactic_trivial
  try dsimp only [List.set_cons_succ, List.set_cons_zero]
  refine st_seq ?_
  repeat get_elem_tactic_trivial
  try dsimp only [List.set_cons_succ, List.set_cons_zero]
  refine st_addT (by rw [List.length_map]; simp only [List.length_singleton]; unfold sizeLine; omega) ?_
  rw [show [D.int u] ++ ws.map D.int = (u :: ws).map D.int from rfl]
  repeat get_elem_tactic_trivial
  try dsimp only [List.set_cons_succ, List.set_cons_zero]
  refine st_seq ?_
  repeat get_elem_tactic_trivial
  try dsimp only [List.set_cons_succ, List.set_cons_zero]
  refine comp_filterL (u :: ws) D.int D.int (fun _ => false) trivial (by rw [List.length_cons]; unfold sizeLine; omega) (fun q hq K1 F1 k1 k2 => ?_) ?_
  · repeat get_elem_tactic_trivial
    try dsimp only [List.set_cons_succ, List.set_cons_zero]
    exact k2 rfl
  rw [filter_none]
  repeat get_elem_tactic_trivial
  try dsimp only [List.set_cons_succ, List.set_cons_zero]
  refine st_neNil (n := 0) (l := []) rfl (fun d hd => by cases hd) (by decide) ?_
  repeat get_elem_tactic_trivial
  try dsimp only [List.set_cons_succ, List.set_cons_zero]
  refine st_seq ?_
  repeat get_elem_tactic_trivial
  try dsimp only [List.set_cons_succ, List.set_cons_zero]
  refine br_cf (decide_eq_false (by omega)) ?_
  repeat get_elem_tactic_trivial
  try dsimp only [List.set_cons_succ, List.set_cons_zero]
  refine st_lenS (by unfold sizeLine; omega) ?_
  repeat get_elem_tactic_trivial
  try dsimp only [List.set_cons_succ, List.set_cons_zero]
  rw [List.length_map]
  refine br_cf (by rw [decide_eq_true (by omega)]; rfl) ?_
  repeat get_elem_tactic_trivial
  try dsimp only [List.set_cons_succ, List.set_cons_zero]
  refine sp_divisorT ?_
  rw [f.gcd]
  repeat get_elem_tactic_trivial
  try dsimp only [List.set_cons_succ, List.set_cons_zero]
  refine comp_filterL ws D.int D.int (fun _ => false) trivial (by unfold sizeLine; omega) (fun q hq K1 F1 k1 k2 => ?_) ?_
  · have q1 := f.nn q hq
    have q2 := f.hi q hq
    repeat get_elem_tactic_trivial
    try dsimp only [List.set_cons_succ, List.set_cons_zero]
    refine br_ct (decide_eq_true (by omega)) ?_
    repeat get_elem_tactic_trivial
    try dsimp only [List.set_cons_succ, List.set_cons_zero]
    refine st_mulM (sm_small (by decide)) f.usm ?_
    repeat get_elem_tactic_trivial
    try dsimp only [List.set_cons_succ, List.set_cons_zero]
    rw [decide_eq_true q2]
    exact br_n (br_b (fun _ => k2 rfl) fun z => nomatch z)
  rw [filter_none]
  repeat get_elem_tactic_trivial
  try dsimp only [List.set_cons_succ, List.set_cons_zero]
  refine st_eqL (a := []) (b := []) rfl rfl ?_
  exact fin.of h
/-- lowest terms -/
theorem lowest {u : Int} {ws : List Int} (u0 : 1 ≤ u) (nn : ∀ w, w ∈ ws → 0 ≤ w) (hi : ∀ w, w ∈ ws → w ≤ 20 * u) (us : Sm u) : FontG ws.length (u / (gcds 0 (u :: ws) : Nat)) (ws.map fun w => w / (gcds 0 (u :: ws) : Nat)) := by
  have du : gcds 0 (u :: ws) ∣ u.natAbs := gcds_mem _ 0 u (List.mem_cons_self ..)
  have gp : 0 < gcds 0 (u :: ws) := Nat.pos_of_dvd_of_pos du (by omega)
  have dw : ∀ w, w ∈ ws → gcds 0 (u :: ws) ∣ w.natAbs := fun w hw => gcds_mem _ 0 w (List.mem_cons_of_mem _ hw)
  have sc := gcds_scale (gcds 0 (u :: ws)) ((u :: ws).map fun w => w / (gcds 0 (u :: ws) : Nat)) 0
  obtain ⟨g, eg⟩ : ∃ g, gcds 0 (u :: ws) = g := ⟨_, rfl⟩
  rw [eg] at du gp dw sc ⊢
  have bu := div_back du
  have bw : (ws.map fun w => w / (g : Int)).map (fun w => (g : Int) * w) = ws := by
    rw [List.map_map]
    conv => rhs; rw [← List.map_id ws]
    exact List.map_congr_left fun w hw => div_back (dw w hw)
  have up : 0 < u / (g : Int) := by
    refine Int.lt_of_mul_lt_mul_left (a := (g : Int)) ?_ (by omega)
    rw [bu]
    omega
  refine ⟨by omega, ?_, by rw [List.length_map], fun w hw => ?_, fun w hw => ?_, ?_⟩
  · refine Nat.lt_of_le_of_lt ?_ us
    have := Int.ediv_le_self (g : Int) (show 0 ≤ u by omega)
    omega
  · obtain ⟨v, hv, e⟩ := List.mem_map.mp hw
    rw [← e]
    exact Int.ediv_nonneg (nn v hv) (by omega)
  · obtain ⟨v, hv, e⟩ := List.mem_map.mp hw
    rw [← e]
    refine Int.le_of_mul_le_mul_left (a := (g : Int)) ?_ (by omega)
    have b1 := div_back (dw v hv)
    have b2 := hi v hv
    have b3 : (g : Int) * (20 * (u / (g : Int))) = 20 * ((g : Int) * (u / (g : Int))) := by grind
    rw [b1, b3, bu]
    exact b2
  · rw [Nat.mul_zero] at sc
    have e : ((u :: ws).map fun w => w / (g : Int)).map (fun x => (g : Int) * x) = u :: ws := by
      rw [List.map_cons, List.map_cons, bw, bu]
    rw [e, eg] at sc
    have : g * 1 = g * gcds 0 ((u :: ws).map fun w => w / (g : Int)) := by omega
    exact (Nat.eq_of_mul_eq_mul_left gp this).symm
end G

set_option Elab.async false
set_option linter.all false
set_option maxRecDepth 100000
set_option autoImplicit false
set_option maxHeartbeats 2000000
namespace G
open PySem PySem.Spec PyProof.Rows L2
local macro_rules
  | `(tactic| get_elem_tactic_trivial) => `(tactic| first
    | (with_reducible first
      | refine st_seqSet ?_ | refine st_seqAsg ?_ | refine st_seqDo ?_ | refine st_seqPar ?_ | refine st_seqPar3 ?_ | refine st_seqFor ?_ | refine st_seqWhile ?_ | refine st_seqAug ?_ | refine st_seqSkip ?_ | refine st_seqRet ?_
      | refine st_skip ?_ | refine st_ret ?_ | refine st_retN ?_ | refine st_do ?_ | refine st_if ?_ | refine st_set ?_ | refine st_asg ?_ | refine st_par ?_ | refine st_par3 ?_
      | refine st_c ?_ | refine st_op2 ?_ | refine st_op1 ?_ | refine st_test ?_ | refine st_tbl ?_ | refine st_and ?_ | refine st_or ?_ | refine st_not ?_ | refine st_andV ?_ | refine st_orV ?_ | refine st_notV ?_ | refine st_bl ?_
      | refine st_chain ?_ | refine st_ifE ?_ | refine st_nil ?_ | refine st_cons ?_ | refine st_call ?_ | refine st_fr ?_ | refine st_lv ?_ | refine st_one ?_ | refine st_two ?_
      | refine st_gN ?_ | refine st_lst ?_ | refine st_tup ?_ | refine st_slF ?_ | refine st_oNo ?_ | refine st_oS ?_ | refine st_enum ?_ | refine st_scr ?_ | refine st_list ?_ | refine st_it ?_ | refine st_comp ?_ | refine st_for ?_ | refine st_gIx ?_ | refine st_range1 ?_ | refine st_app ?_ | refine st_zip ?_ | refine st_rev1 ?_ | refine st_meth ?_ | refine st_isS ?_ | refine st_count ?_ | refine st_sl ?_ | refine st_slT ?_ | refine st_slL ?_ | refine st_max2 ?_ | refine st_min2 ?_
      | refine st_add ?_ | refine st_sub ?_ | refine st_int ?_ | refine st_neg ?_ | refine st_lt ?_ | refine st_le ?_ | refine st_gt ?_ | refine st_ge ?_ | refine st_eq ?_ | refine st_ne ?_ | refine st_eqB ?_ | refine st_neB ?_ | refine st_eqS ?_ | refine st_neS ?_ | refine st_isN ?_ | refine st_sorted ?_ | refine st_abs ?_ | refine st_isNotN ?_
      | refine br_t ?_ | refine br_f ?_)
    | ((with_reducible refine st_var (d := ?_) ?_ ?_); rotate_left; (exact rfl))
    | ((with_reducible refine st_isi2 (k := ?_) (b := true) ?_ ?_ ?_); rotate_left; (exact rfl); (exact rfl))
    | ((with_reducible refine st_isi2 (k := ?_) (b := false) ?_ ?_ ?_); rotate_left; (exact rfl); (exact rfl))
    | ((with_reducible refine st_ix (ds := ?_) (d := ?_) ?_ ?_ ?_); rotate_left 2; (first | exact rfl | exact seq_at (by assumption)); (exact rfl))
    | ((with_reducible refine st_len2 (ds := ?_) (n := ?_) ?_ ?_ ?_); rotate_left 2; (first | exact rfl | exact seq_at (by assumption)); (exact rfl))
    | ((with_reducible refine st_addLL (a := ?_) (b := ?_) ?_ ?_ ?_ ?_); rotate_left 2; (first | exact rfl | exact lst_at (by assumption)); (first | exact rfl | exact lst_at (by assumption)); (exact Nat.le_of_ble_eq_true rfl))
    | ((with_reducible refine st_pow ?_ ?_); (exact ⟨by decide, by decide, by decide⟩))
    | ((with_reducible refine st_mod ?_ ?_); (first | decide | omega))
    | ((with_reducible refine st_size ?_ ?_); (exact rfl))
    | ((with_reducible refine st_gT2 ?_ ?_); (exact rfl))
    | ((with_reducible refine st_gsC ?_))
    | ((with_reducible refine st_gsN ?_))
    | ((with_reducible refine st_mulS ?_ ?_ ?_); omega; omega)
    | ((with_reducible refine br_ct ?_ ?_); (exact rfl))
    | ((with_reducible refine br_cf ?_ ?_); (exact rfl))
    | (rw [list_tup])
    | (rw [list_lst])
    | (rw [items_tup])
    | (rw [items_lst])
    | ((refine st_listM (ds := ?_) ?_ ?_); rotate_left; (first | exact rfl | exact seq_at (by assumption)))
    | ((refine st_itM (it := ?_) ?_ ?_); rotate_left; (first | exact rfl | exact it_at (by assumption))))

/-! ### both answers -/
structure CondT (k : Nat) (c : Cond) : Prop where
  len : c.fs.length = k
  fs : ∀ f, f ∈ c.fs → f.natAbs ≤ 99
  b : c.b.natAbs ≤ 9999
theorem CondT.s {k : Nat} {c : Cond} (h : CondT k c) : CondS k c := ⟨h.len, fun f hf => by have := h.fs f hf; omega, by have := h.b; omega⟩
theorem CondT.ok {k : Nat} {c : Cond} (h : CondT k c) : CondOk k c := ⟨h.len, fun f hf => by have := h.fs f hf; omega, by have := h.b; omega⟩
/-- sizes of a knowledge and conditions -/
structure KC (l : Str) (ks cs : List Cond) : Prop where
  l4 : l.length ≤ 4
  few : ks.length + cs.length ≤ 120
  ok : ∀ c, c ∈ ks ++ cs → CondS (l.length + 1) c
theorem KC.sized {l : Str} {ks cs : List Cond} (h : KC l ks cs) : Sized (l.length + 1) (allC l ks cs) := by
  have a := h.l4
  have b := h.few
  exact sized_all (by omega) fun c hc => ⟨(h.ok c hc).len, (h.ok c hc).fs, (h.ok c hc).b⟩
theorem KC.all {l : Str} {ks cs : List Cond} (h : KC l ks cs) : ∀ c, c ∈ ks ++ cs → c.fs.length = l.length + 1 ∧ (∀ f, f ∈ c.fs → f.natAbs ≤ 2 ^ 24) ∧ c.b.natAbs ≤ 2 ^ 24 := fun c hc => ⟨(h.ok c hc).len, (h.ok c hc).fs, (h.ok c hc).b⟩
def Fits (l : Str) (F : List Cond) (u : Int) (ws : List Int) : Prop := 0 < u ∧ ws.length = l.length + 1 ∧ (∀ w, w ∈ ws → 0 ≤ w ∧ w ≤ 20 * u) ∧ ∀ c, c ∈ F → holdsB c u ws = true
/-- some font fits -/
def Can (l : Str) (F : List Cond) : Prop := ∃ u ws, Fits l F u ws
theorem getD_all {ws : List Int} {P : Int → Prop} {k : Nat} (l : ws.length = k) : (∀ w, w ∈ ws → P w) ↔ ∀ j, j < k → P (ws.getD j 0) := by
  constructor
  · exact fun h j hj => h _ (getD_mem (by omega))
  · intro h w hw
    obtain ⟨j, hj, e⟩ := List.getElem_of_mem hw
    have := h j (by omega)
    rw [List.getD_eq_getElem?_getD, List.getElem?_eq_getElem hj, Option.getD_some, e] at this
    exact this
theorem no_font {l : Str} {ks cs : List Cond} {y : List Int} (h : KC l ks cs) (r : Refutes (l.length + 1) (allC l ks cs) y) : ¬ Can l (ks ++ cs) := fun ⟨u, ws, u0, lw, hw, hc⟩ => by
  refine refutes_sound h.sized.len r lw (fun j hj => ((getD_all (P := fun w => 0 ≤ w) lw).mp (fun w hm => (hw w hm).1) j hj)) u0 fun c hm => ?_
  rcases List.mem_append.mp hm with z | z
  · exact hc c z
  · exact (highC_holds lw).mpr ((getD_all (P := fun w => w ≤ 20 * u) lw).mp fun w hm => (hw w hm).2) c z
theorem a_font {l : Str} {ks cs : List Cond} {u : Int} {ws : List Int} (h : KC l ks cs) (kp : Keeps (l.length + 1) (allC l ks cs) u ws) : FontG (l.length + 1) (u / (gcds 0 (u :: ws) : Nat)) (ws.map fun w => w / (gcds 0 (u :: ws) : Nat)) ∧ ∀ c, c ∈ ks ++ cs → holdsB c (u / (gcds 0 (u :: ws) : Nat)) (ws.map fun w => w / (gcds 0 (u :: ws) : Nat)) = true := by
  obtain ⟨f, g⟩ := fontL_of h.sized.len kp
  refine ⟨⟨f.u1, f.usm, f.len, f.nn, (getD_all f.len).mpr ((highC_holds f.len).mp fun c hc => g c (List.mem_append_right _ hc)), f.gcd⟩, fun c hc => g c (List.mem_append_left _ hc)⟩
theorem FontG.fits {l : Str} {F : List Cond} {u : Int} {ws : List Int} (f : FontG (l.length + 1) u ws) (h : ∀ c, c ∈ F → holdsB c u ws = true) : Fits l F u ws := ⟨by have := f.u1; omega, f.len, fun w hw => ⟨f.nn w hw, f.hi w hw⟩, h⟩
/-- what find_font tells -/
def FontA (l : Str) (F : List Cond) (d : D) : Prop := (d = .non ∧ ¬ Can l F) ∨ ∃ u ws, d = fontD u ws ∧ FontG (l.length + 1) u ws ∧ ∀ c, c ∈ F → holdsB c u ws = true
def RefA (l : Str) (ks cs : List Cond) (d : D) : Prop := (d = .non ∧ Can l (ks ++ cs)) ∨ ∃ z, d = .tup (z.map D.int) ∧ RefOk l ks cs z ∧ ¬ Can l (ks ++ cs)
theorem fontA_of {l : Str} {ks cs : List Cond} {d : D} (h : KC l ks cs) (r : FontR (l.length + 1) (allC l ks cs) d) : FontA l (ks ++ cs) d := by
  rcases r with ⟨e, y, r⟩ | ⟨u, ws, e, kp⟩
  · exact .inl ⟨e, no_font h r⟩
  · obtain ⟨f, g⟩ := a_font h kp
    exact .inr ⟨_, _, e, f, g⟩
theorem refA_of {l : Str} {ks cs : List Cond} {d : D} (h : KC l ks cs) (r : RefR (l.length + 1) (allC l ks cs) d) : RefA l ks cs d := by
  rcases r with ⟨e, u, ws, kp⟩ | ⟨y, e, r⟩
  · obtain ⟨f, g⟩ := a_font h kp
    exact .inl ⟨e, _, _, f.fits g⟩
  · exact .inr ⟨_, e, refOk_of h.sized r, no_font h r⟩
theorem FontA.can {l : Str} {F : List Cond} {d : D} (h : FontA l F d) : Can l F ↔ d.isNon = false := by
  rcases h with ⟨e, n⟩ | ⟨u, ws, e, f, g⟩
  · subst e
    exact ⟨fun z => absurd z n, fun z => nomatch z⟩
  · subst e
    exact ⟨fun _ => rfl, fun _ => ⟨u, ws, f.fits g⟩⟩
/-- find_font, in terms of fonts -/
theorem find_font_of {l : Str} {ks cs : List Cond} (h : KC l ks cs) : ∃ d, ∀ {Fr : PySem.W.Frag} {S : Sto} {K : KE} {x : D}, listOf S x = some (cs.map condD) → (FontA l (ks ++ cs) d → K d S) → c_find_font Fr [knowD l ks, x] S K := by
  have := h.l4
  obtain ⟨d, hd⟩ := sp_find_font h.sized (by omega)
  exact ⟨d, fun hx k => hd hx fun r => k (fontA_of h r)⟩
theorem find_refutation_of {l : Str} {ks cs : List Cond} (h : KC l ks cs) : ∃ d, ∀ {Fr : PySem.W.Frag} {S : Sto} {K : KE} {x : D}, listOf S x = some (cs.map condD) → (RefA l ks cs d → K d S) → c_find_refutation Fr [knowD l ks, x] S K := by
  have := h.l4
  obtain ⟨d, hd⟩ := sp_find_refutation h.sized (by omega)
  exact ⟨d, fun hx k => hd hx fun r => k (refA_of h r)⟩
theorem has_font_of {l : Str} {ks : List Cond} (h : KC l ks []) : ∃ b, ∀ {Fr : PySem.W.Frag} {S : Sto} {K : KE}, ((b = true ↔ Can l ks) → K (.bl b) S) → c_has_font Fr [knowD l ks] S K := by
  have := h.l4
  obtain ⟨d, hd⟩ := sp_has_font h.sized (by omega)
  refine ⟨!d.isNon, fun k => hd fun r => k ?_⟩
  have := (fontA_of h r).can
  rw [List.append_nil] at this
  rw [this]
  cases d.isNon <;> simp
theorem Dt.mono {n m : Nat} {d : D} (h : Dt n d) (l : n ≤ m) : Dt m d := by
  induction h generalizing m with
  | non => exact .non _
  | bl => exact .bl _ _
  | int => exact .int _ _
  | str _ e => exact .str _ e
  | tup _ ih =>
    cases m with
    | zero => omega
    | succ m => exact .tup fun d hd => ih d hd (by omega)
  | lst _ ih =>
    cases m with
    | zero => omega
    | succ m => exact .lst fun d hd => ih d hd (by omega)
theorem fitsB_true {F : List Cond} {u : Int} {ws : List Int} : fitsB F u ws = true ↔ ∀ c, c ∈ F → holdsB c u ws = true := List.all_eq_true
theorem rowsC_le {l : Str} {ks cs : List Cond} (h : KC l ks cs) : (rowsC l ks cs).length ≤ 130 := by
  have a := h.l4
  have b := h.few
  unfold rowsC
  rw [List.length_append, List.length_append, List.length_append, lowC_lenL, highC_lenL]
  omega
theorem RefOk.val {l : Str} {ks cs : List Cond} {z : List Int} {S : Sto} (h : RefOk l ks cs z) (c : KC l ks cs) : ValOk S (.tup (z.map D.int)) := valOk_ints (by have a := h.len; have b := rowsC_le c; omega) fun m hm => lg_of5 (h.lg m hm)
end G

set_option Elab.async false
set_option linter.all false
set_option maxRecDepth 100000
set_option autoImplicit false
set_option maxHeartbeats 2000000
namespace G
open PySem PySem.Spec PyProof.Rows L2
local macro_rules
  | `(tactic| get_elem_tactic_trivial) => `(tactic| first
    | (with_reducible first
      | refine st_seqSet ?_ | refine st_seqAsg ?_ | refine st_seqDo ?_ | refine st_seqPar ?_ | refine st_seqPar3 ?_ | refine st_seqFor ?_ | refine st_seqWhile ?_ | refine st_seqAug ?_ | refine st_seqSkip ?_ | refine st_seqRet ?_
      | refine st_skip ?_ | refine st_ret ?_ | refine st_retN ?_ | refine st_do ?_ | refine st_if ?_ | refine st_set ?_ | refine st_asg ?_ | refine st_par ?_ | refine st_par3 ?_
      | refine st_c ?_ | refine st_op2 ?_ | refine st_op1 ?_ | refine st_test ?_ | refine st_tbl ?_ | refine st_and ?_ | refine st_or ?_ | refine st_not ?_ | refine st_andV ?_ | refine st_orV ?_ | refine st_notV ?_ | refine st_bl ?_
      | refine st_chain ?_ | refine st_ifE ?_ | refine st_nil ?_ | refine st_cons ?_ | refine st_call ?_ | refine st_fr ?_ | refine st_lv ?_ | refine st_one ?_ | refine st_two ?_
      | refine st_gN ?_ | refine st_lst ?_ | refine st_tup ?_ | refine st_slF ?_ | refine st_oNo ?_ | refine st_oS ?_ | refine st_enum ?_ | refine st_scr ?_ | refine st_list ?_ | refine st_it ?_ | refine st_comp ?_ | refine st_for ?_ | refine st_gIx ?_ | refine st_range1 ?_ | refine st_app ?_ | refine st_zip ?_ | refine st_rev1 ?_ | refine st_meth ?_ | refine st_isS ?_ | refine st_count ?_ | refine st_sl ?_ | refine st_slT ?_ | refine st_slL ?_ | refine st_max2 ?_ | refine st_min2 ?_
      | refine st_add ?_ | refine st_sub ?_ | refine st_int ?_ | refine st_neg ?_ | refine st_lt ?_ | refine st_le ?_ | refine st_gt ?_ | refine st_ge ?_ | refine st_eq ?_ | refine st_ne ?_ | refine st_eqB ?_ | refine st_neB ?_ | refine st_eqS ?_ | refine st_neS ?_ | refine st_isN ?_ | refine st_sorted ?_ | refine st_abs ?_ | refine st_isNotN ?_
      | refine br_t ?_ | refine br_f ?_)
    | ((with_reducible refine st_var (d := ?_) ?_ ?_); rotate_left; (exact rfl))
    | ((with_reducible refine st_isi2 (k := ?_) (b := true) ?_ ?_ ?_); rotate_left; (exact rfl); (exact rfl))
    | ((with_reducible refine st_isi2 (k := ?_) (b := false) ?_ ?_ ?_); rotate_left; (exact rfl); (exact rfl))
    | ((with_reducible refine st_ix (ds := ?_) (d := ?_) ?_ ?_ ?_); rotate_left 2; (first | exact rfl | exact seq_at (by assumption)); (exact rfl))
    | ((with_reducible refine st_len2 (ds := ?_) (n := ?_) ?_ ?_ ?_); rotate_left 2; (first | exact rfl | exact seq_at (by assumption)); (exact rfl))
    | ((with_reducible refine st_addLL (a := ?_) (b := ?_) ?_ ?_ ?_ ?_); rotate_left 2; (first | exact rfl | exact lst_at (by assumption)); (first | exact rfl | exact lst_at (by assumption)); (exact Nat.le_of_ble_eq_true rfl))
    | ((with_reducible refine st_pow ?_ ?_); (exact ⟨by decide, by decide, by decide⟩))
    | ((with_reducible refine st_mod ?_ ?_); (first | decide | omega))
    | ((with_reducible refine st_size ?_ ?_); (exact rfl))
    | ((with_reducible refine st_gT2 ?_ ?_); (exact rfl))
    | ((with_reducible refine st_gsC ?_))
    | ((with_reducible refine st_gsN ?_))
    | ((with_reducible refine st_mulS ?_ ?_ ?_); omega; omega)
    | ((with_reducible refine br_ct ?_ ?_); (exact rfl))
    | ((with_reducible refine br_cf ?_ ?_); (exact rfl))
    | (rw [list_tup])
    | (rw [list_lst])
    | (rw [items_tup])
    | (rw [items_lst])
    | ((refine st_listM (ds := ?_) ?_ ?_); rotate_left; (first | exact rfl | exact seq_at (by assumption)))
    | ((refine st_itM (it := ?_) ?_ ?_); rotate_left; (first | exact rfl | exact it_at (by assumption))))

/-! ### whether some font fits, as a value -/
noncomputable def canB (l : Str) (F : List Cond) : Bool := @decide (Can l F) (Classical.propDecidable _)
theorem canB_iff {l : Str} {F : List Cond} : canB l F = true ↔ Can l F := by
  unfold canB
  exact @decide_eq_true_iff _ (Classical.propDecidable _)
theorem can_is {l : Str} {F : List Cond} {b : Bool} (h : b = true ↔ Can l F) : b = canB l F := by
  have := canB_iff (l := l) (F := F)
  cases b <;> cases e : canB l F <;> simp_all
theorem FontA.isN {l : Str} {F : List Cond} {d : D} (h : FontA l F d) : d.isNon = !canB l F := by
  have a := h.can
  have b := canB_iff (l := l) (F := F)
  cases e : d.isNon <;> cases f : canB l F <;> simp_all
theorem RefA.isN {l : Str} {ks cs : List Cond} {d : D} (h : RefA l ks cs d) : d.isNon = canB l (ks ++ cs) := by
  have b := canB_iff (l := l) (F := ks ++ cs)
  rcases h with ⟨rfl, c⟩ | ⟨z, rfl, ro, n⟩
  · rw [b.mpr c]; rfl
  · cases f : canB l (ks ++ cs) with
    | true => exact absurd (b.mp f) n
    | false => rfl
theorem has_font_v {Fr : PySem.W.Frag} {l : Str} {ks : List Cond} {S : Sto} {K : KE} (h : KC l ks []) (k : K (.bl (canB l ks)) S) : c_has_font Fr [knowD l ks] S K := by
  obtain ⟨b, hB⟩ := has_font_of h
  exact hB fun g => by rw [can_is g]; exact k
theorem find_font_v {Fr : PySem.W.Frag} {l : Str} {ks cs : List Cond} {S : Sto} {K : KE} {x : D} (h : KC l ks cs) (hx : listOf S x = some (cs.map condD)) (k : ∀ d, FontA l (ks ++ cs) d → K d S) : c_find_font Fr [knowD l ks, x] S K := by
  obtain ⟨b, hB⟩ := find_font_of h
  exact hB hx (k b)
theorem find_refutation_v {Fr : PySem.W.Frag} {l : Str} {ks cs : List Cond} {S : Sto} {K : KE} {x : D} (h : KC l ks cs) (hx : listOf S x = some (cs.map condD)) (k : ∀ d, RefA l ks cs d → K d S) : c_find_refutation Fr [knowD l ks, x] S K := by
  obtain ⟨b, hB⟩ := find_refutation_of h
  exact hB hx (k b)
end G

set_option Elab.async false
set_option linter.all false
set_option maxRecDepth 100000
set_option autoImplicit false
set_option maxHeartbeats 2000000
namespace G
open PySem PySem.Spec PyProof.Rows L2
local macro_rules
  | `(tactic| get_elem_tactic_trivial) => `(tactic| first
    | (with_reducible first
      | refine st_seqSet ?_ | refine st_seqAsg ?_ | refine st_seqDo ?_ | refine st_seqPar ?_ | refine st_seqPar3 ?_ | refine st_seqFor ?_ | refine st_seqWhile ?_ | refine st_seqAug ?_ | refine st_seqSkip ?_ | refine st_seqRet ?_
      | refine st_skip ?_ | refine st_ret ?_ | refine st_retN ?_ | refine st_do ?_ | refine st_if ?_ | refine st_set ?_ | refine st_asg ?_ | refine st_par ?_ | refine st_par3 ?_
      | refine st_c ?_ | refine st_op2 ?_ | refine st_op1 ?_ | refine st_test ?_ | refine st_tbl ?_ | refine st_and ?_ | refine st_or ?_ | refine st_not ?_ | refine st_andV ?_ | refine st_orV ?_ | refine st_notV ?_ | refine st_bl ?_
      | refine st_chain ?_ | refine st_ifE ?_ | refine st_nil ?_ | refine st_cons ?_ | refine st_call ?_ | refine st_fr ?_ | refine st_lv ?_ | refine st_one ?_ | refine st_two ?_
      | refine st_gN ?_ | refine st_lst ?_ | refine st_tup ?_ | refine st_slF ?_ | refine st_oNo ?_ | refine st_oS ?_ | refine st_enum ?_ | refine st_scr ?_ | refine st_list ?_ | refine st_it ?_ | refine st_comp ?_ | refine st_for ?_ | refine st_gIx ?_ | refine st_range1 ?_ | refine st_app ?_ | refine st_zip ?_ | refine st_rev1 ?_ | refine st_meth ?_ | refine st_isS ?_ | refine st_count ?_ | refine st_sl ?_ | refine st_slT ?_ | refine st_slL ?_ | refine st_max2 ?_ | refine st_min2 ?_
      | refine st_add ?_ | refine st_sub ?_ | refine st_int ?_ | refine st_neg ?_ | refine st_lt ?_ | refine st_le ?_ | refine st_gt ?_ | refine st_ge ?_ | refine st_eq ?_ | refine st_ne ?_ | refine st_eqB ?_ | refine st_neB ?_ | refine st_eqS ?_ | refine st_neS ?_ | refine st_isN ?_ | refine st_sorted ?_ | refine st_abs ?_ | refine st_isNotN ?_
      | refine br_t ?_ | refine br_f ?_)
    | ((with_reducible refine st_var (d := ?_) ?_ ?_); rotate_left; (exact rfl))
    | ((with_reducible refine st_isi2 (k := ?_) (b := true) ?_ ?_ ?_); rotate_left; (exact rfl); (exact rfl))
    | ((with_reducible refine st_isi2 (k := ?_) (b := false) ?_ ?_ ?_); rotate_left; (exact rfl); (exact rfl))
    | ((with_reducible refine st_ix (ds := ?_) (d := ?_) ?_ ?_ ?_); rotate_left 2; (first | exact rfl | exact seq_at (by assumption)); (exact rfl))
    | ((with_reducible refine st_len2 (ds := ?_) (n := ?_) ?_ ?_ ?_); rotate_left 2; (first | exact rfl | exact seq_at (by assumption)); (exact rfl))
    | ((with_reducible refine st_addLL (a := ?_) (b := ?_) ?_ ?_ ?_ ?_); rotate_left 2; (first | exact rfl | exact lst_at (by assumption)); (first | exact rfl | exact lst_at (by assumption)); (exact Nat.le_of_ble_eq_true rfl))
    | ((with_reducible refine st_pow ?_ ?_); (exact ⟨by decide, by decide, by decide⟩))
    | ((with_reducible refine st_mod ?_ ?_); (first | decide | omega))
    | ((with_reducible refine st_size ?_ ?_); (exact rfl))
    | ((with_reducible refine st_gT2 ?_ ?_); (exact rfl))
    | ((with_reducible refine st_gsC ?_))
    | ((with_reducible refine st_gsN ?_))
    | ((with_reducible refine st_mulS ?_ ?_ ?_); omega; omega)
    | ((with_reducible refine br_ct ?_ ?_); (exact rfl))
    | ((with_reducible refine br_cf ?_ ?_); (exact rfl))
    | (rw [list_tup])
    | (rw [list_lst])
    | (rw [items_tup])
    | (rw [items_lst])
    | ((refine st_listM (ds := ?_) ?_ ?_); rotate_left; (first | exact rfl | exact seq_at (by assumption)))
    | ((refine st_itM (it := ?_) ?_ ?_); rotate_left; (first | exact rfl | exact it_at (by assumption))))

theorem dot_addL : ∀ (a b w : List Int), a.length = b.length → dot ((List.zip a b).map fun q => q.1 + q.2) w = dot a w + dot b w
  | [], [], w, _ => by cases w <;> rfl
  | x :: a, y :: b, [], _ => rfl
  | x :: a, y :: b, z :: w, h => by
    show (x + y) * z + dot ((List.zip a b).map fun q => q.1 + q.2) w = x * z + dot a w + (y * z + dot b w)
    rw [dot_addL a b w (by simpa using h), Int.add_mul]
    omega
  | [], _ :: _, _, h => by cases h
  | _ :: _, [], _, h => by cases h

/-! ### knowledge whose fonts are reckoned by hand -/
theorem hB_iff {c : Cond} {u : Int} {ws : List Int} : holdsB c u ws = true ↔ if c.st then dot c.fs ws < c.b * u else dot c.fs ws ≤ c.b * u := by
  unfold holdsB
  split <;> exact decide_eq_true_iff
def unitF (k p : Nat) (f : Int) : List Int := (List.range k).map fun i => if i = p then f else 0
theorem unitF_dot {k p : Nat} {f : Int} {ws : List Int} (hp : p < k) (lw : ws.length = k) : dot (unitF k p f) ws = f * ws.getD p 0 := unitC_dot (b := 0) hp lw
theorem unitF_len (k p : Nat) (f : Int) : (unitF k p f).length = k := by unfold unitF; rw [List.length_map, List.length_range]
theorem unitF_abs {k p : Nat} {f : Int} (h : f.natAbs ≤ 99) : ∀ x, x ∈ unitF k p f → x.natAbs ≤ 99 := fun x hx => by
  obtain ⟨i, _, e⟩ := List.mem_map.mp hx
  rw [← e]
  split
  · exact h
  · decide
/-- one sign between two bounds -/
structure Sp where
  low : Int
  high : Int
  a : Int
  o : Bool
structure SpOk (s : Sp) : Prop where
  l0 : 0 ≤ s.low
  l1 : s.low ≤ 21
  h0 : 0 ≤ s.high
  h1 : s.high ≤ 21
  a0 : 1 ≤ s.a
  a1 : s.a ≤ 3
def loC (k i : Nat) (s : Sp) : Cond := ⟨unitF k i (0 - s.a), 0 - s.a * s.low, s.o⟩
def hiC (k i : Nat) (s : Sp) : Cond := ⟨unitF k i s.a, s.a * s.high, false⟩
def spC (k : Nat) (x : Nat → Sp) (n : Nat) : List Cond := (List.range n).flatMap fun i => [loC k i (x i), hiC k i (x i)]
def tipS (s : Sp) : Int := if 20 < s.high then 20 else s.high
def free1 (s : Sp) : Bool := decide (s.low < tipS s) || (decide (s.low = tipS s) && !s.o)
def spFree (x : Nat → Sp) (n : Nat) : Bool := (List.range n).all fun i => free1 (x i)
theorem spC_succ (k : Nat) (x : Nat → Sp) (n : Nat) : spC k x (n + 1) = spC k x n ++ [loC k n (x n), hiC k n (x n)] := by
  unfold spC
  rw [List.range_succ, List.flatMap_append]
  simp
theorem spC_len (k : Nat) (x : Nat → Sp) (n : Nat) : (spC k x n).length = 2 * n := by
  induction n with
  | zero => rfl
  | succ n ih =>
    rw [spC_succ, List.length_append, ih]
    simp only [List.length_cons, List.length_nil]
    omega
theorem spC_ext {k : Nat} {x y : Nat → Sp} : ∀ {n : Nat}, (∀ i, i < n → x i = y i) → spC k x n = spC k y n
  | 0, _ => rfl
  | n + 1, h => by rw [spC_succ, spC_succ, spC_ext fun i hi => h i (by omega), h n (by omega)]
theorem spFree_succ (x : Nat → Sp) (n : Nat) : spFree x (n + 1) = (spFree x n && free1 (x n)) := by
  unfold spFree
  rw [List.range_succ, List.all_append]
  simp
theorem spFree_ext {x y : Nat → Sp} : ∀ {n : Nat}, (∀ i, i < n → x i = y i) → spFree x n = spFree y n
  | 0, _ => rfl
  | n + 1, h => by rw [spFree_succ, spFree_succ, spFree_ext fun i hi => h i (by omega), h n (by omega)]
theorem spC_t {k n : Nat} {x : Nat → Sp} (ok : ∀ i, i < n → SpOk (x i)) : ∀ c, c ∈ spC k x n → CondT k c := fun c hc => by
  obtain ⟨i, hi, h⟩ := List.mem_flatMap.mp hc
  have s := ok i (List.mem_range.mp hi)
  have l0 := s.l0
  have l1 := s.l1
  have h0 := s.h0
  have h1 := s.h1
  have a0 := s.a0
  have a1 := s.a1
  have m1 : 0 ≤ (x i).a * (x i).low ∧ (x i).a * (x i).low ≤ 3 * 21 := ⟨Int.mul_nonneg (by omega) l0, Int.mul_le_mul a1 l1 l0 (by decide)⟩
  have m2 : 0 ≤ (x i).a * (x i).high ∧ (x i).a * (x i).high ≤ 3 * 21 := ⟨Int.mul_nonneg (by omega) h0, Int.mul_le_mul a1 h1 h0 (by decide)⟩
  simp only [List.mem_cons, List.not_mem_nil, or_false] at h
  rcases h with rfl | rfl
  · exact ⟨unitF_len _ _ _, unitF_abs (show (0 - (x i).a).natAbs ≤ 99 by omega), by show (0 - (x i).a * (x i).low).natAbs ≤ 9999; omega⟩
  · exact ⟨unitF_len _ _ _, unitF_abs (show ((x i).a).natAbs ≤ 99 by omega), by show ((x i).a * (x i).high).natAbs ≤ 9999; omega⟩
theorem spans_iff {l : Str} {x : Nat → Sp} (ok : ∀ i, i < l.length + 1 → SpOk (x i)) : Can l (spC (l.length + 1) x (l.length + 1)) ↔ spFree x (l.length + 1) = true := by
  unfold spFree
  rw [List.all_eq_true]
  constructor
  · rintro ⟨u, ws, u0, lw, bd, hold⟩ i hi
    have il := List.mem_range.mp hi
    have s := ok i il
    have a0 := s.a0
    have lo := hB_iff.mp (hold (loC (l.length + 1) i (x i)) (List.mem_flatMap.mpr ⟨i, hi, List.mem_cons_self ..⟩))
    have hh := hB_iff.mp (hold (hiC (l.length + 1) i (x i)) (List.mem_flatMap.mpr ⟨i, hi, List.mem_cons_of_mem _ (List.mem_cons_self ..)⟩))
    have e1 : dot (loC (l.length + 1) i (x i)).fs ws = (0 - (x i).a) * ws.getD i 0 := unitF_dot il lw
    have e2 : dot (hiC (l.length + 1) i (x i)).fs ws = (x i).a * ws.getD i 0 := unitF_dot il lw
    rw [e1] at lo
    rw [e2] at hh
    have hh : (x i).a * ws.getD i 0 ≤ (x i).a * (x i).high * u := by simpa [hiC] using hh
    have w20 := (bd (ws.getD i 0) (getD_mem (by omega))).2
    generalize ws.getD i 0 = w at *
    have wh : w ≤ (x i).high * u := by
      refine Int.le_of_mul_le_mul_left (a := (x i).a) ?_ (by omega)
      rw [← Int.mul_assoc]
      exact hh
    have wt : w ≤ tipS (x i) * u := by
      unfold tipS
      split <;> omega
    unfold free1
    rw [Bool.or_eq_true, Bool.and_eq_true, decide_eq_true_eq, decide_eq_true_eq]
    have cancel : (x i).low * u ≤ w → (x i).low ≤ tipS (x i) := fun h => Int.le_of_mul_le_mul_right (Int.le_trans h wt) u0
    cases eo : (x i).o with
    | true =>
      have lo : (0 - (x i).a) * w < (0 - (x i).a * (x i).low) * u := by simpa [loC, eo] using lo
      have lt : (x i).low * u < w := by
        refine Int.lt_of_mul_lt_mul_left (a := (x i).a) ?_ (by omega)
        rw [Int.sub_mul, Int.sub_mul, Int.zero_mul, Int.zero_mul] at lo
        rw [← Int.mul_assoc]
        omega
      refine .inl (Int.lt_of_mul_lt_mul_right (Int.lt_of_lt_of_le lt wt) (by omega))
    | false =>
      have lo : (0 - (x i).a) * w ≤ (0 - (x i).a * (x i).low) * u := by simpa [loC, eo] using lo
      have le : (x i).low * u ≤ w := by
        refine Int.le_of_mul_le_mul_left (a := (x i).a) ?_ (by omega)
        rw [Int.sub_mul, Int.sub_mul, Int.zero_mul, Int.zero_mul] at lo
        rw [← Int.mul_assoc]
        omega
      have := cancel le
      by_cases e : (x i).low < tipS (x i)
      · exact .inl e
      · exact .inr ⟨by omega, rfl⟩
  · intro h
    have top : ∀ i, i < l.length + 1 → 0 ≤ tipS (x i) ∧ tipS (x i) ≤ 20 ∧ tipS (x i) ≤ (x i).high := fun i hi => by
      have := (ok i hi).h0
      unfold tipS
      split <;> omega
    have lw : ((List.range (l.length + 1)).map fun i => tipS (x i)).length = l.length + 1 := by rw [List.length_map, List.length_range]
    have at_ : ∀ i, i < l.length + 1 → ((List.range (l.length + 1)).map fun i => tipS (x i)).getD i 0 = tipS (x i) := fun i hi => by
      rw [getD_map' (x := 0) (by rw [List.length_range]; exact hi), List.getD_eq_getElem?_getD, List.getElem?_range hi]
      rfl
    refine ⟨1, (List.range (l.length + 1)).map fun i => tipS (x i), by decide, lw, fun w hw => ?_, fun c hc => ?_⟩
    · obtain ⟨i, hi, e⟩ := List.mem_map.mp hw
      have := top i (List.mem_range.mp hi)
      omega
    · obtain ⟨i, hi, hm⟩ := List.mem_flatMap.mp hc
      have il := List.mem_range.mp hi
      have s := ok i il
      have a0 := s.a0
      have t := top i il
      have f := h i hi
      unfold free1 at f
      rw [Bool.or_eq_true, Bool.and_eq_true, decide_eq_true_eq, decide_eq_true_eq] at f
      simp only [List.mem_cons, List.not_mem_nil, or_false] at hm
      rw [hB_iff]
      rcases hm with rfl | rfl
      · have e1 : dot (loC (l.length + 1) i (x i)).fs ((List.range (l.length + 1)).map fun i => tipS (x i)) = (0 - (x i).a) * tipS (x i) := (unitF_dot il lw).trans (by rw [at_ i il])
        rw [e1]
        show if (x i).o then (0 - (x i).a) * tipS (x i) < (0 - (x i).a * (x i).low) * 1 else (0 - (x i).a) * tipS (x i) ≤ (0 - (x i).a * (x i).low) * 1
        rw [Int.sub_mul, Int.zero_mul, Int.mul_one]
        rcases f with f | ⟨f, g⟩
        · have := Int.mul_lt_mul_of_pos_left f (show 0 < (x i).a by omega)
          split <;> omega
        · have g : (x i).o = false := by simpa using g
          rw [g, ← f]
          simp
      · have e2 : dot (hiC (l.length + 1) i (x i)).fs ((List.range (l.length + 1)).map fun i => tipS (x i)) = (x i).a * tipS (x i) := (unitF_dot il lw).trans (by rw [at_ i il])
        rw [e2]
        show if false = true then _ else (x i).a * tipS (x i) ≤ (x i).a * (x i).high * 1
        rw [if_neg (by decide), Int.mul_one]
        exact Int.mul_le_mul_of_nonneg_left t.2.2 (by omega)
/-! ### chains -/
def linkF (k : Nat) (m : Int) (p : Nat) : List Int := (List.zip (unitF k (p - 1) m) (unitF k p (-1))).map fun q => q.1 + q.2
def chC (k : Nat) (m : Int) (o : Bool) (j : Nat) : List Cond := ⟨unitF k 0 (-1), -1, false⟩ :: (List.range j).map fun i => ⟨linkF k m (i + 1), 0, o⟩
theorem link_dot {k p : Nat} {m : Int} {ws : List Int} (p1 : 1 ≤ p) (hp : p < k) (lw : ws.length = k) : dot (linkF k m p) ws = m * ws.getD (p - 1) 0 - ws.getD p 0 := by
  unfold linkF
  rw [dot_addL _ _ _ (by rw [unitF_len, unitF_len]), unitF_dot (by omega) lw, unitF_dot hp lw]
  omega
theorem chC_t {k j : Nat} {m : Int} {o : Bool} (hm : m.natAbs ≤ 5) : ∀ c, c ∈ chC k m o j → CondT k c := fun c hc => by
  rcases List.mem_cons.mp hc with rfl | h
  · exact ⟨unitF_len _ _ _, unitF_abs (by decide), by show (1 : Nat) ≤ 9999; decide⟩
  · obtain ⟨i, _, rfl⟩ := List.mem_map.mp h
    refine ⟨by show (linkF _ _ _).length = _; unfold linkF; rw [List.length_map, List.length_zip, unitF_len, unitF_len, Nat.min_self], fun f hf => ?_, by show (0 : Nat) ≤ 9999; decide⟩
    obtain ⟨q, hq, e⟩ := List.mem_map.mp hf
    have h1 := List.of_mem_zip hq
    obtain ⟨i1, _, e1⟩ := List.mem_map.mp h1.1
    obtain ⟨i2, _, e2⟩ := List.mem_map.mp h1.2
    rw [← e, ← e1, ← e2]
    split <;> split <;> omega
theorem pow_pos' {m : Int} (m1 : 1 ≤ m) : ∀ j : Nat, 1 ≤ m ^ j
  | 0 => by
    rw [Int.pow_zero]
    exact Int.le_refl _
  | j + 1 => by
    rw [Int.pow_succ]
    have := Int.mul_le_mul (pow_pos' m1 j) m1 (by decide) (by have := pow_pos' m1 j; omega)
    omega
/-- the widths of a chain: the first one N, each next one m times as wide and s more -/
def chW (m N s : Int) : Nat → Int
  | 0 => N
  | j + 1 => m * chW m N s j + s
theorem chW_le {m N s : Int} (m1 : 1 ≤ m) (s0 : 0 ≤ s) : ∀ j : Nat, m ^ j * N ≤ chW m N s j ∧ chW m N s j ≤ m ^ j * (N + j * s)
  | 0 => by
    show m ^ 0 * N ≤ N ∧ N ≤ m ^ 0 * (N + 0 * s)
    rw [Int.pow_zero]
    omega
  | j + 1 => by
    obtain ⟨a, b⟩ := chW_le (N := N) m1 s0 j
    have p := pow_pos' m1 j
    have p1 := pow_pos' m1 (j + 1)
    show m ^ (j + 1) * N ≤ m * chW m N s j + s ∧ m * chW m N s j + s ≤ m ^ (j + 1) * (N + ((j + 1 : Nat) : Int) * s)
    have a1 := Int.mul_le_mul_of_nonneg_left a (show 0 ≤ m by omega)
    have b1 := Int.mul_le_mul_of_nonneg_left b (show 0 ≤ m by omega)
    have e1 : m * (m ^ j * N) = m ^ (j + 1) * N := by rw [Int.pow_succ]; grind
    have e2 : m * (m ^ j * (N + (j : Int) * s)) = m ^ (j + 1) * (N + (j : Int) * s) := by rw [Int.pow_succ]; grind
    have e3 : m ^ (j + 1) * (N + ((j + 1 : Nat) : Int) * s) = m ^ (j + 1) * (N + (j : Int) * s) + m ^ (j + 1) * s := by
      rw [show ((j + 1 : Nat) : Int) = (j : Int) + 1 from rfl]
      grind
    have c := Int.mul_le_mul_of_nonneg_right p1 s0
    rw [Int.one_mul] at c
    omega
theorem chW_up {m N s : Int} (m1 : 1 ≤ m) (N0 : 0 ≤ N) (s0 : 0 ≤ s) : ∀ (j d : Nat), chW m N s j ≤ chW m N s (j + d) ∧ 0 ≤ chW m N s j
  | j, 0 => ⟨Int.le_refl _, by
    have := (chW_le (N := N) m1 s0 j).1
    have := Int.mul_nonneg (show 0 ≤ m ^ j by have := pow_pos' m1 j; omega) N0
    omega⟩
  | j, d + 1 => by
    obtain ⟨a, b⟩ := chW_up (N := N) m1 N0 s0 j d
    obtain ⟨_, c⟩ := chW_up (N := N) m1 N0 s0 (j + d) 0
    refine ⟨Int.le_trans a ?_, b⟩
    show chW m N s (j + d) ≤ m * chW m N s (j + d) + s
    have := Int.mul_le_mul_of_nonneg_right m1 c
    omega
theorem chain_iff {l : Str} {m : Int} {o : Bool} (l1 : 1 ≤ l.length) (l4 : l.length ≤ 4) (m1 : 1 ≤ m) (m5 : m ≤ 5) : Can l (chC (l.length + 1) m o l.length) ↔ (m ^ l.length < 20 ∨ (m ^ l.length = 20 ∧ o = false)) := by
  constructor
  · rintro ⟨u, ws, u0, lw, bd, hold⟩
    have h0 := hB_iff.mp (hold ⟨unitF (l.length + 1) 0 (-1), -1, false⟩ (List.mem_cons_self ..))
    have h0 : dot (unitF (l.length + 1) 0 (-1)) ws ≤ -1 * u := by simpa using h0
    rw [unitF_dot (by omega) lw] at h0
    have step : ∀ j, j ≤ l.length → m ^ j * u ≤ ws.getD j 0 ∧ (o = true → 1 ≤ j → m ^ j * u < ws.getD j 0) := fun j => by
      induction j with
      | zero =>
        intro _
        rw [Int.pow_zero]
        exact ⟨by omega, fun _ h => by omega⟩
      | succ j ih =>
        intro hj
        obtain ⟨a, b⟩ := ih (by omega)
        have h := hB_iff.mp (hold ⟨linkF (l.length + 1) m (j + 1), 0, o⟩ (List.mem_cons_of_mem _ (List.mem_map.mpr ⟨j, List.mem_range.mpr (by omega), rfl⟩)))
        have d : dot (linkF (l.length + 1) m (j + 1)) ws = m * ws.getD j 0 - ws.getD (j + 1) 0 := link_dot (by omega) (by omega) lw
        have h : if o then m * ws.getD j 0 - ws.getD (j + 1) 0 < 0 * u else m * ws.getD j 0 - ws.getD (j + 1) 0 ≤ 0 * u := by rw [← d]; exact h
        rw [Int.zero_mul] at h
        have a1 := Int.mul_le_mul_of_nonneg_left a (show 0 ≤ m by omega)
        have e1 : m * (m ^ j * u) = m ^ (j + 1) * u := by rw [Int.pow_succ]; grind
        rw [e1] at a1
        cases o with
        | true =>
          simp only [if_true] at h
          exact ⟨by omega, fun _ _ => by omega⟩
        | false =>
          simp only [Bool.false_eq_true, if_false] at h
          exact ⟨by omega, nofun⟩
    obtain ⟨a, b⟩ := step l.length (Nat.le_refl _)
    have w20 := (bd (ws.getD l.length 0) (getD_mem (by omega))).2
    generalize ws.getD l.length 0 = w at *
    generalize m ^ l.length = T at *
    cases o with
    | true =>
      have lt := b rfl l1
      exact .inl (Int.lt_of_mul_lt_mul_right (a := u) (by omega) (by omega))
    | false =>
      have : T ≤ 20 := Int.le_of_mul_le_mul_right (a := u) (by omega) u0
      by_cases e : T < 20
      · exact .inl e
      · exact .inr ⟨by omega, rfl⟩
  · intro h
    obtain ⟨N, s, N0, s0, fit, st⟩ : ∃ N s : Int, 0 < N ∧ 0 ≤ s ∧ chW m N s l.length ≤ 20 * N ∧ (o = true → 0 < s) := by
      cases o with
      | false =>
        refine ⟨1, 0, by decide, by decide, ?_, nofun⟩
        have := (chW_le (m := m) (N := 1) (s := 0) m1 (by decide) l.length).2
        rw [Int.mul_zero, Int.add_zero, Int.mul_one] at this
        rcases h with h | ⟨h, _⟩ <;> omega
      | true =>
        have h := h.resolve_right fun z => nomatch z.2
        refine ⟨100, 1, by decide, by decide, ?_, fun _ => by decide⟩
        have := (chW_le (m := m) (N := 100) (s := 1) m1 (by decide) l.length).2
        have b := Int.mul_le_mul (show m ^ l.length ≤ 19 by omega) (show (100 : Int) + (l.length : Int) * 1 ≤ 104 by omega) (by omega) (by decide)
        omega
    have lw : ((List.range (l.length + 1)).map fun i => chW m N s i).length = l.length + 1 := by rw [List.length_map, List.length_range]
    have at_ : ∀ i, i < l.length + 1 → ((List.range (l.length + 1)).map fun i => chW m N s i).getD i 0 = chW m N s i := fun i hi => by
      rw [getD_map' (x := 0) (by rw [List.length_range]; exact hi), List.getD_eq_getElem?_getD, List.getElem?_range hi]
      rfl
    refine ⟨N, (List.range (l.length + 1)).map fun i => chW m N s i, N0, lw, fun w hw => ?_, fun c hc => ?_⟩
    · obtain ⟨i, hi, e⟩ := List.mem_map.mp hw
      have il := List.mem_range.mp hi
      obtain ⟨a, b⟩ := chW_up (m := m) (N := N) (s := s) m1 (by omega) s0 i (l.length - i)
      rw [show i + (l.length - i) = l.length by omega] at a
      omega
    · rw [hB_iff]
      rcases List.mem_cons.mp hc with rfl | h
      · show if false = true then _ else dot (unitF (l.length + 1) 0 (-1)) _ ≤ -1 * N
        rw [if_neg (by decide), unitF_dot (by omega) lw, at_ 0 (by omega)]
        exact Int.le_refl _
      · obtain ⟨i, hi, rfl⟩ := List.mem_map.mp h
        have il := List.mem_range.mp hi
        show if o then dot (linkF (l.length + 1) m (i + 1)) _ < 0 * N else dot (linkF (l.length + 1) m (i + 1)) _ ≤ 0 * N
        rw [link_dot (by omega) (by omega) lw, Nat.add_sub_cancel, at_ i (by omega), at_ (i + 1) (by omega), Int.zero_mul]
        show if o then m * chW m N s i - (m * chW m N s i + s) < 0 else m * chW m N s i - (m * chW m N s i + s) ≤ 0
        cases o with
        | true =>
          have := st rfl
          simp only [if_true]
          omega
        | false =>
          simp only [Bool.false_eq_true, if_false]
          omega
/-! ### sums -/
def suC (k : Nat) (total most : Int) (o : Bool) : List Cond := [⟨List.replicate k 1, total, false⟩, ⟨List.replicate k (-1), 0 - total, false⟩] ++ (List.range k).map fun p => ⟨unitF k p 1, most, o⟩
theorem dot_rep : ∀ (k : Nat) (f : Int) (ws : List Int), ws.length = k → dot (List.replicate k f) ws = f * ws.sum
  | 0, f, [], _ => (Int.mul_zero f).symm
  | k + 1, f, w :: ws, h => by
    show f * w + dot (List.replicate k f) ws = f * (w :: ws).sum
    rw [dot_rep k f ws (by simpa using h), List.sum_cons, Int.mul_add]
  | 0, _, _ :: _, h => by cases h
  | k + 1, _, [], h => by cases h
theorem suC_t {k : Nat} {total most : Int} {o : Bool} (h1 : total.natAbs ≤ 200) (h2 : most.natAbs ≤ 200) : ∀ c, c ∈ suC k total most o → CondT k c := fun c hc => by
  rcases List.mem_append.mp hc with h | h
  · simp only [List.mem_cons, List.not_mem_nil, or_false] at h
    rcases h with rfl | rfl
    · exact ⟨List.length_replicate .., fun f hf => by rw [(List.mem_replicate.mp hf).2]; decide, by show total.natAbs ≤ 9999; omega⟩
    · exact ⟨List.length_replicate .., fun f hf => by rw [(List.mem_replicate.mp hf).2]; decide, by show (0 - total).natAbs ≤ 9999; omega⟩
  · obtain ⟨p, _, rfl⟩ := List.mem_map.mp h
    exact ⟨unitF_len _ _ _, unitF_abs (by decide), by show most.natAbs ≤ 9999; omega⟩
theorem sumL_le : ∀ (ws : List Int) (c : Int), (∀ w, w ∈ ws → w ≤ c) → ws.sum ≤ ws.length * c
  | [], c, _ => by simp
  | w :: ws, c, h => by
    have a := sumL_le ws c fun x hx => h x (List.mem_cons_of_mem _ hx)
    have b := h w (List.mem_cons_self ..)
    rw [List.sum_cons, List.length_cons, show ((ws.length + 1 : Nat) : Int) = (ws.length : Int) + 1 from rfl, Int.add_mul, Int.one_mul]
    omega
theorem sumL_lt : ∀ (ws : List Int) (c : Int), ws ≠ [] → (∀ w, w ∈ ws → w < c) → ws.sum < ws.length * c
  | [], c, n, _ => absurd rfl n
  | w :: ws, c, _, h => by
    have a := sumL_le ws c fun x hx => Int.le_of_lt (h x (List.mem_cons_of_mem _ hx))
    have b := h w (List.mem_cons_self ..)
    rw [List.sum_cons, List.length_cons, show ((ws.length + 1 : Nat) : Int) = (ws.length : Int) + 1 from rfl, Int.add_mul, Int.one_mul]
    omega
theorem sum_rep (k : Nat) (c : Int) : (List.replicate k c).sum = k * c := by
  induction k with
  | zero => simp
  | succ k ih =>
    rw [List.replicate_succ, List.sum_cons, ih, show ((k + 1 : Nat) : Int) = (k : Int) + 1 from rfl, Int.add_mul, Int.one_mul]
    omega
/-- what the law reckons -/
def sumsDue (k total most : Int) (o : Bool) : Bool := if most > 20 then decide (total ≤ 20 * k) else decide (total < most * k) || (decide (total = most * k) && !o)
theorem sums_iff {l : Str} {total most : Int} {o : Bool} (t0 : 0 ≤ total) (m0 : 0 ≤ most) : Can l (suC (l.length + 1) total most o) ↔ sumsDue ((l.length + 1 : Nat) : Int) total most o = true := by
  obtain ⟨k, ek⟩ : ∃ k : Nat, k = l.length + 1 := ⟨_, rfl⟩
  rw [← ek]
  have k0 : (0 : Int) < (k : Int) := by omega
  unfold sumsDue
  constructor
  · rintro ⟨u, ws, u0, lw, bd, hold⟩
    rw [← ek] at lw
    have h1 := hB_iff.mp (hold ⟨List.replicate k 1, total, false⟩ (List.mem_append_left _ (List.mem_cons_self ..)))
    have h2 := hB_iff.mp (hold ⟨List.replicate k (-1), 0 - total, false⟩ (List.mem_append_left _ (List.mem_cons_of_mem _ (List.mem_cons_self ..))))
    have h1 : dot (List.replicate k 1) ws ≤ total * u := by simpa using h1
    have h2 : dot (List.replicate k (-1)) ws ≤ (0 - total) * u := h2
    rw [dot_rep k _ ws lw] at h1 h2
    rw [Int.sub_mul, Int.zero_mul] at h2
    have es : ws.sum = total * u := by omega
    have s20 := sumL_le ws (20 * u) fun w hw => (bd w hw).2
    rw [lw, es] at s20
    have each : ∀ w, w ∈ ws → if o then w < most * u else w ≤ most * u := fun w hw => by
      obtain ⟨p, hp, e⟩ := List.getElem_of_mem hw
      have h := hB_iff.mp (hold ⟨unitF k p 1, most, o⟩ (List.mem_append_right _ (List.mem_map.mpr ⟨p, List.mem_range.mpr (by omega), rfl⟩)))
      have d : dot (unitF k p 1) ws = w := by
        rw [unitF_dot (by omega) lw, Int.one_mul, List.getD_eq_getElem?_getD, List.getElem?_eq_getElem hp]
        exact e
      have h : if o then dot (unitF k p 1) ws < most * u else dot (unitF k p 1) ws ≤ most * u := h
      rw [d] at h
      exact h
    by_cases big : most > 20
    · rw [if_pos big]
      refine decide_eq_true (Int.le_of_mul_le_mul_right (a := u) ?_ u0)
      have e : (k : Int) * (20 * u) = 20 * (k : Int) * u := by grind
      omega
    · rw [if_neg big, Bool.or_eq_true, Bool.and_eq_true, decide_eq_true_eq, decide_eq_true_eq]
      have e : (k : Int) * (most * u) = most * (k : Int) * u := by grind
      cases o with
      | true =>
        have s := sumL_lt ws (most * u) (fun z => by rw [z] at lw; simp at lw; omega) fun w hw => by simpa using each w hw
        rw [lw, es, e] at s
        exact .inl (Int.lt_of_mul_lt_mul_right s (by omega))
      | false =>
        have s := sumL_le ws (most * u) fun w hw => by simpa using each w hw
        rw [lw, es, e] at s
        have := Int.le_of_mul_le_mul_right s u0
        by_cases lt : total < most * (k : Int)
        · exact .inl lt
        · exact .inr ⟨by omega, rfl⟩
  · intro h
    have lw : (List.replicate k total).length = k := List.length_replicate ..
    have t20 : total ≤ 20 * (k : Int) := by
      by_cases big : most > 20
      · rw [if_pos big] at h
        exact of_decide_eq_true h
      · rw [if_neg big, Bool.or_eq_true, Bool.and_eq_true, decide_eq_true_eq, decide_eq_true_eq] at h
        have := Int.mul_le_mul_of_nonneg_right (show most ≤ 20 by omega) (show 0 ≤ (k : Int) by omega)
        rcases h with h | ⟨h, _⟩ <;> omega
    have each : if o then total < most * (k : Int) else total ≤ most * (k : Int) := by
      by_cases big : most > 20
      · have := Int.mul_lt_mul_of_pos_right (show (20 : Int) < most by omega) k0
        split <;> omega
      · rw [if_neg big, Bool.or_eq_true, Bool.and_eq_true, decide_eq_true_eq, decide_eq_true_eq] at h
        cases o with
        | true =>
          rcases h with h | ⟨_, h⟩
          · simpa using h
          · cases h
        | false =>
          simp only [Bool.false_eq_true, if_false]
          rcases h with h | ⟨h, _⟩ <;> omega
    refine ⟨(k : Int), List.replicate k total, k0, by rw [lw, ek], fun w hw => ?_, fun c hc => ?_⟩
    · rw [(List.mem_replicate.mp hw).2]
      exact ⟨t0, t20⟩
    · rw [hB_iff]
      rcases List.mem_append.mp hc with h | h
      · simp only [List.mem_cons, List.not_mem_nil, or_false] at h
        rcases h with rfl | rfl
        · show if false = true then _ else dot (List.replicate k 1) _ ≤ total * (k : Int)
          rw [if_neg (by decide), dot_rep k _ _ lw, sum_rep, Int.one_mul, Int.mul_comm]
          exact Int.le_refl _
        · show if false = true then _ else dot (List.replicate k (-1)) _ ≤ (0 - total) * (k : Int)
          rw [if_neg (by decide), dot_rep k _ _ lw, sum_rep, Int.sub_mul, Int.zero_mul, Int.mul_comm (k : Int)]
          omega
      · obtain ⟨p, hp, rfl⟩ := List.mem_map.mp h
        have pk := List.mem_range.mp hp
        show if o then dot (unitF k p 1) _ < most * (k : Int) else dot (unitF k p 1) _ ≤ most * (k : Int)
        rw [unitF_dot pk lw, Int.one_mul, List.getD_eq_getElem?_getD, List.getElem?_replicate, if_pos pk]
        exact each


end G

set_option Elab.async false
set_option linter.all false
set_option maxRecDepth 100000
set_option autoImplicit false
set_option maxHeartbeats 2000000
namespace G
open PySem PySem.Spec PyProof.Rows L2
local macro_rules
  | `(tactic| get_elem_tactic_trivial) => `(tactic| first
    | (with_reducible first
      | refine st_seqSet ?_ | refine st_seqAsg ?_ | refine st_seqDo ?_ | refine st_seqPar ?_ | refine st_seqPar3 ?_ | refine st_seqFor ?_ | refine st_seqWhile ?_ | refine st_seqAug ?_ | refine st_seqSkip ?_ | refine st_seqRet ?_
      | refine st_skip ?_ | refine st_ret ?_ | refine st_retN ?_ | refine st_do ?_ | refine st_if ?_ | refine st_set ?_ | refine st_asg ?_ | refine st_par ?_ | refine st_par3 ?_
      | refine st_c ?_ | refine st_op2 ?_ | refine st_op1 ?_ | refine st_test ?_ | refine st_tbl ?_ | refine st_and ?_ | refine st_or ?_ | refine st_not ?_ | refine st_andV ?_ | refine st_orV ?_ | refine st_notV ?_ | refine st_bl ?_
      | refine st_chain ?_ | refine st_ifE ?_ | refine st_nil ?_ | refine st_cons ?_ | refine st_call ?_ | refine st_fr ?_ | refine st_lv ?_ | refine st_one ?_ | refine st_two ?_
      | refine st_gN ?_ | refine st_lst ?_ | refine st_tup ?_ | refine st_slF ?_ | refine st_oNo ?_ | refine st_oS ?_ | refine st_enum ?_ | refine st_scr ?_ | refine st_list ?_ | refine st_it ?_ | refine st_comp ?_ | refine st_for ?_ | refine st_gIx ?_ | refine st_range1 ?_ | refine st_app ?_ | refine st_zip ?_ | refine st_rev1 ?_ | refine st_meth ?_ | refine st_isS ?_ | refine st_count ?_ | refine st_sl ?_ | refine st_slT ?_ | refine st_slL ?_ | refine st_max2 ?_ | refine st_min2 ?_
      | refine st_add ?_ | refine st_sub ?_ | refine st_int ?_ | refine st_neg ?_ | refine st_lt ?_ | refine st_le ?_ | refine st_gt ?_ | refine st_ge ?_ | refine st_eq ?_ | refine st_ne ?_ | refine st_eqB ?_ | refine st_neB ?_ | refine st_eqS ?_ | refine st_neS ?_ | refine st_isN ?_ | refine st_sorted ?_ | refine st_abs ?_ | refine st_isNotN ?_
      | refine br_t ?_ | refine br_f ?_)
    | ((with_reducible refine st_var (d := ?_) ?_ ?_); rotate_left; (exact rfl))
    | ((with_reducible refine st_isi2 (k := ?_) (b := true) ?_ ?_ ?_); rotate_left; (exact rfl); (exact rfl))
    | ((with_reducible refine st_isi2 (k := ?_) (b := false) ?_ ?_ ?_); rotate_left; (exact rfl); (exact rfl))
    | ((with_reducible refine st_ix (ds := ?_) (d := ?_) ?_ ?_ ?_); rotate_left 2; (first | exact rfl | exact seq_at (by assumption)); (exact rfl))
    | ((with_reducible refine st_len2 (ds := ?_) (n := ?_) ?_ ?_ ?_); rotate_left 2; (first | exact rfl | exact seq_at (by assumption)); (exact rfl))
    | ((with_reducible refine st_addLL (a := ?_) (b := ?_) ?_ ?_ ?_ ?_); rotate_left 2; (first | exact rfl | exact lst_at (by assumption)); (first | exact rfl | exact lst_at (by assumption)); (exact Nat.le_of_ble_eq_true rfl))
    | ((with_reducible refine st_pow ?_ ?_); (exact ⟨by decide, by decide, by decide⟩))
    | ((with_reducible refine st_mod ?_ ?_); (first | decide | omega))
    | ((with_reducible refine st_size ?_ ?_); (exact rfl))
    | ((with_reducible refine st_gT2 ?_ ?_); (exact rfl))
    | ((with_reducible refine st_gsC ?_))
    | ((with_reducible refine st_gsN ?_))
    | ((with_reducible refine st_mulS ?_ ?_ ?_); omega; omega)
    | ((with_reducible refine br_ct ?_ ?_); (exact rfl))
    | ((with_reducible refine br_cf ?_ ?_); (exact rfl))
    | (rw [list_tup])
    | (rw [list_lst])
    | (rw [items_tup])
    | (rw [items_lst])
    | ((refine st_listM (ds := ?_) ?_ ?_); rotate_left; (first | exact rfl | exact seq_at (by assumption)))
    | ((refine st_itM (it := ?_) ?_ ?_); rotate_left; (first | exact rfl | exact it_at (by assumption))))

local macro_rules
  | `(tactic| get_elem_tactic_trivial) => `(tactic| first
    | (with_reducible refine st_fld ?_)
    | (with_reducible refine st_mt ?_)
    | (with_reducible refine st_gFld ?_)
    | (with_reducible refine st_lix ?_)
    | (with_reducible refine st_rep ?_)
    | (with_reducible refine st_cat ?_)
    | (with_reducible refine st_lrng ?_)
    | (with_reducible refine st_frz ?_)
    | ((with_reducible refine fld_size (T := ?_) (pc := ?_) (pb := ?_) ?_ ?_); rotate_left 3; (assumption))
    | ((with_reducible refine fld_rows (T := ?_) (pc := ?_) (pb := ?_) ?_ ?_); rotate_left 3; (assumption))
    | ((with_reducible refine fld_goal (T := ?_) (pc := ?_) (pb := ?_) ?_ ?_); rotate_left 3; (assumption))
    | ((with_reducible refine fld_cols (T := ?_) (pc := ?_) (pb := ?_) ?_ ?_); rotate_left 3; (assumption))
    | ((with_reducible refine fld_basis (T := ?_) (pc := ?_) (pb := ?_) ?_ ?_); rotate_left 3; (assumption))
    | ((with_reducible refine fld_den (T := ?_) (pc := ?_) (pb := ?_) ?_ ?_); rotate_left 3; (assumption))
    | ((with_reducible refine mt_go (T := ?_) (pc := ?_) (pb := ?_) ?_ ?_ ?_); rotate_left 3; (assumption); (exact rfl)))

/-! ### the program's own look at fonts -/
/-! ### the laws' knowledge, walked -/
theorem sp_law_unit {k p : Nat} {f : Int} {S : Sto} {K : KE} (hk : k ≤ 100) (hf : f.natAbs ≤ 1000) (h : K (.tup ((unitF k p f).map D.int)) S) : c_law_unit [.int (k : Nat), .int (p : Nat), .int f] S K := by
  refine st_def rfl ?_
  unfold w_law_unit
  repeat get_elem_tactic_trivial
  try dsimp only [List.set_cons_succ, List.set_cons_zero]
  refine ⟨_, rfl, by omega, by omega, ?_⟩
  rw [Int.toNat_natCast, irangeZ]
  refine comp_mapL (List.range k) (fun i => D.int ((i : Nat) : Int)) (fun i => .int (if i = p then f else 0)) trivial (by rw [List.length_range]; unfold sizeLine; omega) (fun i hi K1 F1 k1 => ?_) ?_
  · repeat get_elem_tactic_trivial
    try dsimp only [List.set_cons_succ, List.set_cons_zero]
    refine st_intB ?_
    by_cases e : i = p
    · rw [if_pos (decide_eq_true (by omega))]
      refine st_mulS (by omega) (by decide) ?_
      rw [if_pos e] at k1
      rw [Int.mul_one]
      exact k1
    · rw [if_neg (by rw [decide_eq_true_eq]; omega)]
      refine st_mulS (by omega) (by decide) ?_
      rw [if_neg e] at k1
      rw [Int.mul_zero]
      exact k1
  repeat get_elem_tactic_trivial
  try dsimp only [List.set_cons_succ, List.set_cons_zero]
  refine st_tuple rfl ?_
  repeat get_elem_tactic_trivial
  try dsimp only [List.set_cons_succ, List.set_cons_zero]
  unfold unitF at h
  rw [List.map_map] at h
  exact fin.of h
/-- what the three functions tell -/
def Due (l : Str) (cs : List Cond) (d : D) : Prop := d = .non ∨ ∃ b : Bool, d = .bl b ∧ (b = true ↔ Can l cs)
theorem sp_law_spans {n : Nat} {p : Addr} {l : Str} {S : Sto} {K : KE} (hp : Pn n S p) (hn : n < 2 ^ 20) (hl : LetOk l) (h : ∀ cs d S', cs.length ≤ 8 → (∀ c, c ∈ cs → CondT (l.length + 1) c) → Due l cs d → Pn (n + 100) S' p → Oth p S S' → K (.tup [.lst (cs.map condD), d]) S') : c_law_spans [.cell p, .int ((l.length + 1 : Nat) : Int)] S K := by
  have l1 := hl.l1
  have l4 := hl.l4
  refine st_def rfl ?_
  unfold w_law_spans
  repeat get_elem_tactic_trivial
  try dsimp only [List.set_cons_succ, List.set_cons_zero]
  intro q nq
  obtain ⟨k, ek⟩ : ∃ k, k = l.length + 1 := ⟨_, rfl⟩
  rw [← ek] at h ⊢
  have qp := hp.ne nq
  have hp0 := hp.setO (c := .lst []) qp
  have hq0 : (S.set q (.lst [])) q = some (.lst ((spC k (fun _ => ⟨0, 0, 1, false⟩) 0).map condD)) := Sto.set_same
  have ho0 : ∀ b, b ≠ p → b ≠ q → (S.set q (.lst [])) b = S b := fun b n1 n2 => Sto.set_ne n2
  generalize S.set q (.lst []) = S0 at *
  repeat get_elem_tactic_trivial
  try dsimp only [List.set_cons_succ, List.set_cons_zero]
  refine ⟨_, rfl, by omega, by omega, ?_⟩
  rw [Int.toNat_natCast, irange_ups]
  refine for_ind (I := fun ds ρ S1 => ∃ (j r : Nat) (x : Nat → Sp) (x4 x5 x6 x7 x8 x9 : Option D), ds = ups j r ∧ j + r = k ∧ ρ = [some (.cell p), some (.int (k : Nat)), some (.cell q), some (.bl (spFree x j)), x4, x5, x6, x7, x8, x9] ∧ Pn (n + 4 * j) S1 p ∧ S1 q = some (.lst ((spC k x j).map condD)) ∧ (∀ b, b ≠ p → b ≠ q → S1 b = S b) ∧ ∀ i, i < j → SpOk (x i)) ⟨0, k, _, _, _, _, _, _, _, rfl, by omega, rfl, hp0, hq0, ho0, fun i hi => by omega⟩ (fun ρ S1 ⟨j, r, x, x4, x5, x6, x7, x8, x9, v1, v2, v3, v4, v5, v6, v7⟩ => ⟨trivial, ?_⟩) fun d ds F ih ρ S1 ⟨j, r, x, x4, x5, x6, x7, x8, x9, v1, v2, v3, v4, v5, v6, v7⟩ => ⟨trivial, ?_⟩
  case refine_2 =>
    subst v3
    cases r with
    | zero => cases v1
    | succ r =>
      injection v1 with v1 v9
      subst v1
      repeat get_elem_tactic_trivial
      try dsimp only [List.set_cons_succ, List.set_cons_zero]
      refine sp_take v4 (by omega) (by decide) (by decide) fun low S2 lo0 lo1 hp2 ho2 => ?_
      repeat get_elem_tactic_trivial
      try dsimp only [List.set_cons_succ, List.set_cons_zero]
      refine sp_take hp2 (by omega) (by decide) (by decide) fun high S3 hi0 hi1 hp3 ho3 => ?_
      repeat get_elem_tactic_trivial
      try dsimp only [List.set_cons_succ, List.set_cons_zero]
      refine sp_take hp3 (by omega) (by decide) (by decide) fun ra S4 ra0 ra1 hp4 ho4 => ?_
      obtain ⟨a, ea⟩ : ∃ a, a = 1 + ra := ⟨_, rfl⟩
      repeat get_elem_tactic_trivial
      try dsimp only [List.set_cons_succ, List.set_cons_zero]
      rw [← ea]
      refine sp_take hp4 (by omega) (by decide) (by decide) fun op S5 op0 op1 hp5 ho5 => ?_
      have oth : ∀ b, b ≠ p → S5 b = S1 b := fun b bp => by rw [ho5 b bp, ho4 b bp, ho3 b bp, ho2 b bp]
      have hq5 : S5 q = some (.lst ((spC k x j).map condD)) := (oth q qp).trans v5
      repeat get_elem_tactic_trivial
      try dsimp only [List.set_cons_succ, List.set_cons_zero]
      obtain ⟨o, eo⟩ : ∃ o, o = decide (op = 0) := ⟨_, rfl⟩
      rw [← eo]
      have sok : SpOk ⟨low, high, a, o⟩ := ⟨lo0, by show low ≤ 21; omega, hi0, by show high ≤ 21; omega, by show 1 ≤ a; omega, by show a ≤ 3; omega⟩
      have lc := spC_len k x j
      repeat get_elem_tactic_trivial
      try dsimp only [List.set_cons_succ, List.set_cons_zero]
      refine ⟨q, rfl, ⟨_, hq5⟩, ?_⟩
      repeat get_elem_tactic_trivial
      try dsimp only [List.set_cons_succ, List.set_cons_zero]
      refine sp_law_unit (by omega) (by omega) ?_
      repeat get_elem_tactic_trivial
      try dsimp only [List.set_cons_succ, List.set_cons_zero]
      refine ⟨_, hq5, by rw [List.length_map]; unfold sizeLine; omega, ?_⟩
      repeat get_elem_tactic_trivial
      try dsimp only [List.set_cons_succ, List.set_cons_zero]
      refine ⟨q, rfl, ⟨_, Sto.set_same⟩, ?_⟩
      repeat get_elem_tactic_trivial
      try dsimp only [List.set_cons_succ, List.set_cons_zero]
      refine sp_law_unit (by omega) (by omega) ?_
      repeat get_elem_tactic_trivial
      try dsimp only [List.set_cons_succ, List.set_cons_zero]
      refine ⟨_, Sto.set_same, by rw [List.length_append, List.length_map]; simp only [List.length_singleton]; unfold sizeLine; omega, ?_⟩
      rw [Sto.set_set]
      have go : ∀ b, b = (spFree x j && free1 ⟨low, high, a, o⟩) → ∀ {y4 y5 y6 y7 y8 y9 : Option D}, F [some (.cell p), some (.int (k : Nat)), some (.cell q), some (.bl b), y4, y5, y6, y7, y8, y9] (S5.set q (.lst ((spC k x j).map condD ++ [.tup [.tup ((unitF k j (0 - a)).map D.int), .int (0 - a * low), .bl o]] ++ [.tup [.tup ((unitF k j a).map D.int), .int (a * high), .bl false]]))) := fun b eb {y4 y5 y6 y7 y8 y9} => by
        have eb2 : b = spFree (fun i => if i = j then ⟨low, high, a, o⟩ else x i) (j + 1) := by
          rw [spFree_succ, if_pos rfl, spFree_ext (x := fun i => if i = j then ⟨low, high, a, o⟩ else x i) (y := x) fun i hi => if_neg (by omega), eb]
        refine ih _ _ ⟨j + 1, r, fun i => if i = j then ⟨low, high, a, o⟩ else x i, y4, y5, y6, y7, y8, y9, v9, by omega, by rw [eb2], (hp5.setO qp).mono (by omega), ?_, fun b b1 b2 => by rw [Sto.set_ne b2, oth b b1]; exact v6 b b1 b2, fun i hi => ?_⟩
        · rw [Sto.set_same, spC_succ, if_pos rfl, spC_ext (x := fun i => if i = j then ⟨low, high, a, o⟩ else x i) (y := x) fun i hi => if_neg (by omega), List.map_append, List.append_assoc]
          rfl
        · show SpOk (if i = j then _ else x i)
          by_cases e : i = j
          · rw [if_pos e]; exact sok
          · rw [if_neg e]; exact v7 i (by omega)
      have et : tipS ⟨low, high, a, o⟩ = if 20 < high then 20 else high := rfl
      have ef : free1 ⟨low, high, a, o⟩ = (decide (low < tipS ⟨low, high, a, o⟩) || (decide (low = tipS ⟨low, high, a, o⟩) && !o)) := rfl
      rw [et] at ef
      repeat get_elem_tactic_trivial
      try dsimp only [List.set_cons_succ, List.set_cons_zero]
      generalize (if 20 < high then 20 else high) = tp at *
      cases eb : spFree x j with
      | false =>
        repeat get_elem_tactic_trivial
        try dsimp only [List.set_cons_succ, List.set_cons_zero]
        exact go _ (by rw [eb]; rfl)
      | true =>
        repeat get_elem_tactic_trivial
        try dsimp only [List.set_cons_succ, List.set_cons_zero]
        refine ⟨fun e1 => ?_, fun e1 => ?_⟩
        · exact go _ (by rw [eb, ef, e1]; rfl)
        · repeat get_elem_tactic_trivial
          try dsimp only [List.set_cons_succ, List.set_cons_zero]
          refine ⟨fun e2 => ?_, fun e2 => ?_⟩
          · repeat get_elem_tactic_trivial
            try dsimp only [List.set_cons_succ, List.set_cons_zero]
            exact go _ (by rw [eb, ef, e1, e2]; simp)
          · exact go _ (by rw [eb, ef, e1, e2]; rfl)
  subst v3
  have r0 : r = 0 := by
    cases r with
    | zero => rfl
    | succ r => cases v1
  have jk : j = k := by omega
  subst jk
  clear hq0 hp0 ho0 v1 r0
  have lc := spC_len j x j
  have et := spC_t (k := j) v7
  have ec : cutD ((spC j x j).map condD) none (some 8) = ((spC j x j).take 8).map condD := by
    rw [show (8 : Int) = ((8 : Nat) : Int) from rfl, cut_lo, List.map_take]
  have fin_ : ∀ d, Due l ((spC j x j).take 8) d → fin K (.tup [.lst (((spC j x j).take 8).map condD), d]) S1 := fun d dd => ⟨S1.del q, Sub.del, h _ d _ (by rw [List.length_take]; omega) (fun c hc => by rw [ek] at *; exact et c (List.mem_of_mem_take hc)) dd ((v4.delO qp).mono (by omega)) (Oth.of2 v6 nq)⟩
  repeat get_elem_tactic_trivial
  try dsimp only [List.set_cons_succ, List.set_cons_zero]
  unfold oSl
  simp only [v5]
  rw [ec]
  repeat get_elem_tactic_trivial
  try dsimp only [List.set_cons_succ, List.set_cons_zero]
  refine br_d (fun e1 => ?_) fun e1 => ?_
  · repeat get_elem_tactic_trivial
    try dsimp only [List.set_cons_succ, List.set_cons_zero]
    refine fin_ _ (.inr ⟨_, rfl, ?_⟩)
    have ek2 : j = l.length + 1 := ek
    subst ek2
    rw [List.take_of_length_le (by omega)]
    exact (spans_iff v7).symm
  · repeat get_elem_tactic_trivial
    try dsimp only [List.set_cons_succ, List.set_cons_zero]
    exact fin_ _ (.inl rfl)
theorem rep_int (n : Nat) (f : Int) : (List.replicate n [D.int f]).flatten = (List.replicate n f).map D.int := by
  induction n with
  | zero => rfl
  | succ n ih => rw [List.replicate_succ, List.flatten_cons, ih, List.replicate_succ]; rfl
theorem st_rng11 {a b : WE} {ρ : Rho} {S : Sto} {K : IT → Sto → Prop} (h : a ρ S fun x S1 => b ρ S1 fun y S2 => ∃ i j : Int, x = .int i ∧ y = .int j ∧ (-(2 ^ 62) ≤ i ∧ i < 2 ^ 62 ∧ -(2 ^ 62) ≤ j ∧ j < 2 ^ 62) ∧ K ⟨irange i (j - i).toNat, fun _ => True⟩ S2) : wRange2 a b ρ S K := h
theorem sp_law_chain {n : Nat} {p : Addr} {l : Str} {S : Sto} {K : KE} (hp : Pn n S p) (hn : n < 2 ^ 20) (hl : LetOk l) (h : ∀ cs d S', cs.length ≤ 8 → (∀ c, c ∈ cs → CondT (l.length + 1) c) → Due l cs d → Pn (n + 100) S' p → Oth p S S' → K (.tup [.lst (cs.map condD), d]) S') : c_law_chain [.cell p, .int ((l.length + 1 : Nat) : Int)] S K := by
  have l1 := hl.l1
  have l4 := hl.l4
  refine st_def rfl ?_
  unfold w_law_chain
  repeat get_elem_tactic_trivial
  try dsimp only [List.set_cons_succ, List.set_cons_zero]
  refine sp_take hp (by omega) (by decide) (by decide) fun rm S1 rm0 rm1 hp1 ho1 => ?_
  obtain ⟨m, em⟩ : ∃ m, m = 1 + rm := ⟨_, rfl⟩
  repeat get_elem_tactic_trivial
  try dsimp only [List.set_cons_succ, List.set_cons_zero]
  intro q nq
  rw [← em]
  have qp := hp1.ne nq
  have nq0 : S q = none := (ho1 q qp).symm.trans nq
  repeat get_elem_tactic_trivial
  try dsimp only [List.set_cons_succ, List.set_cons_zero]
  refine ⟨q, rfl, ⟨_, Sto.set_same⟩, ?_⟩
  repeat get_elem_tactic_trivial
  try dsimp only [List.set_cons_succ, List.set_cons_zero]
  refine sp_law_unit (p := 0) (by omega) (by decide) ?_
  repeat get_elem_tactic_trivial
  try dsimp only [List.set_cons_succ, List.set_cons_zero]
  refine ⟨_, Sto.set_same, by decide, ?_⟩
  rw [Sto.set_set]
  have hp2 := hp1.setO (c := .lst ([] ++ [.tup [.tup ((unitF (l.length + 1) 0 (-1)).map D.int), .int (-1), .bl false]])) qp
  have hq2 : (S1.set q (.lst ([] ++ [.tup [.tup ((unitF (l.length + 1) 0 (-1)).map D.int), .int (-1), .bl false]]))) q = some (.lst ((chC (l.length + 1) m false 0).map condD)) := Sto.set_same
  have ho2 : ∀ b, b ≠ p → b ≠ q → (S1.set q (.lst ([] ++ [.tup [.tup ((unitF (l.length + 1) 0 (-1)).map D.int), .int (-1), .bl false]]))) b = S b := fun b n1 n2 => by rw [Sto.set_ne n2, ho1 b n1]
  generalize S1.set q (.lst ([] ++ [.tup [.tup ((unitF (l.length + 1) 0 (-1)).map D.int), .int (-1), .bl false]])) = S2 at *
  repeat get_elem_tactic_trivial
  try dsimp only [List.set_cons_succ, List.set_cons_zero]
  refine sp_take hp2 (by omega) (by decide) (by decide) fun op S3 op0 op1 hp3 ho3 => ?_
  have hq3 := (ho3 q qp).trans hq2
  repeat get_elem_tactic_trivial
  try dsimp only [List.set_cons_succ, List.set_cons_zero]
  obtain ⟨o, eo⟩ : ∃ o, o = decide (op = 0) := ⟨_, rfl⟩
  rw [← eo]
  refine st_rng11 ?_
  repeat get_elem_tactic_trivial
  try dsimp only [List.set_cons_succ, List.set_cons_zero]
  refine ⟨1, ((l.length + 1 : Nat) : Int), rfl, rfl, ⟨by decide, by decide, by omega, by omega⟩, ?_⟩
  rw [show (((l.length + 1 : Nat) : Int) - 1).toNat = l.length by omega, show irange 1 l.length = irange ((1 : Nat) : Int) l.length from rfl, irange_upsI]
  refine for_ind (I := fun ds ρ S4 => ∃ (j r : Nat) (T : Int) (x6 x7 x8 x9 x10 : Option D), ds = ups (j + 1) r ∧ j + r = l.length ∧ T = m ^ j ∧ T.natAbs ≤ 5 ^ j ∧ ρ = [some (.cell p), some (.int ((l.length + 1 : Nat) : Int)), some (.int m), some (.cell q), some (.int T), some (.bl o), x6, x7, x8, x9, x10] ∧ Pn (n + 2) S4 p ∧ S4 q = some (.lst ((chC (l.length + 1) m o j).map condD)) ∧ (∀ b, b ≠ p → b ≠ q → S4 b = S b)) ⟨0, l.length, 1, _, _, _, _, _, rfl, by omega, (Int.pow_zero m).symm, by decide, rfl, hp3, hq3, fun b n1 n2 => (ho3 b n1).trans (ho2 b n1 n2)⟩ (fun ρ S4 ⟨j, r, T, x6, x7, x8, x9, x10, v1, v2, v3, v4, v5, v6, v7, v8⟩ => ⟨trivial, ?_⟩) fun d ds F ih ρ S4 ⟨j, r, T, x6, x7, x8, x9, x10, v1, v2, v3, v4, v5, v6, v7, v8⟩ => ⟨trivial, ?_⟩
  case refine_2 =>
    subst v5
    cases r with
    | zero => cases v1
    | succ r =>
      injection v1 with v1 v9
      subst v1
      have p5 : 5 ^ j ≤ 5 ^ 4 := Nat.pow_le_pow_right (by decide) (by omega)
      have lc : (chC (l.length + 1) m o j).length = j + 1 := by unfold chC; rw [List.length_cons, List.length_map, List.length_range]
      repeat get_elem_tactic_trivial
      try dsimp only [List.set_cons_succ, List.set_cons_zero]
      rw [show (((j + 1 : Nat) : Int) - 1) = ((j : Nat) : Int) by omega]
      refine sp_law_unit (by omega) (by omega) ?_
      repeat get_elem_tactic_trivial
      try dsimp only [List.set_cons_succ, List.set_cons_zero]
      refine sp_law_unit (by omega) (by decide) ?_
      repeat get_elem_tactic_trivial
      try dsimp only [List.set_cons_succ, List.set_cons_zero]
      refine ⟨q, rfl, ⟨_, v7⟩, ?_⟩
      repeat get_elem_tactic_trivial
      try dsimp only [List.set_cons_succ, List.set_cons_zero]
      refine ⟨_, _, rfl, rfl, fun z => (nomatch z), ?_⟩
      rw [zipD_ints]
      refine comp_mapL (List.zip (unitF (l.length + 1) j m) (unitF (l.length + 1) (j + 1) (-1))) (fun q => .tup [.int q.1, .int q.2]) (fun q => .int (q.1 + q.2)) ⟨trivial, trivial⟩ (by rw [List.length_zip, unitF_len]; unfold sizeLine; omega) (fun q hq K1 F1 k => ?_) ?_
      · repeat get_elem_tactic_trivial
        try dsimp only [List.set_cons_succ, List.set_cons_zero]
        exact k
      repeat get_elem_tactic_trivial
      try dsimp only [List.set_cons_succ, List.set_cons_zero]
      refine st_tuple rfl ?_
      repeat get_elem_tactic_trivial
      try dsimp only [List.set_cons_succ, List.set_cons_zero]
      refine ⟨_, v7, by rw [List.length_map]; unfold sizeLine; omega, ?_⟩
      repeat get_elem_tactic_trivial
      try dsimp only [List.set_cons_succ, List.set_cons_zero]
      refine ih _ _ ⟨j + 1, r, T * m, _, _, _, _, _, v9, by omega, by rw [v3, Int.pow_succ], ?_, rfl, v6.setO qp, ?_, fun b b1 b2 => by rw [Sto.set_ne b2]; exact v8 b b1 b2⟩
      · rw [Int.natAbs_mul, Nat.pow_succ]
        exact Nat.mul_le_mul v4 (by omega)
      · rw [Sto.set_same]
        congr 2
        unfold chC
        rw [List.range_succ, List.map_append, ← List.cons_append, List.map_append]
        congr 1
        show _ = [condD ⟨linkF (l.length + 1) m (j + 1), 0, o⟩]
        unfold condD linkF
        rw [List.map_map, Nat.add_sub_cancel]
        rfl
  subst v5
  have r0 : r = 0 := by
    cases r with
    | zero => rfl
    | succ r => cases v1
  have jk : j = l.length := by omega
  subst jk
  have lc : (chC (l.length + 1) m o l.length).length ≤ 8 := by unfold chC; rw [List.length_cons, List.length_map, List.length_range]; omega
  have tc := chC_t (k := l.length + 1) (j := l.length) (o := o) (show m.natAbs ≤ 5 by omega)
  have ci := chain_iff (l := l) (m := m) (o := o) l1 l4 (by omega) (by omega)
  rw [← v3] at ci
  have fin_ : ∀ b : Bool, (b = true ↔ (T < 20 ∨ (T = 20 ∧ o = false))) → fin K (.tup [.lst ((chC (l.length + 1) m o l.length).map condD), .bl b]) (S4.del q) := fun b hb => fin.of (h _ _ _ lc tc (.inr ⟨b, rfl, hb.trans ci.symm⟩) ((v6.delO qp).mono (by omega)) (Oth.of2 v8 nq0))
  clear ci
  repeat get_elem_tactic_trivial
  try dsimp only [List.set_cons_succ, List.set_cons_zero]
  refine ⟨q, rfl, .inl ⟨_, v7, ?_⟩⟩
  repeat get_elem_tactic_trivial
  try dsimp only [List.set_cons_succ, List.set_cons_zero]
  refine ⟨fun e1 => ?_, fun e1 => ?_⟩
  · repeat get_elem_tactic_trivial
    try dsimp only [List.set_cons_succ, List.set_cons_zero]
    exact fin_ true ⟨fun _ => .inl (of_decide_eq_true e1), fun _ => rfl⟩
  · have n1 := of_decide_eq_false e1
    repeat get_elem_tactic_trivial
    try dsimp only [List.set_cons_succ, List.set_cons_zero]
    refine ⟨fun e2 => ?_, fun e2 => ?_⟩
    · have y2 := of_decide_eq_true e2
      cases o with
      | false =>
        repeat get_elem_tactic_trivial
        try dsimp only [List.set_cons_succ, List.set_cons_zero]
        exact fin_ true ⟨fun _ => .inr ⟨y2, rfl⟩, fun _ => rfl⟩
      | true =>
        repeat get_elem_tactic_trivial
        try dsimp only [List.set_cons_succ, List.set_cons_zero]
        have es : decide (((l.length + 1 : Nat) : Int) = 1) = false := decide_eq_false (by omega)
        rw [es]
        exact fin_ false ⟨nofun, fun z => (z.elim (fun z => absurd z n1) fun z => nomatch z.2)⟩
    · have y2 := of_decide_eq_false e2
      repeat get_elem_tactic_trivial
      try dsimp only [List.set_cons_succ, List.set_cons_zero]
      exact fin_ false ⟨nofun, fun z => (z.elim (fun z => absurd z n1) fun z => absurd z.1 y2)⟩
theorem st_mulT11 {ds : List D} {k : Int} {S : Sto} {K : KE} (h0 : ds ≠ []) (h1 : 2 ≤ k) (h2 : k ≤ 1000) (h3 : ds.length ≤ 1000) (h : K (.tup (List.replicate k.toNat ds).flatten) S) : oMul (.tup ds) (.int k) S K := ⟨h0, h1, h2, h3, h⟩
theorem sp_law_sums {n : Nat} {p : Addr} {l : Str} {S : Sto} {K : KE} (hp : Pn n S p) (hn : n < 2 ^ 20) (hl : LetOk l) (h : ∀ cs d S', cs.length ≤ 8 → (∀ c, c ∈ cs → CondT (l.length + 1) c) → Due l cs d → Pn (n + 100) S' p → Oth p S S' → K (.tup [.lst (cs.map condD), d]) S') : c_law_sums [.cell p, .int ((l.length + 1 : Nat) : Int)] S K := by
  have l1 := hl.l1
  have l4 := hl.l4
  refine st_def rfl ?_
  unfold w_law_sums
  repeat get_elem_tactic_trivial
  try dsimp only [List.set_cons_succ, List.set_cons_zero]
  refine sp_take hp (by omega) (by omega) (by omega) fun total S1 t0 t1 hp1 ho1 => ?_
  repeat get_elem_tactic_trivial
  try dsimp only [List.set_cons_succ, List.set_cons_zero]
  refine sp_take hp1 (by omega) (by decide) (by decide) fun most S2 m0 m1 hp2 ho2 => ?_
  repeat get_elem_tactic_trivial
  try dsimp only [List.set_cons_succ, List.set_cons_zero]
  refine sp_take hp2 (by omega) (by decide) (by decide) fun op S3 op0 op1 hp3 ho3 => ?_
  repeat get_elem_tactic_trivial
  try dsimp only [List.set_cons_succ, List.set_cons_zero]
  obtain ⟨o, eo⟩ : ∃ o, o = decide (op = 0) := ⟨_, rfl⟩
  rw [← eo]
  have oth := (ho1.trans ho2).trans ho3
  repeat get_elem_tactic_trivial
  try dsimp only [List.set_cons_succ, List.set_cons_zero]
  refine st_mulT11 (by simp) (by omega) (by omega) (by decide) ?_
  rw [Int.toNat_natCast, rep_int]
  repeat get_elem_tactic_trivial
  try dsimp only [List.set_cons_succ, List.set_cons_zero]
  refine st_mulT11 (by simp) (by omega) (by omega) (by decide) ?_
  rw [Int.toNat_natCast, rep_int]
  repeat get_elem_tactic_trivial
  try dsimp only [List.set_cons_succ, List.set_cons_zero]
  refine ⟨_, rfl, by omega, by omega, ?_⟩
  rw [Int.toNat_natCast, irangeZ]
  refine comp_mapL (List.range (l.length + 1)) (fun i => D.int ((i : Nat) : Int)) (fun i => condD ⟨unitF (l.length + 1) i 1, most, o⟩) trivial (by rw [List.length_range]; unfold sizeLine; omega) (fun i hi K1 F1 k1 => ?_) ?_
  · repeat get_elem_tactic_trivial
    try dsimp only [List.set_cons_succ, List.set_cons_zero]
    refine sp_law_unit (by omega) (by decide) ?_
    repeat get_elem_tactic_trivial
    try dsimp only [List.set_cons_succ, List.set_cons_zero]
    exact k1
  repeat get_elem_tactic_trivial
  try dsimp only [List.set_cons_succ, List.set_cons_zero]
  refine st_addLL (a := [.tup [.tup ((List.replicate (l.length + 1) 1).map D.int), .int total, .bl false], .tup [.tup ((List.replicate (l.length + 1) (-1)).map D.int), .int (0 - total), .bl false]]) (b := (List.range (l.length + 1)).map fun i => condD ⟨unitF (l.length + 1) i 1, most, o⟩) rfl rfl (by rw [List.length_map, List.length_range]; show 2 + _ ≤ _; unfold sizeLine; omega) ?_
  have ec : [D.tup [.tup ((List.replicate (l.length + 1) (1 : Int)).map D.int), .int total, .bl false], .tup [.tup ((List.replicate (l.length + 1) (-1)).map D.int), .int (0 - total), .bl false]] ++ ((List.range (l.length + 1)).map fun i => condD ⟨unitF (l.length + 1) i 1, most, o⟩) = (suC (l.length + 1) total most o).map condD := by
    unfold suC
    rw [List.map_append, List.map_map]
    rfl
  rw [ec]
  have lc : (suC (l.length + 1) total most o).length ≤ 8 := by
    unfold suC
    rw [List.length_append, List.length_map, List.length_range]
    show 2 + _ ≤ 8
    omega
  have tc := suC_t (k := l.length + 1) (total := total) (most := most) (o := o) (by omega) (by omega)
  have fin_ : ∀ b : Bool, b = sumsDue ((l.length + 1 : Nat) : Int) total most o → fin K (.tup [.lst ((suC (l.length + 1) total most o).map condD), .bl b]) S3 := fun b eb => fin.of (h _ _ S3 lc tc (.inr ⟨b, rfl, by rw [eb]; exact (sums_iff t0 m0).symm⟩) (hp3.mono (by omega)) oth)
  unfold sumsDue at fin_
  repeat (first | get_elem_tactic_trivial | with_reducible refine st_seq ?_)
  try dsimp only [List.set_cons_succ, List.set_cons_zero]
  refine br_d (fun big => ?_) fun big => ?_
  · rw [if_pos (show most > 20 from big)] at fin_
    repeat (first | get_elem_tactic_trivial | with_reducible refine st_seq ?_)
    try dsimp only [List.set_cons_succ, List.set_cons_zero]
    exact fin_ _ rfl
  · rw [if_neg (show ¬ most > 20 from big)] at fin_
    repeat (first | get_elem_tactic_trivial | with_reducible refine st_seq ?_)
    try dsimp only [List.set_cons_succ, List.set_cons_zero]
    refine ⟨fun e1 => ?_, fun e1 => ?_⟩
    · repeat (first | get_elem_tactic_trivial | with_reducible refine st_seq ?_)
      try dsimp only [List.set_cons_succ, List.set_cons_zero]
      exact fin_ _ (by rw [e1, Bool.true_or])
    · repeat (first | get_elem_tactic_trivial | with_reducible refine st_seq ?_)
      try dsimp only [List.set_cons_succ, List.set_cons_zero]
      refine ⟨fun e2 => ?_, fun e2 => ?_⟩
      · repeat (first | get_elem_tactic_trivial | with_reducible refine st_seq ?_)
        try dsimp only [List.set_cons_succ, List.set_cons_zero]
        exact fin_ _ (by rw [e1, e2, Bool.false_or, Bool.true_and])
      · repeat (first | get_elem_tactic_trivial | with_reducible refine st_seq ?_)
        try dsimp only [List.set_cons_succ, List.set_cons_zero]
        exact fin_ _ (by rw [e1, e2, Bool.false_or, Bool.false_and])


end G

set_option Elab.async false
set_option linter.all false
set_option maxRecDepth 100000
set_option autoImplicit false
set_option maxHeartbeats 2000000
namespace G
open PySem PySem.Spec PyProof.Rows L2
local macro_rules
  | `(tactic| get_elem_tactic_trivial) => `(tactic| first
    | (with_reducible first
      | refine st_seqSet ?_ | refine st_seqAsg ?_ | refine st_seqDo ?_ | refine st_seqPar ?_ | refine st_seqPar3 ?_ | refine st_seqFor ?_ | refine st_seqWhile ?_ | refine st_seqAug ?_ | refine st_seqSkip ?_ | refine st_seqRet ?_
      | refine st_skip ?_ | refine st_ret ?_ | refine st_retN ?_ | refine st_do ?_ | refine st_if ?_ | refine st_set ?_ | refine st_asg ?_ | refine st_par ?_ | refine st_par3 ?_
      | refine st_c ?_ | refine st_op2 ?_ | refine st_op1 ?_ | refine st_test ?_ | refine st_tbl ?_ | refine st_and ?_ | refine st_or ?_ | refine st_not ?_ | refine st_andV ?_ | refine st_orV ?_ | refine st_notV ?_ | refine st_bl ?_
      | refine st_chain ?_ | refine st_ifE ?_ | refine st_nil ?_ | refine st_cons ?_ | refine st_call ?_ | refine st_fr ?_ | refine st_lv ?_ | refine st_one ?_ | refine st_two ?_
      | refine st_gN ?_ | refine st_lst ?_ | refine st_tup ?_ | refine st_slF ?_ | refine st_oNo ?_ | refine st_oS ?_ | refine st_enum ?_ | refine st_scr ?_ | refine st_list ?_ | refine st_it ?_ | refine st_comp ?_ | refine st_for ?_ | refine st_gIx ?_ | refine st_range1 ?_ | refine st_app ?_ | refine st_zip ?_ | refine st_rev1 ?_ | refine st_meth ?_ | refine st_isS ?_ | refine st_count ?_ | refine st_sl ?_ | refine st_slT ?_ | refine st_slL ?_ | refine st_max2 ?_ | refine st_min2 ?_
      | refine st_add ?_ | refine st_sub ?_ | refine st_int ?_ | refine st_neg ?_ | refine st_lt ?_ | refine st_le ?_ | refine st_gt ?_ | refine st_ge ?_ | refine st_eq ?_ | refine st_ne ?_ | refine st_eqB ?_ | refine st_neB ?_ | refine st_eqS ?_ | refine st_neS ?_ | refine st_isN ?_ | refine st_sorted ?_ | refine st_abs ?_ | refine st_isNotN ?_
      | refine br_t ?_ | refine br_f ?_)
    | ((with_reducible refine st_var (d := ?_) ?_ ?_); rotate_left; (exact rfl))
    | ((with_reducible refine st_isi2 (k := ?_) (b := true) ?_ ?_ ?_); rotate_left; (exact rfl); (exact rfl))
    | ((with_reducible refine st_isi2 (k := ?_) (b := false) ?_ ?_ ?_); rotate_left; (exact rfl); (exact rfl))
    | ((with_reducible refine st_ix (ds := ?_) (d := ?_) ?_ ?_ ?_); rotate_left 2; (first | exact rfl | exact seq_at (by assumption)); (exact rfl))
    | ((with_reducible refine st_len2 (ds := ?_) (n := ?_) ?_ ?_ ?_); rotate_left 2; (first | exact rfl | exact seq_at (by assumption)); (exact rfl))
    | ((with_reducible refine st_addLL (a := ?_) (b := ?_) ?_ ?_ ?_ ?_); rotate_left 2; (first | exact rfl | exact lst_at (by assumption)); (first | exact rfl | exact lst_at (by assumption)); (exact Nat.le_of_ble_eq_true rfl))
    | ((with_reducible refine st_pow ?_ ?_); (exact ⟨by decide, by decide, by decide⟩))
    | ((with_reducible refine st_mod ?_ ?_); (first | decide | omega))
    | ((with_reducible refine st_size ?_ ?_); (exact rfl))
    | ((with_reducible refine st_gT2 ?_ ?_); (exact rfl))
    | ((with_reducible refine st_gsC ?_))
    | ((with_reducible refine st_gsN ?_))
    | ((with_reducible refine st_mulS ?_ ?_ ?_); omega; omega)
    | ((with_reducible refine br_ct ?_ ?_); (exact rfl))
    | ((with_reducible refine br_cf ?_ ?_); (exact rfl))
    | (rw [list_tup])
    | (rw [list_lst])
    | (rw [items_tup])
    | (rw [items_lst])
    | ((refine st_listM (ds := ?_) ?_ ?_); rotate_left; (first | exact rfl | exact seq_at (by assumption)))
    | ((refine st_itM (it := ?_) ?_ ?_); rotate_left; (first | exact rfl | exact it_at (by assumption))))

local macro_rules
  | `(tactic| get_elem_tactic_trivial) => `(tactic| first
    | (with_reducible refine st_fld ?_)
    | (with_reducible refine st_mt ?_)
    | (with_reducible refine st_gFld ?_)
    | (with_reducible refine st_lix ?_)
    | (with_reducible refine st_rep ?_)
    | (with_reducible refine st_cat ?_)
    | (with_reducible refine st_lrng ?_)
    | (with_reducible refine st_frz ?_)
    | ((with_reducible refine fld_size (T := ?_) (pc := ?_) (pb := ?_) ?_ ?_); rotate_left 3; (assumption))
    | ((with_reducible refine fld_rows (T := ?_) (pc := ?_) (pb := ?_) ?_ ?_); rotate_left 3; (assumption))
    | ((with_reducible refine fld_goal (T := ?_) (pc := ?_) (pb := ?_) ?_ ?_); rotate_left 3; (assumption))
    | ((with_reducible refine fld_cols (T := ?_) (pc := ?_) (pb := ?_) ?_ ?_); rotate_left 3; (assumption))
    | ((with_reducible refine fld_basis (T := ?_) (pc := ?_) (pb := ?_) ?_ ?_); rotate_left 3; (assumption))
    | ((with_reducible refine fld_den (T := ?_) (pc := ?_) (pb := ?_) ?_ ?_); rotate_left 3; (assumption))
    | ((with_reducible refine mt_go (T := ?_) (pc := ?_) (pb := ?_) ?_ ?_ ?_); rotate_left 3; (assumption); (exact rfl)))

theorem sp_sel {n j : Nat} {p : Addr} {l : Str} {x0 x5 x6 x7 x8 x9 : Option D} {S : Sto} {K : KE} (hp : Pn n S p) (hn : n < 2 ^ 20) (hl : LetOk l) (h : ∀ cs d S', cs.length ≤ 8 → (∀ c, c ∈ cs → CondT (l.length + 1) c) → Due l cs d → Pn (n + 100) S' p → Oth p S S' → K (.tup [.lst (cs.map condD), d]) S') : wCallSel (wOp2 oMod (wVar 2) (wC (.int 3))) [c_law_spans, c_law_chain, c_law_sums] (wCons (wVar 1) (wCons (wVar 4) wNil)) [x0, some (.cell p), some (.int (j : Nat)), some (.str l), some (.int ((l.length + 1 : Nat) : Int)), x5, x6, x7, x8, x9] S K := by
  have m3 : j % 3 = 0 ∨ j % 3 = 1 ∨ j % 3 = 2 := by omega
  have md : D.int (((j : Nat) : Int) % 3) = .int ((j % 3 : Nat) : Int) := rfl
  refine st_callSel ?_
  refine st_op2 ?_
  refine st_var rfl ?_
  refine st_c ?_
  refine st_mod (by decide) ?_
  rcases m3 with m | m | m
  · refine ⟨0, _, md.trans (by rw [m]), rfl, ?_⟩
    repeat get_elem_tactic_trivial
    try dsimp only [List.set_cons_succ, List.set_cons_zero]
    exact sp_law_spans hp hn hl h
  · refine ⟨1, _, md.trans (by rw [m]), rfl, ?_⟩
    repeat get_elem_tactic_trivial
    try dsimp only [List.set_cons_succ, List.set_cons_zero]
    exact sp_law_chain hp hn hl h
  · refine ⟨2, _, md.trans (by rw [m]), rfl, ?_⟩
    repeat get_elem_tactic_trivial
    try dsimp only [List.set_cons_succ, List.set_cons_zero]
    exact sp_law_sums hp hn hl h
theorem law_main (Fr : PySem.W.Frag) : ∀ ns : List Int, ns.length ≤ 63 → c_law Fr [.scr Fr ns] Sto.nil fun d _ => d = .bl true := by
  intro ns _
  refine st_def rfl ?_
  unfold w_law
  repeat get_elem_tactic_trivial
  try dsimp only [List.set_cons_succ, List.set_cons_zero]
  refine sp_open fun p S hp => ?_
  repeat get_elem_tactic_trivial
  try dsimp only [List.set_cons_succ, List.set_cons_zero]
  refine ⟨9, rfl, by decide, by decide, ?_⟩
  rw [show irange 0 (9 : Int).toNat = irange 0 9 from rfl, irange_ups]
  refine for_ind (I := fun ds ρ S1 => ∃ (j r n : Nat) (x0 x2 x3 x4 x5 x6 x7 x8 x9 : Option D), ds = ups j r ∧ ρ = [x0, some (.cell p), x2, x3, x4, x5, x6, x7, x8, x9] ∧ Pn n S1 p ∧ n + 1000 * r ≤ 100000) ⟨0, 9, 0, _, _, _, _, _, _, _, _, _, rfl, rfl, hp, by decide⟩ (fun ρ S1 ⟨j, r, n, x0, x2, x3, x4, x5, x6, x7, x8, x9, e0, e1, e2, e3⟩ => ⟨trivial, ?_⟩) fun d ds F ih ρ S1 ⟨j, r, n, x0, x2, x3, x4, x5, x6, x7, x8, x9, e0, e1, hp0, e3⟩ => ⟨trivial, ?_⟩
  · subst e1
    repeat get_elem_tactic_trivial
    try dsimp only [List.set_cons_succ, List.set_cons_zero]
    exact ⟨_, Sub.refl _, rfl⟩
  subst e1
  cases r with
  | zero => cases e0
  | succ r =>
  injection e0 with e0 e9
  subst e0
  repeat get_elem_tactic_trivial
  try dsimp only [List.set_cons_succ, List.set_cons_zero]
  refine sp_draw_letters hp0 (by omega) fun l0 S2 hl0 hp2 ho2 => ?_
  have a1 := hl0.l1
  have a4 := hl0.l4
  repeat get_elem_tactic_trivial
  try dsimp only [List.set_cons_succ, List.set_cons_zero]
  refine st_srtS (by omega) fun ys hys _ => ?_
  obtain ⟨j1, j2, j3⟩ := sorted_join hys
  repeat get_elem_tactic_trivial
  try dsimp only [List.set_cons_succ, List.set_cons_zero]
  refine st_join (ys := ys) rfl rfl (by omega) ?_
  obtain ⟨l, el⟩ : ∃ l, l = Txt.join (Str.ofString "") ys := ⟨_, rfl⟩
  rw [← el] at j1 j2 ⊢
  have hl : LetOk l := ⟨by omega, by omega, j2 _ hl0.sg, by rw [el]; exact ((sorted_perm hys).cons 32).nodup_iff.mpr hl0.nd⟩
  have b1 := hl.l1
  have b4 := hl.l4
  clear el
  repeat get_elem_tactic_trivial
  try dsimp only [List.set_cons_succ, List.set_cons_zero]
  refine st_lenS (by unfold sizeLine; omega) ?_
  repeat get_elem_tactic_trivial
  try dsimp only [List.set_cons_succ, List.set_cons_zero]
  rw [show ((l.length : Nat) : Int) + 1 = ((l.length + 1 : Nat) : Int) from rfl]
  refine sp_sel hp2 (by omega) hl fun ks dd S3 lk tk due hp3 ho3 => ?_
  have hp3 := hp3.mono (show n + 1 + 100 ≤ n + 101 by omega)
  have kc : KC l ks [] := ⟨b4, by show ks.length + 0 ≤ 120; omega, fun c hc => (tk c (by rw [List.append_nil] at hc; exact hc)).s⟩
  have next : ∀ {y3 y4 y5 y6 y7 y8 y9 : Option D}, F [x0, some (.cell p), some (.int (j : Nat)), y3, y4, y5, y6, y7, y8, y9] S3 := fun {y3 y4 y5 y6 y7 y8 y9} => ih _ _ ⟨j + 1, r, n + 101, _, _, _, _, _, _, _, _, _, e9, rfl, hp3, by omega⟩
  repeat get_elem_tactic_trivial
  try dsimp only [List.set_cons_succ, List.set_cons_zero]
  refine st_tuple rfl ?_
  have kd : D.tup [.str l, .tup (ks.map condD)] = knowD l ks := rfl
  repeat get_elem_tactic_trivial
  try dsimp only [List.set_cons_succ, List.set_cons_zero]
  rw [kd]
  refine find_font_v kc rfl fun df gf => ?_
  repeat get_elem_tactic_trivial
  try dsimp only [List.set_cons_succ, List.set_cons_zero]
  refine find_refutation_v kc rfl fun dr gr => ?_
  have n1 := gf.isN
  have n2 := gr.isN
  rw [List.append_nil] at n1 n2
  have ebb : (df.isNon == dr.isNon) = false := by
    rw [n1, n2]
    cases canB l ks <;> rfl
  repeat (first | get_elem_tactic_trivial | with_reducible refine st_seq ?_)
  try dsimp only [List.set_cons_succ, List.set_cons_zero]
  rw [ebb]
  repeat (first | get_elem_tactic_trivial | with_reducible refine st_seq ?_)
  try dsimp only [List.set_cons_succ, List.set_cons_zero]
  refine has_font_v kc ?_
  repeat (first | get_elem_tactic_trivial | with_reducible refine st_seq ?_)
  try dsimp only [List.set_cons_succ, List.set_cons_zero]
  refine sp_same (n := 11) ?_
  have e2 : (canB l ks == !df.isNon) = true := by
    rw [n1]
    cases canB l ks <;> rfl
  rw [e2]
  repeat get_elem_tactic_trivial
  try dsimp only [List.set_cons_succ, List.set_cons_zero]
  refine ⟨fun ρ2 S4 => S4 = S3 ∧ ρ2 = [x0, some (.cell p), some (.int (j : Nat)), some (.str l), some (.int ((l.length + 1 : Nat) : Int)), some (.lst (ks.map condD)), some dd, some (knowD l ks), some df, some dr], ?_, ?_⟩
  · rcases due with rfl | ⟨b, rfl, hb⟩
    · repeat (first | get_elem_tactic_trivial | with_reducible refine st_seq ?_)
      try dsimp only [List.set_cons_succ, List.set_cons_zero]
      exact ⟨rfl, rfl⟩
    · repeat (first | get_elem_tactic_trivial | with_reducible refine st_seq ?_)
      try dsimp only [List.set_cons_succ, List.set_cons_zero]
      refine has_font_v kc ?_
      repeat (first | get_elem_tactic_trivial | with_reducible refine st_seq ?_)
      try dsimp only [List.set_cons_succ, List.set_cons_zero]
      rw [can_is hb]
      refine br_cf (by rw [beq_self_eq_true]; rfl) ?_
      repeat (first | get_elem_tactic_trivial | with_reducible refine st_seq ?_)
      try dsimp only [List.set_cons_succ, List.set_cons_zero]
      exact ⟨rfl, rfl⟩
  intro ρ2 S4 ⟨e0, e1⟩
  subst e0 e1
  refine ⟨fun ρ2 S5 => S5 = S4 ∧ ρ2 = [x0, some (.cell p), some (.int (j : Nat)), some (.str l), some (.int ((l.length + 1 : Nat) : Int)), some (.lst (ks.map condD)), some dd, some (knowD l ks), some df, some dr], ?_, ?_⟩
  · rcases gf with ⟨rfl, no⟩ | ⟨u', ws', rfl, fg, hold⟩
    · repeat (first | get_elem_tactic_trivial | with_reducible refine st_seq ?_)
      try dsimp only [List.set_cons_succ, List.set_cons_zero]
      exact ⟨rfl, rfl⟩
    · repeat (first | get_elem_tactic_trivial | with_reducible refine st_seq ?_)
      try dsimp only [List.set_cons_succ, List.set_cons_zero]
      refine sp_law_is_font (by omega) fg ?_
      repeat (first | get_elem_tactic_trivial | with_reducible refine st_seq ?_)
      try dsimp only [List.set_cons_succ, List.set_cons_zero]
      refine sp_law_fitsG (by omega) (by omega) (fun c hc => (tk c hc).s) fg ?_
      rw [fitsB_true.mpr fun c hm => hold c (List.mem_append_left _ hm)]
      repeat (first | get_elem_tactic_trivial | with_reducible refine st_seq ?_)
      try dsimp only [List.set_cons_succ, List.set_cons_zero]
      exact ⟨rfl, rfl⟩
  intro ρ2 S5 ⟨e0, e1⟩
  subst e0 e1
  rcases gr with ⟨rfl, can⟩ | ⟨zz, rfl, ro, _⟩
  · repeat (first | get_elem_tactic_trivial | with_reducible refine st_seq ?_)
    try dsimp only [List.set_cons_succ, List.set_cons_zero]
    exact next
  · repeat (first | get_elem_tactic_trivial | with_reducible refine st_seq ?_)
    try dsimp only [List.set_cons_succ, List.set_cons_zero]
    refine sp_law_refutes rfl (by omega) (by omega) (by decide) kc.all (ro.val kc) ?_
    rw [ro.right]
    repeat (first | get_elem_tactic_trivial | with_reducible refine st_seq ?_)
    try dsimp only [List.set_cons_succ, List.set_cons_zero]
    exact next


end G


set_option Elab.async false
set_option linter.all false
set_option autoImplicit false
set_option maxRecDepth 100000
set_option maxHeartbeats 4000000
namespace G
open PySem PySem.Spec PyProof.Rows L2
theorem room65 {k : Nat} {A : Around} (r : RoomG k A) : A.units + 65 < cLine := by have := r.un; omega
def N_common_divisor : List Str := ["one", "other"]
theorem sc_common_divisor : FnScope N_common_divisor ["one", "other"] (defScope s_common_divisor) := ⟨rfl, rfl, rfl, by decide +kernel, rfl, by decide +kernel, by decide +kernel⟩
def N_divisor_of : List Str := ["numbers", "found", "number"]
theorem sc_divisor_of : FnScope N_divisor_of ["numbers"] (defScope s_divisor_of) := ⟨rfl, rfl, rfl, by decide +kernel, rfl, by decide +kernel, by decide +kernel⟩
def N_weighted : List Str := ["factors", "numbers", "factor", "number"]
theorem sc_weighted : FnScope N_weighted ["factors", "numbers"] (defScope s_weighted) := ⟨rfl, rfl, rfl, by decide +kernel, rfl, by decide +kernel, by decide +kernel⟩
def N_unit_row : List Str := ["size", "place", "factor", "bound", "index"]
theorem sc_unit_row : FnScope N_unit_row ["size", "place", "factor", "bound"] (defScope s_unit_row) := ⟨rfl, rfl, rfl, by decide +kernel, rfl, by decide +kernel, by decide +kernel⟩
def N_with_slack : List Str := ["rows", "row"]
theorem sc_with_slack : FnScope N_with_slack ["rows"] (defScope s_with_slack) := ⟨rfl, rfl, rfl, by decide +kernel, rfl, by decide +kernel, by decide +kernel⟩
def N_Table_init : List Str := ["self", "rows", "bounds", "goal", "row", "bound", "factor", "index"]
theorem sc_Table_init : FnScope N_Table_init ["self", "rows", "bounds", "goal"] (defScope s_Table_init) := ⟨rfl, rfl, rfl, by decide +kernel, rfl, by decide +kernel, by decide +kernel⟩
def N_Table_entering : List Str := ["self", "some", "column", "name"]
theorem sc_Table_entering : FnScope N_Table_entering ["self"] (defScope s_Table_entering) := ⟨rfl, rfl, rfl, by decide +kernel, rfl, by decide +kernel, by decide +kernel⟩
def N_Table_reduced : List Str := ["self", "row", "chosen", "column", "pivot", "factor", "found", "a", "b"]
theorem sc_Table_reduced : FnScope N_Table_reduced ["self", "row", "chosen", "column"] (defScope s_Table_reduced) := ⟨rfl, rfl, rfl, by decide +kernel, rfl, by decide +kernel, by decide +kernel⟩
def N_Table_exchange : List Str := ["self", "index", "column", "chosen", "pivot", "rows", "goal", "last", "row", "number"]
theorem sc_Table_exchange : FnScope N_Table_exchange ["self", "index", "column"] (defScope s_Table_exchange) := ⟨rfl, rfl, rfl, by decide +kernel, rfl, by decide +kernel, by decide +kernel⟩
def N_Table_limits_more : List Str := ["self", "row", "index", "best", "column", "other", "one", "two"]
theorem sc_Table_limits_more : FnScope N_Table_limits_more ["self", "row", "index", "best", "column"] (defScope s_Table_limits_more) := ⟨rfl, rfl, rfl, by decide +kernel, rfl, by decide +kernel, by decide +kernel⟩
def N_Table_leaving : List Str := ["self", "column", "best", "index", "row"]
theorem sc_Table_leaving : FnScope N_Table_leaving ["self", "column"] (defScope s_Table_leaving) := ⟨rfl, rfl, rfl, by decide +kernel, rfl, by decide +kernel, by decide +kernel⟩
def N_Table_improve : List Str := ["self", "column"]
theorem sc_Table_improve : FnScope N_Table_improve ["self"] (defScope s_Table_improve) := ⟨rfl, rfl, rfl, by decide +kernel, rfl, by decide +kernel, by decide +kernel⟩
def N_goal_row : List Str := ["table", "goal", "found", "column", "name", "row", "a", "b"]
theorem sc_goal_row : FnScope N_goal_row ["table", "goal"] (defScope s_goal_row) := ⟨rfl, rfl, rfl, by decide +kernel, rfl, by decide +kernel, by decide +kernel⟩
def N_without_slack : List Str := ["table", "goal", "extra", "index", "some", "column", "found", "number", "row", "name"]
theorem sc_without_slack : FnScope N_without_slack ["table", "goal"] (defScope s_without_slack) := ⟨rfl, rfl, rfl, by decide +kernel, rfl, by decide +kernel, by decide +kernel⟩
def N_Table_multipliers : List Str := ["self", "found", "name", "number"]
theorem sc_Table_multipliers : FnScope N_Table_multipliers ["self"] (defScope s_Table_multipliers) := ⟨rfl, rfl, rfl, by decide +kernel, rfl, by decide +kernel, by decide +kernel⟩
def N_feasible_table : List Str := ["rows", "bounds", "goal", "size", "table"]
theorem sc_feasible_table : FnScope N_feasible_table ["rows", "bounds", "goal"] (defScope s_feasible_table) := ⟨rfl, rfl, rfl, by decide +kernel, rfl, by decide +kernel, by decide +kernel⟩
def N_solve : List Str := ["rows", "bounds", "goal", "table", "against"]
theorem sc_solve : FnScope N_solve ["rows", "bounds", "goal"] (defScope s_solve) := ⟨rfl, rfl, rfl, by decide +kernel, rfl, by decide +kernel, by decide +kernel⟩
def N_Table_point : List Str := ["self", "found", "name", "row"]
theorem sc_Table_point : FnScope N_Table_point ["self"] (defScope s_Table_point) := ⟨rfl, rfl, rfl, by decide +kernel, rfl, by decide +kernel, by decide +kernel⟩
def N_decide : List Str := ["size", "conditions", "rows", "bounds", "table", "against", "factors", "bound", "strict"]
theorem sc_decide : FnScope N_decide ["size", "conditions"] (defScope s_decide) := ⟨rfl, rfl, rfl, by decide +kernel, rfl, by decide +kernel, by decide +kernel⟩
def N_high_rows : List Str := ["size", "place"]
theorem sc_high_rows : FnScope N_high_rows ["size"] (defScope s_high_rows) := ⟨rfl, rfl, rfl, by decide +kernel, rfl, by decide +kernel, by decide +kernel⟩
def N_all_conditions : List Str := ["knowledge", "conditions"]
theorem sc_all_conditions : FnScope N_all_conditions ["knowledge", "conditions"] (defScope s_all_conditions) := ⟨rfl, rfl, rfl, by decide +kernel, rfl, by decide +kernel, by decide +kernel⟩
def N_font_of : List Str := ["numerators", "denominator", "divisor", "number"]
theorem sc_font_of : FnScope N_font_of ["numerators", "denominator"] (defScope s_font_of) := ⟨rfl, rfl, rfl, by decide +kernel, rfl, by decide +kernel, by decide +kernel⟩
def N_find_font : List Str := ["knowledge", "conditions", "numerators", "other"]
theorem sc_find_font : FnScope N_find_font ["knowledge", "conditions"] (defScope s_find_font) := ⟨rfl, rfl, rfl, by decide +kernel, rfl, by decide +kernel, by decide +kernel⟩
def N_find_refutation : List Str := ["knowledge", "conditions", "size", "rows", "numerators", "multipliers", "low", "place", "row"]
theorem sc_find_refutation : FnScope N_find_refutation ["knowledge", "conditions"] (defScope s_find_refutation) := ⟨rfl, rfl, rfl, by decide +kernel, rfl, by decide +kernel, by decide +kernel⟩
def N_has_font : List Str := ["knowledge"]
theorem sc_has_font : FnScope N_has_font ["knowledge"] (defScope s_has_font) := ⟨rfl, rfl, rfl, by decide +kernel, rfl, by decide +kernel, by decide +kernel⟩
def N_law_open : List Str := ["script", "cells", "k", "cell"]
theorem sc_law_open : FnScope N_law_open ["script"] (defScope s_law_open) := ⟨rfl, rfl, rfl, by decide +kernel, rfl, by decide +kernel, by decide +kernel⟩
def N_law_spread : List Str := ["cell", "at", "primes", "one", "two", "three"]
theorem sc_law_spread : FnScope N_law_spread ["cell", "at"] (defScope s_law_spread) := ⟨rfl, rfl, rfl, by decide +kernel, rfl, by decide +kernel, by decide +kernel⟩
def N_law_take : List Str := ["pen", "amount", "at", "cell", "found"]
theorem sc_law_take : FnScope N_law_take ["pen", "amount"] (defScope s_law_take) := ⟨rfl, rfl, rfl, by decide +kernel, rfl, by decide +kernel, by decide +kernel⟩
def N_law_same : List Str := ["found", "due", "one", "other"]
theorem sc_law_same : FnScope N_law_same ["found", "due"] (defScope s_law_same) := ⟨rfl, rfl, rfl, by decide +kernel, rfl, by decide +kernel, by decide +kernel⟩
def N_law_one_of : List Str := ["pen", "some"]
theorem sc_law_one_of : FnScope N_law_one_of ["pen", "some"] (defScope s_law_one_of) := ⟨rfl, rfl, rfl, by decide +kernel, rfl, by decide +kernel, by decide +kernel⟩
def N_law_divisor : List Str := ["numbers", "found", "number", "one", "other"]
theorem sc_law_divisor : FnScope N_law_divisor ["numbers"] (defScope s_law_divisor) := ⟨rfl, rfl, rfl, by decide +kernel, rfl, by decide +kernel, by decide +kernel⟩
def N_law_plain : List Str := ["unit", "widths", "divisor", "wide"]
def N_law_draw_font : List Str := ["pen", "size", "unit", "widths", "sign", "wide"]
def N_law_sum : List Str := ["factors", "font", "factor", "wide"]
theorem sc_law_sum : FnScope N_law_sum ["factors", "font"] (defScope s_law_sum) := ⟨rfl, rfl, rfl, by decide +kernel, rfl, by decide +kernel, by decide +kernel⟩
def N_law_holds : List Str := ["condition", "font", "total", "bound"]
theorem sc_law_holds : FnScope N_law_holds ["condition", "font"] (defScope s_law_holds) := ⟨rfl, rfl, rfl, by decide +kernel, rfl, by decide +kernel, by decide +kernel⟩
def N_law_draw_condition : List Str := ["pen", "font", "size", "factors", "total", "bound", "wide"]
def N_law_draw_letters : List Str := ["pen"]
theorem sc_law_draw_letters : FnScope N_law_draw_letters ["pen"] (defScope s_law_draw_letters) := ⟨rfl, rfl, rfl, by decide +kernel, rfl, by decide +kernel, by decide +kernel⟩
def N_law_draw_knowledge : List Str := ["pen", "facts", "letters", "font", "found", "is_fitting", "again", "fact"]
def N_law_draw_text : List Str := ["pen", "letters", "words", "size", "found", "again", "k"]
def N_law_counts : List Str := ["letters", "string", "sign", "one"]
def N_law_fits : List Str := ["knowledge", "font", "fact"]
theorem sc_law_fits : FnScope N_law_fits ["knowledge", "font"] (defScope s_law_fits) := ⟨rfl, rfl, rfl, by decide +kernel, rfl, by decide +kernel, by decide +kernel⟩
def N_law_is_font : List Str := ["letters", "value", "numbers", "one"]
theorem sc_law_is_font : FnScope N_law_is_font ["letters", "value"] (defScope s_law_is_font) := ⟨rfl, rfl, rfl, by decide +kernel, rfl, by decide +kernel, by decide +kernel⟩
def N_law_rows : List Str := ["knowledge", "conditions", "size", "low", "high", "place", "k"]
theorem sc_law_rows : FnScope N_law_rows ["knowledge", "conditions"] (defScope s_law_rows) := ⟨rfl, rfl, rfl, by decide +kernel, rfl, by decide +kernel, by decide +kernel⟩
def N_law_refutes : List Str := ["knowledge", "conditions", "value", "rows", "one", "place", "total", "strict", "row"]
theorem sc_law_refutes : FnScope N_law_refutes ["knowledge", "conditions", "value"] (defScope s_law_refutes) := ⟨rfl, rfl, rfl, by decide +kernel, rfl, by decide +kernel, by decide +kernel⟩
def N_law_unit : List Str := ["size", "place", "factor", "k"]
theorem sc_law_unit : FnScope N_law_unit ["size", "place", "factor"] (defScope s_law_unit) := ⟨rfl, rfl, rfl, by decide +kernel, rfl, by decide +kernel, by decide +kernel⟩
def N_law_spans : List Str := ["pen", "size", "facts", "is_free", "place", "low", "high", "a", "is_open", "top"]
theorem sc_law_spans : FnScope N_law_spans ["pen", "size"] (defScope s_law_spans) := ⟨rfl, rfl, rfl, by decide +kernel, rfl, by decide +kernel, by decide +kernel⟩
def N_law_chain : List Str := ["pen", "size", "times", "facts", "total", "is_open", "place", "one", "other", "a", "b"]
theorem sc_law_chain : FnScope N_law_chain ["pen", "size"] (defScope s_law_chain) := ⟨rfl, rfl, rfl, by decide +kernel, rfl, by decide +kernel, by decide +kernel⟩
def N_law_sums : List Str := ["pen", "size", "total", "most", "is_open", "facts", "place"]
theorem sc_law_sums : FnScope N_law_sums ["pen", "size"] (defScope s_law_sums) := ⟨rfl, rfl, rfl, by decide +kernel, rfl, by decide +kernel, by decide +kernel⟩
def N_law : List Str := ["script", "pen", "turn", "letters", "size", "facts", "due", "knowledge", "font", "against"]
theorem sc_law : FnScope N_law ["script"] (defScope s_law) := ⟨rfl, rfl, rfl, by decide +kernel, rfl, by decide +kernel, by decide +kernel⟩
structure Fx (K : PySem.W.Frag) (mg : Str → Option Value) : Prop where
  d_common_divisor : DefAt K mg "common_divisor" s_common_divisor
  d_divisor_of : DefAt K mg "divisor_of" s_divisor_of
  d_weighted : DefAt K mg "weighted" s_weighted
  d_unit_row : DefAt K mg "unit_row" s_unit_row
  d_with_slack : DefAt K mg "with_slack" s_with_slack
  d_Table_init : MakeAt K mg "Table" "Table.__init__" s_Table_init
  d_Table_entering : MethAt K "Table" "entering" "Table.entering" s_Table_entering
  d_Table_reduced : MethAt K "Table" "reduced" "Table.reduced" s_Table_reduced
  d_Table_exchange : MethAt K "Table" "exchange" "Table.exchange" s_Table_exchange
  d_Table_limits_more : MethAt K "Table" "limits_more" "Table.limits_more" s_Table_limits_more
  d_Table_leaving : MethAt K "Table" "leaving" "Table.leaving" s_Table_leaving
  d_Table_improve : MethAt K "Table" "improve" "Table.improve" s_Table_improve
  d_goal_row : DefAt K mg "goal_row" s_goal_row
  d_without_slack : DefAt K mg "without_slack" s_without_slack
  d_Table_multipliers : MethAt K "Table" "multipliers" "Table.multipliers" s_Table_multipliers
  d_feasible_table : DefAt K mg "feasible_table" s_feasible_table
  d_solve : DefAt K mg "solve" s_solve
  d_Table_point : MethAt K "Table" "point" "Table.point" s_Table_point
  d_decide : DefAt K mg "decide" s_decide
  d_high_rows : DefAt K mg "high_rows" s_high_rows
  d_all_conditions : DefAt K mg "all_conditions" s_all_conditions
  d_font_of : DefAt K mg "font_of" s_font_of
  d_find_font : DefAt K mg "find_font" s_find_font
  d_find_refutation : DefAt K mg "find_refutation" s_find_refutation
  d_has_font : DefAt K mg "has_font" s_has_font
  d_law_open : DefAt K mg "_law_open" s_law_open
  d_law_spread : DefAt K mg "_law_spread" s_law_spread
  d_law_take : DefAt K mg "_law_take" s_law_take
  d_law_same : DefAt K mg "_law_same" s_law_same
  d_law_one_of : DefAt K mg "_law_one_of" s_law_one_of
  d_law_divisor : DefAt K mg "_law_divisor" s_law_divisor
  d_law_plain : DefAt K mg "_law_plain" s_law_plain
  d_law_draw_font : DefAt K mg "_law_draw_font" s_law_draw_font
  d_law_sum : DefAt K mg "_law_sum" s_law_sum
  d_law_holds : DefAt K mg "_law_holds" s_law_holds
  d_law_draw_condition : DefAt K mg "_law_draw_condition" s_law_draw_condition
  d_law_draw_letters : DefAt K mg "_law_draw_letters" s_law_draw_letters
  d_law_draw_knowledge : DefAt K mg "_law_draw_knowledge" s_law_draw_knowledge
  d_law_draw_text : DefAt K mg "_law_draw_text" s_law_draw_text
  d_law_counts : DefAt K mg "_law_counts" s_law_counts
  d_law_fits : DefAt K mg "_law_fits" s_law_fits
  d_law_is_font : DefAt K mg "_law_is_font" s_law_is_font
  d_law_rows : DefAt K mg "_law_rows" s_law_rows
  d_law_refutes : DefAt K mg "_law_refutes" s_law_refutes
  d_law_unit : DefAt K mg "_law_unit" s_law_unit
  d_law_spans : DefAt K mg "_law_spans" s_law_spans
  d_law_chain : DefAt K mg "_law_chain" s_law_chain
  d_law_sums : DefAt K mg "_law_sums" s_law_sums
  d_law : DefAt K mg "law" s_law
  c_Table : Cls K (He.ga K "Table")
  a_size : ∀ C, C ∈ ([He.ga K "Table"] : List Addr) → Cls K C ∧ NoAttr K C "size"
  a_rows : ∀ C, C ∈ ([He.ga K "Table"] : List Addr) → Cls K C ∧ NoAttr K C "rows"
  a_goal : ∀ C, C ∈ ([He.ga K "Table"] : List Addr) → Cls K C ∧ NoAttr K C "goal"
  a_columns : ∀ C, C ∈ ([He.ga K "Table"] : List Addr) → Cls K C ∧ NoAttr K C "columns"
  a_basis : ∀ C, C ∈ ([He.ga K "Table"] : List Addr) → Cls K C ∧ NoAttr K C "basis"
  a_denominator : ∀ C, C ∈ ([He.ga K "Table"] : List Addr) → Cls K C ∧ NoAttr K C "denominator"
  f_zip : mg "zip" = none
  f_sum : mg "sum" = none
  f_range : mg "range" = none
  f_tuple : mg "tuple" = none
  f_list : mg "list" = none
  f_len : mg "len" = none
  f_enumerate : mg "enumerate" = none
  f_min : mg "min" = none
  f_abs : mg "abs" = none
  f_int : mg "int" = none
  f_isinstance : mg "isinstance" = none
  f_bool : mg "bool" = none
  f_str : mg "str" = none
  f_max : mg "max" = none
  f_sorted : mg "sorted" = none
  k_MAX_WIDTH : ∃ t, mg "MAX_WIDTH" = some (.int 20 t)
section
variable {P : Program} {w : World} {Fr : PySem.W.Frag} {mg : Str → Option Value} {base : Heap}
theorem ok_common_divisor (F : Fx Fr mg) : Callee P w Fr mg base "common_divisor" 1 (c_common_divisor) :=
  callee_of (ps := ["one", "other"]) F.d_common_divisor sc_common_divisor (fun _ _ _ _ _ _ us hl => match us, hl with | [_, _], _ => rfl) (fun f cdv A outer s H E hr =>
    (gss_cons (gs_while PassesOwn.never (gt_cmp (go_ne hr.units) (ge_var 1) ge_int) (gss_one (gs_par 0 1 sc_common_divisor.nd (ge_var 1) (ge_bin go_mod (ge_var 0) (ge_var 1)))))
    (gss_one (gs_ret (ge_var 0)))))
theorem ok_divisor_of (F : Fx Fr mg) : Callee P w Fr mg base "divisor_of" 2 (c_divisor_of) :=
  callee_of (ps := ["numbers"]) F.d_divisor_of sc_divisor_of (fun _ _ _ _ _ _ us hl => match us, hl with | [_], _ => rfl) (fun f cdv A outer s H E hr =>
    (gss_cons (gs_set 1 sc_divisor_of.nd ge_int)
    (gss_cons (gs_for PassesOwn.never (gi_val (ge_var 0)) (gg_name 2 sc_divisor_of.nd) (gss_one (gs_set 1 sc_divisor_of.nd (ge_callee (ok_common_divisor F) hr (ga_cons (ge_var 1) (ga_cons (ge_var 2) ga_nil))))))
    (gss_one (gs_ret (ge_var 1))))))
theorem ok_weighted (F : Fx Fr mg) : Callee P w Fr mg base "weighted" 1 (c_weighted) :=
  callee_of (ps := ["factors", "numbers"]) F.d_weighted sc_weighted (fun _ _ _ _ _ _ us hl => match us, hl with | [_, _], _ => rfl) (fun f cdv A outer s H E hr =>
    (gss_one (gs_ret (ge_callB (gc_sum rfl) F.f_sum (by decide +kernel) (ga_cons (ge_fr (gf_comp (own := [("factor", 2), ("number", 3)]) sc_weighted.nd (gi_zipK true (ge_var 0) (ge_var 1) F.f_zip) (blkOk_by (N := N_weighted) (sc := defScope s_weighted) (by decide +kernel)) (fun _ _ _ _ _ => (gc_tup rfl (gcs_cons (gc_name 2 sc_weighted.nd) (gcs_cons (gc_name 3 sc_weighted.nd) gcs_nil)))) (fun _ _ _ _ _ => gif_nil) (fun _ _ _ _ _ => (ge_bin go_mul (ge_var 2) (ge_var 3))))) ga_nil)))))
theorem ok_unit_row (F : Fx Fr mg) : Callee P w Fr mg base "unit_row" 1 (c_unit_row) :=
  callee_of (ps := ["size", "place", "factor", "bound"]) F.d_unit_row sc_unit_row (fun _ _ _ _ _ _ us hl => match us, hl with | [_, _, _, _], _ => rfl) (fun f cdv A outer s H E hr =>
    (gss_one (gs_ret (ge_tup (ga_cons (ge_callT gc_tuple F.f_tuple (by decide +kernel) (ga_cons (ge_fr (gf_comp (own := [("index", 4)]) sc_unit_row.nd (gi_range1 (ge_var 0) F.f_range) (blkOk_by (N := N_unit_row) (sc := defScope s_unit_row) (by decide +kernel)) (fun _ _ _ _ _ => (gc_name 4 sc_unit_row.nd)) (fun _ _ _ _ _ => gif_nil) (fun _ _ _ _ _ => (ge_if (gt_cmp (go_eq hr.units) (ge_var 4) (ge_var 1)) (ge_var 2) ge_int)))) ga_nil)) (ga_cons (ge_var 3) (ga_cons ge_bl ga_nil)))))))
theorem ok_with_slack (F : Fx Fr mg) : Callee P w Fr mg base "with_slack" 1 (c_with_slack) :=
  callee_of (ps := ["rows"]) F.d_with_slack sc_with_slack (fun _ _ _ _ _ _ us hl => match us, hl with | [_], _ => rfl) (fun f cdv A outer s H E hr =>
    (gss_one (gs_ret (ge_fr (gf_comp (own := [("row", 1)]) sc_with_slack.nd (gi_val (ge_var 0)) (blkOk_by (N := N_with_slack) (sc := defScope s_with_slack) (by decide +kernel)) (fun _ _ _ _ _ => (gc_name 1 sc_with_slack.nd)) (fun _ _ _ _ _ => gif_nil) (fun _ _ _ _ _ => (ge_bin go_add (ge_fr (gf_list (ge_var 1) F.f_list)) (ge_fr (gf_lst (ga_cons (ge_bin go_sub ge_int ge_int) ga_nil))))))))))
theorem ok_Table_init (F : Fx Fr mg) : CalleeN P w Fr mg base "Table" (He.ga Fr "Table") 1 (c_Table_init Fr) :=
  calleeN_of (ps := ["self", "rows", "bounds", "goal"]) F.d_Table_init sc_Table_init (fun _ _ _ _ _ _ us hl => match us, hl with | [_, _, _, _], _ => rfl) (fun f cdv A outer s H E hr =>
    (gss_cons (gs_asg (ge_callB gc_len F.f_len (by decide +kernel) (ga_cons (ge_var 3) ga_nil)) (gg_fld (ge_var 0) F.a_size))
    (gss_cons (gs_asg (ge_fr (gf_comp (own := [("row", 4), ("bound", 5)]) sc_Table_init.nd (gi_zipK true (ge_var 1) (ge_var 2) F.f_zip) (blkOk_by (N := N_Table_init) (sc := defScope s_Table_init) (by decide +kernel)) (fun _ _ _ _ _ => (gc_tup rfl (gcs_cons (gc_name 4 sc_Table_init.nd) (gcs_cons (gc_name 5 sc_Table_init.nd) gcs_nil)))) (fun _ _ _ _ _ => gif_nil) (fun _ _ _ _ _ => (ge_bin go_add (ge_fr (gf_list (ge_var 4) F.f_list)) (ge_fr (gf_lst (ga_cons (ge_var 5) ga_nil))))))) (gg_fld (ge_var 0) F.a_rows))
    (gss_cons (gs_asg (ge_bin go_add (ge_fr (gf_comp (own := [("factor", 6)]) sc_Table_init.nd (gi_val (ge_var 3)) (blkOk_by (N := N_Table_init) (sc := defScope s_Table_init) (by decide +kernel)) (fun _ _ _ _ _ => (gc_name 6 sc_Table_init.nd)) (fun _ _ _ _ _ => gif_nil) (fun _ _ _ _ _ => (ge_bin go_sub ge_int (ge_var 6))))) (ge_fr (gf_lst (ga_cons ge_int ga_nil)))) (gg_fld (ge_var 0) F.a_goal))
    (gss_cons (gs_asg (ge_lv (gf_lrng (ge_fld (ge_var 0) F.a_size) F.f_list F.f_range)) (gg_fld (ge_var 0) F.a_columns))
    (gss_cons (gs_asg (ge_lv (gf_comp (own := [("index", 7)]) sc_Table_init.nd (gi_range1 (ge_callB gc_len F.f_len (by decide +kernel) (ga_cons (ge_var 1) ga_nil)) F.f_range) (blkOk_by (N := N_Table_init) (sc := defScope s_Table_init) (by decide +kernel)) (fun _ _ _ _ _ => (gc_name 7 sc_Table_init.nd)) (fun _ _ _ _ _ => gif_nil) (fun _ _ _ _ _ => (ge_bin go_add (ge_fld (ge_var 0) F.a_size) (ge_var 7))))) (gg_fld (ge_var 0) F.a_basis))
    (gss_one (gs_asg ge_int (gg_fld (ge_var 0) F.a_denominator)))))))))
theorem ok_Table_entering (F : Fx Fr mg) : CalleeM P w Fr mg base (He.ga Fr "Table") "entering" 1 (c_Table_entering Fr) :=
  calleeM_of (ps := ["self"]) F.d_Table_entering sc_Table_entering (fun _ _ _ _ _ _ us hl => match us, hl with | [_], _ => rfl) (fun f cdv A outer s H E hr =>
    (gss_cons (gs_setLc 1 (own := [("column", 2), ("name", 3)]) sc_Table_entering.nd (gi_enum (ge_fld (ge_var 0) F.a_columns) F.f_enumerate) (blkOk_by (N := N_Table_entering) (sc := defScope s_Table_entering) (by decide +kernel)) (fun _ _ _ _ _ => (gc_tup rfl (gcs_cons (gc_name 2 sc_Table_entering.nd) (gcs_cons (gc_name 3 sc_Table_entering.nd) gcs_nil)))) (fun _ _ _ _ _ => (gif_one (gt_cmp (go_lt) (ge_ix (ge_fld (ge_var 0) F.a_goal) (ge_var 2)) ge_int))) (fun _ _ _ _ _ => (ge_tup (ga_cons (ge_var 3) (ga_cons (ge_var 2) ga_nil)))) (sw_true rfl rfl rfl (by decide +kernel)))
    (gss_one (gs_ret (ge_if (gt_cmp (go_ne hr.units) (ge_var 1) (ge_fr (gf_lst ga_nil))) (ge_ix (ge_callB (gc_minP rfl (room65 hr)) F.f_min (by decide +kernel) (ga_cons (ge_var 1) ga_nil)) ge_int) ge_non)))))
theorem ok_Table_reduced (F : Fx Fr mg) : CalleeM P w Fr mg base (He.ga Fr "Table") "reduced" 1 (c_Table_reduced Fr) :=
  calleeM_of (ps := ["self", "row", "chosen", "column"]) F.d_Table_reduced sc_Table_reduced (fun _ _ _ _ _ _ us hl => match us, hl with | [_, _, _, _], _ => rfl) (fun f cdv A outer s H E hr =>
    (gss_cons (gs_asg (ge_tup (ga_cons (ge_ix (ge_var 2) (ge_var 3)) (ga_cons (ge_ix (ge_var 1) (ge_var 3)) ga_nil))) (gg_tup rfl (ggs_cons (gg_name 4 sc_Table_reduced.nd) (ggs_cons (gg_name 5 sc_Table_reduced.nd) ggs_nil))))
    (gss_cons (gs_setLcL 6 (own := [("a", 7), ("b", 8)]) sc_Table_reduced.nd (gi_zipK true (ge_var 1) (ge_var 2) F.f_zip) (blkOk_by (N := N_Table_reduced) (sc := defScope s_Table_reduced) (by decide +kernel)) (fun _ _ _ _ _ => (gc_tup rfl (gcs_cons (gc_name 7 sc_Table_reduced.nd) (gcs_cons (gc_name 8 sc_Table_reduced.nd) gcs_nil)))) (fun _ _ _ _ _ => gif_nil) (fun _ _ _ _ _ => (ge_bin go_div (ge_bin go_sub (ge_bin go_mul (ge_var 7) (ge_var 4)) (ge_bin go_mul (ge_var 5) (ge_var 8))) (ge_fld (ge_var 0) F.a_denominator))) (sw_true rfl rfl rfl (by decide +kernel)))
    (gss_cons (gs_asg (ge_bin go_sub ge_int (ge_var 5)) (gg_ix (ge_var 6) (ge_var 3)))
    (gss_one (gs_ret (ge_frz (ge_var 6))))))))
theorem ok_Table_exchange (F : Fx Fr mg) : CalleeM P w Fr mg base (He.ga Fr "Table") "exchange" 2 (c_Table_exchange Fr) :=
  calleeM_of (ps := ["self", "index", "column"]) F.d_Table_exchange sc_Table_exchange (fun _ _ _ _ _ _ us hl => match us, hl with | [_, _, _], _ => rfl) (fun f cdv A outer s H E hr =>
    (gss_cons (gs_set 3 sc_Table_exchange.nd (ge_ix (ge_fld (ge_var 0) F.a_rows) (ge_var 1)))
    (gss_cons (gs_set 4 sc_Table_exchange.nd (ge_ix (ge_var 3) (ge_var 2)))
    (gss_cons (gs_setLcL 5 (own := [("row", 8)]) sc_Table_exchange.nd (gi_val (ge_fld (ge_var 0) F.a_rows)) (blkOk_by (N := N_Table_exchange) (sc := defScope s_Table_exchange) (by decide +kernel)) (fun _ _ _ _ _ => (gc_name 8 sc_Table_exchange.nd)) (fun _ _ _ _ _ => gif_nil) (fun _ _ _ _ _ => (ge_mt (ge_var 0) F.c_Table (ok_Table_reduced F) hr (ga_cons (ge_var 8) (ga_cons (ge_var 3) (ga_cons (ge_var 2) ga_nil))))) (sw_true rfl rfl rfl (by decide +kernel)))
    (gss_cons (gs_set 6 sc_Table_exchange.nd (ge_mt (ge_var 0) F.c_Table (ok_Table_reduced F) hr (ga_cons (ge_fld (ge_var 0) F.a_goal) (ga_cons (ge_var 3) (ga_cons (ge_var 2) ga_nil)))))
    (gss_cons (gs_set 7 sc_Table_exchange.nd (ge_lv (gf_list (ge_var 3) F.f_list)))
    (gss_cons (gs_asg (ge_fld (ge_var 0) F.a_denominator) (gg_ix (ge_var 7) (ge_var 2)))
    (gss_cons (gs_asg (ge_frz (ge_var 7)) (gg_ix (ge_var 5) (ge_var 1)))
    (gss_cons (gs_if (gt_cmp (go_lt) (ge_var 4) ge_int) (gss_cons (gs_setLcL 5 (own := [("row", 8)]) sc_Table_exchange.nd (gi_val (ge_var 5)) (blkOk_by (N := N_Table_exchange) (sc := defScope s_Table_exchange) (by decide +kernel)) (fun _ _ _ _ _ => (gc_name 8 sc_Table_exchange.nd)) (fun _ _ _ _ _ => gif_nil) (fun _ _ _ _ _ => (ge_fr (gf_comp (own := [("number", 9)]) sc_Table_exchange.nd (gi_val (ge_var 8)) (blkOk_by (by kernel_rfl)) (fun _ _ _ _ _ => (gc_name 9 sc_Table_exchange.nd)) (fun _ _ _ _ _ => gif_nil) (fun _ _ _ _ _ => (ge_bin go_sub ge_int (ge_var 9)))))) (sw_true rfl rfl rfl (by decide +kernel)))
    (gss_one (gs_setLc 6 (own := [("number", 9)]) sc_Table_exchange.nd (gi_val (ge_var 6)) (blkOk_by (N := N_Table_exchange) (sc := defScope s_Table_exchange) (by decide +kernel)) (fun _ _ _ _ _ => (gc_name 9 sc_Table_exchange.nd)) (fun _ _ _ _ _ => gif_nil) (fun _ _ _ _ _ => (ge_bin go_sub ge_int (ge_var 9))) (sw_true rfl rfl rfl (by decide +kernel))))) gss_nil)
    (gss_cons (gs_asg (ge_tup (ga_cons (ge_frz (ge_var 5)) (ga_cons (ge_var 6) (ga_cons (ge_callB gc_abs F.f_abs (by decide +kernel) (ga_cons (ge_var 4) ga_nil)) ga_nil)))) (gg_tup rfl (ggs_cons (gg_fld (ge_var 0) F.a_rows) (ggs_cons (gg_fld (ge_var 0) F.a_goal) (ggs_cons (gg_fld (ge_var 0) F.a_denominator) ggs_nil)))))
    (gss_one (gs_asg (ge_tup (ga_cons (ge_ix (ge_fld (ge_var 0) F.a_columns) (ge_var 2)) (ga_cons (ge_ix (ge_fld (ge_var 0) F.a_basis) (ge_var 1)) ga_nil))) (gg_tup rfl (ggs_cons (gg_ix (ge_fld (ge_var 0) F.a_basis) (ge_var 1)) (ggs_cons (gg_ix (ge_fld (ge_var 0) F.a_columns) (ge_var 2)) ggs_nil)))))))))))))))
theorem ok_Table_limits_more (F : Fx Fr mg) : CalleeM P w Fr mg base (He.ga Fr "Table") "limits_more" 1 (c_Table_limits_more Fr) :=
  calleeM_of (ps := ["self", "row", "index", "best", "column"]) F.d_Table_limits_more sc_Table_limits_more (fun _ _ _ _ _ _ us hl => match us, hl with | [_, _, _, _, _], _ => rfl) (fun f cdv A outer s H E hr =>
    (gss_cons (gs_set 5 sc_Table_limits_more.nd (ge_ix (ge_fld (ge_var 0) F.a_rows) (ge_var 3)))
    (gss_cons (gs_par 6 7 sc_Table_limits_more.nd (ge_bin go_mul (ge_ix (ge_var 1) ge_negi) (ge_ix (ge_var 5) (ge_var 4))) (ge_bin go_mul (ge_ix (ge_var 5) ge_negi) (ge_ix (ge_var 1) (ge_var 4))))
    (gss_one (gs_ret (ge_or (ge_cmp (go_lt) (ge_var 6) (ge_var 7)) (ge_one (ge_and (ge_cmp (go_eq hr.units) (ge_var 6) (ge_var 7)) (ge_one (ge_cmp (go_lt) (ge_ix (ge_fld (ge_var 0) F.a_basis) (ge_var 2)) (ge_ix (ge_fld (ge_var 0) F.a_basis) (ge_var 3))))))))))))
theorem ok_Table_leaving (F : Fx Fr mg) : CalleeM P w Fr mg base (He.ga Fr "Table") "leaving" 2 (c_Table_leaving Fr) :=
  calleeM_of (ps := ["self", "column"]) F.d_Table_leaving sc_Table_leaving (fun _ _ _ _ _ _ us hl => match us, hl with | [_, _], _ => rfl) (fun f cdv A outer s H E hr =>
    (gss_cons (gs_set 2 sc_Table_leaving.nd ge_non)
    (gss_cons (gs_for PassesOwn.never (gi_enum (ge_fld (ge_var 0) F.a_rows) F.f_enumerate) (gg_tup rfl (ggs_cons (gg_name 3 sc_Table_leaving.nd) (ggs_cons (gg_name 4 sc_Table_leaving.nd) ggs_nil))) (gss_one (gs_if (gt_cmp (go_gt) (ge_ix (ge_var 4) (ge_var 1)) ge_int) (gss_one (gs_if (gt_w (gw_or (gt_cmp (go_is) (ge_var 2) ge_non) (gw_or1 (gt_val (ge_mt (ge_var 0) F.c_Table (ok_Table_limits_more F) hr (ga_cons (ge_var 4) (ga_cons (ge_var 3) (ga_cons (ge_var 2) (ga_cons (ge_var 1) ga_nil))))))))) (gss_one (gs_set 2 sc_Table_leaving.nd (ge_var 3))) gss_nil)) gss_nil)))
    (gss_one (gs_ret (ge_var 2))))))
theorem ok_Table_improve (F : Fx Fr mg) : CalleeM P w Fr mg base (He.ga Fr "Table") "improve" 3 (c_Table_improve Fr) :=
  calleeM_of (ps := ["self"]) F.d_Table_improve sc_Table_improve (fun _ _ _ _ _ _ us hl => match us, hl with | [_], _ => rfl) (fun f cdv A outer s H E hr =>
    (gss_cons (gs_set 1 sc_Table_improve.nd (ge_mt0 (ge_var 0) F.c_Table (ok_Table_entering F) hr))
    (gss_one (gs_while PassesOwn.never (gt_cmp (go_isNot) (ge_var 1) ge_non) (gss_cons (gs_expr (ge_mt (ge_var 0) F.c_Table (ok_Table_exchange F) hr (ga_cons (ge_mt (ge_var 0) F.c_Table (ok_Table_leaving F) hr (ga_cons (ge_var 1) ga_nil)) (ga_cons (ge_var 1) ga_nil))))
    (gss_one (gs_set 1 sc_Table_improve.nd (ge_mt0 (ge_var 0) F.c_Table (ok_Table_entering F) hr))))))))
theorem ok_goal_row (F : Fx Fr mg) : Callee P w Fr mg base "goal_row" 1 (c_goal_row Fr) :=
  callee_of (ps := ["table", "goal"]) F.d_goal_row sc_goal_row (fun _ _ _ _ _ _ us hl => match us, hl with | [_, _], _ => rfl) (fun f cdv A outer s H E hr =>
    (gss_cons (gs_set 2 sc_goal_row.nd (ge_lv (gf_rep (ge_fr (gf_lst (ga_cons ge_int ga_nil))) (ge_bin go_add (ge_callB gc_len F.f_len (by decide +kernel) (ga_cons (ge_fld (ge_var 0) F.a_columns) ga_nil)) ge_int))))
    (gss_cons (gs_for PassesOwn.never (gi_enum (ge_fld (ge_var 0) F.a_columns) F.f_enumerate) (gg_tup rfl (ggs_cons (gg_name 3 sc_goal_row.nd) (ggs_cons (gg_name 4 sc_goal_row.nd) ggs_nil))) (gss_one (gs_if (gt_cmp (go_lt) (ge_var 4) (ge_callB gc_len F.f_len (by decide +kernel) (ga_cons (ge_var 1) ga_nil))) (gss_one (gs_augIx (ge_var 2) (ge_var 3) (ge_bin go_mul (ge_ix (ge_var 1) (ge_var 4)) (ge_fld (ge_var 0) F.a_denominator)) ip_sub)) gss_nil)))
    (gss_cons (gs_for PassesOwn.never (gi_zipK true (ge_fld (ge_var 0) F.a_basis) (ge_fld (ge_var 0) F.a_rows) F.f_zip) (gg_tup rfl (ggs_cons (gg_name 4 sc_goal_row.nd) (ggs_cons (gg_name 5 sc_goal_row.nd) ggs_nil))) (gss_one (gs_if (gt_cmp (go_lt) (ge_var 4) (ge_callB gc_len F.f_len (by decide +kernel) (ga_cons (ge_var 1) ga_nil))) (gss_one (gs_setLcL 2 (own := [("a", 6), ("b", 7)]) sc_goal_row.nd (gi_zipK true (ge_var 2) (ge_var 5) F.f_zip) (blkOk_by (N := N_goal_row) (sc := defScope s_goal_row) (by decide +kernel)) (fun _ _ _ _ _ => (gc_tup rfl (gcs_cons (gc_name 6 sc_goal_row.nd) (gcs_cons (gc_name 7 sc_goal_row.nd) gcs_nil)))) (fun _ _ _ _ _ => gif_nil) (fun _ _ _ _ _ => (ge_bin go_add (ge_var 6) (ge_bin go_mul (ge_ix (ge_var 1) (ge_var 4)) (ge_var 7)))) (sw_true rfl rfl rfl (by decide +kernel)))) gss_nil)))
    (gss_one (gs_ret (ge_frz (ge_var 2))))))))
theorem ok_without_slack (F : Fx Fr mg) : Callee P w Fr mg base "without_slack" 3 (c_without_slack Fr) :=
  callee_of (ps := ["table", "goal"]) F.d_without_slack sc_without_slack (fun _ _ _ _ _ _ us hl => match us, hl with | [_, _], _ => rfl) (fun f cdv A outer s H E hr =>
    (gss_cons (gs_set 2 sc_without_slack.nd (ge_bin go_sub (ge_fld (ge_var 0) F.a_size) ge_int))
    (gss_cons (gs_if (gt_cmp (go_in (room65 hr)) (ge_var 2) (ge_fld (ge_var 0) F.a_basis)) (gss_cons (gs_set 3 sc_without_slack.nd (ge_lix (ge_fld (ge_var 0) F.a_basis) (ge_var 2)))
    (gss_cons (gs_setLc 4 (own := [("column", 5), ("number", 7)]) sc_without_slack.nd (gi_enum (ge_sl (ge_ix (ge_fld (ge_var 0) F.a_rows) (ge_var 3)) gp_no (gp_so ge_negi)) F.f_enumerate) (blkOk_by (N := N_without_slack) (sc := defScope s_without_slack) (by decide +kernel)) (fun _ _ _ _ _ => (gc_tup rfl (gcs_cons (gc_name 5 sc_without_slack.nd) (gcs_cons (gc_name 7 sc_without_slack.nd) gcs_nil)))) (fun _ _ _ _ _ => (gif_one (gt_cmp (go_ne hr.units) (ge_var 7) ge_int))) (fun _ _ _ _ _ => (ge_var 5)) (sw_true rfl rfl rfl (by decide +kernel)))
    (gss_one (gs_expr (ge_mt (ge_var 0) F.c_Table (ok_Table_exchange F) hr (ga_cons (ge_var 3) (ga_cons (ge_ix (ge_var 4) ge_int) ga_nil))))))) gss_nil)
    (gss_cons (gs_set 5 sc_without_slack.nd (ge_lix (ge_fld (ge_var 0) F.a_columns) (ge_var 2)))
    (gss_cons (gs_set 6 sc_without_slack.nd (ge_make (ok_Table_init F) hr (ga_cons (ge_fr (gf_lst ga_nil)) (ga_cons (ge_fr (gf_lst ga_nil)) (ga_cons (ge_var 1) ga_nil)))))
    (gss_cons (gs_asg (ge_fr (gf_comp (own := [("row", 8)]) sc_without_slack.nd (gi_val (ge_fld (ge_var 0) F.a_rows)) (blkOk_by (N := N_without_slack) (sc := defScope s_without_slack) (by decide +kernel)) (fun _ _ _ _ _ => (gc_name 8 sc_without_slack.nd)) (fun _ _ _ _ _ => gif_nil) (fun _ _ _ _ _ => (ge_bin go_add (ge_sl (ge_var 8) gp_no (gp_so (ge_var 5))) (ge_sl (ge_var 8) (gp_so (ge_bin go_add (ge_var 5) ge_int)) gp_no))))) (gg_fld (ge_var 6) F.a_rows))
    (gss_cons (gs_asg (ge_lv (gf_comp (own := [("name", 9)]) sc_without_slack.nd (gi_val (ge_fld (ge_var 0) F.a_columns)) (blkOk_by (N := N_without_slack) (sc := defScope s_without_slack) (by decide +kernel)) (fun _ _ _ _ _ => (gc_name 9 sc_without_slack.nd)) (fun _ _ _ _ _ => (gif_one (gt_cmp (go_ne hr.units) (ge_var 9) (ge_var 2)))) (fun _ _ _ _ _ => (ge_bin go_sub (ge_var 9) (ge_callT gc_int F.f_int (by decide +kernel) (ga_cons (ge_cmp (go_gt) (ge_var 9) (ge_var 2)) ga_nil)))))) (gg_fld (ge_var 6) F.a_columns))
    (gss_cons (gs_asg (ge_lv (gf_comp (own := [("name", 9)]) sc_without_slack.nd (gi_val (ge_fld (ge_var 0) F.a_basis)) (blkOk_by (N := N_without_slack) (sc := defScope s_without_slack) (by decide +kernel)) (fun _ _ _ _ _ => (gc_name 9 sc_without_slack.nd)) (fun _ _ _ _ _ => gif_nil) (fun _ _ _ _ _ => (ge_bin go_sub (ge_var 9) (ge_callT gc_int F.f_int (by decide +kernel) (ga_cons (ge_cmp (go_gt) (ge_var 9) (ge_var 2)) ga_nil)))))) (gg_fld (ge_var 6) F.a_basis))
    (gss_cons (gs_asg (ge_fld (ge_var 0) F.a_denominator) (gg_fld (ge_var 6) F.a_denominator))
    (gss_cons (gs_asg (ge_callee (ok_goal_row F) hr (ga_cons (ge_var 6) (ga_cons (ge_var 1) ga_nil))) (gg_fld (ge_var 6) F.a_goal))
    (gss_one (gs_ret (ge_var 6)))))))))))))
theorem ok_Table_multipliers (F : Fx Fr mg) : CalleeM P w Fr mg base (He.ga Fr "Table") "multipliers" 1 (c_Table_multipliers Fr) :=
  calleeM_of (ps := ["self"]) F.d_Table_multipliers sc_Table_multipliers (fun _ _ _ _ _ _ us hl => match us, hl with | [_], _ => rfl) (fun f cdv A outer s H E hr =>
    (gss_cons (gs_set 1 sc_Table_multipliers.nd (ge_lv (gf_rep (ge_fr (gf_lst (ga_cons ge_int ga_nil))) (ge_callB gc_len F.f_len (by decide +kernel) (ga_cons (ge_fld (ge_var 0) F.a_rows) ga_nil)))))
    (gss_cons (gs_for PassesOwn.never (gi_zipK true (ge_fld (ge_var 0) F.a_columns) (ge_sl (ge_fld (ge_var 0) F.a_goal) gp_no (gp_so ge_negi)) F.f_zip) (gg_tup rfl (ggs_cons (gg_name 2 sc_Table_multipliers.nd) (ggs_cons (gg_name 3 sc_Table_multipliers.nd) ggs_nil))) (gss_one (gs_if (gt_cmp (go_ge) (ge_var 2) (ge_fld (ge_var 0) F.a_size)) (gss_one (gs_asg (ge_var 3) (gg_ix (ge_var 1) (ge_bin go_sub (ge_var 2) (ge_fld (ge_var 0) F.a_size))))) gss_nil)))
    (gss_one (gs_ret (ge_frz (ge_var 1)))))))
theorem ok_feasible_table (F : Fx Fr mg) : Callee P w Fr mg base "feasible_table" 4 (c_feasible_table Fr) :=
  callee_of (ps := ["rows", "bounds", "goal"]) F.d_feasible_table sc_feasible_table (fun _ _ _ _ _ _ us hl => match us, hl with | [_, _, _], _ => rfl) (fun f cdv A outer s H E hr =>
    (gss_cons (gs_set 3 sc_feasible_table.nd (ge_callB gc_len F.f_len (by decide +kernel) (ga_cons (ge_var 2) ga_nil)))
    (gss_cons (gs_set 4 sc_feasible_table.nd (ge_make (ok_Table_init F) hr (ga_cons (ge_callee (ok_with_slack F) hr (ga_cons (ge_var 0) ga_nil)) (ga_cons (ge_var 1) (ga_cons (ge_bin go_add (ge_bin go_mul (ge_fr (gf_lst (ga_cons ge_int ga_nil))) (ge_var 3)) (ge_fr (gf_lst (ga_cons (ge_bin go_sub ge_int ge_int) ga_nil)))) ga_nil)))))
    (gss_cons (gs_if (gt_cmp (go_lt) (ge_callB (gc_minL rfl) F.f_min (by decide +kernel) (ga_cons (ge_var 1) ga_nil)) ge_int) (gss_one (gs_expr (ge_mt (ge_var 4) F.c_Table (ok_Table_exchange F) hr (ga_cons (ge_lix (ge_var 1) (ge_callB (gc_minL rfl) F.f_min (by decide +kernel) (ga_cons (ge_var 1) ga_nil))) (ga_cons (ge_var 3) ga_nil))))) gss_nil)
    (gss_cons (gs_expr (ge_mt0 (ge_var 4) F.c_Table (ok_Table_improve F) hr))
    (gss_cons (gs_if (gt_cmp (go_lt) (ge_ix (ge_fld (ge_var 4) F.a_goal) ge_negi) ge_int) (gss_one (gs_ret (ge_tup (ga_cons ge_non (ga_cons (ge_mt0 (ge_var 4) F.c_Table (ok_Table_multipliers F) hr) ga_nil))))) gss_nil)
    (gss_one (gs_ret (ge_tup (ga_cons (ge_callee (ok_without_slack F) hr (ga_cons (ge_var 4) (ga_cons (ge_var 2) ga_nil))) (ga_cons ge_non ga_nil)))))))))))
theorem ok_solve (F : Fx Fr mg) : Callee P w Fr mg base "solve" 5 (c_solve Fr) :=
  callee_of (ps := ["rows", "bounds", "goal"]) F.d_solve sc_solve (fun _ _ _ _ _ _ us hl => match us, hl with | [_, _, _], _ => rfl) (fun f cdv A outer s H E hr =>
    (gss_cons (gs_asg (ge_callee (ok_feasible_table F) hr (ga_cons (ge_var 0) (ga_cons (ge_var 1) (ga_cons (ge_var 2) ga_nil)))) (gg_tup rfl (ggs_cons (gg_name 3 sc_solve.nd) (ggs_cons (gg_name 4 sc_solve.nd) ggs_nil))))
    (gss_cons (gs_if (gt_cmp (go_isNot) (ge_var 3) ge_non) (gss_one (gs_expr (ge_mt0 (ge_var 3) F.c_Table (ok_Table_improve F) hr))) gss_nil)
    (gss_one (gs_ret (ge_tup (ga_cons (ge_var 3) (ga_cons (ge_var 4) ga_nil))))))))
theorem ok_Table_point (F : Fx Fr mg) : CalleeM P w Fr mg base (He.ga Fr "Table") "point" 1 (c_Table_point Fr) :=
  calleeM_of (ps := ["self"]) F.d_Table_point sc_Table_point (fun _ _ _ _ _ _ us hl => match us, hl with | [_], _ => rfl) (fun f cdv A outer s H E hr =>
    (gss_cons (gs_set 1 sc_Table_point.nd (ge_lv (gf_rep (ge_fr (gf_lst (ga_cons ge_int ga_nil))) (ge_fld (ge_var 0) F.a_size))))
    (gss_cons (gs_for PassesOwn.never (gi_zipK true (ge_fld (ge_var 0) F.a_basis) (ge_fld (ge_var 0) F.a_rows) F.f_zip) (gg_tup rfl (ggs_cons (gg_name 2 sc_Table_point.nd) (ggs_cons (gg_name 3 sc_Table_point.nd) ggs_nil))) (gss_one (gs_if (gt_cmp (go_lt) (ge_var 2) (ge_fld (ge_var 0) F.a_size)) (gss_one (gs_asg (ge_ix (ge_var 3) ge_negi) (gg_ix (ge_var 1) (ge_var 2)))) gss_nil)))
    (gss_one (gs_ret (ge_frz (ge_var 1)))))))
theorem ok_decide (F : Fx Fr mg) : Callee P w Fr mg base "decide" 6 (c_decide Fr) :=
  callee_of (ps := ["size", "conditions"]) F.d_decide sc_decide (fun _ _ _ _ _ _ us hl => match us, hl with | [_, _], _ => rfl) (fun f cdv A outer s H E hr =>
    (gss_cons (gs_set 2 sc_decide.nd (ge_bin go_add (ge_fr (gf_comp (own := [("factors", 6), ("bound", 7), ("strict", 8)]) sc_decide.nd (gi_val (ge_var 1)) (blkOk_by (N := N_decide) (sc := defScope s_decide) (by decide +kernel)) (fun _ _ _ _ _ => (gc_tup rfl (gcs_cons (gc_name 6 sc_decide.nd) (gcs_cons (gc_name 7 sc_decide.nd) (gcs_cons (gc_name 8 sc_decide.nd) gcs_nil))))) (fun _ _ _ _ _ => gif_nil) (fun _ _ _ _ _ => (ge_bin go_add (ge_fr (gf_list (ge_var 6) F.f_list)) (ge_fr (gf_lst (ga_cons (ge_callT gc_int F.f_int (by decide +kernel) (ga_cons (ge_var 8) ga_nil)) ga_nil))))))) (ge_fr (gf_lst (ga_cons (ge_bin go_add (ge_bin go_mul (ge_fr (gf_lst (ga_cons ge_int ga_nil))) (ge_var 0)) (ge_fr (gf_lst (ga_cons ge_int ga_nil)))) ga_nil)))))
    (gss_cons (gs_set 3 sc_decide.nd (ge_bin go_add (ge_fr (gf_comp (own := [("factors", 6), ("bound", 7), ("strict", 8)]) sc_decide.nd (gi_val (ge_var 1)) (blkOk_by (N := N_decide) (sc := defScope s_decide) (by decide +kernel)) (fun _ _ _ _ _ => (gc_tup rfl (gcs_cons (gc_name 6 sc_decide.nd) (gcs_cons (gc_name 7 sc_decide.nd) (gcs_cons (gc_name 8 sc_decide.nd) gcs_nil))))) (fun _ _ _ _ _ => gif_nil) (fun _ _ _ _ _ => (ge_var 7)))) (ge_fr (gf_lst (ga_cons ge_int ga_nil)))))
    (gss_cons (gs_asg (ge_callee (ok_solve F) hr (ga_cons (ge_var 2) (ga_cons (ge_var 3) (ga_cons (ge_bin go_add (ge_bin go_mul (ge_fr (gf_lst (ga_cons ge_int ga_nil))) (ge_var 0)) (ge_fr (gf_lst (ga_cons ge_int ga_nil)))) ga_nil)))) (gg_tup rfl (ggs_cons (gg_name 4 sc_decide.nd) (ggs_cons (gg_name 5 sc_decide.nd) ggs_nil))))
    (gss_cons (gs_if (gt_cmp (go_is) (ge_var 4) ge_non) (gss_one (gs_ret (ge_tup (ga_cons ge_non (ga_cons (ge_sl (ge_var 5) gp_no (gp_so ge_negi)) ga_nil))))) gss_nil)
    (gss_cons (gs_if (gt_cmp (go_eq hr.units) (ge_ix (ge_fld (ge_var 4) F.a_goal) ge_negi) ge_int) (gss_one (gs_ret (ge_tup (ga_cons ge_non (ga_cons (ge_sl (ge_mt0 (ge_var 4) F.c_Table (ok_Table_multipliers F) hr) gp_no (gp_so ge_negi)) ga_nil))))) gss_nil)
    (gss_one (gs_ret (ge_tup (ga_cons (ge_sl (ge_mt0 (ge_var 4) F.c_Table (ok_Table_point F) hr) gp_no (gp_so ge_negi)) (ga_cons (ge_fld (ge_var 4) F.a_denominator) ga_nil)))))))))))
theorem ok_high_rows (F : Fx Fr mg) : Callee P w Fr mg base "high_rows" 2 (c_high_rows) :=
  callee_of (ps := ["size"]) F.d_high_rows sc_high_rows (fun _ _ _ _ _ _ us hl => match us, hl with | [_], _ => rfl) (fun f cdv A outer s H E hr =>
    (gss_one (gs_ret (ge_fr (gf_comp (own := [("place", 1)]) sc_high_rows.nd (gi_range1 (ge_var 0) F.f_range) (blkOk_by (N := N_high_rows) (sc := defScope s_high_rows) (by decide +kernel)) (fun _ _ _ _ _ => (gc_name 1 sc_high_rows.nd)) (fun _ _ _ _ _ => gif_nil) (fun _ _ _ _ _ => (ge_callee (ok_unit_row F) hr (ga_cons (ge_var 0) (ga_cons (ge_var 1) (ga_cons ge_int (ga_cons (ge_gint F.k_MAX_WIDTH) ga_nil)))))))))))
theorem ok_all_conditions (F : Fx Fr mg) : Callee P w Fr mg base "all_conditions" 3 (c_all_conditions) :=
  callee_of (ps := ["knowledge", "conditions"]) F.d_all_conditions sc_all_conditions (fun _ _ _ _ _ _ us hl => match us, hl with | [_, _], _ => rfl) (fun f cdv A outer s H E hr =>
    (gss_one (gs_ret (ge_bin go_add (ge_bin go_add (ge_fr (gf_list (ge_ix (ge_var 0) ge_int) F.f_list)) (ge_fr (gf_list (ge_var 1) F.f_list))) (ge_callee (ok_high_rows F) hr (ga_cons (ge_bin go_add (ge_callB gc_len F.f_len (by decide +kernel) (ga_cons (ge_ix (ge_var 0) ge_int) ga_nil)) ge_int) ga_nil))))))
theorem ok_font_of (F : Fx Fr mg) : Callee P w Fr mg base "font_of" 3 (c_font_of) :=
  callee_of (ps := ["numerators", "denominator"]) F.d_font_of sc_font_of (fun _ _ _ _ _ _ us hl => match us, hl with | [_, _], _ => rfl) (fun f cdv A outer s H E hr =>
    (gss_cons (gs_set 2 sc_font_of.nd (ge_callee (ok_divisor_of F) hr (ga_cons (ge_bin go_add (ge_fr (gf_lst (ga_cons (ge_var 1) ga_nil))) (ge_var 0)) ga_nil)))
    (gss_one (gs_ret (ge_tup (ga_cons (ge_bin go_div (ge_var 1) (ge_var 2)) (ga_cons (ge_callT gc_tuple F.f_tuple (by decide +kernel) (ga_cons (ge_fr (gf_comp (own := [("number", 3)]) sc_font_of.nd (gi_val (ge_var 0)) (blkOk_by (N := N_font_of) (sc := defScope s_font_of) (by decide +kernel)) (fun _ _ _ _ _ => (gc_name 3 sc_font_of.nd)) (fun _ _ _ _ _ => gif_nil) (fun _ _ _ _ _ => (ge_bin go_div (ge_var 3) (ge_var 2))))) ga_nil)) ga_nil)))))))
theorem ok_find_font (F : Fx Fr mg) : Callee P w Fr mg base "find_font" 7 (c_find_font Fr) :=
  callee_of (ps := ["knowledge", "conditions"]) F.d_find_font sc_find_font (fun _ _ _ _ _ _ us hl => match us, hl with | [_, _], _ => rfl) (fun f cdv A outer s H E hr =>
    (gss_cons (gs_asg (ge_callee (ok_decide F) hr (ga_cons (ge_bin go_add (ge_callB gc_len F.f_len (by decide +kernel) (ga_cons (ge_ix (ge_var 0) ge_int) ga_nil)) ge_int) (ga_cons (ge_callee (ok_all_conditions F) hr (ga_cons (ge_var 0) (ga_cons (ge_var 1) ga_nil))) ga_nil))) (gg_tup rfl (ggs_cons (gg_name 2 sc_find_font.nd) (ggs_cons (gg_name 3 sc_find_font.nd) ggs_nil))))
    (gss_one (gs_ret (ge_if (gt_cmp (go_is) (ge_var 2) ge_non) ge_non (ge_callee (ok_font_of F) hr (ga_cons (ge_var 2) (ga_cons (ge_var 3) ga_nil))))))))
theorem ok_find_refutation (F : Fx Fr mg) : Callee P w Fr mg base "find_refutation" 7 (c_find_refutation Fr) :=
  callee_of (ps := ["knowledge", "conditions"]) F.d_find_refutation sc_find_refutation (fun _ _ _ _ _ _ us hl => match us, hl with | [_, _], _ => rfl) (fun f cdv A outer s H E hr =>
    (gss_cons (gs_asg (ge_tup (ga_cons (ge_bin go_add (ge_callB gc_len F.f_len (by decide +kernel) (ga_cons (ge_ix (ge_var 0) ge_int) ga_nil)) ge_int) (ga_cons (ge_callee (ok_all_conditions F) hr (ga_cons (ge_var 0) (ga_cons (ge_var 1) ga_nil))) ga_nil))) (gg_tup rfl (ggs_cons (gg_name 2 sc_find_refutation.nd) (ggs_cons (gg_name 3 sc_find_refutation.nd) ggs_nil))))
    (gss_cons (gs_asg (ge_callee (ok_decide F) hr (ga_cons (ge_var 2) (ga_cons (ge_var 3) ga_nil))) (gg_tup rfl (ggs_cons (gg_name 4 sc_find_refutation.nd) (ggs_cons (gg_name 5 sc_find_refutation.nd) ggs_nil))))
    (gss_cons (gs_if (gt_cmp (go_isNot) (ge_var 4) ge_non) (gss_one (gs_ret ge_non)) gss_nil)
    (gss_cons (gs_setLc 6 (own := [("place", 7)]) sc_find_refutation.nd (gi_range1 (ge_var 2) F.f_range) (blkOk_by (N := N_find_refutation) (sc := defScope s_find_refutation) (by decide +kernel)) (fun _ _ _ _ _ => (gc_name 7 sc_find_refutation.nd)) (fun _ _ _ _ _ => gif_nil) (fun _ _ _ _ _ => (ge_callee (ok_weighted F) hr (ga_cons (ge_var 5) (ga_cons (ge_fr (gf_comp (own := [("row", 8)]) sc_find_refutation.nd (gi_val (ge_var 3)) (blkOk_by (by kernel_rfl)) (fun _ _ _ _ _ => (gc_name 8 sc_find_refutation.nd)) (fun _ _ _ _ _ => gif_nil) (fun _ _ _ _ _ => (ge_ix (ge_ix (ge_var 8) ge_int) (ge_var 7))))) ga_nil)))) (sw_true rfl rfl rfl (by decide +kernel)))
    (gss_one (gs_ret (ge_callT gc_tuple F.f_tuple (by decide +kernel) (ga_cons (ge_bin go_add (ge_bin go_add (ge_sl (ge_var 5) gp_no (gp_so (ge_neg (ge_var 2)))) (ge_var 6)) (ge_sl (ge_var 5) (gp_so (ge_neg (ge_var 2))) gp_no)) ga_nil)))))))))
theorem ok_has_font (F : Fx Fr mg) : Callee P w Fr mg base "has_font" 8 (c_has_font Fr) :=
  callee_of (ps := ["knowledge"]) F.d_has_font sc_has_font (fun _ _ _ _ _ _ us hl => match us, hl with | [_], _ => rfl) (fun f cdv A outer s H E hr =>
    (gss_one (gs_ret (ge_cmp (go_isNot) (ge_callee (ok_find_font F) hr (ga_cons (ge_var 0) (ga_cons (ge_fr (gf_lst ga_nil)) ga_nil))) ge_non))))
theorem ok_law_open (F : Fx Fr mg) : Callee P w Fr mg base "_law_open" 1 (c_law_open Fr) :=
  callee_of (ps := ["script"]) F.d_law_open sc_law_open (fun _ _ _ _ _ _ us hl => match us, hl with | [_], _ => rfl) (fun f cdv A outer s H E hr =>
    (gss_cons (gs_set 1 sc_law_open.nd (ge_lv (gf_list (ge_fr (gf_sl (ge_var 0) gp_no (gp_so ge_int))) F.f_list)))
    (gss_cons (gs_for PassesOwn.never (gi_enum (ge_fr (gf_sl (ge_var 0) (gp_so ge_int) (gp_so ge_int))) F.f_enumerate) (gg_tup rfl (ggs_cons (gg_name 2 sc_law_open.nd) (ggs_cons (gg_name 3 sc_law_open.nd) ggs_nil))) (gss_one (gs_asg (ge_bin go_add (ge_ix (ge_var 1) (ge_bin go_mod (ge_var 2) ge_int)) (ge_var 3)) (gg_ix (ge_var 1) (ge_bin go_mod (ge_var 2) ge_int)))))
    (gss_one (gs_ret (ge_lv (gf_lst (ga_cons (ge_frz (ge_var 1)) (ga_cons ge_int (ga_cons ge_int ga_nil))))))))))
theorem ok_law_spread (F : Fx Fr mg) : Callee P w Fr mg base "_law_spread" 1 (c_law_spread) :=
  callee_of (ps := ["cell", "at"]) F.d_law_spread sc_law_spread (fun _ _ _ _ _ _ us hl => match us, hl with | [_, _], _ => rfl) (fun f cdv A outer s H E hr =>
    (gss_cons (gs_if (gt_cmp (go_ge) (ge_var 0) (ge_bin go_pow ge_int ge_int)) (gss_one (gs_ret (ge_var 0))) gss_nil)
    (gss_cons (gs_set 2 sc_law_spread.nd (ge_fr (gf_lst (ga_cons ge_int (ga_cons ge_int (ga_cons ge_int (ga_cons ge_int (ga_cons ge_int (ga_cons ge_int (ga_cons ge_int (ga_cons ge_int ga_nil)))))))))))
    (gss_cons (gs_set 2 sc_law_spread.nd (ge_bin go_add (ge_var 2) (ge_fr (gf_lst (ga_cons ge_int (ga_cons ge_int (ga_cons ge_int (ga_cons ge_int (ga_cons ge_int ga_nil)))))))))
    (gss_cons (gs_set 3 sc_law_spread.nd (ge_bin go_mod (ge_bin go_pow (ge_bin go_add (ge_bin go_add (ge_bin go_mul (ge_bin go_mod (ge_var 0) ge_int) (ge_bin go_add (ge_bin go_mul ge_int (ge_var 1)) ge_int)) (ge_bin go_mul (ge_var 1) ge_int)) ge_int) ge_int) (ge_ix (ge_var 2) (ge_bin go_mod (ge_var 1) ge_int))))
    (gss_cons (gs_set 4 sc_law_spread.nd (ge_bin go_mod (ge_bin go_pow (ge_bin go_add (ge_bin go_add (ge_bin go_mul (ge_var 3) (ge_bin go_add (ge_var 1) ge_int)) (ge_bin go_mod (ge_var 0) ge_int)) ge_int) ge_int) (ge_ix (ge_var 2) (ge_bin go_mod (ge_bin go_add (ge_var 1) ge_int) ge_int))))
    (gss_cons (gs_set 5 sc_law_spread.nd (ge_bin go_mod (ge_bin go_pow (ge_bin go_add (ge_bin go_add (ge_var 4) (ge_bin go_mod (ge_var 3) ge_int)) (ge_var 1)) ge_int) (ge_ix (ge_var 2) (ge_bin go_mod (ge_bin go_add (ge_var 1) ge_int) ge_int))))
    (gss_one (gs_ret (ge_bin go_add (ge_bin go_mul (ge_bin go_add (ge_bin go_mul (ge_var 3) ge_int) (ge_var 4)) ge_int) (ge_var 5)))))))))))
theorem ok_law_take (F : Fx Fr mg) : Callee P w Fr mg base "_law_take" 2 (c_law_take) :=
  callee_of (ps := ["pen", "amount"]) F.d_law_take sc_law_take (fun _ _ _ _ _ _ us hl => match us, hl with | [_, _], _ => rfl) (fun f cdv A outer s H E hr =>
    (gss_cons (gs_if (gt_cmp (go_lt) (ge_ix (ge_var 0) ge_int) (ge_var 1)) (gss_cons (gs_set 2 sc_law_take.nd (ge_ix (ge_var 0) ge_int))
    (gss_cons (gs_set 3 sc_law_take.nd ge_int)
    (gss_cons (gs_if (gt_cmp (go_lt) (ge_var 2) (ge_callB gc_len F.f_len (by decide +kernel) (ga_cons (ge_ix (ge_var 0) ge_int) ga_nil))) (gss_one (gs_set 3 sc_law_take.nd (ge_ix (ge_ix (ge_var 0) ge_int) (ge_var 2)))) (gss_one (gs_if (gt_cmp (go_gt) (ge_callB gc_len F.f_len (by decide +kernel) (ga_cons (ge_ix (ge_var 0) ge_int) ga_nil)) ge_int) (gss_one (gs_set 3 sc_law_take.nd (ge_bin go_mod (ge_ix (ge_ix (ge_var 0) ge_int) (ge_bin go_mod (ge_bin go_add (ge_bin go_mul (ge_var 2) ge_int) ge_int) (ge_callB gc_len F.f_len (by decide +kernel) (ga_cons (ge_ix (ge_var 0) ge_int) ga_nil)))) (ge_bin go_add (ge_bin go_pow ge_int ge_int) (ge_var 2))))) gss_nil)))
    (gss_cons (gs_asg (ge_bin go_add (ge_var 2) ge_int) (gg_ix (ge_var 0) ge_int))
    (gss_one (gs_asg (ge_callee (ok_law_spread F) hr (ga_cons (ge_var 3) (ga_cons (ge_var 2) ga_nil))) (gg_ix (ge_var 0) ge_int))))))) gss_nil)
    (gss_cons (gs_set 4 sc_law_take.nd (ge_bin go_mod (ge_ix (ge_var 0) ge_int) (ge_var 1)))
    (gss_cons (gs_asg (ge_bin go_div (ge_ix (ge_var 0) ge_int) (ge_var 1)) (gg_ix (ge_var 0) ge_int))
    (gss_one (gs_ret (ge_var 4)))))))
theorem ok_law_same (F : Fx Fr mg) : ∀ n, Callee P w Fr mg base "_law_same" (0 + n) (c_law_same n)
  | 0 => callee_no F.d_law_same ⟨["found", "due"], fun _ _ _ _ _ _ us hl => match us, hl with | [_, _], _ => rfl⟩
  | n + 1 => by
    have ih := ok_law_same F n
    exact callee_of (ps := ["found", "due"]) F.d_law_same sc_law_same (fun _ _ _ _ _ _ us hl => match us, hl with | [_, _], _ => rfl) (fun f cdv A outer s H E hr =>
    (gss_cons (gs_if (gt_w (gw_or (gt_cmp (go_is) (ge_var 1) ge_non) (gw_or1 (gt_cmp (go_is) (ge_var 0) ge_non)))) (gss_one (gs_ret (ge_and (ge_cmp (go_is) (ge_var 1) ge_non) (ge_one (ge_cmp (go_is) (ge_var 0) ge_non))))) gss_nil)
    (gss_cons (gs_if (gt_w (gw_or (gt_val (ge_isi .bl (ge_var 1) F.f_isinstance F.f_bool (by decide +kernel))) (gw_or1 (gt_val (ge_isi .bl (ge_var 0) F.f_isinstance F.f_bool (by decide +kernel)))))) (gss_one (gs_ret (ge_and (ge_isi .bl (ge_var 1) F.f_isinstance F.f_bool (by decide +kernel)) (ge_and (ge_isi .bl (ge_var 0) F.f_isinstance F.f_bool (by decide +kernel)) (ge_one (ge_cmp (go_eq hr.units) (ge_var 0) (ge_var 1))))))) gss_nil)
    (gss_cons (gs_if (gt_val (ge_isi2 .int .str (ge_var 1) F.f_isinstance F.f_int (by decide +kernel) F.f_str (by decide +kernel))) (gss_cons (gs_if (gt_cmp (go_ne hr.units) (ge_isi .int (ge_var 0) F.f_isinstance F.f_int (by decide +kernel)) (ge_isi .int (ge_var 1) F.f_isinstance F.f_int (by decide +kernel))) (gss_one (gs_ret ge_bl)) gss_nil)
    (gss_one (gs_ret (ge_and (ge_isi2 .int .str (ge_var 0) F.f_isinstance F.f_int (by decide +kernel) F.f_str (by decide +kernel)) (ge_one (ge_cmp (go_eq hr.units) (ge_var 0) (ge_var 1))))))) gss_nil)
    (gss_cons (gs_if (gt_w (gw_or (gt_cmp (go_ne hr.units) (ge_isi .tup (ge_var 1) F.f_isinstance F.f_tuple (by decide +kernel)) (ge_isi .tup (ge_var 0) F.f_isinstance F.f_tuple (by decide +kernel))) (gw_or1 (gt_cmp (go_ne hr.units) (ge_isi .lst (ge_var 1) F.f_isinstance F.f_list (by decide +kernel)) (ge_isi .lst (ge_var 0) F.f_isinstance F.f_list (by decide +kernel)))))) (gss_one (gs_ret ge_bl)) gss_nil)
    (gss_cons (gs_if (gt_cmp (go_ne hr.units) (ge_callB gc_len F.f_len (by decide +kernel) (ga_cons (ge_var 0) ga_nil)) (ge_callB gc_len F.f_len (by decide +kernel) (ga_cons (ge_var 1) ga_nil))) (gss_one (gs_ret ge_bl)) gss_nil)
    (gss_one (gs_ret (ge_cmp (go_notIn (room65 hr)) ge_bl (ge_fr (gf_comp (own := [("one", 2), ("other", 3)]) sc_law_same.nd (gi_zip (ge_var 0) (ge_var 1) F.f_zip) (blkOk_by (N := N_law_same) (sc := defScope s_law_same) (by decide +kernel)) (fun _ _ _ _ _ => (gc_tup rfl (gcs_cons (gc_name 2 sc_law_same.nd) (gcs_cons (gc_name 3 sc_law_same.nd) gcs_nil)))) (fun _ _ _ _ _ => gif_nil) (fun _ _ _ _ _ => (ge_callee ih hr (ga_cons (ge_var 2) (ga_cons (ge_var 3) ga_nil)) (Nat.le_refl _))))))))))))))
theorem ok_law_one_of (F : Fx Fr mg) : Callee P w Fr mg base "_law_one_of" 3 (c_law_one_of) :=
  callee_of (ps := ["pen", "some"]) F.d_law_one_of sc_law_one_of (fun _ _ _ _ _ _ us hl => match us, hl with | [_, _], _ => rfl) (fun f cdv A outer s H E hr =>
    (gss_one (gs_ret (ge_ix (ge_var 1) (ge_callee (ok_law_take F) hr (ga_cons (ge_var 0) (ga_cons (ge_callB gc_len F.f_len (by decide +kernel) (ga_cons (ge_var 1) ga_nil)) ga_nil)))))))
theorem ok_law_divisor (F : Fx Fr mg) : Callee P w Fr mg base "_law_divisor" 1 (c_law_divisor) :=
  callee_of (ps := ["numbers"]) F.d_law_divisor sc_law_divisor (fun _ _ _ _ _ _ us hl => match us, hl with | [_], _ => rfl) (fun f cdv A outer s H E hr =>
    (gss_cons (gs_set 1 sc_law_divisor.nd ge_int)
    (gss_cons (gs_for PassesOwn.never (gi_val (ge_var 0)) (gg_name 2 sc_law_divisor.nd) (gss_cons (gs_par 3 4 sc_law_divisor.nd (ge_callB gc_abs F.f_abs (by decide +kernel) (ga_cons (ge_var 2) ga_nil)) (ge_var 1))
    (gss_cons (gs_while PassesOwn.never (gt_cmp (go_ne hr.units) (ge_var 4) ge_int) (gss_one (gs_par 3 4 sc_law_divisor.nd (ge_var 4) (ge_bin go_mod (ge_var 3) (ge_var 4)))))
    (gss_one (gs_set 1 sc_law_divisor.nd (ge_var 3))))))
    (gss_one (gs_ret (ge_var 1))))))
theorem ok_law_sum (F : Fx Fr mg) : Callee P w Fr mg base "_law_sum" 1 (c_law_sum) :=
  callee_of (ps := ["factors", "font"]) F.d_law_sum sc_law_sum (fun _ _ _ _ _ _ us hl => match us, hl with | [_, _], _ => rfl) (fun f cdv A outer s H E hr =>
    (gss_one (gs_ret (ge_callB (gc_sum rfl) F.f_sum (by decide +kernel) (ga_cons (ge_fr (gf_comp (own := [("factor", 2), ("wide", 3)]) sc_law_sum.nd (gi_zip (ge_var 0) (ge_ix (ge_var 1) ge_int) F.f_zip) (blkOk_by (N := N_law_sum) (sc := defScope s_law_sum) (by decide +kernel)) (fun _ _ _ _ _ => (gc_tup rfl (gcs_cons (gc_name 2 sc_law_sum.nd) (gcs_cons (gc_name 3 sc_law_sum.nd) gcs_nil)))) (fun _ _ _ _ _ => gif_nil) (fun _ _ _ _ _ => (ge_bin go_mul (ge_var 2) (ge_var 3))))) ga_nil)))))
theorem ok_law_holds (F : Fx Fr mg) : Callee P w Fr mg base "_law_holds" 2 (c_law_holds) :=
  callee_of (ps := ["condition", "font"]) F.d_law_holds sc_law_holds (fun _ _ _ _ _ _ us hl => match us, hl with | [_, _], _ => rfl) (fun f cdv A outer s H E hr =>
    (gss_cons (gs_par 2 3 sc_law_holds.nd (ge_callee (ok_law_sum F) hr (ga_cons (ge_ix (ge_var 0) ge_int) (ga_cons (ge_var 1) ga_nil))) (ge_bin go_mul (ge_ix (ge_var 0) ge_int) (ge_ix (ge_var 1) ge_int)))
    (gss_one (gs_ret (ge_if (gt_val (ge_ix (ge_var 0) ge_int)) (ge_cmp (go_lt) (ge_var 2) (ge_var 3)) (ge_cmp (go_le) (ge_var 2) (ge_var 3)))))))
theorem ok_law_draw_letters (F : Fx Fr mg) : Callee P w Fr mg base "_law_draw_letters" 4 (c_law_draw_letters) :=
  callee_of (ps := ["pen"]) F.d_law_draw_letters sc_law_draw_letters (fun _ _ _ _ _ _ us hl => match us, hl with | [_], _ => rfl) (fun f cdv A outer s H E hr =>
    (gss_one (gs_ret (ge_callee (ok_law_one_of F) hr (ga_cons (ge_var 0) (ga_cons (ge_fr (gf_lst (ga_cons ge_str (ga_cons ge_str (ga_cons ge_str (ga_cons ge_str (ga_cons ge_str (ga_cons ge_str (ga_cons ge_str (ga_cons ge_str (ga_cons ge_str (ga_cons ge_str (ga_cons ge_str (ga_cons ge_str (ga_cons ge_str ga_nil))))))))))))))) ga_nil))))))
theorem ok_law_fits (F : Fx Fr mg) : Callee P w Fr mg base "_law_fits" 3 (c_law_fits) :=
  callee_of (ps := ["knowledge", "font"]) F.d_law_fits sc_law_fits (fun _ _ _ _ _ _ us hl => match us, hl with | [_, _], _ => rfl) (fun f cdv A outer s H E hr =>
    (gss_one (gs_ret (ge_cmp (go_notIn (room65 hr)) ge_bl (ge_fr (gf_comp (own := [("fact", 2)]) sc_law_fits.nd (gi_val (ge_ix (ge_var 0) ge_int)) (blkOk_by (N := N_law_fits) (sc := defScope s_law_fits) (by decide +kernel)) (fun _ _ _ _ _ => (gc_name 2 sc_law_fits.nd)) (fun _ _ _ _ _ => gif_nil) (fun _ _ _ _ _ => (ge_callee (ok_law_holds F) hr (ga_cons (ge_var 2) (ga_cons (ge_var 1) ga_nil))))))))))
theorem ok_law_is_font (F : Fx Fr mg) : Callee P w Fr mg base "_law_is_font" 2 (c_law_is_font) :=
  callee_of (ps := ["letters", "value"]) F.d_law_is_font sc_law_is_font (fun _ _ _ _ _ _ us hl => match us, hl with | [_, _], _ => rfl) (fun f cdv A outer s H E hr =>
    (gss_cons (gs_if (gt_w (gw_or (gt_not (gt_val (ge_isi .tup (ge_var 1) F.f_isinstance F.f_tuple (by decide +kernel)))) (gw_or (gt_cmp (go_ne hr.units) (ge_callB gc_len F.f_len (by decide +kernel) (ga_cons (ge_var 1) ga_nil)) ge_int) (gw_or1 (gt_not (gt_val (ge_isi .tup (ge_ix (ge_var 1) ge_int) F.f_isinstance F.f_tuple (by decide +kernel)))))))) (gss_one (gs_ret ge_bl)) gss_nil)
    (gss_cons (gs_set 2 sc_law_is_font.nd (ge_bin go_add (ge_tup (ga_cons (ge_ix (ge_var 1) ge_int) ga_nil)) (ge_ix (ge_var 1) ge_int)))
    (gss_cons (gs_if (gt_cmp (go_ne hr.units) (ge_fr (gf_comp (own := [("one", 3)]) sc_law_is_font.nd (gi_val (ge_var 2)) (blkOk_by (N := N_law_is_font) (sc := defScope s_law_is_font) (by decide +kernel)) (fun _ _ _ _ _ => (gc_name 3 sc_law_is_font.nd)) (fun _ _ _ _ _ => (gif_one (gt_w (gw_or (gt_not (gt_val (ge_isi .int (ge_var 3) F.f_isinstance F.f_int (by decide +kernel)))) (gw_or1 (gt_val (ge_isi .bl (ge_var 3) F.f_isinstance F.f_bool (by decide +kernel)))))))) (fun _ _ _ _ _ => (ge_var 3)))) (ge_fr (gf_lst ga_nil))) (gss_one (gs_ret ge_bl)) gss_nil)
    (gss_cons (gs_if (gt_w (gw_or (gt_cmp (go_lt) (ge_ix (ge_var 1) ge_int) ge_int) (gw_or (gt_cmp (go_ne hr.units) (ge_callB gc_len F.f_len (by decide +kernel) (ga_cons (ge_ix (ge_var 1) ge_int) ga_nil)) (ge_bin go_add (ge_callB gc_len F.f_len (by decide +kernel) (ga_cons (ge_var 0) ga_nil)) ge_int)) (gw_or1 (gt_cmp (go_ne hr.units) (ge_callee (ok_law_divisor F) hr (ga_cons (ge_var 2) ga_nil)) ge_int))))) (gss_one (gs_ret ge_bl)) gss_nil)
    (gss_one (gs_ret (ge_cmp (go_eq hr.units) (ge_fr (gf_comp (own := [("one", 3)]) sc_law_is_font.nd (gi_val (ge_ix (ge_var 1) ge_int)) (blkOk_by (N := N_law_is_font) (sc := defScope s_law_is_font) (by decide +kernel)) (fun _ _ _ _ _ => (gc_name 3 sc_law_is_font.nd)) (fun _ _ _ _ _ => (gif_one (gt_not (gt_chain (go_le) (go_le) ge_int (ge_var 3) (ge_bin go_mul ge_int (ge_ix (ge_var 1) ge_int)))))) (fun _ _ _ _ _ => (ge_var 3)))) (ge_fr (gf_lst ga_nil))))))))))
theorem ok_law_rows (F : Fx Fr mg) : Callee P w Fr mg base "_law_rows" 1 (c_law_rows) :=
  callee_of (ps := ["knowledge", "conditions"]) F.d_law_rows sc_law_rows (fun _ _ _ _ _ _ us hl => match us, hl with | [_, _], _ => rfl) (fun f cdv A outer s H E hr =>
    (gss_cons (gs_set 2 sc_law_rows.nd (ge_bin go_add (ge_callB gc_len F.f_len (by decide +kernel) (ga_cons (ge_ix (ge_var 0) ge_int) ga_nil)) ge_int))
    (gss_cons (gs_setLc 3 (own := [("place", 5)]) sc_law_rows.nd (gi_range1 (ge_var 2) F.f_range) (blkOk_by (N := N_law_rows) (sc := defScope s_law_rows) (by decide +kernel)) (fun _ _ _ _ _ => (gc_name 5 sc_law_rows.nd)) (fun _ _ _ _ _ => gif_nil) (fun _ _ _ _ _ => (ge_tup (ga_cons (ge_callT gc_tuple F.f_tuple (by decide +kernel) (ga_cons (ge_fr (gf_comp (own := [("k", 6)]) sc_law_rows.nd (gi_range1 (ge_var 2) F.f_range) (blkOk_by (by kernel_rfl)) (fun _ _ _ _ _ => (gc_name 6 sc_law_rows.nd)) (fun _ _ _ _ _ => gif_nil) (fun _ _ _ _ _ => (ge_bin go_sub ge_int (ge_callT gc_int F.f_int (by decide +kernel) (ga_cons (ge_cmp (go_eq hr.units) (ge_var 6) (ge_var 5)) ga_nil)))))) ga_nil)) (ga_cons ge_int (ga_cons ge_bl ga_nil))))) (sw_true rfl rfl rfl (by decide +kernel)))
    (gss_cons (gs_setLc 4 (own := [("place", 5)]) sc_law_rows.nd (gi_range1 (ge_var 2) F.f_range) (blkOk_by (N := N_law_rows) (sc := defScope s_law_rows) (by decide +kernel)) (fun _ _ _ _ _ => (gc_name 5 sc_law_rows.nd)) (fun _ _ _ _ _ => gif_nil) (fun _ _ _ _ _ => (ge_tup (ga_cons (ge_callT gc_tuple F.f_tuple (by decide +kernel) (ga_cons (ge_fr (gf_comp (own := [("k", 6)]) sc_law_rows.nd (gi_range1 (ge_var 2) F.f_range) (blkOk_by (by kernel_rfl)) (fun _ _ _ _ _ => (gc_name 6 sc_law_rows.nd)) (fun _ _ _ _ _ => gif_nil) (fun _ _ _ _ _ => (ge_callT gc_int F.f_int (by decide +kernel) (ga_cons (ge_cmp (go_eq hr.units) (ge_var 6) (ge_var 5)) ga_nil))))) ga_nil)) (ga_cons ge_int (ga_cons ge_bl ga_nil))))) (sw_true rfl rfl rfl (by decide +kernel)))
    (gss_one (gs_ret (ge_bin go_add (ge_bin go_add (ge_bin go_add (ge_fr (gf_list (ge_ix (ge_var 0) ge_int) F.f_list)) (ge_fr (gf_list (ge_var 1) F.f_list))) (ge_var 3)) (ge_var 4))))))))
theorem ok_law_refutes (F : Fx Fr mg) : Callee P w Fr mg base "_law_refutes" 2 (c_law_refutes) :=
  callee_of (ps := ["knowledge", "conditions", "value"]) F.d_law_refutes sc_law_refutes (fun _ _ _ _ _ _ us hl => match us, hl with | [_, _, _], _ => rfl) (fun f cdv A outer s H E hr =>
    (gss_cons (gs_set 3 sc_law_refutes.nd (ge_callee (ok_law_rows F) hr (ga_cons (ge_var 0) (ga_cons (ge_var 1) ga_nil))))
    (gss_cons (gs_if (gt_w (gw_or (gt_not (gt_val (ge_isi .tup (ge_var 2) F.f_isinstance F.f_tuple (by decide +kernel)))) (gw_or1 (gt_cmp (go_ne hr.units) (ge_callB gc_len F.f_len (by decide +kernel) (ga_cons (ge_var 2) ga_nil)) (ge_callB gc_len F.f_len (by decide +kernel) (ga_cons (ge_var 3) ga_nil)))))) (gss_one (gs_ret ge_bl)) gss_nil)
    (gss_cons (gs_for PassesOwn.never (gi_val (ge_var 2)) (gg_name 4 sc_law_refutes.nd) (gss_one (gs_if (gt_w (gw_or (gt_not (gt_val (ge_isi .int (ge_var 4) F.f_isinstance F.f_int (by decide +kernel)))) (gw_or (gt_val (ge_isi .bl (ge_var 4) F.f_isinstance F.f_bool (by decide +kernel))) (gw_or1 (gt_cmp (go_lt) (ge_var 4) ge_int))))) (gss_one (gs_ret ge_bl)) gss_nil)))
    (gss_cons (gs_for PassesOwn.never (gi_range1 (ge_bin go_add (ge_callB gc_len F.f_len (by decide +kernel) (ga_cons (ge_ix (ge_var 0) ge_int) ga_nil)) ge_int) F.f_range) (gg_name 5 sc_law_refutes.nd) (gss_one (gs_if (gt_cmp (go_ne hr.units) (ge_callB (gc_sum rfl) F.f_sum (by decide +kernel) (ga_cons (ge_fr (gf_comp (own := [("one", 4), ("row", 8)]) sc_law_refutes.nd (gi_zip (ge_var 2) (ge_var 3) F.f_zip) (blkOk_by (N := N_law_refutes) (sc := defScope s_law_refutes) (by decide +kernel)) (fun _ _ _ _ _ => (gc_tup rfl (gcs_cons (gc_name 4 sc_law_refutes.nd) (gcs_cons (gc_name 8 sc_law_refutes.nd) gcs_nil)))) (fun _ _ _ _ _ => gif_nil) (fun _ _ _ _ _ => (ge_bin go_mul (ge_var 4) (ge_ix (ge_ix (ge_var 8) ge_int) (ge_var 5)))))) ga_nil)) ge_int) (gss_one (gs_ret ge_bl)) gss_nil)))
    (gss_cons (gs_set 6 sc_law_refutes.nd (ge_callB (gc_sum rfl) F.f_sum (by decide +kernel) (ga_cons (ge_fr (gf_comp (own := [("one", 4), ("row", 8)]) sc_law_refutes.nd (gi_zip (ge_var 2) (ge_var 3) F.f_zip) (blkOk_by (N := N_law_refutes) (sc := defScope s_law_refutes) (by decide +kernel)) (fun _ _ _ _ _ => (gc_tup rfl (gcs_cons (gc_name 4 sc_law_refutes.nd) (gcs_cons (gc_name 8 sc_law_refutes.nd) gcs_nil)))) (fun _ _ _ _ _ => gif_nil) (fun _ _ _ _ _ => (ge_bin go_mul (ge_var 4) (ge_ix (ge_var 8) ge_int))))) ga_nil)))
    (gss_cons (gs_setLc 7 (own := [("one", 4), ("row", 8)]) sc_law_refutes.nd (gi_zip (ge_var 2) (ge_var 3) F.f_zip) (blkOk_by (N := N_law_refutes) (sc := defScope s_law_refutes) (by decide +kernel)) (fun _ _ _ _ _ => (gc_tup rfl (gcs_cons (gc_name 4 sc_law_refutes.nd) (gcs_cons (gc_name 8 sc_law_refutes.nd) gcs_nil)))) (fun _ _ _ _ _ => (gif_one (gt_w (gw_and (gt_val (ge_ix (ge_var 8) ge_int)) (gw_and1 (gt_cmp (go_gt) (ge_var 4) ge_int)))))) (fun _ _ _ _ _ => (ge_var 4)) (sw_true rfl rfl rfl (by decide +kernel)))
    (gss_one (gs_ret (ge_or (ge_cmp (go_lt) (ge_var 6) ge_int) (ge_one (ge_and (ge_cmp (go_eq hr.units) (ge_var 6) ge_int) (ge_one (ge_cmp (go_ne hr.units) (ge_var 7) (ge_fr (gf_lst ga_nil))))))))))))))))
theorem ok_law_unit (F : Fx Fr mg) : Callee P w Fr mg base "_law_unit" 1 (c_law_unit) :=
  callee_of (ps := ["size", "place", "factor"]) F.d_law_unit sc_law_unit (fun _ _ _ _ _ _ us hl => match us, hl with | [_, _, _], _ => rfl) (fun f cdv A outer s H E hr =>
    (gss_one (gs_ret (ge_callT gc_tuple F.f_tuple (by decide +kernel) (ga_cons (ge_fr (gf_comp (own := [("k", 3)]) sc_law_unit.nd (gi_range1 (ge_var 0) F.f_range) (blkOk_by (N := N_law_unit) (sc := defScope s_law_unit) (by decide +kernel)) (fun _ _ _ _ _ => (gc_name 3 sc_law_unit.nd)) (fun _ _ _ _ _ => gif_nil) (fun _ _ _ _ _ => (ge_bin go_mul (ge_var 2) (ge_callT gc_int F.f_int (by decide +kernel) (ga_cons (ge_cmp (go_eq hr.units) (ge_var 3) (ge_var 1)) ga_nil)))))) ga_nil)))))
theorem ok_law_spans (F : Fx Fr mg) : Callee P w Fr mg base "_law_spans" 3 (c_law_spans) :=
  callee_of (ps := ["pen", "size"]) F.d_law_spans sc_law_spans (fun _ _ _ _ _ _ us hl => match us, hl with | [_, _], _ => rfl) (fun f cdv A outer s H E hr =>
    (gss_cons (gs_par 2 3 sc_law_spans.nd (ge_lv (gf_lst ga_nil)) ge_bl)
    (gss_cons (gs_for PassesOwn.never (gi_range1 (ge_var 1) F.f_range) (gg_name 4 sc_law_spans.nd) (gss_cons (gs_par 5 6 sc_law_spans.nd (ge_callee (ok_law_take F) hr (ga_cons (ge_var 0) (ga_cons ge_int ga_nil))) (ge_callee (ok_law_take F) hr (ga_cons (ge_var 0) (ga_cons ge_int ga_nil))))
    (gss_cons (gs_par 7 8 sc_law_spans.nd (ge_bin go_add ge_int (ge_callee (ok_law_take F) hr (ga_cons (ge_var 0) (ga_cons ge_int ga_nil)))) (ge_cmp (go_eq hr.units) (ge_callee (ok_law_take F) hr (ga_cons (ge_var 0) (ga_cons ge_int ga_nil))) ge_int))
    (gss_cons (gs_expr (ge_app (ge_var 2) (ge_tup (ga_cons (ge_callee (ok_law_unit F) hr (ga_cons (ge_var 1) (ga_cons (ge_var 4) (ga_cons (ge_bin go_sub ge_int (ge_var 7)) ga_nil)))) (ga_cons (ge_bin go_sub ge_int (ge_bin go_mul (ge_var 7) (ge_var 5))) (ga_cons (ge_var 8) ga_nil))))))
    (gss_cons (gs_expr (ge_app (ge_var 2) (ge_tup (ga_cons (ge_callee (ok_law_unit F) hr (ga_cons (ge_var 1) (ga_cons (ge_var 4) (ga_cons (ge_var 7) ga_nil)))) (ga_cons (ge_bin go_mul (ge_var 7) (ge_var 6)) (ga_cons ge_bl ga_nil))))))
    (gss_cons (gs_set 9 sc_law_spans.nd (ge_callB (gc_min2 rfl) F.f_min (by decide +kernel) (ga_cons (ge_var 6) (ga_cons ge_int ga_nil))))
    (gss_one (gs_set 3 sc_law_spans.nd (ge_and (ge_var 3) (ge_one (ge_or (ge_cmp (go_lt) (ge_var 5) (ge_var 9)) (ge_one (ge_and (ge_cmp (go_eq hr.units) (ge_var 5) (ge_var 9)) (ge_one (ge_not (ge_var 8))))))))))))))))
    (gss_one (gs_ret (ge_tup (ga_cons (ge_sl (ge_var 2) gp_no (gp_so ge_int)) (ga_cons (ge_if (gt_cmp (go_lt) (ge_var 1) ge_int) (ge_var 3) ge_non) ga_nil))))))))
theorem ok_law_chain (F : Fx Fr mg) : Callee P w Fr mg base "_law_chain" 3 (c_law_chain) :=
  callee_of (ps := ["pen", "size"]) F.d_law_chain sc_law_chain (fun _ _ _ _ _ _ us hl => match us, hl with | [_, _], _ => rfl) (fun f cdv A outer s H E hr =>
    (gss_cons (gs_par3 2 3 4 sc_law_chain.nd (ge_bin go_add ge_int (ge_callee (ok_law_take F) hr (ga_cons (ge_var 0) (ga_cons ge_int ga_nil)))) (ge_lv (gf_lst ga_nil)) ge_int)
    (gss_cons (gs_expr (ge_app (ge_var 3) (ge_tup (ga_cons (ge_callee (ok_law_unit F) hr (ga_cons (ge_var 1) (ga_cons ge_int (ga_cons ge_negi ga_nil)))) (ga_cons ge_negi (ga_cons ge_bl ga_nil))))))
    (gss_cons (gs_set 5 sc_law_chain.nd (ge_cmp (go_eq hr.units) (ge_callee (ok_law_take F) hr (ga_cons (ge_var 0) (ga_cons ge_int ga_nil))) ge_int))
    (gss_cons (gs_for PassesOwn.never (gi_range2 ge_int (ge_var 1) F.f_range) (gg_name 6 sc_law_chain.nd) (gss_cons (gs_par 7 8 sc_law_chain.nd (ge_callee (ok_law_unit F) hr (ga_cons (ge_var 1) (ga_cons (ge_bin go_sub (ge_var 6) ge_int) (ga_cons (ge_var 2) ga_nil)))) (ge_callee (ok_law_unit F) hr (ga_cons (ge_var 1) (ga_cons (ge_var 6) (ga_cons ge_negi ga_nil)))))
    (gss_cons (gs_expr (ge_app (ge_var 3) (ge_tup (ga_cons (ge_callT gc_tuple F.f_tuple (by decide +kernel) (ga_cons (ge_fr (gf_comp (own := [("a", 9), ("b", 10)]) sc_law_chain.nd (gi_zip (ge_var 7) (ge_var 8) F.f_zip) (blkOk_by (N := N_law_chain) (sc := defScope s_law_chain) (by decide +kernel)) (fun _ _ _ _ _ => (gc_tup rfl (gcs_cons (gc_name 9 sc_law_chain.nd) (gcs_cons (gc_name 10 sc_law_chain.nd) gcs_nil)))) (fun _ _ _ _ _ => gif_nil) (fun _ _ _ _ _ => (ge_bin go_add (ge_var 9) (ge_var 10))))) ga_nil)) (ga_cons ge_int (ga_cons (ge_var 5) ga_nil))))))
    (gss_one (gs_set 4 sc_law_chain.nd (ge_bin go_mul (ge_var 4) (ge_var 2)))))))
    (gss_one (gs_ret (ge_tup (ga_cons (ge_frz (ge_var 3)) (ga_cons (ge_or (ge_cmp (go_lt) (ge_var 4) ge_int) (ge_one (ge_and (ge_cmp (go_eq hr.units) (ge_var 4) ge_int) (ge_one (ge_or (ge_not (ge_var 5)) (ge_one (ge_cmp (go_eq hr.units) (ge_var 1) ge_int))))))) ga_nil))))))))))
theorem ok_law_sums (F : Fx Fr mg) : Callee P w Fr mg base "_law_sums" 3 (c_law_sums) :=
  callee_of (ps := ["pen", "size"]) F.d_law_sums sc_law_sums (fun _ _ _ _ _ _ us hl => match us, hl with | [_, _], _ => rfl) (fun f cdv A outer s H E hr =>
    (gss_cons (gs_asg (ge_tup (ga_cons (ge_callee (ok_law_take F) hr (ga_cons (ge_var 0) (ga_cons (ge_bin go_add (ge_bin go_mul ge_int (ge_var 1)) ge_int) ga_nil))) (ga_cons (ge_callee (ok_law_take F) hr (ga_cons (ge_var 0) (ga_cons ge_int ga_nil))) ga_nil))) (gg_tup rfl (ggs_cons (gg_name 2 sc_law_sums.nd) (ggs_cons (gg_name 3 sc_law_sums.nd) ggs_nil))))
    (gss_cons (gs_set 4 sc_law_sums.nd (ge_cmp (go_eq hr.units) (ge_callee (ok_law_take F) hr (ga_cons (ge_var 0) (ga_cons ge_int ga_nil))) ge_int))
    (gss_cons (gs_set 5 sc_law_sums.nd (ge_fr (gf_lst (ga_cons (ge_tup (ga_cons (ge_bin go_mul (ge_tup (ga_cons ge_int ga_nil)) (ge_var 1)) (ga_cons (ge_var 2) (ga_cons ge_bl ga_nil)))) (ga_cons (ge_tup (ga_cons (ge_bin go_mul (ge_tup (ga_cons ge_negi ga_nil)) (ge_var 1)) (ga_cons (ge_bin go_sub ge_int (ge_var 2)) (ga_cons ge_bl ga_nil)))) ga_nil)))))
    (gss_cons (gs_set 5 sc_law_sums.nd (ge_bin go_add (ge_var 5) (ge_fr (gf_comp (own := [("place", 6)]) sc_law_sums.nd (gi_range1 (ge_var 1) F.f_range) (blkOk_by (N := N_law_sums) (sc := defScope s_law_sums) (by decide +kernel)) (fun _ _ _ _ _ => (gc_name 6 sc_law_sums.nd)) (fun _ _ _ _ _ => gif_nil) (fun _ _ _ _ _ => (ge_tup (ga_cons (ge_callee (ok_law_unit F) hr (ga_cons (ge_var 1) (ga_cons (ge_var 6) (ga_cons ge_int ga_nil)))) (ga_cons (ge_var 3) (ga_cons (ge_var 4) ga_nil)))))))))
    (gss_cons (gs_if (gt_cmp (go_gt) (ge_var 3) ge_int) (gss_one (gs_ret (ge_tup (ga_cons (ge_var 5) (ga_cons (ge_cmp (go_le) (ge_var 2) (ge_bin go_mul ge_int (ge_var 1))) ga_nil))))) gss_nil)
    (gss_one (gs_ret (ge_tup (ga_cons (ge_var 5) (ga_cons (ge_or (ge_cmp (go_lt) (ge_var 2) (ge_bin go_mul (ge_var 3) (ge_var 1))) (ge_one (ge_and (ge_cmp (go_eq hr.units) (ge_var 2) (ge_bin go_mul (ge_var 3) (ge_var 1))) (ge_one (ge_not (ge_var 4)))))) ga_nil)))))))))))
theorem lawBody {f : Addr} {cdv : Value} {A : Around} {outer : List Env} {s : Shared} {H : Hp} {E : XK} (F : Fx Fr mg) (hr : RoomG 12 (A.deeper (envOfC "law" (defScope s_law) s.heap.objs.size f cdv))) : GSs (cxOf CX0 P w Fr mg base N_law "law" (defScope s_law) f cdv A outer s H E).nox (defBody s_law) (w_law Fr) :=
    (gss_cons (gs_set 1 sc_law.nd (ge_callee (ok_law_open F) hr (ga_cons (ge_var 0) ga_nil)))
    (gss_cons (gs_for PassesOwn.never (gi_range1 ge_int F.f_range) (gg_name 2 sc_law.nd) (gss_cons (gs_set 3 sc_law.nd (ge_join ge_str (ga_cons (ge_fr (gf_sorted (ge_callee (ok_law_draw_letters F) hr (ga_cons (ge_var 1) ga_nil)) F.f_sorted)) ga_nil)))
    (gss_cons (gs_set 4 sc_law.nd (ge_bin go_add (ge_callB gc_len F.f_len (by decide +kernel) (ga_cons (ge_var 3) ga_nil)) ge_int))
    (gss_cons (gs_asg (ge_callSel (ok_law_spans F) (ok_law_chain F) (ok_law_sums F) hr (ge_bin go_mod (ge_var 2) ge_int) (ga_cons (ge_var 1) (ga_cons (ge_var 4) ga_nil))) (gg_tup rfl (ggs_cons (gg_name 5 sc_law.nd) (ggs_cons (gg_name 6 sc_law.nd) ggs_nil))))
    (gss_cons (gs_set 7 sc_law.nd (ge_tup (ga_cons (ge_var 3) (ga_cons (ge_callT gc_tuple F.f_tuple (by decide +kernel) (ga_cons (ge_var 5) ga_nil)) ga_nil))))
    (gss_cons (gs_par 8 9 sc_law.nd (ge_callee (ok_find_font F) hr (ga_cons (ge_var 7) (ga_cons (ge_fr (gf_lst ga_nil)) ga_nil))) (ge_callee (ok_find_refutation F) hr (ga_cons (ge_var 7) (ga_cons (ge_fr (gf_lst ga_nil)) ga_nil))))
    (gss_cons (gs_if (gt_w (gw_or (gt_cmp (go_eq hr.units) (ge_cmp (go_is) (ge_var 8) ge_non) (ge_cmp (go_is) (ge_var 9) ge_non)) (gw_or1 (gt_not (gt_val (ge_callee (ok_law_same F 12) hr (ga_cons (ge_callee (ok_has_font F) hr (ga_cons (ge_var 7) ga_nil)) (ga_cons (ge_cmp (go_isNot) (ge_var 8) ge_non) ga_nil)))))))) (gss_one (gs_ret ge_bl)) gss_nil)
    (gss_cons (gs_if (gt_w (gw_and (gt_cmp (go_isNot) (ge_var 6) ge_non) (gw_and1 (gt_cmp (go_ne hr.units) (ge_callee (ok_has_font F) hr (ga_cons (ge_var 7) ga_nil)) (ge_var 6))))) (gss_one (gs_ret ge_bl)) gss_nil)
    (gss_cons (gs_if (gt_w (gw_and (gt_cmp (go_isNot) (ge_var 8) ge_non) (gw_and1 (gt_w (gw_or (gt_not (gt_val (ge_callee (ok_law_is_font F) hr (ga_cons (ge_var 3) (ga_cons (ge_var 8) ga_nil))))) (gw_or1 (gt_not (gt_val (ge_callee (ok_law_fits F) hr (ga_cons (ge_var 7) (ga_cons (ge_var 8) ga_nil))))))))))) (gss_one (gs_ret ge_bl)) gss_nil)
    (gss_one (gs_if (gt_w (gw_and (gt_cmp (go_isNot) (ge_var 9) ge_non) (gw_and1 (gt_not (gt_val (ge_callee (ok_law_refutes F) hr (ga_cons (ge_var 7) (ga_cons (ge_fr (gf_lst ga_nil)) (ga_cons (ge_var 9) ga_nil))))))))) (gss_one (gs_ret ge_bl)) gss_nil)))))))))))
    (gss_one (gs_ret ge_bl))))
end
end G

set_option Elab.async false
set_option linter.all false
set_option maxRecDepth 100000
set_option maxHeartbeats 0
namespace G
open PySem PySem.Spec PyProof.Rows L2
theorem factsL {K : PySem.W.Frag} {h : Heap} {mg : Str → Option Value} (X : K.In h) (G : h.Ns mainGlobals mg) (c : He.SaysD faL fnL K) : Fx K mg where
  d_common_divisor := by
    obtain ⟨fd, q⟩ := c.def_ 0 (d := dd_common_divisor) rfl
    exact ⟨fd, He.glo_ok X G (c.fact 0 (f := .glo "common_divisor") rfl), q⟩
  d_divisor_of := by
    obtain ⟨fd, q⟩ := c.def_ 1 (d := dd_divisor_of) rfl
    exact ⟨fd, He.glo_ok X G (c.fact 1 (f := .glo "divisor_of") rfl), q⟩
  d_weighted := by
    obtain ⟨fd, q⟩ := c.def_ 2 (d := dd_weighted) rfl
    exact ⟨fd, He.glo_ok X G (c.fact 2 (f := .glo "weighted") rfl), q⟩
  d_unit_row := by
    obtain ⟨fd, q⟩ := c.def_ 3 (d := dd_unit_row) rfl
    exact ⟨fd, He.glo_ok X G (c.fact 3 (f := .glo "unit_row") rfl), q⟩
  d_with_slack := by
    obtain ⟨fd, q⟩ := c.def_ 4 (d := dd_with_slack) rfl
    exact ⟨fd, He.glo_ok X G (c.fact 4 (f := .glo "with_slack") rfl), q⟩
  d_Table_init := by
    obtain ⟨fd, q⟩ := c.def_ 5 (d := dd_Table_init) rfl
    exact ⟨He.glo_ok X G (c.fact 56 (f := .glo "Table") rfl), He.mkr_ok (c.fact 64 (f := .mkr "Table") rfl), fd, q⟩
  d_Table_entering := by
    obtain ⟨fd, q⟩ := c.def_ 6 (d := dd_Table_entering) rfl
    exact ⟨He.meth_ok (c.fact 65 (f := .meth "Table" "entering") rfl), fd, q⟩
  d_Table_reduced := by
    obtain ⟨fd, q⟩ := c.def_ 7 (d := dd_Table_reduced) rfl
    exact ⟨He.meth_ok (c.fact 66 (f := .meth "Table" "reduced") rfl), fd, q⟩
  d_Table_exchange := by
    obtain ⟨fd, q⟩ := c.def_ 8 (d := dd_Table_exchange) rfl
    exact ⟨He.meth_ok (c.fact 67 (f := .meth "Table" "exchange") rfl), fd, q⟩
  d_Table_limits_more := by
    obtain ⟨fd, q⟩ := c.def_ 9 (d := dd_Table_limits_more) rfl
    exact ⟨He.meth_ok (c.fact 68 (f := .meth "Table" "limits_more") rfl), fd, q⟩
  d_Table_leaving := by
    obtain ⟨fd, q⟩ := c.def_ 10 (d := dd_Table_leaving) rfl
    exact ⟨He.meth_ok (c.fact 69 (f := .meth "Table" "leaving") rfl), fd, q⟩
  d_Table_improve := by
    obtain ⟨fd, q⟩ := c.def_ 11 (d := dd_Table_improve) rfl
    exact ⟨He.meth_ok (c.fact 70 (f := .meth "Table" "improve") rfl), fd, q⟩
  d_goal_row := by
    obtain ⟨fd, q⟩ := c.def_ 12 (d := dd_goal_row) rfl
    exact ⟨fd, He.glo_ok X G (c.fact 5 (f := .glo "goal_row") rfl), q⟩
  d_without_slack := by
    obtain ⟨fd, q⟩ := c.def_ 13 (d := dd_without_slack) rfl
    exact ⟨fd, He.glo_ok X G (c.fact 6 (f := .glo "without_slack") rfl), q⟩
  d_Table_multipliers := by
    obtain ⟨fd, q⟩ := c.def_ 14 (d := dd_Table_multipliers) rfl
    exact ⟨He.meth_ok (c.fact 71 (f := .meth "Table" "multipliers") rfl), fd, q⟩
  d_feasible_table := by
    obtain ⟨fd, q⟩ := c.def_ 15 (d := dd_feasible_table) rfl
    exact ⟨fd, He.glo_ok X G (c.fact 7 (f := .glo "feasible_table") rfl), q⟩
  d_solve := by
    obtain ⟨fd, q⟩ := c.def_ 16 (d := dd_solve) rfl
    exact ⟨fd, He.glo_ok X G (c.fact 8 (f := .glo "solve") rfl), q⟩
  d_Table_point := by
    obtain ⟨fd, q⟩ := c.def_ 17 (d := dd_Table_point) rfl
    exact ⟨He.meth_ok (c.fact 72 (f := .meth "Table" "point") rfl), fd, q⟩
  d_decide := by
    obtain ⟨fd, q⟩ := c.def_ 18 (d := dd_decide) rfl
    exact ⟨fd, He.glo_ok X G (c.fact 9 (f := .glo "decide") rfl), q⟩
  d_high_rows := by
    obtain ⟨fd, q⟩ := c.def_ 19 (d := dd_high_rows) rfl
    exact ⟨fd, He.glo_ok X G (c.fact 10 (f := .glo "high_rows") rfl), q⟩
  d_all_conditions := by
    obtain ⟨fd, q⟩ := c.def_ 20 (d := dd_all_conditions) rfl
    exact ⟨fd, He.glo_ok X G (c.fact 11 (f := .glo "all_conditions") rfl), q⟩
  d_font_of := by
    obtain ⟨fd, q⟩ := c.def_ 21 (d := dd_font_of) rfl
    exact ⟨fd, He.glo_ok X G (c.fact 12 (f := .glo "font_of") rfl), q⟩
  d_find_font := by
    obtain ⟨fd, q⟩ := c.def_ 22 (d := dd_find_font) rfl
    exact ⟨fd, He.glo_ok X G (c.fact 13 (f := .glo "find_font") rfl), q⟩
  d_find_refutation := by
    obtain ⟨fd, q⟩ := c.def_ 23 (d := dd_find_refutation) rfl
    exact ⟨fd, He.glo_ok X G (c.fact 14 (f := .glo "find_refutation") rfl), q⟩
  d_has_font := by
    obtain ⟨fd, q⟩ := c.def_ 24 (d := dd_has_font) rfl
    exact ⟨fd, He.glo_ok X G (c.fact 15 (f := .glo "has_font") rfl), q⟩
  d_law_open := by
    obtain ⟨fd, q⟩ := c.def_ 25 (d := dd_law_open) rfl
    exact ⟨fd, He.glo_ok X G (c.fact 16 (f := .glo "_law_open") rfl), q⟩
  d_law_spread := by
    obtain ⟨fd, q⟩ := c.def_ 26 (d := dd_law_spread) rfl
    exact ⟨fd, He.glo_ok X G (c.fact 17 (f := .glo "_law_spread") rfl), q⟩
  d_law_take := by
    obtain ⟨fd, q⟩ := c.def_ 27 (d := dd_law_take) rfl
    exact ⟨fd, He.glo_ok X G (c.fact 18 (f := .glo "_law_take") rfl), q⟩
  d_law_same := by
    obtain ⟨fd, q⟩ := c.def_ 28 (d := dd_law_same) rfl
    exact ⟨fd, He.glo_ok X G (c.fact 19 (f := .glo "_law_same") rfl), q⟩
  d_law_one_of := by
    obtain ⟨fd, q⟩ := c.def_ 29 (d := dd_law_one_of) rfl
    exact ⟨fd, He.glo_ok X G (c.fact 20 (f := .glo "_law_one_of") rfl), q⟩
  d_law_divisor := by
    obtain ⟨fd, q⟩ := c.def_ 30 (d := dd_law_divisor) rfl
    exact ⟨fd, He.glo_ok X G (c.fact 21 (f := .glo "_law_divisor") rfl), q⟩
  d_law_plain := by
    obtain ⟨fd, q⟩ := c.def_ 31 (d := dd_law_plain) rfl
    exact ⟨fd, He.glo_ok X G (c.fact 22 (f := .glo "_law_plain") rfl), q⟩
  d_law_draw_font := by
    obtain ⟨fd, q⟩ := c.def_ 32 (d := dd_law_draw_font) rfl
    exact ⟨fd, He.glo_ok X G (c.fact 23 (f := .glo "_law_draw_font") rfl), q⟩
  d_law_sum := by
    obtain ⟨fd, q⟩ := c.def_ 33 (d := dd_law_sum) rfl
    exact ⟨fd, He.glo_ok X G (c.fact 24 (f := .glo "_law_sum") rfl), q⟩
  d_law_holds := by
    obtain ⟨fd, q⟩ := c.def_ 34 (d := dd_law_holds) rfl
    exact ⟨fd, He.glo_ok X G (c.fact 25 (f := .glo "_law_holds") rfl), q⟩
  d_law_draw_condition := by
    obtain ⟨fd, q⟩ := c.def_ 35 (d := dd_law_draw_condition) rfl
    exact ⟨fd, He.glo_ok X G (c.fact 26 (f := .glo "_law_draw_condition") rfl), q⟩
  d_law_draw_letters := by
    obtain ⟨fd, q⟩ := c.def_ 36 (d := dd_law_draw_letters) rfl
    exact ⟨fd, He.glo_ok X G (c.fact 27 (f := .glo "_law_draw_letters") rfl), q⟩
  d_law_draw_knowledge := by
    obtain ⟨fd, q⟩ := c.def_ 37 (d := dd_law_draw_knowledge) rfl
    exact ⟨fd, He.glo_ok X G (c.fact 28 (f := .glo "_law_draw_knowledge") rfl), q⟩
  d_law_draw_text := by
    obtain ⟨fd, q⟩ := c.def_ 38 (d := dd_law_draw_text) rfl
    exact ⟨fd, He.glo_ok X G (c.fact 29 (f := .glo "_law_draw_text") rfl), q⟩
  d_law_counts := by
    obtain ⟨fd, q⟩ := c.def_ 39 (d := dd_law_counts) rfl
    exact ⟨fd, He.glo_ok X G (c.fact 30 (f := .glo "_law_counts") rfl), q⟩
  d_law_fits := by
    obtain ⟨fd, q⟩ := c.def_ 40 (d := dd_law_fits) rfl
    exact ⟨fd, He.glo_ok X G (c.fact 31 (f := .glo "_law_fits") rfl), q⟩
  d_law_is_font := by
    obtain ⟨fd, q⟩ := c.def_ 41 (d := dd_law_is_font) rfl
    exact ⟨fd, He.glo_ok X G (c.fact 32 (f := .glo "_law_is_font") rfl), q⟩
  d_law_rows := by
    obtain ⟨fd, q⟩ := c.def_ 42 (d := dd_law_rows) rfl
    exact ⟨fd, He.glo_ok X G (c.fact 33 (f := .glo "_law_rows") rfl), q⟩
  d_law_refutes := by
    obtain ⟨fd, q⟩ := c.def_ 43 (d := dd_law_refutes) rfl
    exact ⟨fd, He.glo_ok X G (c.fact 34 (f := .glo "_law_refutes") rfl), q⟩
  d_law_unit := by
    obtain ⟨fd, q⟩ := c.def_ 44 (d := dd_law_unit) rfl
    exact ⟨fd, He.glo_ok X G (c.fact 35 (f := .glo "_law_unit") rfl), q⟩
  d_law_spans := by
    obtain ⟨fd, q⟩ := c.def_ 45 (d := dd_law_spans) rfl
    exact ⟨fd, He.glo_ok X G (c.fact 36 (f := .glo "_law_spans") rfl), q⟩
  d_law_chain := by
    obtain ⟨fd, q⟩ := c.def_ 46 (d := dd_law_chain) rfl
    exact ⟨fd, He.glo_ok X G (c.fact 37 (f := .glo "_law_chain") rfl), q⟩
  d_law_sums := by
    obtain ⟨fd, q⟩ := c.def_ 47 (d := dd_law_sums) rfl
    exact ⟨fd, He.glo_ok X G (c.fact 38 (f := .glo "_law_sums") rfl), q⟩
  d_law := by
    obtain ⟨fd, q⟩ := c.def_ 48 (d := dd_law) rfl
    exact ⟨fd, He.glo_ok X G (c.fact 39 (f := .glo "law") rfl), q⟩
  c_Table := He.cls_ok (c.fact 57 (f := .cls "Table") rfl)
  a_size := fun C hC => by
    simp only [List.mem_cons, List.not_mem_nil, or_false] at hC
    rcases hC with rfl <;> first | exact ⟨He.cls_ok (c.fact 57 (f := .cls "Table") rfl), He.noat_ok (c.fact 58 (f := .noat "Table" "size") rfl)⟩
  a_rows := fun C hC => by
    simp only [List.mem_cons, List.not_mem_nil, or_false] at hC
    rcases hC with rfl <;> first | exact ⟨He.cls_ok (c.fact 57 (f := .cls "Table") rfl), He.noat_ok (c.fact 59 (f := .noat "Table" "rows") rfl)⟩
  a_goal := fun C hC => by
    simp only [List.mem_cons, List.not_mem_nil, or_false] at hC
    rcases hC with rfl <;> first | exact ⟨He.cls_ok (c.fact 57 (f := .cls "Table") rfl), He.noat_ok (c.fact 60 (f := .noat "Table" "goal") rfl)⟩
  a_columns := fun C hC => by
    simp only [List.mem_cons, List.not_mem_nil, or_false] at hC
    rcases hC with rfl <;> first | exact ⟨He.cls_ok (c.fact 57 (f := .cls "Table") rfl), He.noat_ok (c.fact 61 (f := .noat "Table" "columns") rfl)⟩
  a_basis := fun C hC => by
    simp only [List.mem_cons, List.not_mem_nil, or_false] at hC
    rcases hC with rfl <;> first | exact ⟨He.cls_ok (c.fact 57 (f := .cls "Table") rfl), He.noat_ok (c.fact 62 (f := .noat "Table" "basis") rfl)⟩
  a_denominator := fun C hC => by
    simp only [List.mem_cons, List.not_mem_nil, or_false] at hC
    rcases hC with rfl <;> first | exact ⟨He.cls_ok (c.fact 57 (f := .cls "Table") rfl), He.noat_ok (c.fact 63 (f := .noat "Table" "denominator") rfl)⟩
  f_zip := He.free_ok X G (c.fact 40 (f := .free "zip") rfl)
  f_sum := He.free_ok X G (c.fact 41 (f := .free "sum") rfl)
  f_range := He.free_ok X G (c.fact 42 (f := .free "range") rfl)
  f_tuple := He.free_ok X G (c.fact 43 (f := .free "tuple") rfl)
  f_list := He.free_ok X G (c.fact 44 (f := .free "list") rfl)
  f_len := He.free_ok X G (c.fact 45 (f := .free "len") rfl)
  f_enumerate := He.free_ok X G (c.fact 46 (f := .free "enumerate") rfl)
  f_min := He.free_ok X G (c.fact 47 (f := .free "min") rfl)
  f_abs := He.free_ok X G (c.fact 48 (f := .free "abs") rfl)
  f_int := He.free_ok X G (c.fact 49 (f := .free "int") rfl)
  f_isinstance := He.free_ok X G (c.fact 50 (f := .free "isinstance") rfl)
  f_bool := He.free_ok X G (c.fact 51 (f := .free "bool") rfl)
  f_str := He.free_ok X G (c.fact 52 (f := .free "str") rfl)
  f_max := He.free_ok X G (c.fact 53 (f := .free "max") rfl)
  f_sorted := He.free_ok X G (c.fact 54 (f := .free "sorted") rfl)
  k_MAX_WIDTH := He.int_ok X G (c.fact 55 (f := .int "MAX_WIDTH" 20) rfl)
theorem lawL {P : Program} {w : World} {K : PySem.W.Frag} {h : Heap} {mg : Str → Option Value} {f : Addr} (X : K.In h) (G : h.Ns mainGlobals mg) (hfa : mg ("law" : Str) = some (.ref f)) (c : He.SaysD faL fnL K) :
    ∃ fd : FuncData, (∀ (s : Shared) (v : Value), BindsTo s fd ⟨[v], []⟩ [("script", v)]) ∧ ∀ base : Heap, K.In base → base.Ns mainGlobals mg → FnG P w K mg base 13 f fd ["script"] (spLaw K) := by
  obtain ⟨fd, F⟩ := c.def_ 48 (d := dd_law) rfl
  have hgl := He.glo_ok X G (c.fact 39 (f := .glo "law") rfl)
  have e := hfa.symm.trans hgl
  cases e
  have b := FunD.bindsA (ps := ["script"]) F fun _ _ _ _ _ _ us hl => match us, hl with | [_], _ => rfl
  refine ⟨fd, fun s v => b s [v] rfl, fun base _ _ => ?_⟩
  have FF := factsL X G c
  refine law_fn (c := c_law K) (fn_ok F sc_law fun cdv A outer s H E hr => ?_) (law_main K)
  exact lawBody FF hr
end G
open PySem PySem.W PySem.Calls PyProof.Rows

theorem PySem.Challenge.cw_anyfont_k11_fonts_reckoned_by_hand_holds : PySem.Challenge.rw_anyfont_k11_fonts_reckoned_by_hand.Holds := by
  refine G.frontL ?_
  refine G.walk_ofG (l := PySem.Challenge.rw_anyfont_k11_fonts_reckoned_by_hand) (n := 63) (k := 13) (x := "script") rfl (by decide) (by kernel_rfl) ⟨rfl, by decide, by decide⟩ ?F
  intro w mg fa h Y G0 hmg0
  obtain ⟨K, KX, c⟩ := Y
  have hmg : mg ("law" : PySem.Str) = some (.ref fa) := by
    have e : (HandSHeadRun.topDef (OpenLaw.row PySem.Challenge.rw_anyfont_k11_fonts_reckoned_by_hand).prog 46).name = ("law" : PySem.Str) := by kernel_rfl
    rw [← e]
    exact hmg0
  obtain ⟨fd, hb, hF⟩ := G.lawL (P := (PySem.Challenge.rw_anyfont_k11_fonts_reckoned_by_hand).prog) (w := w) KX G0 hmg c
  exact ⟨K, fd, G.spLaw K, KX, hb, fun H a ns hl _ hS => ⟨a, ns, rfl, hS, hl, fun _ => rfl⟩, hF⟩

