import PyProof.Rows.All
import Wide.All
import OpenK.AllK
import Wide.FinOn
import KE.KStateDown
import Lean
import HandS.ForMost
import HandS.More
import HandS.Flow
import HandS.Wide
import HandS.Codes
import HandS.IsInst
import HandS.TupAny
import HandS.Zip
import HandS.Rev
import HandS.RevRange
import HandS.StrMore
import HandS.Defaults
import HandS.WordsExc
import HandS.Deep
import HandS.Steps
import HandS.Style
import HandS.NoneIn
import HandS.RaiseMore
import HandS.TupMul
import HandS.Small
import HandS.Conv
import HandS.Dict
import HandS.Head0
import HandS.Head1
import HandS.Head2
import HandS.HeadEnd
import HandS.HeadHook1
import HandS.HeadHook2
import HandS.Iter
import HandS.NamedTupSort
import HandS.Replace
import HandS.ReplaceLit
import HandS.Set
import HandS.SetFor
import HandS.Sort
import HandS.SortKw
import HandS.SortOrd
import HandS.SortRule
import HandS.Strs
import HandS.TupLe
import HandS.Walk
import KE.GoesMore
import PyProof.CallType
import PyProof.CollectStr
import PyProof.DictKinds
import PyProof.EnumMake
import PyProof.EqAt
import PyProof.ListRange
import PyProof.NeKinds
import PyProof.P3Eq
import PyProof.ReprLen
import PyProof.ReprRoads
import PyProof.Rows.SortStr
import PyProof.StrWalks
import PyProof.TupleIter
import PyProof.TupleOfStr
import PyProof.WalkInts
import PySem.Challenge.RW_anyfont_k01_conditions_and_fonts_recogni
set_option linter.all false
set_option maxRecDepth 100000
set_option autoImplicit false
namespace G
open PySem PySem.Spec PyProof.Rows L2
/-! ### what the head needs ahead of all else -/
def clsBody : Stmt → List Stmt
  | .ClassDef _ _ _ b _ _ _ _ _ _ _ => b
  | _ => []
end G

set_option Elab.async false
set_option linter.all false
set_option autoImplicit false
set_option maxRecDepth 100000
set_option maxHeartbeats 0
namespace G
open PySem PySem.Spec PyProof.Rows L2
def topS (i : Nat) : Stmt := PySem.Challenge.pw_anyfont_k01_conditions_and_fonts_recogni.main.body.getD i (.Pass ⟨0, 0, 0, 0⟩)
abbrev s_is_integer : Stmt := topS 8
abbrev s_is_within : Stmt := topS 9
abbrev s_is_letters : Stmt := topS 10
abbrev s_common_divisor : Stmt := topS 11
abbrev s_divisor_of : Stmt := topS 12
abbrev s_is_condition : Stmt := topS 13
abbrev s_is_font : Stmt := topS 14
abbrev s_is_knowledge : Stmt := topS 15
abbrev s_law_open : Stmt := topS 17
abbrev s_law_spread : Stmt := topS 18
abbrev s_law_take : Stmt := topS 19
abbrev s_law_same : Stmt := topS 20
abbrev s_law_one_of : Stmt := topS 21
abbrev s_law_divisor : Stmt := topS 22
abbrev s_law_plain : Stmt := topS 23
abbrev s_law_draw_font : Stmt := topS 24
abbrev s_law_sum : Stmt := topS 25
abbrev s_law_holds : Stmt := topS 26
abbrev s_law_draw_condition : Stmt := topS 27
abbrev s_law_draw_letters : Stmt := topS 28
abbrev s_law_draw_knowledge : Stmt := topS 29
abbrev s_law_draw_text : Stmt := topS 30
abbrev s_law_counts : Stmt := topS 31
abbrev s_law_fits : Stmt := topS 32
abbrev s_law_is_font : Stmt := topS 33
abbrev s_law_rows : Stmt := topS 34
abbrev s_law_refutes : Stmt := topS 35
abbrev s_law_is_between : Stmt := topS 36
abbrev s_law_is_condition : Stmt := topS 37
abbrev s_law_is_knowledge : Stmt := topS 38
abbrev s_law_bend : Stmt := topS 39
abbrev s_law_any_letters : Stmt := topS 40
abbrev s_law_fonts_near : Stmt := topS 41
abbrev s_law_values_near : Stmt := topS 42
abbrev s_law : Stmt := topS 43
/-! ### the head -/
def dd_is_integer : He.DefD := ⟨("is_integer", none), "is_integer", "is_integer", defArgs s_is_integer, defBody s_is_integer, defScope s_is_integer, [], []⟩
def dd_is_within : He.DefD := ⟨("is_within", none), "is_within", "is_within", defArgs s_is_within, defBody s_is_within, defScope s_is_within, [], []⟩
def dd_is_letters : He.DefD := ⟨("is_letters", none), "is_letters", "is_letters", defArgs s_is_letters, defBody s_is_letters, defScope s_is_letters, [], []⟩
def dd_common_divisor : He.DefD := ⟨("common_divisor", none), "common_divisor", "common_divisor", defArgs s_common_divisor, defBody s_common_divisor, defScope s_common_divisor, [], []⟩
def dd_divisor_of : He.DefD := ⟨("divisor_of", none), "divisor_of", "divisor_of", defArgs s_divisor_of, defBody s_divisor_of, defScope s_divisor_of, [], []⟩
def dd_is_condition : He.DefD := ⟨("is_condition", none), "is_condition", "is_condition", defArgs s_is_condition, defBody s_is_condition, defScope s_is_condition, [], []⟩
def dd_is_font : He.DefD := ⟨("is_font", none), "is_font", "is_font", defArgs s_is_font, defBody s_is_font, defScope s_is_font, [], []⟩
def dd_is_knowledge : He.DefD := ⟨("is_knowledge", none), "is_knowledge", "is_knowledge", defArgs s_is_knowledge, defBody s_is_knowledge, defScope s_is_knowledge, [], []⟩
def dd_law_open : He.DefD := ⟨("_law_open", none), "_law_open", "_law_open", defArgs s_law_open, defBody s_law_open, defScope s_law_open, [], []⟩
def dd_law_spread : He.DefD := ⟨("_law_spread", none), "_law_spread", "_law_spread", defArgs s_law_spread, defBody s_law_spread, defScope s_law_spread, [], []⟩
def dd_law_take : He.DefD := ⟨("_law_take", none), "_law_take", "_law_take", defArgs s_law_take, defBody s_law_take, defScope s_law_take, [], []⟩
def dd_law_same : He.DefD := ⟨("_law_same", none), "_law_same", "_law_same", defArgs s_law_same, defBody s_law_same, defScope s_law_same, [], []⟩
def dd_law_one_of : He.DefD := ⟨("_law_one_of", none), "_law_one_of", "_law_one_of", defArgs s_law_one_of, defBody s_law_one_of, defScope s_law_one_of, [], []⟩
def dd_law_divisor : He.DefD := ⟨("_law_divisor", none), "_law_divisor", "_law_divisor", defArgs s_law_divisor, defBody s_law_divisor, defScope s_law_divisor, [], []⟩
def dd_law_plain : He.DefD := ⟨("_law_plain", none), "_law_plain", "_law_plain", defArgs s_law_plain, defBody s_law_plain, defScope s_law_plain, [], []⟩
def dd_law_draw_font : He.DefD := ⟨("_law_draw_font", none), "_law_draw_font", "_law_draw_font", defArgs s_law_draw_font, defBody s_law_draw_font, defScope s_law_draw_font, [], []⟩
def dd_law_sum : He.DefD := ⟨("_law_sum", none), "_law_sum", "_law_sum", defArgs s_law_sum, defBody s_law_sum, defScope s_law_sum, [], []⟩
def dd_law_holds : He.DefD := ⟨("_law_holds", none), "_law_holds", "_law_holds", defArgs s_law_holds, defBody s_law_holds, defScope s_law_holds, [], []⟩
def dd_law_draw_condition : He.DefD := ⟨("_law_draw_condition", none), "_law_draw_condition", "_law_draw_condition", defArgs s_law_draw_condition, defBody s_law_draw_condition, defScope s_law_draw_condition, [], []⟩
def dd_law_draw_letters : He.DefD := ⟨("_law_draw_letters", none), "_law_draw_letters", "_law_draw_letters", defArgs s_law_draw_letters, defBody s_law_draw_letters, defScope s_law_draw_letters, [], []⟩
def dd_law_draw_knowledge : He.DefD := ⟨("_law_draw_knowledge", none), "_law_draw_knowledge", "_law_draw_knowledge", defArgs s_law_draw_knowledge, defBody s_law_draw_knowledge, defScope s_law_draw_knowledge, [], []⟩
def dd_law_draw_text : He.DefD := ⟨("_law_draw_text", none), "_law_draw_text", "_law_draw_text", defArgs s_law_draw_text, defBody s_law_draw_text, defScope s_law_draw_text, [], []⟩
def dd_law_counts : He.DefD := ⟨("_law_counts", none), "_law_counts", "_law_counts", defArgs s_law_counts, defBody s_law_counts, defScope s_law_counts, [], []⟩
def dd_law_fits : He.DefD := ⟨("_law_fits", none), "_law_fits", "_law_fits", defArgs s_law_fits, defBody s_law_fits, defScope s_law_fits, [], []⟩
def dd_law_is_font : He.DefD := ⟨("_law_is_font", none), "_law_is_font", "_law_is_font", defArgs s_law_is_font, defBody s_law_is_font, defScope s_law_is_font, [], []⟩
def dd_law_rows : He.DefD := ⟨("_law_rows", none), "_law_rows", "_law_rows", defArgs s_law_rows, defBody s_law_rows, defScope s_law_rows, [], []⟩
def dd_law_refutes : He.DefD := ⟨("_law_refutes", none), "_law_refutes", "_law_refutes", defArgs s_law_refutes, defBody s_law_refutes, defScope s_law_refutes, [], []⟩
def dd_law_is_between : He.DefD := ⟨("_law_is_between", none), "_law_is_between", "_law_is_between", defArgs s_law_is_between, defBody s_law_is_between, defScope s_law_is_between, [], []⟩
def dd_law_is_condition : He.DefD := ⟨("_law_is_condition", none), "_law_is_condition", "_law_is_condition", defArgs s_law_is_condition, defBody s_law_is_condition, defScope s_law_is_condition, [], []⟩
def dd_law_is_knowledge : He.DefD := ⟨("_law_is_knowledge", none), "_law_is_knowledge", "_law_is_knowledge", defArgs s_law_is_knowledge, defBody s_law_is_knowledge, defScope s_law_is_knowledge, [], []⟩
def dd_law_bend : He.DefD := ⟨("_law_bend", none), "_law_bend", "_law_bend", defArgs s_law_bend, defBody s_law_bend, defScope s_law_bend, [], []⟩
def dd_law_any_letters : He.DefD := ⟨("_law_any_letters", none), "_law_any_letters", "_law_any_letters", defArgs s_law_any_letters, defBody s_law_any_letters, defScope s_law_any_letters, [], []⟩
def dd_law_fonts_near : He.DefD := ⟨("_law_fonts_near", none), "_law_fonts_near", "_law_fonts_near", defArgs s_law_fonts_near, defBody s_law_fonts_near, defScope s_law_fonts_near, [], []⟩
def dd_law_values_near : He.DefD := ⟨("_law_values_near", none), "_law_values_near", "_law_values_near", defArgs s_law_values_near, defBody s_law_values_near, defScope s_law_values_near, [], []⟩
def dd_law : He.DefD := ⟨("law", none), "law", "law", defArgs s_law, defBody s_law, defScope s_law, [], []⟩
def fnL : List He.DefD := [dd_is_integer, dd_is_within, dd_is_letters, dd_common_divisor, dd_divisor_of, dd_is_condition, dd_is_font, dd_is_knowledge, dd_law_open, dd_law_spread, dd_law_take, dd_law_same, dd_law_one_of, dd_law_divisor, dd_law_plain, dd_law_draw_font, dd_law_sum, dd_law_holds, dd_law_draw_condition, dd_law_draw_letters, dd_law_draw_knowledge, dd_law_draw_text, dd_law_counts, dd_law_fits, dd_law_is_font, dd_law_rows, dd_law_refutes, dd_law_is_between, dd_law_is_condition, dd_law_is_knowledge, dd_law_bend, dd_law_any_letters, dd_law_fonts_near, dd_law_values_near, dd_law]
def faL : List He.Fa := [.glo "is_integer", .glo "is_within", .glo "is_letters", .glo "common_divisor", .glo "divisor_of", .glo "is_condition", .glo "is_font", .glo "is_knowledge", .glo "_law_open", .glo "_law_spread", .glo "_law_take", .glo "_law_same", .glo "_law_one_of", .glo "_law_divisor", .glo "_law_plain", .glo "_law_draw_font", .glo "_law_sum", .glo "_law_holds", .glo "_law_draw_condition", .glo "_law_draw_letters", .glo "_law_draw_knowledge", .glo "_law_draw_text", .glo "_law_counts", .glo "_law_fits", .glo "_law_is_font", .glo "_law_rows", .glo "_law_refutes", .glo "_law_is_between", .glo "_law_is_condition", .glo "_law_is_knowledge", .glo "_law_bend", .glo "_law_any_letters", .glo "_law_fonts_near", .glo "_law_values_near", .glo "law", .free "isinstance", .free "int", .free "bool", .free "str", .free "len", .free "all", .free "list", .free "sorted", .free "set", .free "tuple", .free "enumerate", .free "zip", .free "abs", .free "range", .free "min", .free "sum", .free "max", .free "repr", .int "MAX_LETTERS" 4, .str "FIRST_CHARACTER" "!", .str "LAST_CHARACTER" "~", .int "MAX_FACTOR" 99, .int "MAX_BOUND" 9999, .int "MAX_WIDTH" 20, .int "MAX_FACTS" 8]
abbrev RR : PySem.W.OpenRow := PySem.W.OpenLaw.row PySem.Challenge.rw_anyfont_k01_conditions_and_fonts_recogni
abbrev hkL : PySem.W.Hook := He.hookD 4 faL fnL
def obL (s : PySem.W.SharedT) : He.AlD := He.obsDG 4 faL fnL (HandSHeadRun.getT s)
theorem obL_eq (s : PySem.W.SharedT) : obL s = hkL.obs s.abs := He.obsDG_eq (HandSHeadRun.getT_eq s)
def looseL : List Str := (["FIRST_CHARACTER", "LAST_CHARACTER", "MAX_LETTERS", "MAX_FACTS", "MAX_FACTOR", "MAX_BOUND", "MAX_WIDTH", "is_integer", "is_within", "is_letters", "common_divisor", "divisor_of", "is_condition", "is_font", "is_knowledge", "_law_open"] : List Str) ++ (["_law_spread", "_law_take", "_law_same", "_law_one_of", "_law_divisor", "_law_plain", "_law_draw_font", "_law_sum", "_law_holds", "_law_draw_condition", "_law_draw_letters", "_law_draw_knowledge", "_law_draw_text", "_law_counts", "_law_fits", "_law_is_font"] : List Str) ++ (["_law_rows", "_law_refutes", "_law_is_between", "_law_is_condition", "_law_is_knowledge", "_law_bend", "_law_any_letters", "_law_fonts_near", "_law_values_near"] : List Str)
theorem runL (w : World) : HandSHeadRun.RunEq RR (PySem.W.view RR.prog [43]) hkL obL 4000 looseL w := by
  intro os
  kernel_rfl
end G
section
open PySem PySem.W PySem.Calls PyProof.Rows
theorem G.frontL (hc : PySem.W.WalkO (PySem.W.view G.RR.prog [43]) G.looseL (PySem.W.XL (PySem.W.view G.RR.prog [43]) []) G.hkL.says G.RR.toRowW (HandSHeadRun.topDef G.RR.prog 43) [] fun f vs => PySem.call f vs) : PySem.Challenge.rw_anyfont_k01_conditions_and_fonts_recogni.Holds := by
  w_on; o_law
  refine HandSHeadRun.head_any (r := OpenLaw.row PySem.Challenge.rw_anyfont_k01_conditions_and_fonts_recogni) (q := view (OpenLaw.row PySem.Challenge.rw_anyfont_k01_conditions_and_fonts_recogni).prog [43]) (H := G.hkL) (ob := G.obL) (M := 4000) (loose := G.looseL) (d := HandSHeadRun.topDef (OpenLaw.row PySem.Challenge.rw_anyfont_k01_conditions_and_fonts_recogni).prog 43) (kwd := []) G.obL_eq
    (by kernel_rfl) (fun s => by kernel_rfl) G.runL (by kernel_rfl) (by kernel_rfl) (by kernel_rfl) (by rfl) (by first | assumption | decide +kernel) (by decide +kernel) ⟨rfl, rfl, rfl, rfl, rfl, by decide +kernel⟩ ?hw hc
  case hw => w_witness2
end

set_option Elab.async false
set_option linter.all false
set_option maxRecDepth 100000
set_option autoImplicit false
namespace G
open PySem PySem.Spec PyProof.Rows L2

/-! ### values as trees -/
inductive D where
  | non
  | bl (b : Bool)
  | int (i : Int)
  | str (x : Str)
  | tup (l : List D)
  | lst (l : List D)
  | dic (l : List (D × D))
  | cell (a : Addr)
  | fn (a : Addr)
  | ty (n : String)
  | scr (F : PySem.W.Frag) (l : List Int)

inductive Cell where
  | lst (l : List D)
  | dic (l : List (D × D))
  | obj (C : Addr) (fs : List (Str × D))

abbrev Sto := Addr → Option Cell
def Sto.set (S : Sto) (a : Addr) (c : Cell) : Sto := fun b => if b = a then some c else S b
def Sto.del (S : Sto) (a : Addr) : Sto := fun b => if b = a then none else S b
def Sto.nil : Sto := fun _ => none
theorem Sto.set_same {S : Sto} {a : Addr} {c : Cell} : S.set a c a = some c := if_pos rfl
theorem Sto.set_ne {S : Sto} {a b : Addr} {c : Cell} (h : b ≠ a) : S.set a c b = S b := if_neg h
theorem Sto.del_same {S : Sto} {a : Addr} : S.del a a = none := if_pos rfl
theorem Sto.del_ne {S : Sto} {a b : Addr} (h : b ≠ a) : S.del a b = S b := if_neg h
/-- a part of a store -/
def Sub (S' S : Sto) : Prop := ∀ a c, S' a = some c → S a = some c
theorem Sub.refl (S : Sto) : Sub S S := fun _ _ h => h
theorem Sub.trans {A B C : Sto} (h : Sub A B) (k : Sub B C) : Sub A C := fun a c e => k a c (h a c e)
/-- the key of a dict as a value -/
def kD : Key → D
  | .inl i => .int i
  | .inr x => .str x

/-- what may change: hidden objects (N), cells -/
abbrev Hid := Addr → Prop
def alive (N : Hid) (S : Sto) : Addr → Prop := fun a => N a ∨ S a ≠ none

/-- the script: a list of ints, locked or written -/
inductive ScrAt (H : Hp) (A : Addr → Prop) (F : PySem.W.Frag) (a : Addr) (l : List Int) : Prop
  | rd : Rd H a (.lst (l.map V.int)) → ¬ A a → ScrAt H A F a l
  | kn : (∃ (o : Obj) (its : Array Value) (n : Nat), F.lookup a = some o ∧ o.cls = .type "list" ∧ o.dict = none ∧ o.data = .seq its n ∧ its.size ≤ sizeLine ∧ Vals (l.map V.int) its.toList) → ScrAt H A F a l
theorem ScrAt.sq {H : Hp} {A : Addr → Prop} {F : PySem.W.Frag} {a : Addr} {l : List Int} (h : ScrAt H A F a l) : SqL F H a (l.map V.int) := by
  cases h with
  | rd h _ => exact .inl h
  | kn h => exact .inr h
theorem ScrAt.of {H : Hp} {A : Addr → Prop} {F : PySem.W.Frag} {a : Addr} {l : List Int} (h : SqL F H a (l.map V.int)) (n : ¬ A a) : ScrAt H A F a l := by
  rcases h with h | h
  · exact .rd h n
  · exact .kn h
mutual
inductive Rep (H : Hp) (A : Addr → Prop) : V → D → Prop
  | non : Rep H A .non .non
  | bl (b : Bool) : Rep H A (.bl b) (.bl b)
  | int (i : Int) : Rep H A (.int i) (.int i)
  | str (x : Str) : Rep H A (.str x) (.str x)
  | ty (n : String) : Rep H A (.ty n) (.ty n)
  | cell (a : Addr) : Rep H A (.ref a) (.cell a)
  | fn (a : Addr) : Rep H A (.ref a) (.fn a)
  | scr {a : Addr} {F : PySem.W.Frag} {l : List Int} : ScrAt H A F a l → Rep H A (.ref a) (.scr F l)
  | tup {a : Addr} {vs : List V} {ds : List D} : Rd H a (.tup vs) → ¬ A a → Reps H A vs ds → Rep H A (.ref a) (.tup ds)
  | lst {a : Addr} {vs : List V} {ds : List D} : H a = some (.lst vs) → ¬ A a → Reps H A vs ds → Rep H A (.ref a) (.lst ds)
  | dic {a : Addr} {kvs : List (Key × V)} {es : List (D × D)} : H a = some (.dK kvs) → ¬ A a → RepK H A kvs es → Rep H A (.ref a) (.dic es)
inductive Reps (H : Hp) (A : Addr → Prop) : List V → List D → Prop
  | nil : Reps H A [] []
  | cons {v : V} {d : D} {vs : List V} {ds : List D} : Rep H A v d → Reps H A vs ds → Reps H A (v :: vs) (d :: ds)
inductive RepK (H : Hp) (A : Addr → Prop) : List (Key × V) → List (D × D) → Prop
  | nil : RepK H A [] []
  | cons {k : Key} {v : V} {d : D} {vs : List (Key × V)} {ds : List (D × D)} : Rep H A v d → RepK H A vs ds → RepK H A ((k, v) :: vs) ((kD k, d) :: ds)
end

/-- the attributes of an object -/
inductive RepF (H : Hp) (A : Addr → Prop) : List (Str × V) → List (Str × D) → Prop
  | nil : RepF H A [] []
  | cons {k : Str} {v : V} {d : D} {vs : List (Str × V)} {ds : List (Str × D)} : Rep H A v d → RepF H A vs ds → RepF H A ((k, v) :: vs) ((k, d) :: ds)

/-- what is kept between two moments: all that is tracked and not alive -/
structure Tr0 (H : Hp) (A : Addr → Prop) (H' : Hp) (A' : Addr → Prop) : Prop where
  keep : ∀ a o, H a = some o → ¬ A a → H' a = some o
  old : ∀ a o, H a = some o → ¬ A a → ¬ A' a
theorem Tr0.rd {H H' : Hp} {A A' : Addr → Prop} (t : Tr0 H A H' A') {a : Addr} {u : HO} (h : Rd H a u) (k : ¬ A a) : Rd H' a u ∧ ¬ A' a := by
  rcases h with h | ⟨o, h⟩
  · exact ⟨.inl (t.keep _ _ h k), t.old _ _ h k⟩
  · exact ⟨.inr ⟨o, t.keep _ _ h k⟩, t.old _ _ h k⟩

section
variable {H H' : Hp} {A A' : Addr → Prop}
theorem ScrAt.mono0 (t : Tr0 H A H' A') {F : PySem.W.Frag} {a : Addr} {l : List Int} (h : ScrAt H A F a l) : ScrAt H' A' F a l := by
  cases h with
  | rd r k => exact .rd (t.rd r k).1 (t.rd r k).2
  | kn r => exact .kn r
mutual
theorem Rep.mono0 (t : Tr0 H A H' A') : ∀ {v : V} {d : D}, Rep H A v d → Rep H' A' v d
  | _, _, .non => .non
  | _, _, .bl b => .bl b
  | _, _, .int i => .int i
  | _, _, .str x => .str x
  | _, _, .ty n => .ty n
  | _, _, .cell a => .cell a
  | _, _, .fn a => .fn a
  | _, _, .scr h => .scr (h.mono0 t)
  | _, _, .tup r k q => .tup (t.rd r k).1 (t.rd r k).2 (Reps.mono0 t q)
  | _, _, .lst r k q => .lst (t.keep _ _ r k) (t.old _ _ r k) (Reps.mono0 t q)
  | _, _, .dic r k q => .dic (t.keep _ _ r k) (t.old _ _ r k) (RepK.mono0 t q)
theorem Reps.mono0 (t : Tr0 H A H' A') : ∀ {vs : List V} {ds : List D}, Reps H A vs ds → Reps H' A' vs ds
  | _, _, .nil => .nil
  | _, _, .cons r q => .cons (Rep.mono0 t r) (Reps.mono0 t q)
theorem RepK.mono0 (t : Tr0 H A H' A') : ∀ {vs : List (Key × V)} {ds : List (D × D)}, RepK H A vs ds → RepK H' A' vs ds
  | _, _, .nil => .nil
  | _, _, .cons r q => .cons (Rep.mono0 t r) (RepK.mono0 t q)
end
theorem RepF.mono0 (t : Tr0 H A H' A') {vs : List (Str × V)} {ds : List (Str × D)} (h : RepF H A vs ds) : RepF H' A' vs ds := by
  induction h with
  | nil => exact .nil
  | cons r _ ih => exact .cons (r.mono0 t) ih
end

/-- .. with what is hidden -/
structure Tr (N : Hid) (H : Hp) (S : Sto) (H' : Hp) (S' : Sto) : Prop where
  t0 : Tr0 H (alive N S) H' (alive N S')
  hid : ∀ a, N a → H' a = H a
  there : ∀ a o, H a = some o → ∃ o', H' a = some o'
theorem Tr.refl (N : Hid) (H : Hp) (S : Sto) : Tr N H S H S := ⟨⟨fun _ _ h _ => h, fun _ _ _ h => h⟩, fun _ _ => rfl, fun _ o h => ⟨o, h⟩⟩
theorem Tr.trans {N : Hid} {H H1 H2 : Hp} {S S1 S2 : Sto} (a : Tr N H S H1 S1) (b : Tr N H1 S1 H2 S2) : Tr N H S H2 S2 := by
  refine ⟨⟨fun c o h k => b.t0.keep c o (a.t0.keep c o h k) (a.t0.old c o h k), fun c o h k => b.t0.old c o (a.t0.keep c o h k) (a.t0.old c o h k)⟩, fun c n => (b.hid c n).trans (a.hid c n), fun c o h => ?_⟩
  obtain ⟨o', e⟩ := a.there c o h
  exact b.there c o' e
theorem Tr.fresh {N : Hid} {H H' : Hp} {S S' : Sto} (t : Tr N H S H' S') {p : Addr} (h : H' p = none) : H p = none := by
  cases q : H p with
  | none => rfl
  | some o =>
    obtain ⟨o', e⟩ := t.there p o q
    rw [h] at e; cases e
section
variable {N : Hid} {H H' : Hp} {S S' : Sto}
abbrev Rp (N : Hid) (H : Hp) (S : Sto) : V → D → Prop := Rep H (alive N S)
abbrev Rps (N : Hid) (H : Hp) (S : Sto) : List V → List D → Prop := Reps H (alive N S)
theorem Rep.mono (t : Tr N H S H' S') {v : V} {d : D} (h : Rep H (alive N S) v d) : Rep H' (alive N S') v d := h.mono0 t.t0
theorem Reps.mono (t : Tr N H S H' S') {vs : List V} {ds : List D} (h : Reps H (alive N S) vs ds) : Reps H' (alive N S') vs ds := h.mono0 t.t0
theorem RepK.mono (t : Tr N H S H' S') {vs : List (Key × V)} {ds : List (D × D)} (h : RepK H (alive N S) vs ds) : RepK H' (alive N S') vs ds := h.mono0 t.t0
theorem RepF.mono (t : Tr N H S H' S') {vs : List (Str × V)} {ds : List (Str × D)} (h : RepF H (alive N S) vs ds) : RepF H' (alive N S') vs ds := h.mono0 t.t0
end

def CellOk (N : Hid) (H : Hp) (S : Sto) (c : Addr) : Cell → Prop
  | .lst ds => ∃ vs, H c = some (.lst vs) ∧ Reps H (alive N S) vs ds
  | .dic es => ∃ kvs, H c = some (.dK kvs) ∧ RepK H (alive N S) kvs es
  | .obj C fs => ∃ dx fvs, H c = some (.ins C dx fvs) ∧ RepF H (alive N S) fvs fs
structure CellsOk (N : Hid) (H : Hp) (S : Sto) : Prop where
  at_ : ∀ c x, S c = some x → CellOk N H S c x
  hid : ∀ a, N a → S a = none ∧ ∃ o, H a = some o

section
variable {N : Hid} {H H' : Hp} {S S' : Sto} {c p : Addr} {x : Cell}
theorem CellOk.there (h : CellOk N H S c x) : ∃ o, H c = some o ∧ Mut (some o) := by
  cases x with
  | lst ds => obtain ⟨vs, e, _⟩ := h; exact ⟨_, e, trivial⟩
  | dic es => obtain ⟨vs, e, _⟩ := h; exact ⟨_, e, trivial⟩
  | obj C fs => obtain ⟨dx, vs, e, _⟩ := h; exact ⟨_, e, trivial⟩
theorem CellsOk.free (h : CellsOk N H S) (n : H p = none) : S p = none := by
  cases q : S p with
  | none => rfl
  | some x =>
    obtain ⟨o, e, _⟩ := (h.at_ p x q).there
    rw [n] at e; cases e
theorem CellsOk.dead (h : CellsOk N H S) (n : H p = none) : ¬ alive N S p := fun z => by
  rcases z with z | z
  · obtain ⟨_, o, e⟩ := h.hid p z
    rw [n] at e; cases e
  · exact z (h.free n)
theorem CellOk.mono (t : Tr N H S H' S') (e : H' c = H c) (h : CellOk N H S c x) : CellOk N H' S' c x := by
  cases x with
  | lst ds => obtain ⟨vs, k, r⟩ := h; exact ⟨vs, e.trans k, r.mono t⟩
  | dic es => obtain ⟨vs, k, r⟩ := h; exact ⟨vs, e.trans k, r.mono t⟩
  | obj C fs => obtain ⟨dx, vs, k, r⟩ := h; exact ⟨dx, vs, e.trans k, r.mono t⟩
/-- a new object that is not a cell -/
theorem Tr.new (c : CellsOk N H S) (n : H p = none) {o : HO} : Tr N H S (upd H p o) S := by
  refine ⟨⟨fun a u h _ => by rw [upd_ne (ne_of_none h n)]; exact h, fun _ _ _ k => k⟩, fun a k => ?_, fun a u h => ⟨u, by rw [upd_ne (ne_of_none h n)]; exact h⟩⟩
  obtain ⟨_, u, e⟩ := c.hid a k
  exact upd_ne (ne_of_none e n)
theorem CellsOk.new (h : CellsOk N H S) (n : H p = none) {o : HO} : CellsOk N (upd H p o) S := by
  refine ⟨fun c x e => ?_, fun a k => ⟨(h.hid a k).1, ?_⟩⟩
  · have k := h.at_ c x e
    obtain ⟨u, hu, _⟩ := k.there
    exact k.mono (Tr.new h n) (upd_ne (ne_of_none hu n))
  · obtain ⟨u, e⟩ := (h.hid a k).2
    exact ⟨u, by rw [upd_ne (ne_of_none e n)]; exact e⟩
theorem alive_set {a : Addr} (h : ¬ alive N S a) (n : a ≠ p) : ¬ alive N (S.set p x) a := fun z => by
  rcases z with z | z
  · exact h (.inl z)
  · rw [Sto.set_ne n] at z; exact h (.inr z)
theorem alive_del {a : Addr} (h : ¬ alive N S a) : ¬ alive N (S.del p) a := fun z => by
  rcases z with z | z
  · exact h (.inl z)
  · by_cases w : a = p
    · rw [w] at z; exact z Sto.del_same
    · rw [Sto.del_ne w] at z; exact h (.inr z)
/-- a new cell -/
theorem Tr.newC (c : CellsOk N H S) (n : H p = none) {o : HO} {x : Cell} : Tr N H S (upd H p o) (S.set p x) := by
  refine ⟨⟨fun a u h _ => by rw [upd_ne (ne_of_none h n)]; exact h, fun a u h k => alive_set k (ne_of_none h n)⟩, fun a k => ?_, fun a u h => ⟨u, by rw [upd_ne (ne_of_none h n)]; exact h⟩⟩
  obtain ⟨_, u, e⟩ := c.hid a k
  exact upd_ne (ne_of_none e n)
theorem CellsOk.newC (h : CellsOk N H S) (n : H p = none) {o : HO} {x : Cell} (k : CellOk N (upd H p o) (S.set p x) p x) : CellsOk N (upd H p o) (S.set p x) := by
  refine ⟨fun c y e => ?_, fun a m => ?_⟩
  · by_cases z : c = p
    · rw [z, Sto.set_same] at e
      cases e
      rw [z]; exact k
    · rw [Sto.set_ne z] at e
      exact (h.at_ c y e).mono (Tr.newC h n) (upd_ne z)
  · obtain ⟨e0, u, e⟩ := h.hid a m
    have ne := ne_of_none e n
    exact ⟨by rw [Sto.set_ne ne]; exact e0, u, by rw [upd_ne ne]; exact e⟩
/-- a cell is written -/
theorem Tr.put (k : CellsOk N H S) {y : Cell} (e : S c = some y) {o : HO} {x : Cell} : Tr N H S (upd H c o) (S.set c x) := by
  have ne : ∀ a, ¬ alive N S a → a ≠ c := fun a k z => k (.inr (by rw [z, e]; exact fun w => nomatch w))
  refine ⟨⟨fun a u h k => by rw [upd_ne (ne a k)]; exact h, fun a u h k => alive_set k (ne a k)⟩, fun a m => ?_, fun a u h => ?_⟩
  · refine upd_ne fun z => ?_
    have := (k.hid a m).1
    rw [z, e] at this; cases this
  · by_cases z : a = c
    · rw [z]; exact ⟨o, upd_same⟩
    · exact ⟨u, by rw [upd_ne z]; exact h⟩
theorem CellsOk.put (h : CellsOk N H S) {y : Cell} (e : S c = some y) {o : HO} {x : Cell} (k : CellOk N (upd H c o) (S.set c x) c x) : CellsOk N (upd H c o) (S.set c x) := by
  refine ⟨fun b z q => ?_, fun a m => ?_⟩
  · by_cases w : b = c
    · rw [w, Sto.set_same] at q
      cases q
      rw [w]; exact k
    · rw [Sto.set_ne w] at q
      exact (h.at_ b z q).mono (Tr.put h e) (upd_ne w)
  · obtain ⟨e0, u, e1⟩ := h.hid a m
    have ne : a ≠ c := fun z => by rw [z, e] at e0; cases e0
    exact ⟨by rw [Sto.set_ne ne]; exact e0, u, by rw [upd_ne ne]; exact e1⟩
/-- a cell is a cell no more -/
theorem Tr.del : Tr N H S H (S.del c) := ⟨⟨fun _ _ h _ => h, fun _ _ _ k => alive_del k⟩, fun _ _ => rfl, fun _ o h => ⟨o, h⟩⟩
theorem CellsOk.del (h : CellsOk N H S) : CellsOk N H (S.del c) := by
  refine ⟨fun b z q => ?_, fun a m => ⟨?_, (h.hid a m).2⟩⟩
  · by_cases w : b = c
    · rw [w, Sto.del_same] at q; cases q
    · rw [Sto.del_ne w] at q
      exact (h.at_ b z q).mono Tr.del rfl
  · by_cases w : a = c
    · rw [w]; exact Sto.del_same
    · rw [Sto.del_ne w]; exact (h.hid a m).1
/-- cells are forgotten -/
theorem Tr.sub (s : Sub S' S) : Tr N H S H S' := by
  refine ⟨⟨fun _ _ h _ => h, fun a _ _ k z => ?_⟩, fun _ _ => rfl, fun a o h => ⟨o, h⟩⟩
  rcases z with z | z
  · exact k (.inl z)
  · cases q : S' a with
    | none => exact z q
    | some c => exact k (.inr (by rw [s a c q]; exact fun w => nomatch w))
theorem CellsOk.sub (h : CellsOk N H S) (s : Sub S' S) : CellsOk N H S' := by
  refine ⟨fun b z q => (h.at_ b z (s b z q)).mono (Tr.sub s) rfl, fun a m => ⟨?_, (h.hid a m).2⟩⟩
  cases q : S' a with
  | none => rfl
  | some c =>
    have := (h.hid a m).1
    rw [s a c q] at this; cases this
/-- one object more is hidden -/
def hidP (N : Hid) (p : Addr) : Hid := fun a => N a ∨ a = p
theorem alive_hidP {a : Addr} : alive (hidP N p) S a → alive N S a ∨ a = p := fun z => by
  rcases z with (z | z) | z
  · exact .inl (.inl z)
  · exact .inr z
  · exact .inl (.inr z)
/-- without the object at p -/
def und (H : Hp) (p : Addr) : Hp := fun b => if b = p then none else H b
theorem und_same {H : Hp} : und H p p = none := if_pos rfl
theorem und_ne {H : Hp} {a : Addr} (h : a ≠ p) : und H p a = H a := if_neg h
theorem upd_und {H : Hp} {o : HO} (h : H p = some o) : upd (und H p) p o = H := by
  funext b
  by_cases e : b = p
  · rw [e, upd_same, h]
  · rw [upd_ne e, und_ne e]
theorem Tr0.hide {N : Hid} {H : Hp} {S : Sto} {o : HO} (n : H p = none) : Tr0 H (alive N S) (upd H p o) (alive (hidP N p) S) :=
  ⟨fun a u h _ => by rw [upd_ne (ne_of_none h n)]; exact h, fun a u h l z => (alive_hidP z).elim l fun e => by rw [e, n] at h; cases h⟩
theorem Tr0.unhide {N : Hid} {H : Hp} {S : Sto} : Tr0 H (alive (hidP N p) S) (und H p) (alive N S) :=
  ⟨fun a u h k => by rw [und_ne fun z => k (.inl (.inr z))]; exact h, fun a u h k z => k (z.elim (fun w => .inl (.inl w)) .inr)⟩
theorem CellsOk.hide (k : CellsOk N H S) (n : H p = none) {o : HO} : CellsOk (hidP N p) (upd H p o) S := by
  refine ⟨fun c x e => ?_, fun a m => ?_⟩
  · have q := k.at_ c x e
    obtain ⟨u, hu, _⟩ := q.there
    have ec : upd H p o c = H c := upd_ne (ne_of_none hu n)
    cases x with
    | lst ds => obtain ⟨vs, z, r⟩ := q; exact ⟨vs, ec.trans z, r.mono0 (Tr0.hide n)⟩
    | dic es => obtain ⟨vs, z, r⟩ := q; exact ⟨vs, ec.trans z, r.mono0 (Tr0.hide n)⟩
    | obj C fs => obtain ⟨dx, vs, z, r⟩ := q; exact ⟨dx, vs, ec.trans z, r.mono0 (Tr0.hide n)⟩
  · rcases m with m | m
    · obtain ⟨e0, u, e1⟩ := k.hid a m
      exact ⟨e0, u, by rw [upd_ne (ne_of_none e1 n)]; exact e1⟩
    · rw [m]; exact ⟨k.free n, o, upd_same⟩
theorem CellsOk.unhide (k : CellsOk (hidP N p) H S) (m : ∀ a, N a → a ≠ p) : CellsOk N (und H p) S := by
  refine ⟨fun c x e => ?_, fun a ma => ?_⟩
  · have q := k.at_ c x e
    have ne : c ≠ p := fun z => by
      have := (k.hid p (.inr rfl)).1
      rw [← z, e] at this; cases this
    have ec : und H p c = H c := und_ne ne
    cases x with
    | lst ds => obtain ⟨vs, z, r⟩ := q; exact ⟨vs, ec.trans z, r.mono0 Tr0.unhide⟩
    | dic es => obtain ⟨vs, z, r⟩ := q; exact ⟨vs, ec.trans z, r.mono0 Tr0.unhide⟩
    | obj C fs => obtain ⟨dx, vs, z, r⟩ := q; exact ⟨dx, vs, ec.trans z, r.mono0 Tr0.unhide⟩
  · obtain ⟨e0, u, e1⟩ := k.hid a (.inl ma)
    exact ⟨e0, u, by rw [und_ne (m a ma)]; exact e1⟩
theorem Tr.unhide {o : HO} (t : Tr (hidP N p) (upd H p o) S H' S') (n : H p = none) (m : ∀ a, N a → a ≠ p) : Tr N H S (und H' p) S' := by
  refine ⟨⟨fun a u h k => ?_, fun a u h k z => ?_⟩, fun a ma => ?_, fun a u h => ?_⟩
  · have ne := ne_of_none h n
    rw [und_ne ne]
    exact t.t0.keep a u (by rw [upd_ne ne]; exact h) fun z => (alive_hidP z).elim k ne
  · have ne := ne_of_none h n
    refine t.t0.old a u (by rw [upd_ne ne]; exact h) (fun w => (alive_hidP w).elim k ne) ?_
    exact z.elim (fun w => .inl (.inl w)) .inr
  · rw [und_ne (m a ma), t.hid a (.inl ma), upd_ne (m a ma)]
  · have ne := ne_of_none h n
    obtain ⟨u', e⟩ := t.there a u (by rw [upd_ne ne]; exact h)
    exact ⟨u', by rw [und_ne ne]; exact e⟩
theorem CellsOk.hid_ne (k : CellsOk N H S) (n : H p = none) : ∀ a, N a → a ≠ p := fun a m => by
  obtain ⟨_, u, e⟩ := k.hid a m
  exact ne_of_none e n
end

/-! ### states -/
abbrev Rho := List (Option D)
structure Abs (N : Hid) (S : Sto) (H : Hp) (σ : L2.St) (ρ : Rho) : Prop where
  len : σ.length = ρ.length
  slot : ∀ (i : Nat) (d : D), ρ[i]? = some (some d) → ∃ v, σ[i]? = some (some v) ∧ Rep H (alive N S) v d
  cells : CellsOk N H S
theorem Abs.mono {N : Hid} {S S' : Sto} {H H' : Hp} {σ : L2.St} {ρ : Rho} (a : Abs N S H σ ρ) (t : Tr N H S H' S') (c : CellsOk N H' S') : Abs N S' H' σ ρ :=
  ⟨a.len, fun i d e => by obtain ⟨v, h, r⟩ := a.slot i d e; exact ⟨v, h, r.mono t⟩, c⟩
theorem Abs.put {N : Hid} {S : Sto} {H : Hp} {σ : L2.St} {ρ : Rho} (a : Abs N S H σ ρ) {i : Nat} {v : V} {d : D} (r : Rep H (alive N S) v d) : Abs N S H (σ.set i (some v)) (ρ.set i (some d)) := by
  refine ⟨by rw [List.length_set, List.length_set]; exact a.len, fun j e h => ?_, a.cells⟩
  by_cases z : i = j
  · subst z
    by_cases l : i < ρ.length
    · rw [List.getElem?_set_self l] at h
      cases h
      exact ⟨v, List.getElem?_set_self (by rw [a.len]; exact l), r⟩
    · rw [List.getElem?_eq_none (by rw [List.length_set]; omega)] at h
      cases h
  · rw [List.getElem?_set_ne z] at h
    obtain ⟨u, h1, h2⟩ := a.slot j e h
    exact ⟨u, by rw [List.getElem?_set_ne z]; exact h1, h2⟩

abbrev KE := D → Sto → Prop
abbrev WE := Rho → Sto → KE → Prop
abbrev WA := Rho → Sto → (List D → Sto → Prop) → Prop
abbrev WT := Rho → Sto → (Bool → Sto → Prop) → Prop
structure EndsG where
  nx : Rho → Sto → Prop
  rt : D → Sto → Prop
  bk : Rho → Sto → Prop
  ct : Rho → Sto → Prop
abbrev WS := EndsG → Rho → Sto → Prop

def liftK (N : Hid) (H : Hp) (S : Sto) (K : KE) (Q : VK) : Prop := ∀ d S', K d S' → ∀ v H', Tr N H S H' S' → CellsOk N H' S' → Rep H' (alive N S') v d → Q v H'
def liftE (w : WE) : TE := fun σ H Q => ∃ N ρ S K, Abs N S H σ ρ ∧ w ρ S K ∧ liftK N H S K Q
def liftA (w : WA) : TA := fun σ H Q => ∃ N ρ S K, Abs N S H σ ρ ∧ w ρ S K ∧ ∀ ds S', K ds S' → ∀ vs H', Tr N H S H' S' → CellsOk N H' S' → Reps H' (alive N S') vs ds → Q vs H'
def liftT (w : WT) : TT := fun σ H Q => ∃ N ρ S K, Abs N S H σ ρ ∧ w ρ S K ∧ ∀ b S', K b S' → ∀ H', Tr N H S H' S' → CellsOk N H' S' → Q b H'
structure EndsOk (N : Hid) (H : Hp) (S : Sto) (E : EndsG) (D : Ends) : Prop where
  nx : ∀ ρ' S', E.nx ρ' S' → ∀ σ' H', Tr N H S H' S' → Abs N S' H' σ' ρ' → D.nx σ' H'
  rt : ∀ d S', E.rt d S' → ∀ v H', Tr N H S H' S' → CellsOk N H' S' → Rep H' (alive N S') v d → D.rt v H'
  bk : ∀ ρ' S', E.bk ρ' S' → ∀ σ' H', Tr N H S H' S' → Abs N S' H' σ' ρ' → D.bk σ' H'
  ct : ∀ ρ' S', E.ct ρ' S' → ∀ σ' H', Tr N H S H' S' → Abs N S' H' σ' ρ' → D.ct σ' H'
theorem EndsOk.of {N : Hid} {H H1 : Hp} {S S1 : Sto} {E : EndsG} {D : Ends} (k : EndsOk N H S E D) (t : Tr N H S H1 S1) : EndsOk N H1 S1 E D :=
  ⟨fun r s e σ h u a => k.nx r s e σ h (t.trans u) a, fun d s e v h u c r => k.rt d s e v h (t.trans u) c r, fun r s e σ h u a => k.bk r s e σ h (t.trans u) a, fun r s e σ h u a => k.ct r s e σ h (t.trans u) a⟩
def liftS (w : WS) : TS := fun D σ H => ∃ N ρ S E, Abs N S H σ ρ ∧ w E ρ S ∧ EndsOk N H S E D

abbrev GE (X : Cx) (e : Expr) (w : WE) : Prop := PE X e (liftE w)
abbrev GAs (X : Cx) (es : List Expr) (w : WA) : Prop := PA X es (liftA w)
abbrev GT (X : Cx) (e : Expr) (w : WT) : Prop := PT X e (liftT w)
abbrev GW (X : Cx) (e : Expr) (w : WT) : Prop := PW X e (liftT w)
abbrev GS (X : Cx) (st : Stmt) (w : WS) : Prop := PS X st (liftS w)
abbrev GSs (X : Cx) (sts : List Stmt) (w : WS) : Prop := PSs X sts (liftS w)

theorem PE.imp {X : Cx} {e : Expr} {t t' : TE} (h : PE X e t) (k : ∀ σ H Q, t' σ H Q → t σ H Q) : PE X e t' := ⟨fun pins s σ H Q I q => h.run pins s σ H Q I (k _ _ _ q)⟩
theorem PT.imp {X : Cx} {e : Expr} {t t' : TT} (h : PT X e t) (k : ∀ σ H Q, t' σ H Q → t σ H Q) : PT X e t' := ⟨fun pins s σ H Q I q => h.run pins s σ H Q I (k _ _ _ q)⟩
theorem PW.imp {X : Cx} {e : Expr} {t t' : TT} (h : PW X e t) (k : ∀ σ H Q, t' σ H Q → t σ H Q) : PW X e t' := ⟨fun wh pins s σ H Q I q => h.run wh pins s σ H Q I (k _ _ _ q)⟩
theorem PA.imp {X : Cx} {es : List Expr} {t t' : TA} (h : PA X es t) (k : ∀ σ H Q, t' σ H Q → t σ H Q) : PA X es t' := ⟨fun pos pins s σ H Q I q => h.run pos pins s σ H Q I (k _ _ _ q)⟩
theorem PS.imp {X : Cx} {st : Stmt} {t t' : TS} (h : PS X st t) (k : ∀ D σ H, t' D σ H → t D σ H) : PS X st t' := ⟨fun pins s σ H D I q => h.run pins s σ H D I (k _ _ _ q)⟩
theorem PSs.imp {X : Cx} {sts : List Stmt} {t t' : TS} (h : PSs X sts t) (k : ∀ D σ H, t' D σ H → t D σ H) : PSs X sts t' := ⟨fun pins s σ H D I q => h.run pins s σ H D I (k _ _ _ q)⟩

/-! ### names and constants -/
def Rho.get (ρ : Rho) (i : Nat) : Option D := (ρ[i]?).join
theorem Rho.get_some {ρ : Rho} {i : Nat} {d : D} (h : Rho.get ρ i = some d) : ρ[i]? = some (some d) := by
  unfold Rho.get at h
  cases q : ρ[i]? with
  | none => rw [q] at h; cases h
  | some o => rw [q] at h; cases o with
    | none => cases h
    | some x => cases h; rfl
def wVar (i : Nat) : WE := fun ρ S K => match Rho.get ρ i with
  | some d => K d S
  | none => False
theorem ge_var {X : Cx} (i : Nat) {x : Str} {pos : Pos} (hN : X.N[i]? = some x := by rfl) (hv : Vis X.env.scope x := by first | exact Or.inl rfl | exact Or.inr (Or.inl rfl) | exact Or.inr (Or.inr rfl)) (hd : (x == ("__debug__" : Str)) = false := by decide)
    (hcd : (x == ("__classdict__" : Str)) = false := by decide) : GE X (.Name x pos) (wVar i) := by
  refine PE.imp (pe_var hN hv hd hcd) fun σ H Q ⟨N, ρ, S, K, a, h, q⟩ => ?_
  unfold wVar at h
  split at h
  · rename_i d e
    obtain ⟨v, h1, r⟩ := a.slot i d (Rho.get_some e)
    exact ⟨v, h1, q d S h v H (.refl N H S) a.cells r⟩
  · exact h.elim
def wC (d : D) : WE := fun _ S K => K d S
section
variable {X : Cx}
theorem lift_const {d : D} {v : V} (r : ∀ H A, Rep H A v d) : ∀ σ H Q, liftE (wC d) σ H Q → tC v σ H Q := fun σ H Q ⟨N, ρ, S, K, a, h, q⟩ => q d S h v H (.refl N H S) a.cells (r H _)
theorem ge_int {i j pos} : GE X (.Constant (.int i) j pos) (wC (.int i)) := PE.imp pe_int (lift_const fun _ _ => .int i)
theorem ge_bl {b j pos} : GE X (.Constant (.bool b) j pos) (wC (.bl b)) := PE.imp pe_bl (lift_const fun _ _ => .bl b)
theorem ge_non {j pos} : GE X (.Constant .none j pos) (wC .non) := PE.imp pe_non (lift_const fun _ _ => .non)
theorem ge_str {x j pos} : GE X (.Constant (.str x) j pos) (wC (.str x)) := PE.imp pe_str (lift_const fun _ _ => .str x)
/-- a module's constant: an int, a text -/
theorem ge_gint {x : Str} {i : Int} {pos : Pos} (hm : ∃ t, X.mg x = some (.int i t)) (hg : Gl X x := by rfl) (hd : (x == ("__debug__" : Str)) = false := by decide) : GE X (.Name x pos) (wC (.int i)) := by
  obtain ⟨t, e⟩ := hm
  exact PE.imp (pe_glob (v := .int i) hg e ⟨t, rfl⟩ hd) (lift_const fun _ _ => .int i)
theorem ge_gstr {x y : Str} {pos : Pos} (hm : ∃ t, X.mg x = some (.str y t)) (hg : Gl X x := by rfl) (hd : (x == ("__debug__" : Str)) = false := by decide) : GE X (.Name x pos) (wC (.str y)) := by
  obtain ⟨t, e⟩ := hm
  exact PE.imp (pe_glob (v := .str y) hg e ⟨t, rfl⟩ hd) (lift_const fun _ _ => .str y)
/-- a built-in type as a value -/
theorem ge_ty {x : Str} {T : String} {pos : Pos} (hm : X.mg x = none) (hv : bootBuiltins x = some (.type T)) (hg : Gl X x := by rfl) (hn : x ≠ "__name__" := by decide) (hd : (x == ("__debug__" : Str)) = false := by decide) : GE X (.Name x pos) (wC (.ty T)) :=
  PE.imp (pe_bltn (v := .ty T) hg hm hv rfl hn hd) (lift_const fun _ _ => .ty T)
end

/-! ### steps of the lift -/
theorem liftK.of {N : Hid} {H : Hp} {S : Sto} {K : KE} {Q : VK} (q : liftK N H S K Q) {H1 : Hp} {S1 : Sto} (t : Tr N H S H1 S1) : liftK N H1 S1 K Q := fun d S' k v H' t' c r => q d S' k v H' (t.trans t') c r
/-- to run a part: its own end handed on -/
theorem liftE.mk {w : WE} {σ : L2.St} {H : Hp} {Q : VK} {N : Hid} {ρ : Rho} {S : Sto} {K : KE} (a : Abs N S H σ ρ) (h : w ρ S K) (q : liftK N H S K Q) : liftE w σ H Q := ⟨N, ρ, S, K, a, h, q⟩

/-! ### two-place operations -/
abbrev Op2 := D → D → Sto → KE → Prop
def liftO (o : Op2) : R2 := fun x y H Q => ∃ N S dx dy K, CellsOk N H S ∧ Rep H (alive N S) x dx ∧ Rep H (alive N S) y dy ∧ o dx dy S K ∧ liftK N H S K Q
def wOp2 (o : Op2) (a b : WE) : WE := fun ρ S K => a ρ S fun x S1 => b ρ S1 fun y S2 => o x y S2 K
theorem OpR.imp {X : Cx} {f : Value → Value → Sem Value} {r r' : R2} (h : OpR X f r) (k : ∀ x y H Q, r' x y H Q → r x y H Q) : OpR X f r' := fun pins s σ H x y v u Q I rx ry q => h pins s σ H x y v u Q I rx ry (k _ _ _ _ q)
theorem OpR.or {X : Cx} {f : Value → Value → Sem Value} {r r' : R2} (h : OpR X f r) (h' : OpR X f r') : OpR X f (fun x y H Q => r x y H Q ∨ r' x y H Q) := fun pins s σ H x y v u Q I rx ry q => by
  rcases q with q | q
  · exact h pins s σ H x y v u Q I rx ry q
  · exact h' pins s σ H x y v u Q I rx ry q
theorem lift_op2 {o : Op2} {wa wb : WE} : ∀ σ H Q, liftE (wOp2 o wa wb) σ H Q → tOp (liftO o) (liftE wa) (liftE wb) σ H Q := by
  intro σ H Q ⟨N, ρ, S, K, a, h, q⟩
  refine liftE.mk a h fun x S1 h1 v H1 t1 c1 r1 => ?_
  refine liftE.mk (a.mono t1 c1) h1 fun y S2 h2 u H2 t2 c2 r2 => ?_
  exact ⟨N, S2, x, y, K, c2, r1.mono t2, r2, h2, q.of (t1.trans t2)⟩
section
variable {X : Cx} {o : Op2} {wa wb : WE} {a b : Expr} {pos : Pos}
theorem ge_bin {op : Operator} (ho : OpR X (binaryOp op) (liftO o)) (ha : GE X a wa) (hb : GE X b wb) : GE X (.BinOp a op b pos) (wOp2 o wa wb) := PE.imp (pe_op ho ha hb) lift_op2
theorem ge_cmp {op : CmpOp} (ho : OpR X (compareOp op) (liftO o)) (ha : GE X a wa) (hb : GE X b wb) (hm : behindInMarks op b = false := by rfl) : GE X (.Compare a [op] [b] pos) (wOp2 o wa wb) := PE.imp (pe_cmpR ho ha hb hm) lift_op2
/-- a test of a bool -/
def wTest (w : WE) : WT := fun ρ S K => w ρ S fun d S' => ∃ b, d = .bl b ∧ K b S'
theorem lift_test {w : WE} {t : TE} (k : ∀ σ H Q, liftE w σ H Q → t σ H Q) : ∀ σ H Q, liftT (wTest w) σ H Q → (∃ t', t' = t) ∧ t σ H (fun x H' => ∃ k, x = .bl k ∧ Q k H') := by
  intro σ H Q ⟨N, ρ, S, K, a, h, q⟩
  refine ⟨⟨t, rfl⟩, k _ _ _ (liftE.mk a h fun d S' hd v H' t' c r => ?_)⟩
  obtain ⟨b, rfl, hk⟩ := hd
  cases r
  exact ⟨b, rfl, q b S' hk H' t' c⟩
theorem gt_cmp {op : CmpOp} (ho : OpR X (compareOp op) (liftO o)) (ha : GE X a wa) (hb : GE X b wb) (hm : behindInMarks op b = false := by rfl) : GT X (.Compare a [op] [b] pos) (wTest (wOp2 o wa wb)) :=
  PT.imp (pt_cmpR ho ha hb hm) fun σ H Q h => (lift_test lift_op2 σ H Q h).2
theorem gt_val {e : Expr} {w : WE} (h : GE X e w) (he : ∀ whole, isTrue e X.env whole = (do let v ← whole; standAt e.pos; holding [v] (truthy v)) := by intro _; rfl) : GT X e (wTest w) :=
  PT.imp (pt_val h he) fun σ H Q h => (lift_test (fun _ _ _ z => z) σ H Q h).2
end

/-! ### and, or, not -/
def wAnd (a b : WT) : WT := fun ρ S K => a ρ S fun c S1 => (c = true → b ρ S1 K) ∧ (c = false → K false S1)
def wOr (a b : WT) : WT := fun ρ S K => a ρ S fun c S1 => (c = true → K true S1) ∧ (c = false → b ρ S1 K)
def wNot (a : WT) : WT := fun ρ S K => a ρ S fun c S1 => K (!c) S1
def wVal (a : WT) : WE := fun ρ S K => a ρ S fun c S1 => K (.bl c) S1
section
variable {X : Cx} {ta tb : WT} {a b c : Expr} {rest : List Expr} {pos : Pos}
theorem gw_or1 (ha : GT X a ta) : GW X (.BoolOp .Or [a] pos) ta := pw_or1 ha
theorem gw_or (ha : GT X a ta) (hb : GW X (.BoolOp .Or (b :: rest) pos) tb) : GW X (.BoolOp .Or (a :: b :: rest) pos) (wOr ta tb) := by
  refine PW.imp (pw_or ha hb) fun σ H Q ⟨N, ρ, S, K, ab, h, q⟩ => ?_
  refine ⟨N, ρ, S, _, ab, h, fun x S1 h1 H1 t1 c1 => ?_⟩
  cases x with
  | true => exact q true S1 (h1.1 rfl) H1 t1 c1
  | false => exact ⟨N, ρ, S1, K, ab.mono t1 c1, h1.2 rfl, fun y S2 h2 H2 t2 c2 => q y S2 h2 H2 (t1.trans t2) c2⟩
theorem gt_w (h : GW X a ta) : GT X a ta := h.pt
theorem gt_not (ha : GT X a ta) : GT X (.UnaryOp .Not a pos) (wNot ta) := by
  refine PT.imp (pt_not ha) fun σ H Q ⟨N, ρ, S, K, ab, h, q⟩ => ?_
  exact ⟨N, ρ, S, _, ab, h, fun x S1 h1 H1 t1 c1 => q _ S1 h1 H1 t1 c1⟩
/-- the same as values: each part a bool -/
def wAndV (a b : WE) : WE := fun ρ S K => a ρ S fun x S1 => ∃ c, x = .bl c ∧ (c = true → b ρ S1 K) ∧ (c = false → K (.bl false) S1)
def wOrV (a b : WE) : WE := fun ρ S K => a ρ S fun x S1 => ∃ c, x = .bl c ∧ (c = true → K (.bl true) S1) ∧ (c = false → b ρ S1 K)
def wNotV (a : WE) : WE := fun ρ S K => a ρ S fun x S1 => ∃ c, x = .bl c ∧ K (.bl (!c)) S1
variable {wa wb : WE}
theorem ge_one {op} (h : GE X a wa) : GE X (.BoolOp op [a] pos) wa := pe_one h
theorem ge_and (ha : GE X a wa) (hb : GE X (.BoolOp .And (b :: rest) pos) wb) : GE X (.BoolOp .And (a :: b :: rest) pos) (wAndV wa wb) := by
  refine PE.imp (pe_and ha hb) fun σ H Q ⟨N, ρ, S, K, ab, h, q⟩ => ?_
  refine liftE.mk ab h fun x S1 h1 v H1 t1 c1 r1 => ?_
  obtain ⟨c, rfl, h2, h3⟩ := h1
  cases r1
  refine ⟨c, rfl, ?_⟩
  cases c with
  | true => exact iteT (liftE.mk (ab.mono t1 c1) (h2 rfl) (q.of t1))
  | false => exact iteF (q _ S1 (h3 rfl) _ H1 t1 c1 (.bl false))
theorem ge_not (ha : GE X a wa) : GE X (.UnaryOp .Not a pos) (wNotV wa) := by
  refine PE.imp (pe_not ha) fun σ H Q ⟨N, ρ, S, K, ab, h, q⟩ => ?_
  refine liftE.mk ab h fun x S1 h1 v H1 t1 c1 r1 => ?_
  obtain ⟨c, rfl, h2⟩ := h1
  cases r1
  exact ⟨c, rfl, q _ S1 h2 _ H1 t1 c1 (.bl _)⟩
def wIfE (t : WT) (a b : WE) : WE := fun ρ S K => t ρ S fun c S1 => (c = true → a ρ S1 K) ∧ (c = false → b ρ S1 K)
theorem ge_if (hc : GT X c ta) (ha : GE X a wa) (hb : GE X b wb) : GE X (.IfExp c a b pos) (wIfE ta wa wb) := by
  refine PE.imp (pe_ifExp hc ha hb) fun σ H Q ⟨N, ρ, S, K, ab, h, q⟩ => ?_
  refine ⟨N, ρ, S, _, ab, h, fun x S1 h1 H1 t1 c1 => ?_⟩
  cases x with
  | true => exact iteT (liftE.mk (ab.mono t1 c1) (h1.1 rfl) (q.of t1))
  | false => exact iteF (liftE.mk (ab.mono t1 c1) (h1.2 rfl) (q.of t1))
end

/-! ### argument lists, displays -/
def wNil : WA := fun _ S K => K [] S
def wCons (a : WE) (r : WA) : WA := fun ρ S K => a ρ S fun x S1 => r ρ S1 fun xs S2 => K (x :: xs) S2
/-- a new list: its items; fr: not a cell; lv: a cell -/
abbrev WF := Rho → Sto → (List D → Sto → Prop) → Prop
def wFr (w : WF) : WE := fun ρ S K => w ρ S fun ds S1 => K (.lst ds) S1
def wLv (w : WF) : WE := fun ρ S K => w ρ S fun ds S1 => ∀ p, S1 p = none → K (.cell p) (S1.set p (.lst ds))
/-- what is wanted of a new list at p -/
def newL (N : Hid) (H : Hp) (S : Sto) (K : List D → Sto → Prop) (Q : VK) : Prop := ∀ ds S', K ds S' → ∀ p H' vs, Tr N H S H' S' → CellsOk N H' S' → Reps H' (alive N S') vs ds → H' p = none → Q (.ref p) (upd H' p (.lst vs))
def liftF (w : WF) : TE := fun σ H Q => ∃ N ρ S K, Abs N S H σ ρ ∧ w ρ S K ∧ newL N H S K Q
abbrev GF (X : Cx) (e : Expr) (w : WF) : Prop := PE X e (liftF w)
section
variable {X : Cx} {e : Expr} {es : List Expr} {pos : Pos} {wa : WE} {wr : WA} {w : WF}
theorem ga_nil : GAs X [] wNil := PA.imp pa_nil fun σ H Q ⟨N, ρ, S, K, ab, h, q⟩ => q [] S h [] H (.refl N H S) ab.cells .nil
theorem ga_cons (ha : GE X e wa) (hr : GAs X es wr) (hs : starEach (e :: es) X.env = (false, eval e X.env) :: starEach es X.env := by rfl) : GAs X (e :: es) (wCons wa wr) := by
  refine PA.imp (pa_cons ha hr hs) fun σ H Q ⟨N, ρ, S, K, ab, h, q⟩ => ?_
  refine liftE.mk ab h fun x S1 h1 v H1 t1 c1 r1 => ?_
  exact ⟨N, ρ, S1, _, ab.mono t1 c1, h1, fun xs S2 h2 vs H2 t2 c2 r2 => q _ S2 h2 _ H2 (t1.trans t2) c2 (.cons (r1.mono t2) r2)⟩
theorem ge_fr (h : GF X e w) : GE X e (wFr w) := by
  refine PE.imp h fun σ H Q ⟨N, ρ, S, K, ab, h, q⟩ => ?_
  exact ⟨N, ρ, S, _, ab, h, fun ds S' k p H' vs t c r n => q _ S' k _ _ (t.trans (Tr.new c n)) (c.new n) (.lst upd_same (c.dead n) (r.mono (Tr.new c n)))⟩
theorem ge_lv (h : GF X e w) : GE X e (wLv w) := by
  refine PE.imp h fun σ H Q ⟨N, ρ, S, K, ab, h, q⟩ => ?_
  exact ⟨N, ρ, S, _, ab, h, fun ds S' k p H' vs t c r n => q _ _ (k p (c.free n)) _ _ (t.trans (Tr.newC c n)) (c.newC n ⟨vs, upd_same, r.mono (Tr.newC c n)⟩) (.cell p)⟩
def wTup (w : WA) : WE := fun ρ S K => w ρ S fun ds S1 => ds.length ≤ sizeLine ∧ K (.tup ds) S1
def wLst (w : WA) : WF := fun ρ S K => w ρ S fun ds S1 => ds.length ≤ sizeLine ∧ K ds S1
theorem Reps.length {H : Hp} {A : Addr → Prop} : ∀ {vs : List V} {ds : List D}, Reps H A vs ds → vs.length = ds.length
  | _, _, .nil => rfl
  | _, _, .cons _ q => congrArg Nat.succ (Reps.length q)
theorem ge_tup {k : Nat} (h : GAs X es wr) : GE X (.Tuple es k pos) (wTup wr) := by
  refine PE.imp (pe_tup h) fun σ H Q ⟨N, ρ, S, K, ab, h, q⟩ => ?_
  refine ⟨N, ρ, S, _, ab, h, fun ds S1 ⟨l, k⟩ vs H1 t1 c1 r1 => ⟨by rw [r1.length]; exact l, fun p n => ?_⟩⟩
  exact q _ S1 k _ _ (t1.trans (Tr.new c1 n)) (c1.new n) (.tup (.inl upd_same) (c1.dead n) (r1.mono (Tr.new c1 n)))
theorem gf_lst (h : GAs X es wr) : GF X (.List es pos) (wLst wr) := by
  refine PE.imp (pe_lst h) fun σ H Q ⟨N, ρ, S, K, ab, h, q⟩ => ?_
  refine ⟨N, ρ, S, _, ab, h, fun ds S1 ⟨l, k⟩ vs H1 t1 c1 r1 => ⟨by rw [r1.length]; exact l, fun p n => ?_⟩⟩
  exact q ds S1 k p H1 vs t1 c1 r1 n
/-- what is read of a value: a cell's list stands for it -/
def top (S : Sto) (d : D) : D := match d with
  | .cell c => match S c with
    | some (.lst ds) => .lst ds
    | some (.dic es) => .dic es
    | _ => .cell c
  | d => d
/-- a cell given up: the list that it is from now on -/
def wFrz (w : WE) : WE := fun ρ S K => w ρ S fun d S1 => ∃ c, d = .cell c ∧ ((∃ ds, S1 c = some (.lst ds) ∧ K (.lst ds) (S1.del c)) ∨ (∃ es, S1 c = some (.dic es) ∧ K (.dic es) (S1.del c)))
theorem CellsOk.undead {N : Hid} {H : Hp} {S : Sto} {c : Addr} {x : Cell} (h : CellsOk N H S) (e : S c = some x) : ¬ alive N (S.del c) c := fun z => by
  rcases z with z | z
  · have := (h.hid c z).1
    rw [e] at this; cases this
  · exact z Sto.del_same
theorem ge_frz (h : GE X e wa) : GE X e (wFrz wa) := by
  refine PE.imp h fun σ H Q ⟨N, ρ, S, K, ab, h, q⟩ => ?_
  refine liftE.mk ab h fun d S1 h1 v H1 t1 c1 r1 => ?_
  obtain ⟨c, rfl, h1⟩ := h1
  rcases h1 with ⟨ds, e1, h1⟩ | ⟨ds, e1, h1⟩
  · cases r1
    obtain ⟨vs, e2, r2⟩ := c1.at_ c _ e1
    exact q _ _ h1 _ H1 (t1.trans Tr.del) c1.del (.lst e2 (c1.undead e1) (r2.mono Tr.del))
  · cases r1
    obtain ⟨vs, e2, r2⟩ := c1.at_ c _ e1
    exact q _ _ h1 _ H1 (t1.trans Tr.del) c1.del (.dic e2 (c1.undead e1) (r2.mono Tr.del))
end
end G

set_option Elab.async false
set_option linter.all false
set_option maxRecDepth 100000
set_option autoImplicit false
namespace G
open PySem PySem.Spec PyProof.Rows L2

/-! ### blocks and small statements -/
def wSkip : WS := fun E ρ S => E.nx ρ S
def wSeq (t u : WS) : WS := fun E ρ S => ∃ M : Rho → Sto → Prop, t { E with nx := M } ρ S ∧ ∀ ρ' S', M ρ' S' → u E ρ' S'
theorem wSeq.of {t u : WS} {E : EndsG} {ρ : Rho} {S : Sto} (h : t { E with nx := u E } ρ S) : wSeq t u E ρ S := ⟨_, h, fun _ _ z => z⟩
def wRet (e : WE) : WS := fun E ρ S => e ρ S E.rt
def wRetN : WS := fun E _ S => E.rt .non S
def wDo (e : WE) : WS := fun E ρ S => e ρ S fun _ S1 => E.nx ρ S1
def wIf (c : WT) (a b : WS) : WS := fun E ρ S => c ρ S fun k S1 => (k = true → a E ρ S1) ∧ (k = false → b E ρ S1)
def wBreak : WS := fun E ρ S => E.bk ρ S
def wCont : WS := fun E ρ S => E.ct ρ S
def wNo : WS := fun _ _ _ => False
section
variable {X : Cx} {st : Stmt} {rest sa sb : List Stmt} {t u : WS} {e c : Expr} {w : WE} {wc : WT} {pos : Pos}
theorem gss_nil : GSs X [] wSkip := PSs.imp pss_nil fun D σ H ⟨N, ρ, S, E, a, h, q⟩ => q.nx ρ S h σ H (.refl N H S) a
theorem gss_cons (h1 : GS X st t) (h2 : GSs X rest u) : GSs X (st :: rest) (wSeq t u) := by
  refine PSs.imp (pss_cons h1 h2) fun D σ H ⟨N, ρ, S, E, a, ⟨M, hm, hn⟩, q⟩ => ?_
  exact ⟨N, ρ, S, _, a, hm, ⟨fun ρ1 S1 k σ1 H1 t1 a1 => ⟨N, ρ1, S1, E, a1, hn _ _ k, q.of t1⟩, q.rt, q.bk, q.ct⟩⟩
theorem gss_one (h1 : GS X st t) : GSs X [st] t := pss_one h1
theorem gs_ret (he : GE X e w) : GS X (.Return (some e) pos) (wRet w) := by
  refine PS.imp (ps_ret he) fun D σ H ⟨N, ρ, S, E, a, h, q⟩ => ?_
  exact liftE.mk a h fun d S' k v H' t' c r => q.rt d S' k v H' t' c r
theorem gs_expr (he : GE X e w) (hs : swapsWith e none pos.line X.env = pure false := by rfl) : GS X (.Expr e pos) (wDo w) := by
  refine PS.imp (ps_expr he hs) fun D σ H ⟨N, ρ, S, E, a, h, q⟩ => ?_
  exact liftE.mk a h fun d S' k v H' t' c r => q.nx ρ S' k σ H' t' (a.mono t' c)
theorem gs_if (hc : GT X c wc) (ha : GSs X sa t) (hb : GSs X sb u) : GS X (.If c sa sb pos) (wIf wc t u) := by
  refine PS.imp (ps_if hc ha hb) fun D σ H ⟨N, ρ, S, E, a, h, q⟩ => ?_
  refine ⟨N, ρ, S, _, a, h, fun k S1 h1 H1 t1 c1 => ?_⟩
  cases k with
  | true => exact iteT ⟨N, ρ, S1, E, a.mono t1 c1, h1.1 rfl, q.of t1⟩
  | false => exact iteF ⟨N, ρ, S1, E, a.mono t1 c1, h1.2 rfl, q.of t1⟩
end

/-! ### targets -/
abbrev WG := D → Rho → Sto → (Rho → Sto → Prop) → Prop
abbrev WGs := List D → Rho → Sto → (Rho → Sto → Prop) → Prop
def liftG (g : WG) : TG := fun v σ H Q => ∃ N ρ S d K, Abs N S H σ ρ ∧ Rep H (alive N S) v d ∧ g d ρ S K ∧ ∀ ρ' S', K ρ' S' → ∀ σ' H', Tr N H S H' S' → Abs N S' H' σ' ρ' → Q σ' H'
def liftGs (g : WGs) : TGs := fun vs σ H Q => ∃ N ρ S ds K, Abs N S H σ ρ ∧ Reps H (alive N S) vs ds ∧ g ds ρ S K ∧ ∀ ρ' S', K ρ' S' → ∀ σ' H', Tr N H S H' S' → Abs N S' H' σ' ρ' → Q σ' H'
abbrev GG (X : Cx) (tg : Expr) (g : WG) : Prop := PG X tg (liftG g)
abbrev GGs (X : Cx) (ts : List Expr) (g : WGs) : Prop := PGs X ts (liftGs g)
theorem PG.imp {X : Cx} {tg : Expr} {t t' : TG} (h : PG X tg t) (k : ∀ v σ H Q, t' v σ H Q → t v σ H Q) : PG X tg t' := ⟨fun pins s σ H v u Q I r q => h.run pins s σ H v u Q I r (k _ _ _ _ q)⟩
theorem PGs.imp {X : Cx} {ts : List Expr} {t t' : TGs} (h : PGs X ts t) (k : ∀ v σ H Q, t' v σ H Q → t v σ H Q) : PGs X ts t' := ⟨fun pins s σ H v u Q I r q => h.run pins s σ H v u Q I r (k _ _ _ _ q)⟩
def gN (i : Nat) : WG := fun d ρ S K => K (ρ.set i (some d)) S
def gsN : WGs := fun ds ρ S K => ds = [] ∧ K ρ S
def gsC (g : WG) (r : WGs) : WGs := fun ds ρ S K => ∃ d es, ds = d :: es ∧ g d ρ S fun ρ1 S1 => r es ρ1 S1 K
/-- a tuple taken apart -/
def gT (n : Nat) (g : WGs) : WG := fun d ρ S K => ∃ ds, d = .tup ds ∧ ds.length = n ∧ g ds ρ S K
/-- a list taken apart -/
def gL (n : Nat) (g : WGs) : WG := fun d ρ S K => ∃ ds, (d = .lst ds ∨ ∃ c, d = .cell c ∧ S c = some (.lst ds)) ∧ ds.length = n ∧ g ds ρ S K
section
variable {X : Cx} {e : Expr} {es : List Expr} {pos : Pos} {g : WG} {gs : WGs}
theorem gg_name (i : Nat) {x : Str} (hN : X.N.Nodup) (hi : X.N[i]? = some x := by rfl) (hx : Loc X.env.scope x := by first | exact Or.inl rfl | exact Or.inr rfl) (hf : X.fn x = true ∨ X.env.scope.names.lookup x = some .local := by first | exact Or.inl rfl | exact Or.inr rfl) : GG X (.Name x pos) (gN i) := by
  refine PG.imp (pg_name hN hi hx hf) fun v σ H Q ⟨N, ρ, S, d, K, a, r, h, q⟩ => ?_
  exact q _ _ h _ H (.refl N H S) (a.put r)
theorem ggs_nil : GGs X [] gsN := by
  refine PGs.imp pgs_nil fun vs σ H Q ⟨N, ρ, S, ds, K, a, r, ⟨e, h⟩, q⟩ => ?_
  subst e
  cases r
  exact ⟨rfl, q _ _ h _ H (.refl N H S) a⟩
theorem ggs_cons (h1 : GG X e g) (h2 : GGs X es gs) (hs : (assignEach (e :: es) X.env).map (·.2) = assign e X.env :: (assignEach es X.env).map (·.2) := by rfl) : GGs X (e :: es) (gsC g gs) := by
  refine PGs.imp (pgs_cons h1 h2 hs) fun vs σ H Q ⟨N, ρ, S, ds, K, a, r, ⟨d, ds', e, h⟩, q⟩ => ?_
  subst e
  cases r with
  | cons r rr =>
    refine ⟨_, _, rfl, N, ρ, S, d, _, a, r, h, fun ρ1 S1 k σ1 H1 t1 a1 => ?_⟩
    exact ⟨N, ρ1, S1, ds', K, a1, rr.mono t1, k, fun ρ2 S2 k2 σ2 H2 t2 a2 => q _ _ k2 _ _ (t1.trans t2) a2⟩
theorem gg_tup {k n : Nat} (hc : X.calm = true) (h : GGs X es gs) (hn : (assignEach es X.env).length = n := by rfl) (hst : (assignEach es X.env).findIdx? (·.1) = none := by rfl) : GG X (.Tuple es k pos) (gT n gs) := by
  refine PG.imp (pg_tup hc h hn hst) fun v σ H Q ⟨N, ρ, S, d, K, a, r, ⟨ds, e, l, h⟩, q⟩ => ?_
  subst e
  cases r with
  | tup rd na rs => exact ⟨_, _, rfl, .inl rd, rs.length.trans l, N, ρ, S, ds, K, a, rs, h, q⟩
end

/-! ### assignments -/
def wAsg (e : WE) (g : WG) : WS := fun E ρ S => e ρ S fun d S1 => g d ρ S1 E.nx
def wSet (i : Nat) (e : WE) : WS := fun E ρ S => e ρ S fun d S1 => E.nx (ρ.set i (some d)) S1
def wPar (i j : Nat) (a b : WE) : WS := fun E ρ S => a ρ S fun x S1 => b ρ S1 fun y S2 => E.nx ((ρ.set i (some x)).set j (some y)) S2
def wPar3 (i j k : Nat) (a b c : WE) : WS := fun E ρ S => a ρ S fun x S1 => b ρ S1 fun y S2 => c ρ S2 fun z S3 => E.nx (((ρ.set i (some x)).set j (some y)).set k (some z)) S3
section
variable {X : Cx} {tg e a b c : Expr} {pos : Pos} {w wa wb wc : WE} {g : WG}
theorem gs_asg (he : GE X e w) (hg : GG X tg g) (hs : swapsWithSole [tg] e pos.line X.env = pure false := by rfl) (hw : swappedStores [tg] e X.env = pure none := by rfl)
    (h1 : (assignEach [tg] X.env).map (·.2) = [assign tg X.env] := by rfl) : GS X (.Assign [tg] e pos) (wAsg w g) := by
  refine PS.imp (ps_asg he hg hs hw h1) fun D σ H ⟨N, ρ, S, E, a, h, q⟩ => ?_
  refine liftE.mk a h fun d S' k v H' t' c r => ?_
  exact ⟨N, ρ, S', d, _, a.mono t' c, r, k, fun ρ1 S1 k1 σ1 H1 t1 a1 => q.nx _ _ k1 _ _ (t'.trans t1) a1⟩
theorem gs_set (i : Nat) {x : Str} {pos' : Pos} (hN : X.N.Nodup) (he : GE X e w) (hi : X.N[i]? = some x := by rfl) (hx : Loc X.env.scope x := by first | exact Or.inl rfl | exact Or.inr rfl) (hs : swapsWith e (some (.Name x pos')) pos.line X.env = pure false := by rfl)
    (hf : X.fn x = true ∨ X.env.scope.names.lookup x = some .local := by first | exact Or.inl rfl | exact Or.inr rfl) : GS X (.Assign [.Name x pos'] e pos) (wSet i w) := by
  refine PS.imp (ps_set hN hi hx he hs hf) fun D σ H ⟨N, ρ, S, E, a, h, q⟩ => ?_
  exact liftE.mk a h fun d S' k v H' t' c r => q.nx _ _ k _ _ t' ((a.mono t' c).put r)
theorem lift_args1 {σ : L2.St} {H : Hp} {N : Hid} {ρ : Rho} {S : Sto} {K : D → Sto → Prop} {Q : List V → Hp → Prop} (ab : Abs N S H σ ρ) (h : wa ρ S fun x S1 => K x S1)
    (q : ∀ x S', K x S' → ∀ v H', Tr N H S H' S' → CellsOk N H' S' → Rep H' (alive N S') v x → Q [v] H') : liftA (wCons wa wNil) σ H Q :=
  ⟨N, ρ, S, fun ds S' => match ds with | [x] => K x S' | _ => False, ab, h, fun ds S' k vs H' t' c r => by
    dsimp only at k
    split at k
    · cases r with
      | cons r1 r =>
        cases r
        exact q _ S' k _ H' t' c r1
    · exact k.elim⟩
theorem lift_args2 {σ : L2.St} {H : Hp} {N : Hid} {ρ : Rho} {S : Sto} {K : D → D → Sto → Prop} {Q : List V → Hp → Prop} (ab : Abs N S H σ ρ) (h : wa ρ S fun x S1 => wb ρ S1 fun y S2 => K x y S2)
    (q : ∀ x y S', K x y S' → ∀ v u H', Tr N H S H' S' → CellsOk N H' S' → Rep H' (alive N S') v x → Rep H' (alive N S') u y → Q [v, u] H') : liftA (wCons wa (wCons wb wNil)) σ H Q :=
  ⟨N, ρ, S, fun ds S' => match ds with | [x, y] => K x y S' | _ => False, ab, h, fun ds S' k vs H' t' c r => by
    dsimp only at k
    split at k
    · cases r with
      | cons r1 r =>
        cases r with
        | cons r2 r =>
          cases r
          exact q _ _ S' k _ _ H' t' c r1 r2
    · exact k.elim⟩
theorem gs_par (i j : Nat) {x y : Str} {px py pt : Pos} {kt k2 : Nat} {pt2 : Pos} (hN : X.N.Nodup) (ha : GE X a wa) (hb : GE X b wb) (hc : X.calm = true := by rfl) (hi : X.N[i]? = some x := by rfl) (hj : X.N[j]? = some y := by rfl) (hij : i ≠ j := by decide)
    (hx : X.env.scope.names.lookup x = some .local := by rfl) (hy : X.env.scope.names.lookup y = some .local := by rfl)
    (hw : swappedStores [.Tuple [.Name x px, .Name y py] kt pt] (.Tuple [a, b] k2 pt2) X.env = pure (some [x, y]) := by rfl)
    (hs : swapsWithSole [.Tuple [.Name x px, .Name y py] kt pt] (.Tuple [a, b] k2 pt2) pos.line X.env = pure false := by rfl)
    (s1 : starEach [a, b] X.env = (false, eval a X.env) :: starEach [b] X.env := by rfl) (s2 : starEach [b] X.env = (false, eval b X.env) :: starEach [] X.env := by rfl) :
    GS X (.Assign [.Tuple [.Name x px, .Name y py] kt pt] (.Tuple [a, b] k2 pt2) pos) (wPar i j wa wb) := by
  refine PS.imp (ps_par hc hN hi hj hij hx hy (ga_cons ha (ga_cons hb ga_nil s2) s1) hw hs) fun D σ H ⟨N, ρ, S, E, ab, h, q⟩ => ?_
  refine lift_args2 ab h fun x y S' k v u H' t' c r1 r2 => ?_
  exact ⟨v, u, rfl, q.nx _ _ k _ _ t' (((ab.mono t' c).put r1).put r2)⟩
end

/-! ### what a for walks -/
structure IT where
  items : List D
  keep : Sto → Prop
structure ItAt (N : Hid) (J : It) (H : Hp) (S : Sto) (items : List D) : Prop where
  go : ∀ i, i < items.length → J.go i H
  stop : J.stop items.length H
  yld : ∀ i x H', i < items.length → J.yld i H x H' → ∃ d, items[i]? = some d ∧ Tr N H S H' S ∧ CellsOk N H' S ∧ Rep H' (alive N S) x d
/-- more is hidden, all of it new -/
def Ext (N N' : Hid) (H : Hp) : Prop := ∀ a, N' a → N a ∨ H a = none
def ItOk (N : Hid) (J : It) (H0 : Hp) (S0 : Sto) (it : IT) : Prop := ∀ N' H S, Ext N N' H0 → Tr N H0 S0 H S → CellsOk N' H S → it.keep S → ItAt N' J H S it.items
theorem Tr.ext {N N' : Hid} {H H' : Hp} {S S' : Sto} (t : Tr N H S H' S') (x : Ext N N' H) : Tr0 H (alive N S) H' (alive N' S') := by
  refine ⟨t.t0.keep, fun a o h k z => ?_⟩
  rcases z with z | z
  · rcases x a z with w | w
    · exact k (.inl w)
    · rw [h] at w; cases w
  · exact t.t0.old a o h k (.inr z)
abbrev WI := Rho → Sto → (IT → Sto → Prop) → Prop
def liftI (w : WI) : TI := fun σ H R => ∃ N ρ S K, Abs N S H σ ρ ∧ w ρ S K ∧ ∀ it S', K it S' → ∀ J H', Tr N H S H' S' → CellsOk N H' S' → ItOk N J H' S' it → R J H'
abbrev GI (X : Cx) (tg iter : Expr) (w : WI) : Prop := PI X tg iter (liftI w)
theorem PI.imp {X : Cx} {tg e : Expr} {t t' : TI} (h : PI X tg e t) (k : ∀ σ H Q, t' σ H Q → t σ H Q) : PI X tg e t' := ⟨fun pins s σ H R I q => h.run pins s σ H R I (k _ _ _ q)⟩

/-- the turns of a for -/
def forW (keep : Sto → Prop) (g : WG) (body : WS) (E : EndsG) : List D → Rho → Sto → Prop
  | [], ρ, S => keep S ∧ E.nx ρ S
  | d :: ds, ρ, S => keep S ∧ g d ρ S fun ρ1 S1 => body { E with nx := forW keep g body E ds, ct := forW keep g body E ds, bk := E.nx } ρ1 S1
def wFor (w : WI) (g : WG) (body : WS) : WS := fun E ρ S => w ρ S fun it S1 => forW it.keep g body E it.items ρ S1
section
variable {X : Cx} {tg iter : Expr} {body : List Stmt} {w : WI} {g : WG} {wb : WS} {pos : Pos}
theorem gs_for (hp : PassesOwn (model X.prog X.w) X.A X.env X.xe) (hi : GI X tg iter w) (hg : GG X tg g) (hb : GSs X body wb) (hc : X.calm = true := by rfl) (hs : ∀ x, foldedSetIterable iter X.env x = pure x := by intro _; rfl) :
    GS X (.For tg iter body [] pos) (wFor w g wb) := by
  refine PS.imp (ps_for hp hc hi hg hb hs) fun D σ H ⟨N, ρ, S, E, ab, h, q⟩ => ?_
  refine ⟨N, ρ, S, _, ab, h, fun it S1 k J H1 t1 c1 ok => ?_⟩
  refine ⟨fun i m σ2 H2 => ∃ ρ2 S2, m = it.items.length - i ∧ i ≤ it.items.length ∧ Abs N S2 H2 σ2 ρ2 ∧ Tr N H1 S1 H2 S2 ∧ forW it.keep g wb E (it.items.drop i) ρ2 S2,
    ⟨it.items.length, ρ, S1, rfl, Nat.zero_le _, ab.mono t1 c1, .refl N H1 S1, k⟩, ?_⟩
  intro i m σ2 H2 ⟨ρ2, S2, em, hle, a2, t2, f2⟩
  by_cases hlt : i < it.items.length
  · have ed : it.items.drop i = it.items[i] :: it.items.drop (i + 1) := List.drop_eq_getElem_cons hlt
    rw [ed] at f2
    obtain ⟨kp, f2⟩ := f2
    have at2 := ok N H2 S2 (fun _ z => .inl z) t2 a2.cells kp
    refine .inr ⟨at2.go i hlt, fun σ3 H3 => ∃ ρ3 S3, Abs N S3 H3 σ3 ρ3 ∧ Tr N H1 S1 H3 S3 ∧ forW it.keep g wb E (it.items.drop (i + 1)) ρ3 S3, fun σ3 H3 ⟨ρ3, S3, a3, t3, f3⟩ => ⟨it.items.length - (i + 1), by omega, ρ3, S3, rfl, hlt, a3, t3, f3⟩, fun x H3 y => ?_⟩
    obtain ⟨d, e1, t3, c3, r3⟩ := at2.yld i x H3 hlt y
    have e2 : it.items[i] = d := by rw [List.getElem?_eq_getElem hlt] at e1; exact Option.some.inj e1
    rw [e2] at f2
    refine ⟨N, ρ2, S2, d, _, a2.mono t3 c3, r3, f2, fun ρ4 S4 k4 σ4 H4 t4 a4 => ?_⟩
    have tt : Tr N H1 S1 H4 S4 := (t2.trans t3).trans t4
    have qq := q.of (t1.trans tt)
    exact ⟨N, ρ4, S4, _, a4, k4, ⟨fun ρ5 S5 k5 σ5 H5 t5 a5 => ⟨ρ5, S5, a5, tt.trans t5, k5⟩, qq.rt, fun ρ5 S5 k5 σ5 H5 t5 a5 => qq.nx _ _ k5 _ _ t5 a5, fun ρ5 S5 k5 σ5 H5 t5 a5 => ⟨ρ5, S5, a5, tt.trans t5, k5⟩⟩⟩
  · have e : i = it.items.length := by omega
    rw [e, List.drop_length] at f2
    obtain ⟨kp, f2⟩ := f2
    have at2 := ok N H2 S2 (fun _ z => .inl z) t2 a2.cells kp
    rw [e]
    exact .inl ⟨at2.stop, q.nx _ _ f2 _ _ (t1.trans t2) a2⟩
end

/-! ### while -/
def whileN (c : WT) (body : WS) (E : EndsG) : Nat → Rho → Sto → Prop
  | 0, _, _ => False
  | n + 1, ρ, S => c ρ S fun k S1 => (k = true → body { E with nx := whileN c body E n, ct := whileN c body E n, bk := E.nx } ρ S1) ∧ (k = false → E.nx ρ S1)
def wWhile (c : WT) (body : WS) : WS := fun E ρ S => ∃ n, whileN c body E n ρ S
section
variable {X : Cx} {c : Expr} {body : List Stmt} {wc : WT} {wb : WS} {pos : Pos}
theorem gs_while (hp : PassesOwn (model X.prog X.w) X.A X.env X.xe) (hc : GT X c wc) (hb : GSs X body wb) : GS X (.While c body [] pos) (wWhile wc wb) := by
  refine PS.imp (ps_while hp hc hb) fun D σ H ⟨N, ρ, S, E, ab, ⟨n, h⟩, q⟩ => ?_
  refine ⟨fun m σ2 H2 => ∃ ρ2 S2, Abs N S2 H2 σ2 ρ2 ∧ Tr N H S H2 S2 ∧ whileN wc wb E m ρ2 S2, ⟨n, ρ, S, ab, .refl N H S, h⟩, ?_⟩
  intro m σ2 H2 ⟨ρ2, S2, a2, t2, h2⟩
  cases m with
  | zero => exact h2.elim
  | succ m =>
    refine ⟨N, ρ2, S2, _, a2, h2, fun k S3 h3 H3 t3 c3 => ?_⟩
    have tt := t2.trans t3
    have qq := q.of tt
    cases k with
    | true =>
      refine iteT ⟨fun σ4 H4 => ∃ ρ4 S4, Abs N S4 H4 σ4 ρ4 ∧ Tr N H S H4 S4 ∧ whileN wc wb E m ρ4 S4, fun σ4 H4 h4 => ⟨m, Nat.lt_succ_self m, h4⟩, ?_⟩
      exact ⟨N, ρ2, S3, _, a2.mono t3 c3, h3.1 rfl, ⟨fun ρ5 S5 k5 σ5 H5 t5 a5 => ⟨ρ5, S5, a5, tt.trans t5, k5⟩, qq.rt, fun ρ5 S5 k5 σ5 H5 t5 a5 => qq.nx _ _ k5 _ _ t5 a5, fun ρ5 S5 k5 σ5 H5 t5 a5 => ⟨ρ5, S5, a5, tt.trans t5, k5⟩⟩⟩
    | false => exact iteF (qq.nx _ _ (h3.2 rfl) _ _ (.refl N H3 S3) (a2.mono t3 c3))
end
end G

set_option Elab.async false
set_option linter.all false
set_option maxRecDepth 100000
set_option autoImplicit false
namespace G
open PySem PySem.Spec PyProof.Rows L2

/-! ### iterators over what is held -/
section
variable {X : Cx} {tg : Expr} {pins : List (Addr × Obj)} {σ : L2.St} {H : Hp} {s : Shared} {R : It → Hp → Prop} {a : Addr} {xs : List V}
theorem fresh_fp (I : Inv X pins σ H s) : ∀ b ∈ [s.heap.objs.size], FpOk X pins H b := fun b hb => by
  rw [List.mem_singleton.mp hb]
  exact I.fpOk (Nat.le_refl _) (I.hok.fresh (Nat.le_refl _))
theorem iter_list (I : Inv X pins σ H s) (hq : SqL X.K H a xs) (q : R (Itl X.K a) H) : wpAny (model X.prog X.w) X.A (pyIter (.ref a)) (PIE X pins σ tg R) X.xe s := by
  obtain ⟨its, rv, pl, _⟩ := I.list hq
  refine wpAny_pyIter_list pl.isList ?_
  have I' := I.kept (t' := s.toks) (h' := s.heap.push ⟨.type "list_iterator", none, .fields #[.ref a, .int 0 0], #[]⟩) fun b o e => Heap.get?_push_of_some _ e
  exact ⟨_, [_], _, _, H, rfl, I', turn_list a _, ⟨_, Heap.get?_push_size _ rfl, rfl, rfl⟩, fresh_fp I, q⟩
theorem iter_tup (I : Inv X pins σ H s) (hq : SqT X.K H a xs) (q : R (Itt X.K a) H) : wpAny (model X.prog X.w) X.A (pyIter (.ref a)) (PIE X pins σ tg R) X.xe s := by
  obtain ⟨its, rv, pl, _⟩ := I.tuple hq
  refine wpAny_pyIter_tuple (show s.heap.IsTuple a its.toArray from pl) ?_
  have I' := I.kept (t' := s.toks) (h' := s.heap.push ⟨.type "tuple_iterator", none, .fields #[.ref a, .int 0 0], #[]⟩) fun b o e => Heap.get?_push_of_some _ e
  exact ⟨_, [_], _, _, H, rfl, I', turn_tuple a _, ⟨_, Heap.get?_push_size _ rfl, rfl, rfl⟩, fresh_fp I, q⟩
theorem iter_str {x : Str} {t : Tok} (I : Inv X pins σ H s) (q : R (Its x) H) : wpAny (model X.prog X.w) X.A (pyIter (.str x t)) (PIE X pins σ tg R) X.xe s := by
  cases ha : x.cps.all (· < 128)
  · exact wpAny_pyIter_wide ha (pi_one (tk := s.toks) I _ (turn_str _ x t "str_iterator" (.inr rfl)) ⟨_, Heap.get?_push_size _ rfl, rfl, rfl⟩ q)
  · exact wpAny_pyIter_ascii ha (pi_one (tk := s.toks) I _ (turn_str _ x t "str_ascii_iterator" (.inl rfl)) ⟨_, Heap.get?_push_size _ rfl, rfl, rfl⟩ q)
end

/-- the items of a value and what keeps them -/
def itemsOf (S : Sto) (d : D) : Option IT := match d with
  | .lst ds => some ⟨ds, fun _ => True⟩
  | .tup ds => some ⟨ds, fun _ => True⟩
  | .str x => some ⟨x.cps.toList.map fun c => .str ⟨#[c]⟩, fun _ => True⟩
  | .cell c => match S c with
    | some (.lst ds) => some ⟨ds, fun S' => S' c = some (.lst ds)⟩
    | _ => none
  | _ => none
def wIt (w : WE) : WI := fun ρ S K => w ρ S fun d S1 => match itemsOf S1 d with
  | some it => K it S1
  | none => False

section
variable {N : Hid} {H : Hp} {S : Sto}
theorem Reps.get {A : Addr → Prop} : ∀ {vs : List V} {ds : List D} {i : Nat} {x : V}, Reps H A vs ds → vs[i]? = some x → ∃ d, ds[i]? = some d ∧ Rep H A x d
  | _, _, _, _, .nil, e => by simp at e
  | _, _, 0, _, .cons r _, e => by simp at e; subst e; exact ⟨_, rfl, r⟩
  | _, _, i + 1, x, .cons _ t, e => by
    obtain ⟨d, h1, h2⟩ := Reps.get (i := i) (x := x) t (by simpa using e)
    exact ⟨d, by simpa using h1, h2⟩
theorem Reps.getD {A : Addr → Prop} : ∀ {vs : List V} {ds : List D} {i : Nat} {d : D}, Reps H A vs ds → ds[i]? = some d → ∃ v, vs[i]? = some v ∧ Rep H A v d
  | _, _, _, _, .nil, e => by simp at e
  | _, _, 0, _, .cons r _, e => by simp at e; subst e; exact ⟨_, rfl, r⟩
  | _, _, i + 1, x, .cons _ t, e => by
    obtain ⟨d, h1, h2⟩ := Reps.getD (i := i) (d := x) t (by simpa using e)
    exact ⟨d, by simpa using h1, h2⟩
/-- a walk over known items -/
theorem ItAt.walk {J : It} {n : Nat} {Gp : Hp → Prop} {Y : Nat → Hp → V → Hp → Prop} {ds : List D} (w : Walk J n Gp Y) (hn : ds.length = n) (hG : Gp H)
    (hy : ∀ i x H', i < n → Y i H x H' → ∃ d, ds[i]? = some d ∧ Tr N H S H' S ∧ CellsOk N H' S ∧ Rep H' (alive N S) x d) : ItAt N J H S ds := by
  subst hn
  exact ⟨fun i hi => w.goes i H hi hG, w.stops H hG, fun i x H' hi y => hy i x H' hi (w.yields i H x H' hi hG y)⟩
theorem ItAt.list {K : PySem.W.Frag} {a : Addr} {vs : List V} {ds : List D} (hq : SqL K H a vs) (rs : Reps H (alive N S) vs ds) (c : CellsOk N H S) : ItAt N (Itl K a) H S ds := by
  refine ItAt.walk walk_list rs.length.symm hq fun i x H' hi y => ?_
  obtain ⟨rfl, e⟩ := y
  obtain ⟨d, e2, r⟩ := rs.get e
  exact ⟨d, e2, .refl _ _ _, c, r⟩
theorem ItAt.tup {K : PySem.W.Frag} {a : Addr} {vs : List V} {ds : List D} (hq : SqT K H a vs) (rs : Reps H (alive N S) vs ds) (c : CellsOk N H S) : ItAt N (Itt K a) H S ds := by
  refine ItAt.walk walk_tup rs.length.symm hq fun i x H' hi y => ?_
  obtain ⟨rfl, e⟩ := y
  obtain ⟨d, e2, r⟩ := rs.get e
  exact ⟨d, e2, .refl _ _ _, c, r⟩
/-- a tracked pair made in a turn -/
theorem ItAt.pair {J : It} {n : Nat} {Gp : Hp → Prop} {fx fy : Nat → Option V} {ds : List D} (w : Walk J n Gp (YPair fx fy)) (hn : ds.length = n) (hG : Gp H) (c : CellsOk N H S)
    (hy : ∀ i x y, i < n → fx i = some x → fy i = some y → ∃ d e, ds[i]? = some (.tup [d, e]) ∧ Rep H (alive N S) x d ∧ Rep H (alive N S) y e) : ItAt N J H S ds := by
  refine ItAt.walk w hn hG fun i x H' hi y => ?_
  obtain ⟨T, u, v, rfl, nT, rfl, e1, e2⟩ := y
  obtain ⟨d, e, e3, r1, r2⟩ := hy i u v hi e1 e2
  have t := Tr.new c nT (o := .tup [u, v])
  exact ⟨_, e3, t, c.new nT, .tup (.inl upd_same) (c.dead nT) (.cons (r1.mono t) (.cons (r2.mono t) .nil))⟩
end
section
variable {X : Cx} {tg e : Expr} {w : WE} {pos p : Pos}
theorem gi_val (h : GE X e w) : GI X tg e (wIt w) := by
  refine ⟨fun pins s σ H R I ⟨N, ρ, S, K, ab, hw, q⟩ => ?_⟩
  have step := h.run pins s σ H (fun v H1 => ∃ d S1 it, itemsOf S1 d = some it ∧ K it S1 ∧ Tr N H S H1 S1 ∧ CellsOk N H1 S1 ∧ Rep H1 (alive N S1) v d) I
    (liftE.mk ab hw fun d S1 k v H1 t c r => by
      split at k
      · rename_i it e
        exact ⟨d, S1, it, e, k, t, c, r⟩
      · exact k.elim)
  refine thn step fun v s1 ⟨x, H1, I1, r1, d, S1, it, ei, k, t, c, r⟩ => ?_
  have qq := q it S1 k
  clear q k step
  cases r with
  | lst rd na rs =>
    cases r1
    injection ei with ei
    subst ei
    exact iter_list I1 (.inl (.inl rd)) (qq _ H1 t c fun N2 H2 S2 x2 t2 c2 _ => ItAt.list (.inl (.inl (t2.t0.keep _ _ rd na))) (rs.mono0 (t2.ext x2)) c2)
  | tup rd na rs =>
    cases r1
    injection ei with ei
    subst ei
    exact iter_tup I1 (.inl rd) (qq _ H1 t c fun N2 H2 S2 x2 t2 c2 _ => ItAt.tup (.inl (t2.t0.rd rd na).1) (rs.mono0 (t2.ext x2)) c2)
  | str z =>
    obtain ⟨tk, rfl⟩ := r1
    injection ei with ei
    subst ei
    refine iter_str I1 (qq _ H1 t c fun N2 H2 S2 x2 t2 c2 _ => ItAt.walk walk_str (by simp) trivial fun i y H' hi hy => ?_)
    obtain ⟨rfl, ch, e1, rfl⟩ := hy
    refine ⟨.str ⟨#[ch]⟩, ?_, .refl _ _ _, c2, .str _⟩
    rw [List.getElem?_map, show z.cps.toList[i]? = some ch by simpa using e1]
    rfl
  | cell cc =>
    cases r1
    have ee : itemsOf S1 (.cell cc) = match S1 cc with
      | some (.lst ds) => some ⟨ds, fun S' => S' cc = some (.lst ds)⟩
      | _ => none := rfl
    rw [ee] at ei
    split at ei <;> try (cases ei; done)
    rename_i ds e1
    injection ei with ei
    subst ei
    obtain ⟨vs, e2, rs⟩ := c.at_ _ _ e1
    refine iter_list I1 (.inl (.inl e2)) (qq _ H1 t c fun N2 H2 S2 x2 t2 c2 kp => ?_)
    obtain ⟨vs2, e3, rs2⟩ := c2.at_ _ _ kp
    exact ItAt.list (.inl (.inl e3)) rs2 c2
  | non => cases ei
  | bl b => cases ei
  | int i => cases ei
  | ty n => cases ei
  | fn a => cases ei
  | scr z => cases ei
  | dic r k z => cases ei

/-- range -/
def irange (lo : Int) (n : Nat) : List D := (List.range n).map fun i => .int (lo + (i : Nat))
theorem ItAt.range {N : Hid} {H : Hp} {S : Sto} {lo : Int} {n : Nat} (c : CellsOk N H S) : ItAt N (Itr lo n) H S (irange lo n) := by
  refine ItAt.walk walk_range (by simp [irange]) trivial fun i x H' hi y => ?_
  obtain ⟨rfl, rfl⟩ := y
  refine ⟨.int (lo + (i : Nat)), ?_, .refl _ _ _, c, .int _⟩
  unfold irange
  rw [List.getElem?_map, List.getElem?_range hi]
  rfl
def wRange1 (a : WE) : WI := fun ρ S K => a ρ S fun x S1 => ∃ j : Int, x = .int j ∧ -(2 ^ 62) ≤ j ∧ j < 2 ^ 62 ∧ K ⟨irange 0 j.toNat, fun _ => True⟩ S1
def wRange2 (a b : WE) : WI := fun ρ S K => a ρ S fun x S1 => b ρ S1 fun y S2 => ∃ i j : Int, x = .int i ∧ y = .int j ∧ (-(2 ^ 62) ≤ i ∧ i < 2 ^ 62 ∧ -(2 ^ 62) ≤ j ∧ j < 2 ^ 62) ∧ K ⟨irange i (j - i).toNat, fun _ => True⟩ S2
variable {e2 : Expr} {w2 : WE}
theorem gi_range1 (h : GE X e w) (hm : X.mg "range" = none) (hg : Gl X "range" := by rfl) (hs : starEach [e] X.env = [(false, eval e X.env)] := by rfl) : GI X tg (.Call (.Name "range" p) [e] [] pos) (wRange1 w) := by
  refine PI.imp (pi_range1 hg hm (ga_cons h ga_nil hs) hs) fun σ H R ⟨N, ρ, S, K, ab, hw, q⟩ => ?_
  refine lift_args1 ab hw fun x S1 ⟨j, ex, h1, h2, k⟩ v H1 t1 c1 r1 => ?_
  subst ex
  cases r1
  exact ⟨j, rfl, h1, h2, q _ _ k _ H1 t1 c1 fun N2 H2 S2 x2 t2 c2 _ => ItAt.range c2⟩
end
end G

set_option Elab.async false
set_option linter.all false
set_option maxRecDepth 100000
set_option autoImplicit false
namespace G
open PySem PySem.Spec PyProof.Rows L2

/-! ### targets within a comprehension: own slots alone -/
def liftGc (vs : List Nat) (g : WG) : TG := fun v σ H Q => ∃ N ρ S d K, Abs N S H σ ρ ∧ Rep H (alive N S) v d ∧ g d ρ S K ∧ ∀ ρ' S', K ρ' S' → ∀ σ' H', Tr N H S H' S' → Abs N S' H' σ' ρ' → wipe σ' vs = wipe σ vs → Q σ' H'
def liftGcs (vs : List Nat) (g : WGs) : TGs := fun us σ H Q => ∃ N ρ S ds K, Abs N S H σ ρ ∧ Reps H (alive N S) us ds ∧ g ds ρ S K ∧ ∀ ρ' S', K ρ' S' → ∀ σ' H', Tr N H S H' S' → Abs N S' H' σ' ρ' → wipe σ' vs = wipe σ vs → Q σ' H'
abbrev GC (X : Cx) (vs : List Nat) (tg : Expr) (g : WG) : Prop := PG X tg (liftGc vs g)
abbrev GCs (X : Cx) (vs : List Nat) (ts : List Expr) (g : WGs) : Prop := PGs X ts (liftGcs vs g)
theorem wipe_get {σ : L2.St} {i : Nat} {vs : List Nat} (h : i ∈ vs) (l : i < σ.length) : (wipe σ vs)[i]? = some none := by
  induction vs with
  | nil => cases h
  | cons v vs ih =>
    unfold wipe
    by_cases e : v = i
    · rw [e]; exact List.getElem?_set_self (by rw [wipe_length]; exact l)
    · rw [List.getElem?_set_ne e]
      rcases List.mem_cons.mp h with z | z
      · exact absurd z.symm e
      · exact ih z
theorem wipe_other {σ : L2.St} {i : Nat} {vs : List Nat} (h : i ∉ vs) : (wipe σ vs)[i]? = σ[i]? := by
  induction vs with
  | nil => rfl
  | cons v vs ih =>
    unfold wipe
    rw [List.getElem?_set_ne fun z => h (by rw [z]; exact List.mem_cons_self ..)]
    exact ih fun z => h (List.mem_cons_of_mem _ z)
theorem wipe_set {σ : L2.St} {i : Nat} {v : Option V} {vs : List Nat} (h : i ∈ vs) : wipe (σ.set i v) vs = wipe σ vs := by
  refine List.ext_getElem? fun j => ?_
  by_cases m : j ∈ vs
  · by_cases l : j < σ.length
    · rw [wipe_get m l, wipe_get m (by rw [List.length_set]; exact l)]
    · rw [List.getElem?_eq_none (by rw [wipe_length, List.length_set]; omega), List.getElem?_eq_none (by rw [wipe_length]; omega)]
  · rw [wipe_other m, wipe_other m, List.getElem?_set_ne fun z => m (by rw [← z]; exact h)]
theorem wipe_wipe {σ : L2.St} {vs : List Nat} : wipe (wipe σ vs) vs = wipe σ vs := by
  refine List.ext_getElem? fun j => ?_
  by_cases m : j ∈ vs
  · by_cases l : j < σ.length
    · rw [wipe_get m l, wipe_get m (by rw [wipe_length]; exact l)]
    · rw [List.getElem?_eq_none (by rw [wipe_length, wipe_length]; omega), List.getElem?_eq_none (by rw [wipe_length]; omega)]
  · rw [wipe_other m, wipe_other m]
def wipeR (ρ : Rho) : List Nat → Rho
  | [] => ρ
  | v :: vs => (wipeR ρ vs).set v none
theorem Abs.wipe {N : Hid} {S : Sto} {H : Hp} {σ : L2.St} {ρ : Rho} (a : Abs N S H σ ρ) : ∀ vs, Abs N S H (L2.wipe σ vs) (wipeR ρ vs)
  | [] => a
  | v :: vs => by
    have b := Abs.wipe a vs
    refine ⟨?_, fun j e h => ?_, a.cells⟩
    · show (List.set (L2.wipe σ vs) v none).length = (List.set (wipeR ρ vs) v none).length
      rw [List.length_set, List.length_set]; exact b.len
    · have h : (List.set (wipeR ρ vs) v none)[j]? = some (some e) := h
      show ∃ u, (List.set (L2.wipe σ vs) v none)[j]? = some (some u) ∧ _
      by_cases z : v = j
      · subst z
        by_cases l : v < (wipeR ρ vs).length
        · rw [List.getElem?_set_self l] at h; cases h
        · rw [List.getElem?_eq_none (by rw [List.length_set]; omega)] at h; cases h
      · rw [List.getElem?_set_ne z] at h ⊢
        exact b.slot j e h
section
variable {X : Cx} {e : Expr} {es : List Expr} {pos : Pos} {g : WG} {gs : WGs} {vs : List Nat}
theorem gc_name (i : Nat) {x : Str} (hN : X.N.Nodup) (hi : X.N[i]? = some x := by rfl) (hm : i ∈ vs := by decide) (hx : Loc X.env.scope x := by first | exact Or.inl rfl | exact Or.inr rfl) (hf : X.fn x = true ∨ X.env.scope.names.lookup x = some .local := by first | exact Or.inr rfl | exact Or.inl rfl) : GC X vs (.Name x pos) (gN i) := by
  refine PG.imp (pg_name hN hi hx hf) fun v σ H Q ⟨N, ρ, S, d, K, a, r, h, q⟩ => ?_
  exact q _ _ h _ H (.refl N H S) (a.put r) (wipe_set hm)
theorem gcs_nil : GCs X vs [] gsN := by
  refine PGs.imp pgs_nil fun us σ H Q ⟨N, ρ, S, ds, K, a, r, ⟨e, h⟩, q⟩ => ?_
  subst e
  cases r
  exact ⟨rfl, q _ _ h _ H (.refl N H S) a rfl⟩
theorem gcs_cons (h1 : GC X vs e g) (h2 : GCs X vs es gs) (hs : (assignEach (e :: es) X.env).map (·.2) = assign e X.env :: (assignEach es X.env).map (·.2) := by rfl) : GCs X vs (e :: es) (gsC g gs) := by
  refine PGs.imp (pgs_cons h1 h2 hs) fun us σ H Q ⟨N, ρ, S, ds, K, a, r, ⟨d, ds', e, h⟩, q⟩ => ?_
  subst e
  cases r with
  | cons r rr =>
    refine ⟨_, _, rfl, N, ρ, S, d, _, a, r, h, fun ρ1 S1 k σ1 H1 t1 a1 w1 => ?_⟩
    exact ⟨N, ρ1, S1, ds', K, a1, rr.mono t1, k, fun ρ2 S2 k2 σ2 H2 t2 a2 w2 => q _ _ k2 _ _ (t1.trans t2) a2 (w2.trans w1)⟩
theorem gc_tup {k n : Nat} (hc : X.calm = true) (h : GCs X vs es gs) (hn : (assignEach es X.env).length = n := by rfl) (hst : (assignEach es X.env).findIdx? (·.1) = none := by rfl) : GC X vs (.Tuple es k pos) (gT n gs) := by
  refine PG.imp (pg_tup hc h hn hst) fun v σ H Q ⟨N, ρ, S, d, K, a, r, ⟨ds, e, l, h⟩, q⟩ => ?_
  subst e
  cases r with
  | tup rd na rs => exact ⟨_, _, rfl, .inl rd, rs.length.trans l, N, ρ, S, ds, K, a, rs, h, q⟩
end

/-! ### tests of a comprehension -/
abbrev GIf (X : Cx) (ifs : List Expr) (w : WT) : Prop := PTs X ifs (liftT w)
def wYes : WT := fun _ S K => K true S
section
variable {X : Cx} {c : Expr} {w : WT}
theorem gif_nil : GIf X [] wYes := ⟨fun pins s σ H Q I ⟨N, ρ, S, K, ab, h, q⟩ => (pts_nil (X := X)).run pins s σ H Q I (q true S h H (.refl N H S) ab.cells)⟩
theorem gif_one (h : GT X c w) : GIf X [c] w := pts_one h
end

/-! ### list comprehensions -/
def compW (keep : Sto → Prop) (g : WG) (t : WT) (e : WE) (ρ : Rho) : List D → List D → Sto → (List D → Sto → Prop) → Prop
  | [], acc, S, K => keep S ∧ K acc S
  | d :: ds, acc, S, K => keep S ∧ g d ρ S fun ρ1 S1 => t ρ1 S1 fun b S2 => (b = true → e ρ1 S2 fun y S3 => acc.length < sizeLine ∧ compW keep g t e ρ ds (acc ++ [y]) S3 K) ∧ (b = false → compW keep g t e ρ ds acc S2 K)
def wComp (wi : WI) (g : WG) (t : WT) (e : WE) (vs : List Nat) : WF := fun ρ S K => wi ρ S fun it S1 => compW it.keep g t e (wipeR ρ vs) it.items [] S1 K

theorem Reps.snoc {H : Hp} {A : Addr → Prop} {v : V} {d : D} : ∀ {vs : List V} {ds : List D}, Reps H A vs ds → Rep H A v d → Reps H A (vs ++ [v]) (ds ++ [d])
  | _, _, .nil, r => .cons r .nil
  | _, _, .cons a b, r => .cons a (Reps.snoc b r)
section
variable {X : Cx} {elt tg iter : Expr} {ifs : List Expr} {scope : Scope} {own : List (Str × Nat)} {pos : Pos} {w : WI} {g : WG} {t : WT} {we : WE}
theorem lift_comp {vs : List Nat} : ∀ σ H Q, liftF (wComp w g t we vs) σ H Q → tLc (liftI w) (liftGc vs g) (liftT t) (liftE we) vs σ H Q := by
  intro σ H Q ⟨N, ρ, S, K, ab, h, q⟩
  refine ⟨N, ρ, S, _, ab, h, fun it S1 k J H1 t1 c1 ok D nD => ?_⟩
  refine ⟨fun i m H => ∃ Hm S2 aV aD, H = upd Hm D (.lst aV) ∧ Hm D = none ∧ m = it.items.length - i ∧ i ≤ it.items.length ∧ Tr N H1 S1 Hm S2 ∧ CellsOk N Hm S2 ∧ Reps Hm (alive N S2) aV aD ∧ compW it.keep g t we (wipeR ρ vs) (it.items.drop i) aD S2 K,
    ⟨it.items.length, H1, S1, [], [], rfl, nD, rfl, Nat.zero_le _, .refl N H1 S1, c1, .nil, k⟩, ?_⟩
  intro i m H2 ⟨Hm, S2, aV, aD, eH, nm, em, hle, t2, c2, ra, f2⟩
  subst eH
  have cn := c2.new nm (o := .lst aV)
  have tn := Tr.new c2 nm (o := .lst aV)
  by_cases hlt : i < it.items.length
  · have ed : it.items.drop i = it.items[i] :: it.items.drop (i + 1) := List.drop_eq_getElem_cons hlt
    rw [ed] at f2
    obtain ⟨kp, f2⟩ := f2
    have ch := c2.hide nm (o := .lst aV)
    have ex : Ext N (hidP N D) H1 := fun a z => z.imp id fun e => by rw [e]; exact nD
    have at2 := ok (hidP N D) _ S2 ex (t2.trans tn) ch kp
    refine .inr ⟨at2.go i hlt, fun H3 => ∃ Hm S3 aV aD, H3 = upd Hm D (.lst aV) ∧ Hm D = none ∧ Tr N H1 S1 Hm S3 ∧ CellsOk N Hm S3 ∧ Reps Hm (alive N S3) aV aD ∧ compW it.keep g t we (wipeR ρ vs) (it.items.drop (i + 1)) aD S3 K,
      fun H3 ⟨Hm3, S3, aV3, aD3, e3, n3, t3, c3, r3, f3⟩ => ⟨it.items.length - (i + 1), by omega, Hm3, S3, aV3, aD3, e3, n3, rfl, hlt, t3, c3, r3, f3⟩, fun x H3 y => ?_⟩
    obtain ⟨d, e1, t3, c3, r3⟩ := at2.yld i x H3 hlt y
    have e2 : it.items[i] = d := by rw [List.getElem?_eq_getElem hlt] at e1; exact Option.some.inj e1
    rw [e2] at f2
    have abw : Abs (hidP N D) S2 H3 (wipe σ vs) (wipeR ρ vs) := by
      have a1 := ((ab.mono (t1.trans t2) c2).wipe vs)
      have a2 : Abs (hidP N D) S2 (upd Hm D (.lst aV)) (wipe σ vs) (wipeR ρ vs) := ⟨a1.len, fun j e h => by
        obtain ⟨v, h1, h2⟩ := a1.slot j e h
        exact ⟨v, h1, h2.mono0 (Tr0.hide nm)⟩, ch⟩
      exact a2.mono t3 c3
    have m2 : ∀ a, N a → a ≠ D := c2.hid_ne nm
    refine ⟨hidP N D, _, S2, d, _, abw, r3, f2, fun ρ4 S4 k4 σ4 H4 t4 a4 w4 => ⟨w4.trans wipe_wipe, ?_⟩⟩
    refine ⟨hidP N D, ρ4, S4, _, a4, k4, fun b S5 h5 H5 t5 c5 => ?_⟩
    have tt := (t3.trans t4).trans t5
    cases b with
    | true =>
      refine iteT ⟨hidP N D, ρ4, S5, _, a4.mono t5 c5, h5.1 rfl, fun z S6 ⟨l6, h6⟩ v H6 t6 c6 r6 => ?_⟩
      have t36 := tt.trans t6
      have eD : H6 D = some (.lst aV) := by rw [t36.hid D (.inr rfl)]; exact upd_same
      have u6 := t36.unhide nm m2
      refine ⟨aV, eD, by rw [ra.length]; exact l6, und H6 D, S6, aV ++ [v], aD ++ [z], ?_, und_same, t2.trans u6, c6.unhide m2, (ra.mono u6).snoc (r6.mono0 Tr0.unhide), h6⟩
      funext c
      by_cases e : c = D
      · rw [e, upd_same, upd_same]
      · rw [upd_ne e, upd_ne e, und_ne e]
    | false =>
      have eD : H5 D = some (.lst aV) := by rw [tt.hid D (.inr rfl)]; exact upd_same
      have u5 := tt.unhide nm m2
      exact iteF ⟨und H5 D, S5, aV, aD, (upd_und eD).symm, und_same, t2.trans u5, c5.unhide m2, ra.mono u5, h5.2 rfl⟩
  · have e : i = it.items.length := by omega
    rw [e, List.drop_length] at f2
    obtain ⟨kp, f2⟩ := f2
    have at2 := ok N _ S2 (fun _ z => .inl z) (t2.trans tn) cn kp
    rw [e]
    exact .inl ⟨at2.stop, q _ _ f2 D Hm aV (t1.trans t2) c2 ra nm⟩
theorem gf_comp (hN : X.N.Nodup) (hi : GI X tg iter w) (ok : BlkOk X.N X.env.scope scope own)
    (hg : ∀ (s : Shared) (H : Hp) (C : Addr) (cl : List (Str × Addr)) (fp : List Addr), GC (X.blk s H scope (compEnvC scope cl C X.env) fp) (own.map (·.2)) tg g)
    (ht : ∀ (s : Shared) (H : Hp) (C : Addr) (cl : List (Str × Addr)) (fp : List Addr), GIf (X.blk s H scope (compEnvC scope cl C X.env) fp) ifs t)
    (he : ∀ (s : Shared) (H : Hp) (C : Addr) (cl : List (Str × Addr)) (fp : List Addr), GE (X.blk s H scope (compEnvC scope cl C X.env) fp) elt we) (hc : X.calm = true := by rfl)
    (hs : ∀ x, foldedSetIterable iter X.env x = pure x := by intro _; rfl) : GF X (.ListComp elt [⟨tg, iter, ifs, 0⟩] scope pos) (wComp w g t we (own.map (·.2))) :=
  PE.imp (pe_lc hc hN hi ok hg ht he hs) lift_comp
/-- name = [..] -/
theorem gs_setLc (i : Nat) {y : Str} {py spos : Pos} (hN : X.N.Nodup) (hi : GI X tg iter w) (ok : BlkOk X.N X.env.scope scope own)
    (hg : ∀ (s : Shared) (H : Hp) (C : Addr) (cl : List (Str × Addr)) (fp : List Addr), GC (X.blk s H scope (compEnvC scope cl C X.env) fp) (own.map (·.2)) tg g)
    (ht : ∀ (s : Shared) (H : Hp) (C : Addr) (cl : List (Str × Addr)) (fp : List Addr), GIf (X.blk s H scope (compEnvC scope cl C X.env) fp) ifs t)
    (he : ∀ (s : Shared) (H : Hp) (C : Addr) (cl : List (Str × Addr)) (fp : List Addr), GE (X.blk s H scope (compEnvC scope cl C X.env) fp) elt we)
    (hsw : swapsWith (.ListComp elt [⟨tg, iter, ifs, 0⟩] scope pos) (some (.Name y py)) spos.line X.env = pure true) (hc : X.calm = true := by rfl) (hy : X.N[i]? = some y := by rfl) (hyl : X.env.scope.names.lookup y = some .local := by rfl)
    (hs : ∀ x, foldedSetIterable iter X.env x = pure x := by intro _; rfl) : GS X (.Assign [.Name y py] (.ListComp elt [⟨tg, iter, ifs, 0⟩] scope pos) spos) (wSet i (wFr (wComp w g t we (own.map (·.2))))) := by
  refine PS.imp (ps_setLc hc hN hy hyl hsw hi ok hg ht he hs) fun D σ H ⟨N, ρ, S, E, ab, h, q⟩ => ?_
  refine lift_comp σ H _ ⟨N, ρ, S, _, ab, h, fun ds S' k p H' vs t' c r n => ?_⟩
  have tt := t'.trans (Tr.new c n (o := .lst vs))
  exact q.nx _ _ k _ _ tt ((ab.mono tt (c.new n)).put (.lst upd_same (c.dead n) (r.mono (Tr.new c n))))
end
end G

set_option Elab.async false
set_option linter.all false
set_option maxRecDepth 100000
set_option autoImplicit false
namespace G
open PySem PySem.Spec PyProof.Rows L2

section
variable {N : Hid} {H : Hp} {S : Sto} {K : KE} {Q : VK}
theorem liftK.here (q : liftK N H S K Q) (c : CellsOk N H S) {d : D} (k : K d S) {v : V} (r : Rep H (alive N S) v d) : Q v H := q d S k v H (.refl N H S) c r
theorem liftK.newT (q : liftK N H S K Q) (c : CellsOk N H S) {ds : List D} (k : K (.tup ds) S) {vs : List V} (r : Reps H (alive N S) vs ds) {p : Addr} (n : H p = none) : Q (.ref p) (upd H p (.tup vs)) :=
  q _ S k _ _ (Tr.new c n) (c.new n) (.tup (.inl upd_same) (c.dead n) (r.mono (Tr.new c n)))
theorem liftK.newL (q : liftK N H S K Q) (c : CellsOk N H S) {ds : List D} (k : K (.lst ds) S) {vs : List V} (r : Reps H (alive N S) vs ds) {p : Addr} (n : H p = none) : Q (.ref p) (upd H p (.lst vs)) :=
  q _ S k _ _ (Tr.new c n) (c.new n) (.lst upd_same (c.dead n) (r.mono (Tr.new c n)))
theorem newL.here {K : List D → Sto → Prop} (q : newL N H S K Q) (c : CellsOk N H S) {ds : List D} (k : K ds S) {vs : List V} (r : Reps H (alive N S) vs ds) {p : Addr} (n : H p = none) : Q (.ref p) (upd H p (.lst vs)) :=
  q ds S k p H vs (.refl N H S) c r n
theorem Reps.append {A : Addr → Prop} : ∀ {vs us : List V} {ds es : List D}, Reps H A vs ds → Reps H A us es → Reps H A (vs ++ us) (ds ++ es)
  | _, _, _, _, .nil, r => r
  | _, _, _, _, .cons a b, r => .cons a (Reps.append b r)
theorem Reps.take {A : Addr → Prop} : ∀ (n : Nat) {vs : List V} {ds : List D}, Reps H A vs ds → Reps H A (vs.take n) (ds.take n)
  | 0, _, _, _ => .nil
  | _ + 1, _, _, .nil => .nil
  | n + 1, _, _, .cons a b => .cons a (Reps.take n b)
theorem Reps.drop {A : Addr → Prop} : ∀ (n : Nat) {vs : List V} {ds : List D}, Reps H A vs ds → Reps H A (vs.drop n) (ds.drop n)
  | 0, _, _, r => r
  | _ + 1, _, _, .nil => .nil
  | n + 1, _, _, .cons a b => Reps.drop n b
theorem Reps.flat {A : Addr → Prop} {vs : List V} {ds : List D} (r : Reps H A vs ds) : ∀ n, Reps H A (List.replicate n vs).flatten (List.replicate n ds).flatten
  | 0 => .nil
  | n + 1 => by
    rw [List.replicate_succ, List.replicate_succ, List.flatten_cons, List.flatten_cons]
    exact r.append (Reps.flat r n)
theorem Reps.set {A : Addr → Prop} {v : V} {d : D} (r : Rep H A v d) : ∀ (i : Nat) {vs : List V} {ds : List D}, Reps H A vs ds → Reps H A (vs.set i v) (ds.set i d)
  | _, _, _, .nil => .nil
  | 0, _, _, .cons _ b => .cons r b
  | i + 1, _, _, .cons a b => .cons a (Reps.set r i b)
end

/-! ### numbers -/
def oII (C : Int → Int → Prop) (f : Int → Int → D) (x y : D) (S : Sto) (K : KE) : Prop := match x, y with
  | .int a, .int b => C a b ∧ K (f a b) S
  | _, _ => False
theorem go_ii {X : Cx} {f : Value → Value → Sem Value} {C : Int → Int → Prop} {g : Int → Int → V} {gd : Int → Int → D} (h : OpR X f (rI C g)) (hr : ∀ H A i j, Rep H A (g i j) (gd i j)) : OpR X f (liftO (oII C gd)) :=
  OpR.imp h fun x y H Q ⟨N, S, dx, dy, K, c, r1, r2, o, q⟩ => by
    cases r1 <;> cases r2 <;> first | exact o.elim | skip
    exact ⟨_, _, rfl, rfl, o.1, q.here c o.2 (hr _ _ _ _)⟩
theorem go_ii0 {X : Cx} {f : Value → Value → Sem Value} {g : Int → Int → V} (h : OpR X f (rI0 g)) : OpR X f (rI (fun _ _ => True) g) := OpR.imp h fun x y H Q ⟨i, j, a, b, _, q⟩ => ⟨i, j, a, b, q⟩
section
variable {X : Cx}
def oSub : Op2 := oII (fun _ _ => True) fun a b => .int (a - b)
theorem go_sub : OpR X (binaryOp .Sub) (liftO oSub) := go_ii (go_ii0 op_sub) fun _ _ _ _ => .int _
/-- both below 2 ^ 400000 -/
def Med (i : Int) : Prop := i.natAbs.log2 < 400000
def oDiv : Op2 := oII (fun _ b => 0 < b ∧ b.natAbs.log2 < 9000) fun a b => .int (a / b)
theorem go_div : OpR X (binaryOp .FloorDiv) (liftO oDiv) := go_ii op_fdivW fun _ _ _ _ => .int _
def oMod : Op2 := oII (fun _ b => b ≠ 0) fun a b => .int (a.fmod b)
theorem go_mod : OpR X (binaryOp .Mod) (liftO oMod) := go_ii op_modN fun _ _ _ _ => .int _
def oPow : Op2 := oII (fun a b => 0 ≤ b ∧ b ≤ 1000000 ∧ a.natAbs < 2 ^ 64) fun a b => .int (a ^ b.toNat)
theorem go_pow : OpR X (binaryOp .Pow) (liftO oPow) := go_ii op_pow fun _ _ _ _ => .int _

/-! ### + and * -/
def lstOf (S : Sto) (d : D) : Option (List D) := match d with
  | .lst ds => some ds
  | .cell c => match S c with
    | some (.lst ds) => some ds
    | _ => none
  | _ => none
theorem lstOf_rd {N : Hid} {H : Hp} {S : Sto} {v : V} {d : D} {ds : List D} (c : CellsOk N H S) (r : Rep H (alive N S) v d) (e : lstOf S d = some ds) : ∃ a vs, v = .ref a ∧ Rd H a (.lst vs) ∧ Reps H (alive N S) vs ds := by
  cases r with
  | lst rd na rs => cases e; exact ⟨_, _, rfl, .inl rd, rs⟩
  | cell a =>
    have ee : lstOf S (.cell a) = match S a with
      | some (.lst ds) => some ds
      | _ => none := rfl
    rw [ee] at e
    split at e <;> try (cases e; done)
    rename_i es h
    cases e
    obtain ⟨vs, e2, rs⟩ := c.at_ _ _ h
    exact ⟨a, vs, rfl, .inl e2, rs⟩
  | _ => cases e
theorem op_catR : OpR X (binaryOp .Add) (fun x y H Q => ∃ l b xs zs, x = .ref l ∧ y = .ref b ∧ Rd H l (.lst xs) ∧ Rd H b (.lst zs) ∧ xs.length + zs.length ≤ sizeLine ∧ ∀ p, H p = none → Q (.ref p) (upd H p (.lst (xs ++ zs)))) := by
  intro pins s σ H x y v u Q I rx ry ⟨l, b, xs, zs, ex, ey, hl, hb, hz, q⟩
  subst ex ey
  cases rx
  cases ry
  obtain ⟨n1, its, n, r, e⟩ := hl.ok I.hok
  obtain ⟨n2, its2, n', r2, e2⟩ := hb.ok I.hok
  refine PySem.P.add_list e e2 ?_ (by rw [List.size_toArray, List.size_toArray, ← r.length, ← r2.length]; exact hz)
  rw [show its.toArray ++ its2.toArray = (its ++ its2).toArray by simp]
  have nf : H s.heap.objs.size = none := I.hok.fresh (Nat.le_refl _)
  exact ⟨.ref s.heap.objs.size, _, I.lnew (t' := s.toks) (r.append r2) (by rw [List.length_append]; exact hz), rfl, q _ nf⟩
def oAdd (x y : D) (S : Sto) (K : KE) : Prop := match x, y with
  | .int a, .int b => K (.int (a + b)) S
  | .str a, .str b => a.length + b.length ≤ sizeLine ∧ K (.str (a ++ b)) S
  | .tup a, .tup b => a.length + b.length ≤ sizeLine ∧ K (.tup (a ++ b)) S
  | x, y => match lstOf S x, lstOf S y with
    | some ds, some es => ds.length + es.length ≤ sizeLine ∧ K (.lst (ds ++ es)) S
    | _, _ => False
theorem go_add : OpR X (binaryOp .Add) (liftO oAdd) :=
  OpR.imp (OpR.or op_catR (OpR.or op_add (OpR.or op_add_str op_catA))) fun x y H Q ⟨N, S, dx, dy, K, c, r1, r2, o, q⟩ => by
    have gl : (match lstOf S dx, lstOf S dy with
      | some ds, some es => ds.length + es.length ≤ sizeLine ∧ K (.lst (ds ++ es)) S
      | _, _ => False) → ∃ l b xs zs, x = .ref l ∧ y = .ref b ∧ Rd H l (.lst xs) ∧ Rd H b (.lst zs) ∧ xs.length + zs.length ≤ sizeLine ∧ ∀ p, H p = none → Q (.ref p) (upd H p (.lst (xs ++ zs))) := fun k => by
      split at k
      · rename_i ds es e1 e2
        obtain ⟨a1, vs, rfl, rd, rs⟩ := lstOf_rd c r1 e1
        obtain ⟨a2, us, rfl, rd2, rs2⟩ := lstOf_rd c r2 e2
        exact ⟨_, _, _, _, rfl, rfl, rd, rd2, by rw [rs.length, rs2.length]; exact k.1, fun p n => q.newL c k.2 (rs.append rs2) n⟩
      · exact k.elim
    cases r1 with
    | int a =>
      cases r2 with
      | int b => exact .inr (.inl ⟨a, b, rfl, rfl, q.here c o (.int _)⟩)
      | _ => exact .inl (gl o)
    | str a =>
      cases r2 with
      | str b => exact .inr (.inr (.inl ⟨a, b, rfl, rfl, o.1, q.here c o.2 (.str _)⟩))
      | _ => exact .inl (gl o)
    | tup rd na rs =>
      cases r2 with
      | tup rd2 na2 rs2 =>
        refine .inr (.inr (.inr ⟨_, _, _, _, rfl, rfl, .inl rd, .inl rd2, by rw [rs.length, rs2.length]; exact o.1, fun e => ?_, fun _ e => ?_, fun _ _ p n => q.newT c o.2 (rs.append rs2) n⟩))
        · subst e
          cases rs
          exact q.here c o.2 (.tup rd2 na2 rs2)
        · subst e
          cases rs2
          refine q.here c (d := .tup _) o.2 ?_
          rw [List.append_nil]
          exact .tup rd na rs
      | _ => exact .inl (gl o)
    | _ => exact .inl (gl o)
/-- a list and a list: a new one -/
def wCat (a b : WE) : WF := fun ρ S K => a ρ S fun x S1 => b ρ S1 fun y S2 => ∃ ds es, lstOf S2 x = some ds ∧ lstOf S2 y = some es ∧ ds.length + es.length ≤ sizeLine ∧ K (ds ++ es) S2
/-- a list times an int -/
def wRep (a b : WE) : WF := fun ρ S K => a ρ S fun x S1 => b ρ S1 fun y S2 => ∃ ds k, lstOf S2 x = some ds ∧ y = .int k ∧ -(2 ^ 63) ≤ k ∧ k < 2 ^ 63 ∧ ds.length * k.toNat ≤ sizeLine ∧ K (List.replicate k.toNat ds).flatten S2
def repS (z : Str) (k : Int) : Str := ⟨(List.replicate k.toNat z.cps).foldl (· ++ ·) #[]⟩
theorem rep_size (z : Array Nat) : ∀ (n : Nat) (a : Array Nat), ((List.replicate n z).foldl (· ++ ·) a).size = a.size + n * z.size
  | 0, a => by simp
  | n + 1, a => by
    show ((List.replicate n z).foldl (· ++ ·) (a ++ z)).size = _
    rw [rep_size z n (a ++ z), Array.size_append, Nat.add_mul, Nat.one_mul]
    omega
theorem op_mulS : OpR X (binaryOp .Mult) (fun x y H Q => ∃ z k, x = .str z ∧ y = .int k ∧ 0 < z.length ∧ z.length ≤ 10000 ∧ 2 ≤ k ∧ k ≤ 1000 ∧ Q (.str (repS z k)) H) := by
  intro pins s σ H x y v u Q I rx ry ⟨z, k, ex, ey, l0, l1, k0, k1, q⟩
  subst ex ey
  obtain ⟨t, rfl⟩ := rx
  obtain ⟨t', rfl⟩ := ry
  have e1 : ¬ k < 1 := by omega
  have e2 : (k == 1 || z.length == 0) = false := by
    rw [Bool.or_eq_false_iff]
    exact ⟨by simpa using (show k ≠ 1 by omega), by simpa using (show z.length ≠ 0 by omega)⟩
  have m1 : z.length * k.toNat ≤ 10000 * 1000 := Nat.mul_le_mul l1 (by omega)
  refine PySem.P.mul_str ?_ (fun _ _ => ?_) (fun _ _ => ?_) ?_
  · rw [decide_eq_false (by omega), decide_eq_false (by omega)]
    rfl
  · have := Int.le_ediv_of_mul_le (a := (10000 : Int)) (b := 2 ^ 63 - 1) (c := k) (by omega) (by omega)
    omega
  · unfold Builtin.Str.tooLong
    exact decide_eq_false (by unfold sizeLine; omega)
  · rw [if_neg e1, if_neg (by rw [e2]; decide)]
    have hs : (repS z k).length ≤ sizeLine := by
      show ((List.replicate k.toNat z.cps).foldl (· ++ ·) #[]).size ≤ _
      rw [rep_size]
      show 0 + k.toNat * z.cps.size ≤ _
      have e : z.cps.size = z.length := rfl
      rw [e, Nat.mul_comm]
      unfold sizeLine
      omega
    exact ⟨hs, .str (repS z k), H, I.tok _, ⟨_, rfl⟩, q⟩
def oMul (x y : D) (S : Sto) (K : KE) : Prop := match x, y with
  | .int a, .int b => a.natAbs.log2 + b.natAbs.log2 < 1000000 ∧ K (.int (a * b)) S
  | .tup ds, .int k => ds ≠ [] ∧ 2 ≤ k ∧ k ≤ 1000 ∧ ds.length ≤ 1000 ∧ K (.tup (List.replicate k.toNat ds).flatten) S
  | .str z, .int k => 0 < z.length ∧ z.length ≤ 10000 ∧ 2 ≤ k ∧ k ≤ 1000 ∧ K (.str (repS z k)) S
  | .lst ds, .int k => -(2 ^ 63) ≤ k ∧ k < 2 ^ 63 ∧ ds.length * k.toNat ≤ sizeLine ∧ K (.lst (List.replicate k.toNat ds).flatten) S
  | _, _ => False
theorem go_mul : OpR X (binaryOp .Mult) (liftO oMul) :=
  OpR.imp (OpR.or op_rep (OpR.or op_mulW (OpR.or op_repT op_mulS))) fun x y H Q ⟨N, S, dx, dy, K, c, r1, r2, o, q⟩ => by
    cases r1 with
    | str z =>
      cases r2 with
      | int k => exact .inr (.inr (.inr ⟨z, k, rfl, rfl, o.1, o.2.1, o.2.2.1, o.2.2.2.1, q.here c o.2.2.2.2 (.str _)⟩))
      | _ => exact o.elim
    | int a =>
      cases r2 with
      | int b => exact .inr (.inl ⟨a, b, rfl, rfl, o.1, q.here c o.2 (.int _)⟩)
      | _ => exact o.elim
    | tup rd na rs =>
      cases r2 with
      | int k =>
        obtain ⟨o1, o2, o3, o4, o5⟩ := o
        refine .inr (.inr (.inl ⟨_, k, _, rfl, rfl, .inl rd, fun e => ?_, o2, o3, by rw [rs.length]; exact o4, fun p n => q.newT c o5 (rs.flat _) n⟩))
        subst e
        cases rs
        exact o1 rfl
      | _ => exact o.elim
    | lst rd na rs =>
      cases r2 with
      | int k =>
        obtain ⟨o1, o2, o3, o4⟩ := o
        exact .inl ⟨_, k, _, rfl, rfl, rd, o1, o2, by rw [rs.length]; exact o3, fun p n => q.newL c o4 (rs.flat _) n⟩
      | _ => exact o.elim
    | _ => exact o.elim

/-! ### comparisons -/
mutual
def D.pd : D → Option PyData
  | .non => some .none
  | .bl b => some (.bool b)
  | .int i => some (.int i)
  | .str x => some (.str x)
  | .tup l => (pds l).map .tuple
  | .lst l => (pds l).map .list
  | _ => none
def pds : List D → Option (List PyData)
  | [] => some []
  | d :: l => match d.pd, pds l with
    | some a, some r => some (a :: r)
    | _, _ => none
end
mutual
theorem Rep.dp {K : PySem.W.Frag} {H : Hp} {A : Addr → Prop} : ∀ (d : D) {v : V} {p : PyData}, Rep H A v d → d.pd = some p → Dp K H v p
  | .non, _, _, r, e => by cases r; cases e; exact .non
  | .bl b, _, _, r, e => by cases r; cases e; exact .bl b
  | .int b, _, _, r, e => by cases r; cases e; exact .int b
  | .str b, _, _, r, e => by cases r; cases e; exact .str b
  | .tup l, _, _, r, e => by
    unfold D.pd at e
    cases q : pds l with
    | none => rw [q] at e; cases e
    | some z =>
      rw [q] at e
      cases e
      cases r with
      | tup rd na rs => exact .tup (.inl rd) (Reps.dp l rs q)
  | .lst l, _, _, r, e => by
    unfold D.pd at e
    cases q : pds l with
    | none => rw [q] at e; cases e
    | some z =>
      rw [q] at e
      cases e
      cases r with
      | lst rd na rs => exact .lst (.inl (.inl rd)) (Reps.dp l rs q)
  | .dic _, _, _, _, e => by cases e
  | .cell _, _, _, _, e => by cases e
  | .fn _, _, _, _, e => by cases e
  | .scr _ _, _, _, _, e => by cases e
  | .ty _, _, _, _, e => by cases e
theorem Reps.dp {K : PySem.W.Frag} {H : Hp} {A : Addr → Prop} : ∀ (ds : List D) {vs : List V} {ps : List PyData}, Reps H A vs ds → pds ds = some ps → DpAll K H vs ps
  | [], _, _, r, e => by cases r; cases e; exact .nil
  | d :: ds, _, _, r, e => by
    unfold pds at e
    cases r with
    | cons r1 r2 =>
      cases q1 : d.pd with
      | none => rw [q1] at e; cases e
      | some a =>
        cases q2 : pds ds with
        | none => rw [q1, q2] at e; cases e
        | some z =>
          rw [q1, q2] at e
          cases e
          exact .cons (Rep.dp d r1 q1) (Reps.dp ds r2 q2)
end
theorem top_dp {Kf : PySem.W.Frag} {N : Hid} {H : Hp} {S : Sto} {v : V} {d : D} {p : PyData} (c : CellsOk N H S) (r : Rep H (alive N S) v d) (e : (top S d).pd = some p) : Dp Kf H v p := by
  cases r with
  | cell a =>
    have ee : top S (.cell a) = match S a with
      | some (.lst ds) => .lst ds
      | some (.dic es) => .dic es
      | _ => .cell a := rfl
    rw [ee] at e
    split at e
    · rename_i ds h
      obtain ⟨vs, e2, rs⟩ := c.at_ _ _ h
      unfold D.pd at e
      cases q : pds ds with
      | none => rw [q] at e; cases e
      | some z =>
        rw [q] at e
        cases e
        exact .lst (.inl (.inl e2)) (Reps.dp ds rs q)
    · cases e
    · cases e
  | non => exact Rep.dp (H := H) (A := alive N S) .non .non e
  | bl b => exact Rep.dp (H := H) (A := alive N S) (.bl b) (.bl b) e
  | int b => exact Rep.dp (H := H) (A := alive N S) (.int b) (.int b) e
  | str b => exact Rep.dp (H := H) (A := alive N S) (.str b) (.str b) e
  | ty n => cases e
  | fn n => cases e
  | scr n => cases e
  | tup rd na rs => exact Rep.dp _ (.tup rd na rs) e
  | lst rd na rs => exact Rep.dp _ (.lst rd na rs) e
  | dic rd na rs => cases e
def oEqB (f : Bool → Bool) (x y : D) (S : Sto) (K : KE) : Prop := (∃ a b, x = .str a ∧ y = .str b ∧ K (.bl (f (a == b))) S) ∨ ∃ p q, (top S x).pd = some p ∧ (top S y).pd = some q ∧ SeqAt.shaped p = true ∧ SeqAt.shaped q = true ∧ K (.bl (f (PyData.eqv p q))) S
def oEq : Op2 := oEqB id
def oNe : Op2 := oEqB not
theorem go_eqB {op : CmpOp} {f : Bool → Bool} {r : R2} (h1 : OpR X (compareOp op) (fun x y H Q => ∃ a b, x = .str a ∧ y = .str b ∧ Q (.bl (f (a == b))) H)) (h2 : OpR X (compareOp op) (fun x y H Q => ∃ p q, Dp X.K H x p ∧ Dp X.K H y q ∧ SeqAt.shaped p = true ∧ SeqAt.shaped q = true ∧ Q (.bl (f (PyData.eqv p q))) H)) : OpR X (compareOp op) (liftO (oEqB f)) :=
  OpR.imp (OpR.or h1 h2) fun x y H Q ⟨N, S, dx, dy, K, c, r1, r2, o, q⟩ => by
    rcases o with ⟨a, b, e1, e2, k⟩ | ⟨p, z, e1, e2, s1, s2, k⟩
    · subst e1 e2
      cases r1
      cases r2
      exact .inl ⟨a, b, rfl, rfl, q.here c k (.bl _)⟩
    · exact .inr ⟨p, z, top_dp c r1 e1, top_dp c r2 e2, s1, s2, q.here c k (.bl _)⟩
theorem go_eq (hu : X.A.units + 64 < cLine) : OpR X (compareOp .Eq) (liftO oEq) := go_eqB (r := fun _ _ _ _ => True) (OpR.imp op_eq fun x y H Q ⟨a, b, e1, e2, q⟩ => by
  subst e1 e2
  exact ⟨rfl, by rw [dec_str]; exact q⟩) (op_eqD hu)
theorem go_ne (hu : X.A.units + 64 < cLine) : OpR X (compareOp .NotEq) (liftO oNe) := go_eqB (r := fun _ _ _ _ => True) (OpR.imp op_ne fun x y H Q ⟨a, b, e1, e2, q⟩ => by
  subst e1 e2
  exact ⟨rfl, by rw [dec_str]; exact q⟩) (op_neD hu)
/-- <, <= of ints, of texts -/
def oOrd (f : Int → Int → Bool) (g : Str → Str → Bool) (x y : D) (S : Sto) (K : KE) : Prop := match x, y with
  | .int a, .int b => K (.bl (f a b)) S
  | .str a, .str b => K (.bl (g a b)) S
  | _, _ => False
theorem go_ord {op : CmpOp} {f : Int → Int → Bool} {g : Str → Str → Bool} (h1 : OpR X (compareOp op) (rI0 fun i j => .bl (f i j))) (h2 : OpR X (compareOp op) (fun x y H Q => ∃ i j, x = .str i ∧ y = .str j ∧ Q (.bl (g i j)) H)) : OpR X (compareOp op) (liftO (oOrd f g)) :=
  OpR.imp (OpR.or h1 h2) fun x y H Q ⟨N, S, dx, dy, K, c, r1, r2, o, q⟩ => by
    cases r1 with
    | int a =>
      cases r2 with
      | int b => exact .inl ⟨a, b, rfl, rfl, q.here c o (.bl _)⟩
      | _ => exact o.elim
    | str a =>
      cases r2 with
      | str b => exact .inr ⟨a, b, rfl, rfl, q.here c o (.bl _)⟩
      | _ => exact o.elim
    | _ => exact o.elim
def oLt : Op2 := oOrd (fun i j => decide (i < j)) fun i j => decide (i.cps.toList < j.cps.toList)
def oLe : Op2 := oOrd (fun i j => decide (i ≤ j)) fun i j => !decide (j.cps.toList < i.cps.toList)
def oGt : Op2 := oOrd (fun i j => decide (j < i)) fun i j => decide (j.cps.toList < i.cps.toList)
def oGe : Op2 := oOrd (fun i j => decide (j ≤ i)) fun i j => !decide (i.cps.toList < j.cps.toList)
theorem go_lt : OpR X (compareOp .Lt) (liftO oLt) := go_ord op_lt op_lt_str
theorem go_le : OpR X (compareOp .LtE) (liftO oLe) := go_ord op_le op_le_str
theorem go_gt : OpR X (compareOp .Gt) (liftO oGt) := go_ord op_gt op_gt_str
theorem go_ge : OpR X (compareOp .GtE) (liftO oGe) := go_ord op_ge op_ge_str
/-- is None, is True -/
def D.isNon : D → Bool
  | .non => true
  | _ => false
def oIsB (f : Bool → Bool) (x y : D) (S : Sto) (K : KE) : Prop := match y with
  | .non => K (.bl (f x.isNon)) S
  | .bl b => ∃ a, x = .bl a ∧ K (.bl (f (decide (a = b)))) S
  | _ => False
def oIs : Op2 := oIsB id
def oIsNot : Op2 := oIsB not
theorem isNon_of {H : Hp} {A : Addr → Prop} {v : V} {d : D} (r : Rep H A v d) : decide (v = .non) = d.isNon := by
  cases r <;> rfl
theorem go_isB {op : CmpOp} {f : Bool → Bool} (h1 : OpR X (compareOp op) (fun x y H Q => y = .non ∧ Q (.bl (f (decide (x = .non)))) H)) (h2 : OpR X (compareOp op) (fun x y H Q => ∃ a b, x = .bl a ∧ y = .bl b ∧ Q (.bl (f (decide (a = b)))) H)) : OpR X (compareOp op) (liftO (oIsB f)) :=
  OpR.imp (OpR.or h1 h2) fun x y H Q ⟨N, S, dx, dy, K, c, r1, r2, o, q⟩ => by
    cases r2 with
    | non => exact .inl ⟨rfl, by rw [isNon_of r1]; exact q.here c o (.bl _)⟩
    | bl b =>
      obtain ⟨a, rfl, o⟩ := o
      cases r1
      exact .inr ⟨a, b, rfl, rfl, q.here c o (.bl _)⟩
    | _ => exact o.elim
theorem go_is : OpR X (compareOp .Is) (liftO oIs) := go_isB op_isN op_isBl
theorem go_isNot : OpR X (compareOp .IsNot) (liftO oIsNot) := go_isB op_notN op_notBl
end
end G

set_option Elab.async false
set_option linter.all false
set_option maxRecDepth 100000
set_option autoImplicit false
namespace G
open PySem PySem.Spec PyProof.Rows L2

section
variable {X : Cx}
/-! ### in, not in -/
def seqOf (S : Sto) (d : D) : Option (List D) := match d with
  | .lst ds => some ds
  | .tup ds => some ds
  | .cell c => match S c with
    | some (.lst ds) => some ds
    | _ => none
  | _ => none
def oInB (f : Bool → Bool) (x y : D) (S : Sto) (K : KE) : Prop := match y with
  | .str z => ∃ c : Nat, x = .str ⟨#[c]⟩ ∧ K (.bl (f (decide (c ∈ z.cps.toList)))) S
  | y => ∃ ds p qs, seqOf S y = some ds ∧ (top S x).pd = some p ∧ pds ds = some qs ∧ SeqAt.shaped p = true ∧ SeqAt.shaped (.list qs) = true ∧ K (.bl (f (qs.any fun z => PyData.eqv z p))) S
def oIn : Op2 := oInB id
def oNotIn : Op2 := oInB not
theorem shaped_tup {qs : List PyData} (h : SeqAt.shaped (.list qs) = true) : SeqAt.shaped (.tuple qs) = true := by
  simpa [SeqAt.shaped, PyData.canLay0, PyData.depth] using h
def rInDT (Kf : PySem.W.Frag) (f : Bool → Bool) : R2 := fun x y H Q => ∃ d ds, Dp Kf H x d ∧ Dp Kf H y (.tuple ds) ∧ SeqAt.shaped d = true ∧ SeqAt.shaped (.tuple ds) = true ∧ Q (.bl (f (ds.any fun z => PyData.eqv z d))) H
theorem op_inDT (hu : X.A.units + 65 < cLine) : OpR X (compareOp .In) (rInDT X.K id) := by
  intro pins s σ H x y v u Q I rx ry ⟨d, ds, hd, he, sd, se, q⟩
  obtain ⟨as, ra⟩ := Dp.reads I d x v hd rx
  obtain ⟨bs, rb⟩ := Dp.reads I (.tuple ds) y u he ry
  exact SeqAt.in_tuple_reads rb ra (SeqAt.canLay_of_shaped se) (SeqAt.canLay_of_shaped sd) (room_in_shaped sd hu) ⟨.bl _, H, I, rfl, q⟩
theorem op_notInDT (hu : X.A.units + 65 < cLine) : OpR X (compareOp .NotIn) (rInDT X.K not) := by
  intro pins s σ H x y v u Q I rx ry ⟨d, ds, hd, he, sd, se, q⟩
  obtain ⟨as, ra⟩ := Dp.reads I d x v hd rx
  obtain ⟨bs, rb⟩ := Dp.reads I (.tuple ds) y u he ry
  exact SeqAt.notIn_tuple_reads rb ra (SeqAt.canLay_of_shaped se) (SeqAt.canLay_of_shaped sd) (room_in_shaped sd hu) ⟨.bl _, H, I, rfl, q⟩
theorem seq_dp {Kf : PySem.W.Frag} {N : Hid} {H : Hp} {S : Sto} {v : V} {d : D} {ds : List D} {qs : List PyData} (c : CellsOk N H S) (r : Rep H (alive N S) v d) (e : seqOf S d = some ds) (e2 : pds ds = some qs) : Dp Kf H v (.list qs) ∨ Dp Kf H v (.tuple qs) := by
  cases r with
  | lst rd na rs => cases e; exact .inl (.lst (.inl (.inl rd)) (Reps.dp _ rs e2))
  | tup rd na rs => cases e; exact .inr (.tup (.inl rd) (Reps.dp _ rs e2))
  | cell a =>
    have ee : seqOf S (.cell a) = match S a with
      | some (.lst ds) => some ds
      | _ => none := rfl
    rw [ee] at e
    split at e <;> try (cases e; done)
    rename_i es h
    cases e
    obtain ⟨vs, e3, rs⟩ := c.at_ _ _ h
    exact .inl (.lst (.inl (.inl e3)) (Reps.dp _ rs e2))
  | _ => cases e
theorem go_inB {op : CmpOp} {f : Bool → Bool} (h1 : OpR X (compareOp op) (fun x y H Q => ∃ (c : Nat) (z : Str), x = .str ⟨#[c]⟩ ∧ y = .str z ∧ Q (.bl (f (decide (c ∈ z.cps.toList)))) H))
    (h2 : OpR X (compareOp op) (fun x y H Q => ∃ d ds, Dp X.K H x d ∧ Dp X.K H y (.list ds) ∧ SeqAt.shaped d = true ∧ SeqAt.shaped (.list ds) = true ∧ Q (.bl (f (ds.any fun z => PyData.eqv z d))) H)) (h3 : OpR X (compareOp op) (rInDT X.K f)) : OpR X (compareOp op) (liftO (oInB f)) :=
  OpR.imp (OpR.or h1 (OpR.or h2 h3)) fun x y H Q ⟨N, S, dx, dy, K, c, r1, r2, o, q⟩ => by
    have go : (∃ ds p qs, seqOf S dy = some ds ∧ (top S dx).pd = some p ∧ pds ds = some qs ∧ SeqAt.shaped p = true ∧ SeqAt.shaped (.list qs) = true ∧ K (.bl (f (qs.any fun z => PyData.eqv z p))) S) → (∃ d ds, Dp X.K H x d ∧ Dp X.K H y (.list ds) ∧ SeqAt.shaped d = true ∧ SeqAt.shaped (.list ds) = true ∧ Q (.bl (f (ds.any fun z => PyData.eqv z d))) H) ∨ rInDT X.K f x y H Q := fun ⟨ds, p, qs, e1, e2, e3, s1, s2, k⟩ => by
      rcases seq_dp (Kf := X.K) c r2 e1 e3 with z | z
      · exact .inl ⟨p, qs, top_dp c r1 e2, z, s1, s2, q.here c k (.bl _)⟩
      · exact .inr ⟨p, qs, top_dp c r1 e2, z, s1, shaped_tup s2, q.here c k (.bl _)⟩
    cases r2 with
    | str z =>
      obtain ⟨ch, rfl, k⟩ := o
      cases r1
      exact .inl ⟨ch, z, rfl, rfl, q.here c k (.bl _)⟩
    | _ => exact .inr (go o)
theorem go_in (hu : X.A.units + 65 < cLine) : OpR X (compareOp .In) (liftO oIn) := go_inB op_in_sign (op_inD hu) (op_inDT hu)
theorem go_notIn (hu : X.A.units + 65 < cLine) : OpR X (compareOp .NotIn) (liftO oNotIn) := go_inB op_notIn_sign (op_notInD hu) (op_notInDT hu)

/-! ### one place -/
abbrev Op1 := D → Sto → KE → Prop
def wOp1 (o : Op1) (a : WE) : WE := fun ρ S K => a ρ S fun x S1 => o x S1 K
def oNeg (x : D) (S : Sto) (K : KE) : Prop := match x with
  | .int i => K (.int (-i)) S
  | _ => False
variable {a b e e2 e3 : Expr} {es : List Expr} {wa wb w w2 w3 : WE} {wr : WA} {pos : Pos}
theorem ge_negi {i : Int} {k : Nat} {p : Pos} : GE X (.UnaryOp .USub (.Constant (.int i) k p) pos) (wC (.int (-i))) :=
  PE.imp (pe_un un_neg pe_int) fun σ H Q h => ⟨i, rfl, lift_const (fun _ _ => .int _) σ H Q h⟩
/-- a < b < c -/
def wChain (o o' : Op2) (a b c : WE) : WE := fun ρ S K => a ρ S fun x S1 => b ρ S1 fun y S2 => o x y S2 fun z S3 => ∃ k, z = .bl k ∧ (k = true → c ρ S3 fun w S4 => o' y w S4 K) ∧ (k = false → K (.bl false) S3)
variable {c : Expr} {wc : WE} {o o' : Op2} {op op' : CmpOp}
theorem lift_chain : ∀ σ H Q, liftE (wChain o o' wa wb wc) σ H Q → tChain (liftO o) (liftO o') (liftE wa) (liftE wb) (liftE wc) σ H Q := by
  intro σ H Q ⟨N, ρ, S, K, ab, h, q⟩
  refine liftE.mk ab h fun x S1 h1 v H1 t1 c1 r1 => ?_
  refine liftE.mk (ab.mono t1 c1) h1 fun y S2 h2 u H2 t2 c2 r2 => ?_
  refine ⟨N, S2, x, y, _, c2, r1.mono t2, r2, h2, fun z S3 ⟨k, ez, h3, h4⟩ z' H3 t3 c3 r3 => ?_⟩
  subst ez
  cases r3
  refine ⟨k, rfl, ?_⟩
  have t123 := (t1.trans t2).trans t3
  cases k with
  | true =>
    refine iteT (liftE.mk (ab.mono t123 c3) (h3 rfl) fun w S4 h5 u4 H4 t4 c4 r4 => ?_)
    exact ⟨N, S4, y, w, K, c4, (r2.mono t3).mono t4, r4, h5, q.of (t123.trans t4)⟩
  | false => exact iteF (q _ _ (h4 rfl) _ _ t123 c3 (.bl _))
theorem ge_chain (h1 : OpR X (compareOp op) (liftO o)) (h2 : OpR X (compareOp op') (liftO o')) (ha : GE X a wa) (hb : GE X b wb) (hc : GE X c wc) (hm : lastMarks [op, op'] [b, c] = false := by with_unfolding_all rfl) : GE X (.Compare a [op, op'] [b, c] pos) (wChain o o' wa wb wc) :=
  PE.imp (pe_chain h1 h2 ha hb hc hm) lift_chain
theorem gt_chain (h1 : OpR X (compareOp op) (liftO o)) (h2 : OpR X (compareOp op') (liftO o')) (ha : GE X a wa) (hb : GE X b wb) (hc : GE X c wc) (hm : lastMarks [op, op'] [b, c] = false := by with_unfolding_all rfl) : GT X (.Compare a [op, op'] [b, c] pos) (wTest (wChain o o' wa wb wc)) :=
  PT.imp (pt_chain h1 h2 ha hb hc hm) fun σ H Q h => (lift_test lift_chain σ H Q h).2

/-! ### a[i] -/
def oIx (x y : D) (S : Sto) (K : KE) : Prop := match y with
  | .int i => (match x with
    | .str z => z.length ≤ sizeLine ∧ (match atI z.cps.toList i with
      | some c => K (.str ⟨#[c]⟩) S
      | none => False)
    | x => (match seqOf S x with
      | some ds => (match atI ds i with
        | some d => K d S
        | none => False)
      | none => False))
  | _ => False
theorem Reps.at_ {H : Hp} {A : Addr → Prop} {vs : List V} {ds : List D} {i : Int} {d : D} (r : Reps H A vs ds) (h : atI ds i = some d) : ∃ v, atI vs i = some v ∧ Rep H A v d := by
  unfold atI at h ⊢
  rw [r.length]
  cases q : ixN ds.length i with
  | none => rw [q] at h; cases h
  | some j =>
    rw [q] at h
    exact r.getD h
theorem seq_sq {Kf : PySem.W.Frag} {N : Hid} {H : Hp} {S : Sto} {v : V} {d : D} {ds : List D} (c : CellsOk N H S) (r : Rep H (alive N S) v d) (e : seqOf S d = some ds) : ∃ p vs, v = .ref p ∧ (SqL Kf H p vs ∨ SqT Kf H p vs) ∧ Reps H (alive N S) vs ds := by
  cases r with
  | lst rd na rs => cases e; exact ⟨_, _, rfl, .inl (.inl (.inl rd)), rs⟩
  | tup rd na rs => cases e; exact ⟨_, _, rfl, .inr (.inl rd), rs⟩
  | cell a =>
    have ee : seqOf S (.cell a) = match S a with
      | some (.lst ds) => some ds
      | _ => none := rfl
    rw [ee] at e
    split at e <;> try (cases e; done)
    rename_i es h
    cases e
    obtain ⟨vs, e3, rs⟩ := c.at_ _ _ h
    exact ⟨a, vs, rfl, .inl (.inl (.inl e3)), rs⟩
  | _ => cases e
theorem ge_ix (ha : GE X a wa) (hb : GE X b wb) (hs : PlainIx b := by intro _ _; rfl) : GE X (.Subscript a b pos) (wOp2 oIx wa wb) := by
  refine PE.imp (pe_ix ix_seq ha hb hs) fun σ H Q h0 => ?_
  have h0 := lift_op2 σ H Q h0
  revert h0
  have imp : ∀ x y H, liftO oIx x y H Q → rIx X.K x y H Q := fun x y H ⟨N, S, dx, dy, K, c, r1, r2, o, q⟩ => by
    have go : ∀ i, y = .int i → (match seqOf S dx with
      | some ds => (match atI ds i with
        | some d => K d S
        | none => False)
      | none => False) → rIx X.K x y H Q := fun i ey k => by
      split at k
      · rename_i ds e1
        split at k
        · rename_i d e2
          obtain ⟨p, vs, rfl, sq, rs⟩ := seq_sq (Kf := X.K) c r1 e1
          obtain ⟨v, e3, rv⟩ := rs.at_ e2
          rcases sq with sq | sq
          · exact .inl ⟨p, vs, i, v, rfl, ey, sq, e3, q.here c k rv⟩
          · exact .inr (.inl ⟨p, vs, i, v, rfl, ey, sq, e3, q.here c k rv⟩)
        · exact k.elim
      · exact k.elim
    cases r2 with
    | int i =>
      cases r1 with
      | str z =>
        obtain ⟨l, k⟩ := o
        split at k
        · rename_i ch e1
          exact .inr (.inr ⟨z, i, ch, rfl, rfl, l, e1, q.here c k (.str _)⟩)
        · exact k.elim
      | _ => exact go i rfl o
    | _ => exact o.elim
  intro ⟨N, ρ, S, K1, ab, h, q⟩
  refine ⟨N, ρ, S, K1, ab, h, fun d S' k v H' t c r => ?_⟩
  obtain ⟨N2, ρ2, S2, K2, ab2, h2, q2⟩ := q d S' k v H' t c r
  exact ⟨N2, ρ2, S2, K2, ab2, h2, fun d2 S3 k2 v2 H2 t2 c2 r2 => imp _ _ _ (q2 d2 S3 k2 v2 H2 t2 c2 r2)⟩

/-! ### a[i:j] -/
abbrev WO := Rho → Sto → (Option Int → Sto → Prop) → Prop
def liftOp (w : WO) : TO := fun σ H Q => ∃ N ρ S K, Abs N S H σ ρ ∧ w ρ S K ∧ ∀ o S', K o S' → ∀ H', Tr N H S H' S' → CellsOk N H' S' → Q o H'
abbrev GOp (X : Cx) (e : Option Expr) (w : WO) : Prop := PO X e (liftOp w)
def wONo : WO := fun _ S K => K none S
def wOSo (a : WE) : WO := fun ρ S K => a ρ S fun x S1 => match x with
  | .int i => K (some i) S1
  | _ => False
theorem PO.imp {e : Option Expr} {t t' : TO} (h : PO X e t) (k : ∀ σ H Q, t' σ H Q → t σ H Q) : PO X e t' := ⟨fun pins s σ H Q I q => h.run pins s σ H Q I (k _ _ _ q)⟩
theorem gp_no : GOp X none wONo := PO.imp po_none fun σ H Q ⟨N, ρ, S, K, ab, h, q⟩ => q none S h H (.refl N H S) ab.cells
theorem gp_so (ha : GE X a wa) : GOp X (some a) (wOSo wa) := by
  refine PO.imp (po_some ha) fun σ H Q ⟨N, ρ, S, K, ab, h, q⟩ => ?_
  refine liftE.mk ab h fun x S1 h1 v H1 t1 c1 r1 => ?_
  cases r1 with
  | int i => exact ⟨i, rfl, q _ _ h1 H1 t1 c1⟩
  | _ => exact h1.elim
def cutD {α : Type} (xs : List α) (lo hi : Option Int) : List α := (xs.drop (HT.sIx xs.length 0 lo)).take (HT.sIx xs.length xs.length hi - HT.sIx xs.length 0 lo)
theorem Reps.cut {H : Hp} {A : Addr → Prop} {vs : List V} {ds : List D} (r : Reps H A vs ds) (lo hi : Option Int) : Reps H A (cutV vs lo hi) (cutD ds lo hi) := by
  unfold cutV cutD
  rw [r.length]
  exact (r.drop _).take _
/-- of a text or a tuple -/
def oSl (x : D) (lo hi : Option Int) (S : Sto) (K : KE) : Prop := match x with
  | .str z => z.length ≤ sizeLine ∧ K (.str (cutS z lo hi)) S
  | .tup ds => K (.tup (cutD ds lo hi)) S
  | .lst ds => K (.lst (cutD ds lo hi)) S
  | .cell c => match S c with
    | some (.lst ds) => K (.lst (cutD ds lo hi)) S
    | _ => False
  | _ => False
def wSl (a : WE) (lo hi : WO) : WE := fun ρ S K => a ρ S fun x S1 => lo ρ S1 fun l S2 => hi ρ S2 fun h S3 => oSl x l h S3 K
variable {lo hi : Option Expr} {wl wh : WO} {p2 : Pos}
theorem ge_sl (ha : GE X a wa) (hl : GOp X lo wl) (hh : GOp X hi wh) : GE X (.Subscript a (.Slice lo hi none p2) pos) (wSl wa wl wh) := by
  refine PE.imp (pe_slice (SlR.or sl_list (SlR.or sl_tupA sl_str)) ha hl hh) fun σ H Q ⟨N, ρ, S, K, ab, h, q⟩ => ?_
  refine liftE.mk ab h fun x S1 h1 v H1 t1 c1 r1 => ?_
  refine ⟨N, ρ, S1, _, ab.mono t1 c1, h1, fun l S2 h2 H2 t2 c2 => ?_⟩
  refine ⟨N, ρ, S2, _, (ab.mono t1 c1).mono t2 c2, h2, fun u S3 h3 H3 t3 c3 => ?_⟩
  have r3 := (r1.mono t2).mono t3
  have qq := q.of ((t1.trans t2).trans t3)
  cases r3 with
  | lst rd na rs => exact .inl ⟨_, _, rfl, .inl (.inl rd), fun p n => qq.newL c3 h3 (rs.cut l u) n⟩
  | cell a =>
    have h3 : (match S3 a with
      | some (.lst ds) => K (.lst (cutD ds l u)) S3
      | _ => False) := h3
    split at h3
    · rename_i ds e
      obtain ⟨vs, e3, rs⟩ := c3.at_ _ _ e
      exact .inl ⟨_, _, rfl, .inl (.inl e3), fun p n => qq.newL c3 h3 (rs.cut l u) n⟩
    · exact h3.elim
  | @tup a vs ds rd na rs =>
    refine .inr (.inl ⟨_, _, rfl, .inl rd, fun e => qq.here c3 h3 ?_, fun e p n => qq.newT c3 h3 (rs.cut l u) n⟩)
    have ed : cutD ds l u = ds := by
      unfold cutD
      rw [rs.length] at e
      rw [e.1, e.2, List.drop_zero, Nat.sub_zero, List.take_length]
    rw [ed]
    exact .tup rd na rs
  | str z => exact .inr (.inr ⟨z, rfl, h3.1, qq.here c3 h3.2 (.str _)⟩)
  | _ => exact h3.elim
/-- of a list: a new one -/
def LstK (F : PySem.W.Frag) (S : Sto) (d : D) (ds : List D) : Prop := lstOf S d = some ds ∨ ∃ ns, d = .scr F ns ∧ ds = ns.map D.int
theorem Reps.ints {H : Hp} {A : Addr → Prop} : ∀ ns : List Int, Reps H A (ns.map V.int) (ns.map D.int)
  | [] => .nil
  | n :: ns => .cons (.int n) (Reps.ints ns)
theorem lstK_sq {F : PySem.W.Frag} {N : Hid} {H : Hp} {S : Sto} {v : V} {d : D} {ds : List D} (c : CellsOk N H S) (r : Rep H (alive N S) v d) (e : LstK F S d ds) : ∃ a vs, v = .ref a ∧ SqL F H a vs ∧ Reps H (alive N S) vs ds := by
  rcases e with e | ⟨ns, rfl, rfl⟩
  · obtain ⟨a, vs, e1, rd, rs⟩ := lstOf_rd c r e
    exact ⟨a, vs, e1, .inl rd, rs⟩
  · cases r with
    | scr h => exact ⟨_, _, rfl, h.sq, Reps.ints ns⟩
def wSlF (F : PySem.W.Frag) (a : WE) (lo hi : WO) : WF := fun ρ S K => a ρ S fun x S1 => lo ρ S1 fun l S2 => hi ρ S2 fun h S3 => ∃ ds, LstK F S3 x ds ∧ K (cutD ds l h) S3
theorem gf_sl (ha : GE X a wa) (hl : GOp X lo wl) (hh : GOp X hi wh) : GF X (.Subscript a (.Slice lo hi none p2) pos) (wSlF X.K wa wl wh) := by
  refine PE.imp (pe_slice sl_list ha hl hh) fun σ H Q ⟨N, ρ, S, K, ab, h, q⟩ => ?_
  refine liftE.mk ab h fun x S1 h1 v H1 t1 c1 r1 => ?_
  refine ⟨N, ρ, S1, _, ab.mono t1 c1, h1, fun l S2 h2 H2 t2 c2 => ?_⟩
  refine ⟨N, ρ, S2, _, (ab.mono t1 c1).mono t2 c2, h2, fun u S3 ⟨ds, e, k⟩ H3 t3 c3 => ?_⟩
  obtain ⟨a, vs, rfl, sq, rs⟩ := lstK_sq c3 ((r1.mono t2).mono t3) e
  exact ⟨a, vs, rfl, sq, fun p n => q _ _ k p H3 _ ((t1.trans t2).trans t3) c3 (rs.cut l u) n⟩

/-! ### calls of what is built in -/
abbrev OpC := List D → Sto → KE → Prop
def wCall (o : OpC) (args : WA) : WE := fun ρ S K => args ρ S fun ds S1 => o ds S1 K
def liftC (o : OpC) : List V → Hp → VK → Prop := fun xs H Q => ∃ N S ds K, CellsOk N H S ∧ Reps H (alive N S) xs ds ∧ o ds S K ∧ liftK N H S K Q
theorem CallR.imp {f : Value} {r r' : List V → Hp → VK → Prop} (h : CallR X f r) (k : ∀ xs H Q, r' xs H Q → r xs H Q) : CallR X f r' := fun pins s σ H xs us Q I rs q => h pins s σ H xs us Q I rs (k _ _ _ q)
theorem lift_call {o : OpC} {w : WA} : ∀ σ H Q, liftE (wCall o w) σ H Q → tCB (liftC o) (liftA w) σ H Q := fun σ H Q ⟨N, ρ, S, K, ab, h, q⟩ =>
  ⟨N, ρ, S, _, ab, h, fun ds S1 k vs H1 t1 c1 r1 => ⟨N, S1, ds, K, c1, r1, k, q.of t1⟩⟩
variable {x : Str} {id T : String} {o : OpC} {p : Pos}
theorem ge_callB (hc : CallR X (.builtin id) (liftC o)) (hm : X.mg x = none) (hv : bootBuiltins x = some (.builtin id)) (ha : GAs X (e :: es) wr) (hg : Gl X x := by rfl) (hn : x ≠ "__name__" := by decide) (hdb : (x == ("__debug__" : Str)) = false := by decide)
    (hs : starEach (e :: es) X.env = (false, eval e X.env) :: starEach es X.env := by rfl) (hpl : (backTo pos (starEach es X.env)).any (·.1) = false := by rfl) : GE X (.Call (.Name x p) (e :: es) [] pos) (wCall o wr) :=
  PE.imp (pe_callB hc hg hm hv ha hn hdb hs hpl) lift_call
theorem ge_callT (hc : CallR X (.type T) (liftC o)) (hm : X.mg x = none) (hv : bootBuiltins x = some (.type T)) (ha : GAs X (e :: es) wr) (hg : Gl X x := by rfl) (hn : x ≠ "__name__" := by decide) (hdb : (x == ("__debug__" : Str)) = false := by decide)
    (hs : starEach (e :: es) X.env = (false, eval e X.env) :: starEach es X.env := by rfl) (hpl : (backTo pos (starEach es X.env)).any (·.1) = false := by rfl) : GE X (.Call (.Name x p) (e :: es) [] pos) (wCall o wr) :=
  PE.imp (pe_callTy hc hg hm hv ha hn hdb hs hpl) lift_call
end
end G

set_option Elab.async false
set_option linter.all false
set_option maxRecDepth 100000
set_option autoImplicit false
namespace G
open PySem PySem.Spec PyProof.Rows L2

section
variable {X : Cx}
/-! ### one argument -/
def one (o : Op1) : OpC := fun ds S K => match ds with
  | [d] => o d S K
  | _ => False
def two (o : Op2) : OpC := fun ds S K => match ds with
  | [d, e] => o d e S K
  | _ => False
theorem gc_one {f : Value} {o : Op1} {r : List V → Hp → VK → Prop} (h : CallR X f r) (k : ∀ N H S v d K Q, CellsOk N H S → Rep H (alive N S) v d → o d S K → liftK N H S K Q → r [v] H Q) : CallR X f (liftC (one o)) :=
  CallR.imp h fun xs H Q ⟨N, S, ds, K, c, rs, o1, q⟩ => by
    cases rs with
    | nil => exact o1.elim
    | cons r1 rr =>
      cases rr with
      | nil => exact k N H S _ _ K Q c r1 o1 q
      | cons _ _ => exact o1.elim
theorem gc_two {f : Value} {o : Op2} {r : List V → Hp → VK → Prop} (h : CallR X f r) (k : ∀ N H S v d u e K Q, CellsOk N H S → Rep H (alive N S) v d → Rep H (alive N S) u e → o d e S K → liftK N H S K Q → r [v, u] H Q) : CallR X f (liftC (two o)) :=
  CallR.imp h fun xs H Q ⟨N, S, ds, K, c, rs, o1, q⟩ => by
    cases rs with
    | nil => exact o1.elim
    | cons r1 rr =>
      cases rr with
      | nil => exact o1.elim
      | cons r2 rr =>
        cases rr with
        | nil => exact k N H S _ _ _ _ K Q c r1 r2 o1 q
        | cons _ _ => exact o1.elim
def oLen (d : D) (S : Sto) (K : KE) : Prop := match d with
  | .str z => z.length ≤ sizeLine ∧ K (.int (z.length : Nat)) S
  | .dic es => K (.int (es.length : Nat)) S
  | d => match seqOf S d with
    | some ds => K (.int (ds.length : Nat)) S
    | none => ∃ c es, d = .cell c ∧ S c = some (.dic es) ∧ K (.int (es.length : Nat)) S
theorem RepK.length {H : Hp} {A : Addr → Prop} : ∀ {vs : List (Key × V)} {ds : List (D × D)}, RepK H A vs ds → vs.length = ds.length
  | _, _, .nil => rfl
  | _, _, .cons _ q => congrArg Nat.succ (RepK.length q)
theorem gc_len : CallR X (.builtin "len") (liftC (one oLen)) :=
  gc_one (CallR.or call_len call_lenD) fun N H S v d K Q c r o q => by
    have go : (match seqOf S d with
      | some ds => K (.int (ds.length : Nat)) S
      | none => ∃ c es, d = .cell c ∧ S c = some (.dic es) ∧ K (.int (es.length : Nat)) S) → (∃ x n, [v] = [x] ∧ LenV X.K x H n ∧ Q (.int n) H) ∨ ∃ a kvs, [v] = [.ref a] ∧ H a = some (.dK kvs) ∧ Q (.int kvs.length) H := fun k => by
      split at k
      · rename_i ds e
        obtain ⟨p, vs, rfl, sq, rs⟩ := seq_sq (Kf := X.K) c r e
        refine .inl ⟨.ref p, ds.length, rfl, ?_, q.here c k (.int _)⟩
        rcases sq with sq | sq
        · exact .inl ⟨vs, sq, rs.length.symm⟩
        · exact .inr ⟨vs, sq, rs.length.symm⟩
      · obtain ⟨a, es, rfl, e, k⟩ := k
        cases r
        obtain ⟨kvs, e2, rs⟩ := c.at_ _ _ e
        exact .inr ⟨a, kvs, rfl, e2, by rw [rs.length]; exact q.here c k (.int _)⟩
    cases r with
    | str z => exact .inl ⟨.str z, z.length, rfl, ⟨o.1, rfl⟩, q.here c o.2 (.int _)⟩
    | dic rd na rs =>
      obtain rd := rd
      exact .inr ⟨_, _, rfl, rd, by rw [rs.length]; exact q.here c o (.int _)⟩
    | _ => exact go o
def oAbs (d : D) (S : Sto) (K : KE) : Prop := match d with
  | .int i => K (.int (if i < 0 then -i else i)) S
  | _ => False
theorem gc_abs : CallR X (.builtin "abs") (liftC (one oAbs)) := gc_one call_abs fun N H S v d K Q c r o q => by
  cases r with
  | int i => exact ⟨i, rfl, q.here c o (.int _)⟩
  | _ => exact o.elim
def oInt (d : D) (S : Sto) (K : KE) : Prop := match d with
  | .int i => K (.int i) S
  | .bl b => K (.int (if b then 1 else 0)) S
  | _ => False
def oMax2 (x y : D) (S : Sto) (K : KE) : Prop := match x, y with
  | .int i, .int j => K (.int (if j > i then j else i)) S
  | _, _ => False
def oMin2 (x y : D) (S : Sto) (K : KE) : Prop := match x, y with
  | .int i, .int j => K (.int (if j < i then j else i)) S
  | _, _ => False
theorem gc_max2 (hc : X.calm = true) : CallR X (.builtin "max") (liftC (two oMax2)) := gc_two (call_max2 hc) fun N H S v d u e K Q c r r2 o q => by
  cases r with
  | int i =>
    cases r2 with
    | int j => exact ⟨i, j, rfl, q.here c o (.int _)⟩
    | _ => exact o.elim
  | _ => exact o.elim
theorem gc_min2 (hc : X.calm = true) : CallR X (.builtin "min") (liftC (two oMin2)) := gc_two (call_min2 hc) fun N H S v d u e K Q c r r2 o q => by
  cases r with
  | int i =>
    cases r2 with
    | int j => exact ⟨i, j, rfl, q.here c o (.int _)⟩
    | _ => exact o.elim
  | _ => exact o.elim
/-- ints of a list -/
def D.int? : D → Option Int
  | .int i => some i
  | _ => none
def ints? : List D → Option (List Int)
  | [] => some []
  | d :: l => match d.int?, ints? l with
    | some a, some r => some (a :: r)
    | _, _ => none
theorem ints_map : ∀ ns : List Int, ints? (ns.map D.int) = some ns
  | [] => rfl
  | n :: ns => by
    show (match some n, ints? (ns.map D.int) with
      | some a, some r => some (a :: r)
      | _, _ => none) = _
    rw [ints_map ns]
theorem Reps.intsV {H : Hp} {A : Addr → Prop} : ∀ {ds : List D} {vs : List V} {ns : List Int}, Reps H A vs ds → ints? ds = some ns → vs = ns.map V.int
  | [], _, _, .nil, e => by cases e; rfl
  | d :: ds, _, ns, .cons r1 r2, e => by
    unfold ints? at e
    cases q1 : d.int? with
    | none => rw [q1] at e; cases e
    | some a =>
      cases q2 : ints? ds with
      | none => rw [q1, q2] at e; cases e
      | some z =>
        rw [q1, q2] at e
        cases e
        cases d <;> try (cases q1; done)
        cases q1
        cases r1
        rw [Reps.intsV r2 q2]
        rfl
def bools? : List D → Option (List Bool)
  | [] => some []
  | .bl b :: l => (bools? l).map fun r => b :: r
  | _ => none
theorem bools_map : ∀ bs : List Bool, bools? (bs.map D.bl) = some bs
  | [] => rfl
  | b :: bs => by
    show (bools? (bs.map D.bl)).map _ = _
    rw [bools_map bs]
    rfl
theorem Reps.boolsV {H : Hp} {A : Addr → Prop} : ∀ {ds : List D} {vs : List V} {bs : List Bool}, Reps H A vs ds → bools? ds = some bs → vs = bs.map V.bl
  | [], _, _, .nil, e => by cases e; rfl
  | d :: ds, _, bs, .cons r1 r2, e => by
    cases d <;> try (cases e; done)
    cases r1
    cases q2 : bools? ds with
    | none =>
      have e : (bools? ds).map _ = some bs := e
      rw [q2] at e; cases e
    | some z =>
      have e : (bools? ds).map _ = some bs := e
      rw [q2] at e
      cases e
      rw [Reps.boolsV r2 q2]
      rfl
theorem sum_tup (hc : X.calm = true) : CallR X (.builtin "sum") (fun vs H Q => ∃ (a : Addr) (ns : List Int), vs = [V.ref a] ∧ SqT X.K H a (ns.map V.int) ∧ Q (.int ns.sum) H) := by
  intro pins s σ H vs us Q I r ⟨a, ns, ev, hs, q⟩
  subst ev
  obtain ⟨its, rv, hl, _⟩ := I.tuple hs
  obtain ⟨u0, rfl, rfl⟩ := r.one
  obtain ⟨xs, e⟩ := rv.ints.allInts.items
  have hn : numsOf (intItems xs).toList = ns := by rw [← e]; exact rv.ints.numsOf
  rw [nums_intItems] at hn
  have hT : s.heap.IsTuple a (intItems xs) := by rw [← e]; exact hl
  have hlt : a < s.heap.objs.size := hl.lt
  refine call_sum_walkG (wpAny_pyIter_tuple hT ?_)
  refine ⟨_, [_, a], [_], _, _, _, numAt xs, rfl, Walks.tuple (A := X.A.in1) (I.ok.hd hc) _ a (Nat.ne_of_lt hlt) (intItems xs), ⟨⟨_, Heap.get?_push_size _ rfl, rfl, rfl⟩, hT.push _⟩, fun b hb => ?_, fun _ _ => intItems_at, fun h' tk t' hk => ?_⟩
  · show b < (s.heap.push _).objs.size
    rw [Heap.size_push]
    rcases List.mem_cons.mp hb with z | z
    · rw [z]; exact Nat.lt_succ_self _
    · rw [List.mem_singleton.mp z]; exact Nat.lt_succ_of_lt hlt
  · refine ⟨.int ns.sum, H, I.kept fun b o e => hk b o (fun z => ?_) (Heap.get?_push_of_some _ e), ⟨t', ?_⟩, q⟩
    · rw [List.mem_singleton.mp z] at e
      exact Nat.lt_irrefl _ (Heap.lt_size e)
    · rw [preSum_eq, List.take_of_length_le (by simp [intItems]), hn]
def oSum (d : D) (S : Sto) (K : KE) : Prop := ∃ ds ns, seqOf S d = some ds ∧ ints? ds = some ns ∧ K (.int ns.sum) S
theorem gc_sum (hc : X.calm = true) : CallR X (.builtin "sum") (liftC (one oSum)) := gc_one (CallR.or (cr_sum hc) (sum_tup hc)) fun N H S v d K Q c r ⟨ds, ns, e1, e2, k⟩ q => by
  obtain ⟨p, vs, rfl, sq, rs⟩ := seq_sq (Kf := X.K) c r e1
  have ev := rs.intsV e2
  subst ev
  rcases sq with sq | sq
  · exact .inl ⟨p, ns, rfl, sq, q.here c k (.int _)⟩
  · exact .inr ⟨p, ns, rfl, sq, q.here c k (.int _)⟩
/-- of a list of ints -/
def oMaxL (d : D) (S : Sto) (K : KE) : Prop := ∃ ds ns, lstOf S d = some ds ∧ ints? ds = some ns ∧ 0 < ns.length ∧ ∀ m, m ∈ ns → (∀ y, y ∈ ns → y ≤ m) → K (.int m) S
def oMinL (d : D) (S : Sto) (K : KE) : Prop := ∃ ds ns, lstOf S d = some ds ∧ ints? ds = some ns ∧ 0 < ns.length ∧ ∀ m, m ∈ ns → (∀ y, y ∈ ns → m ≤ y) → K (.int m) S
def oAll (d : D) (S : Sto) (K : KE) : Prop := ∃ ds bs, lstOf S d = some ds ∧ bools? ds = some bs ∧ K (.bl (bs.all id)) S
def oAny (d : D) (S : Sto) (K : KE) : Prop := ∃ ds bs, lstOf S d = some ds ∧ bools? ds = some bs ∧ K (.bl (bs.any id)) S
theorem gc_all (hc : X.calm = true) : CallR X (.builtin "all") (liftC (one oAll)) := gc_one (cr_all hc) fun N H S v d K Q c r ⟨ds, bs, e1, e2, k⟩ q => by
  obtain ⟨p, vs, rfl, rd, rs⟩ := lstOf_rd c r e1
  have ev := rs.boolsV e2
  subst ev
  exact ⟨p, bs, rfl, .inl rd, q.here c k (.bl _)⟩
/-- tuple(x) -/
def oTuple (d : D) (S : Sto) (K : KE) : Prop := match seqOf S d with
  | some ds => K (.tup ds) S
  | none => False
theorem gc_tuple : CallR X (.type "tuple") (liftC (one oTuple)) := gc_one call_tuple_of fun N H S v d K Q c r o q => by
  cases r with
  | tup rd na rs => exact ⟨_, _, rfl, .inr ⟨.inl rd, q.here c o (.tup rd na rs)⟩⟩
  | lst rd na rs => exact ⟨_, _, rfl, .inl ⟨.inl (.inl rd), fun l n => q.newT c o rs n⟩⟩
  | cell a =>
    unfold oTuple at o
    split at o
    · rename_i ds e
      obtain ⟨p, vs, ep, rd, rs⟩ := lstOf_rd (d := .cell a) c (.cell a) (ds := ds) (by
        have ee : seqOf S (.cell a) = lstOf S (.cell a) := rfl
        rw [← ee]; exact e)
      cases ep
      exact ⟨_, _, rfl, .inl ⟨.inl rd, fun l n => q.newT c o rs n⟩⟩
    · exact o.elim
  | _ => exact o.elim
/-- list(x): a new list -/
def charsD (z : Str) : List D := z.cps.toList.map fun c => .str ⟨#[c]⟩
def charsV (z : Str) : List V := z.cps.toList.map fun c => .str ⟨#[c]⟩
theorem reps_chars {H : Hp} {A : Addr → Prop} : ∀ l : List Nat, Reps H A (l.map fun c => V.str ⟨#[c]⟩) (l.map fun c => D.str ⟨#[c]⟩)
  | [] => .nil
  | _ :: l => .cons (.str _) (reps_chars l)
theorem vals_get : ∀ {vs : List V} {us : List Value}, us.length = vs.length → (∀ (j : Nat) (u : Value), us[j]? = some u → ∃ v, vs[j]? = some v ∧ RelV v u) → Vals vs us
  | [], [], _, _ => .nil
  | [], _ :: _, h, _ => by simp at h
  | _ :: _, [], h, _ => by simp at h
  | v :: vs, u :: us, h, k => by
    obtain ⟨v', e, r⟩ := k 0 u rfl
    cases e
    exact .cons r (vals_get (by simpa using h) fun j x e => by
      obtain ⟨v'', e2, r2⟩ := k (j + 1) x (by simpa using e)
      exact ⟨v'', by simpa using e2, r2⟩)
/-- list(text) -/
theorem call_listS (hc : X.calm = true) : CallR X (.type "list") (fun xs H Q => ∃ z, xs = [.str z] ∧ z.length ≤ sizeLine ∧ ∀ l, H l = none → Q (.ref l) (upd H l (.lst (charsV z)))) := by
  intro pins s σ H xs us Q I r h
  obtain ⟨z, rfl, hz, q⟩ := h
  obtain ⟨u, rfl, rx⟩ := vals1 r
  obtain ⟨t, rfl⟩ := rx
  have hsz : z.cps.size ≤ sizeLine := hz
  refine call_list_str (I.ok.hd hc) z t (hn := hsz) fun h' tk acc c kp e ha => ?_
  have rv : Vals (charsV z) acc.toList := vals_get (by unfold charsV; rw [List.length_map, Array.length_toList, Array.length_toList, ha.1]) fun j u ej => by
    obtain ⟨ch, k, ec, rfl⟩ := ha.2 j u (by simpa using ej)
    refine ⟨.str ⟨#[ch]⟩, ?_, ⟨k, rfl⟩⟩
    unfold charsV
    rw [List.getElem?_map, show z.cps.toList[j]? = some ch by simpa using ec]
    rfl
  have hl : (charsV z).length ≤ sizeLine := by unfold charsV; rw [List.length_map, Array.length_toList]; exact hsz
  exact ⟨.ref s.heap.objs.size, _, I.laid (t' := tk) kp (Nat.le_refl _) (show ObjOk X.prog X.w _ h' _ (.lst (charsV z)) from ⟨hl, acc.toList, c, rv, by rw [Array.toArray_toList]; exact e⟩), rfl, q _ (I.hok.fresh (Nat.le_refl _))⟩
def listOf (S : Sto) (d : D) : Option (List D) := match d with
  | .str z => if z.length ≤ sizeLine then some (charsD z) else none
  | d => seqOf S d
theorem list_of {S : Sto} {d : D} {ds : List D} (e : listOf S d = some ds) : (∃ z, d = .str z ∧ z.length ≤ sizeLine ∧ ds = charsD z) ∨ seqOf S d = some ds := by
  cases d with
  | str z =>
    have e' : (if z.length ≤ sizeLine then some (charsD z) else none) = some ds := e
    by_cases hz : z.length ≤ sizeLine
    · rw [if_pos hz] at e'
      cases e'
      exact .inl ⟨z, rfl, hz, rfl⟩
    · rw [if_neg hz] at e'
      cases e'
  | _ => exact .inr e
def wList (a : WE) : WF := fun ρ S K => a ρ S fun x S1 => match listOf S1 x with
  | some ds => K ds S1
  | none => False
variable {a b e e2 e3 : Expr} {es : List Expr} {wa wb w w2 w3 : WE} {wr : WA} {pos p : Pos} {x : Str}
theorem gf_list (ha : GE X a wa) (hm : X.mg "list" = none) (hg : Gl X "list" := by rfl) (hs : starEach [a] X.env = (false, eval a X.env) :: starEach [] X.env := by rfl) (hpl : (backTo pos (starEach [] X.env)).any (·.1) = false := by rfl) (hc : X.calm = true := by rfl) : GF X (.Call (.Name "list" p) [a] [] pos) (wList wa) := by
  refine PE.imp (pe_callTy (CallR.or call_list_of (call_listS hc)) hg hm (by decide +kernel) (ga_cons ha ga_nil hs) (by decide) (by decide) hs hpl) fun σ H Q ⟨N, ρ, S, K, ab, h, q⟩ => ?_
  refine lift_args1 ab h fun d S1 k v H1 t1 c1 r1 => ?_
  split at k
  · rename_i ds e
    rcases list_of e with ⟨z, ed, hz, es⟩ | e'
    · subst ed es
      cases r1
      exact .inr ⟨z, rfl, hz, fun l n => q _ _ k l H1 (charsV z) t1 c1 (reps_chars _) n⟩
    · obtain ⟨p, vs, rfl, sq, rs⟩ := seq_sq (Kf := X.K) c1 r1 e'
      exact .inl ⟨p, vs, rfl, sq, fun l n => q _ _ k l H1 vs t1 c1 rs n⟩
  · exact k.elim

/-! ### isinstance -/
inductive Kind where
  | non | bl | int | str | tup | lst | dic
  deriving DecidableEq
def Kind.name : Kind → String
  | .non => "NoneType"
  | .bl => "bool"
  | .int => "int"
  | .str => "str"
  | .tup => "tuple"
  | .lst => "list"
  | .dic => "dict"
def Kind.isa (k T : Kind) : Bool := decide (k = T) || (decide (k = .bl) && decide (T = .int))
def kindOf (S : Sto) (d : D) : Option Kind := match d with
  | .non => some .non
  | .bl _ => some .bl
  | .int _ => some .int
  | .str _ => some .str
  | .tup _ => some .tup
  | .lst _ => some .lst
  | .dic _ => some .dic
  | .cell c => match S c with
    | some (.lst _) => some .lst
    | some (.dic _) => some .dic
    | _ => none
  | _ => none
theorem kit_kind {K : PySem.W.Frag} : ∀ k T : Kind, PySem.W.kitOne K (.type k.name) (.type T.name) = some (k.isa T)
  | .non, .non => kit_ty (by decide +kernel) | .non, .bl => kit_ty (by decide +kernel) | .non, .int => kit_ty (by decide +kernel) | .non, .str => kit_ty (by decide +kernel) | .non, .tup => kit_ty (by decide +kernel) | .non, .lst => kit_ty (by decide +kernel) | .non, .dic => kit_ty (by decide +kernel)
  | .bl, .non => kit_ty (by decide +kernel) | .bl, .bl => kit_ty (by decide +kernel) | .bl, .int => kit_ty (by decide +kernel) | .bl, .str => kit_ty (by decide +kernel) | .bl, .tup => kit_ty (by decide +kernel) | .bl, .lst => kit_ty (by decide +kernel) | .bl, .dic => kit_ty (by decide +kernel)
  | .int, .non => kit_ty (by decide +kernel) | .int, .bl => kit_ty (by decide +kernel) | .int, .int => kit_ty (by decide +kernel) | .int, .str => kit_ty (by decide +kernel) | .int, .tup => kit_ty (by decide +kernel) | .int, .lst => kit_ty (by decide +kernel) | .int, .dic => kit_ty (by decide +kernel)
  | .str, .non => kit_ty (by decide +kernel) | .str, .bl => kit_ty (by decide +kernel) | .str, .int => kit_ty (by decide +kernel) | .str, .str => kit_ty (by decide +kernel) | .str, .tup => kit_ty (by decide +kernel) | .str, .lst => kit_ty (by decide +kernel) | .str, .dic => kit_ty (by decide +kernel)
  | .tup, .non => kit_ty (by decide +kernel) | .tup, .bl => kit_ty (by decide +kernel) | .tup, .int => kit_ty (by decide +kernel) | .tup, .str => kit_ty (by decide +kernel) | .tup, .tup => kit_ty (by decide +kernel) | .tup, .lst => kit_ty (by decide +kernel) | .tup, .dic => kit_ty (by decide +kernel)
  | .lst, .non => kit_ty (by decide +kernel) | .lst, .bl => kit_ty (by decide +kernel) | .lst, .int => kit_ty (by decide +kernel) | .lst, .str => kit_ty (by decide +kernel) | .lst, .tup => kit_ty (by decide +kernel) | .lst, .lst => kit_ty (by decide +kernel) | .lst, .dic => kit_ty (by decide +kernel)
  | .dic, .non => kit_ty (by decide +kernel) | .dic, .bl => kit_ty (by decide +kernel) | .dic, .int => kit_ty (by decide +kernel) | .dic, .str => kit_ty (by decide +kernel) | .dic, .tup => kit_ty (by decide +kernel) | .dic, .lst => kit_ty (by decide +kernel) | .dic, .dic => kit_ty (by decide +kernel)
theorem kind_ty {Kf : PySem.W.Frag} {N : Hid} {H : Hp} {S : Sto} {v : V} {d : D} {k : Kind} (c : CellsOk N H S) (r : Rep H (alive N S) v d) (e : kindOf S d = some k) : TyX Kf H v (.type k.name) := by
  cases r with
  | non => cases e; exact .base .non
  | bl b => cases e; exact .base (.bl b)
  | int b => cases e; exact .base (.int b)
  | str b => cases e; exact .base (.str b)
  | tup rd na rs =>
    cases e
    rcases rd with rd | ⟨o, rd⟩
    · exact .base (.tup rd)
    · exact .fTuple rd
  | lst rd na rs => cases e; exact .base (.lst rd)
  | dic rd na rs => cases e; exact .base (.dK rd)
  | cell a =>
    have ee : kindOf S (.cell a) = match S a with
      | some (.lst _) => some .lst
      | some (.dic _) => some .dic
      | _ => none := rfl
    rw [ee] at e
    split at e
    · rename_i ds h
      cases e
      obtain ⟨vs, e3, rs⟩ := c.at_ _ _ h
      exact .base (.lst e3)
    · rename_i ds h
      cases e
      obtain ⟨vs, e3, rs⟩ := c.at_ _ _ h
      exact .base (.dK e3)
    · cases e
  | _ => cases e
def oIsi (Ts : List Kind) (d : D) (S : Sto) (K : KE) : Prop := match kindOf S d with
  | some k => K (.bl (Ts.any k.isa)) S
  | none => False
theorem ge_isi (T : Kind) {t : Str} (ha : GE X a wa) (hm : X.mg "isinstance" = none) (ht : X.mg t = none) (hv : bootBuiltins t = some (.type T.name)) (hg : Gl X "isinstance" := by rfl) (hgt : Gl X t := by rfl) {pt : Pos} (hn : t ≠ "__name__" := by decide) (hd : (t == ("__debug__" : Str)) = false := by decide)
    (hs : starEach [a, .Name t pt] X.env = (false, eval a X.env) :: starEach [.Name t pt] X.env := by rfl) (hs2 : starEach [.Name t pt] X.env = (false, eval (.Name t pt) X.env) :: starEach [] X.env := by rfl) (hpl : (backTo pos (starEach [.Name t pt] X.env)).any (·.1) = false := by rfl) :
    GE X (.Call (.Name "isinstance" p) [a, .Name t pt] [] pos) (wOp1 (oIsi [T]) wa) := by
  refine PE.imp (pe_callB call_isi hg hm (by decide +kernel) (ga_cons ha (ga_cons (ge_ty ht hv hgt hn hd) ga_nil hs2) hs) (by decide) (by decide) hs hpl) fun σ H Q ⟨N, ρ, S, K, ab, h, q⟩ => ?_
  refine lift_args2 (K := fun x y S1 => y = .ty T.name ∧ oIsi [T] x S1 K) (wb := wC (.ty T.name)) ab (by
    have e : (fun (x : D) (S1 : Sto) => D.ty T.name = D.ty T.name ∧ oIsi [T] x S1 K) = fun x S1 => oIsi [T] x S1 K := by
      funext x S1
      exact propext ⟨fun z => z.2, fun z => ⟨rfl, z⟩⟩
    show wa ρ S fun x S1 => D.ty T.name = D.ty T.name ∧ oIsi [T] x S1 K
    rw [e]; exact h) fun x y S' ⟨ey, k⟩ v u H' t' c r1 r2 => ?_
  subst ey
  cases r2
  unfold oIsi at k
  split at k
  · rename_i kd e
    refine ⟨v, .ty T.name, _, _, kd.isa T, rfl, .ty _, kind_ty c r1 e, kit_kind kd T, ?_⟩
    have eb : [T].any kd.isa = kd.isa T := by simp
    rw [eb] at k
    exact q _ _ k _ _ t' c (.bl _)
  · exact k.elim
/-- isinstance(x, (A, B)) -/
theorem ge_isi2 (T U : Kind) {t u : Str} (ha : GE X a wa) (hm : X.mg "isinstance" = none) (ht : X.mg t = none) (hv : bootBuiltins t = some (.type T.name)) (hu : X.mg u = none) (hw : bootBuiltins u = some (.type U.name)) (hg : Gl X "isinstance" := by rfl) (hgt : Gl X t := by rfl) (hgu : Gl X u := by rfl) {pt pu pp : Pos} {kk : Nat}
    (hn : t ≠ "__name__" := by decide) (hd : (t == ("__debug__" : Str)) = false := by decide) (hn2 : u ≠ "__name__" := by decide) (hd2 : (u == ("__debug__" : Str)) = false := by decide)
    (hs0 : starEach [.Name t pt, .Name u pu] X.env = (false, eval (.Name t pt) X.env) :: starEach [.Name u pu] X.env := by rfl) (hs1 : starEach [.Name u pu] X.env = (false, eval (.Name u pu) X.env) :: starEach [] X.env := by rfl)
    (hs : starEach [a, .Tuple [.Name t pt, .Name u pu] kk pp] X.env = (false, eval a X.env) :: starEach [.Tuple [.Name t pt, .Name u pu] kk pp] X.env := by rfl) (hs2 : starEach [.Tuple [.Name t pt, .Name u pu] kk pp] X.env = (false, eval (.Tuple [.Name t pt, .Name u pu] kk pp) X.env) :: starEach [] X.env := by rfl)
    (hpl : (backTo pos (starEach [.Tuple [.Name t pt, .Name u pu] kk pp] X.env)).any (·.1) = false := by rfl) :
    GE X (.Call (.Name "isinstance" p) [a, .Tuple [.Name t pt, .Name u pu] kk pp] [] pos) (wOp1 (oIsi [T, U]) wa) := by
  have ht1 : PE X (.Tuple [.Name t pt, .Name u pu] kk pp) (tTup (tCons (tC (.ty T.name)) (tCons (tC (.ty U.name)) tNil))) := pe_tup (pa_cons (pe_bltn hgt ht hv rfl hn hd) (pa_cons (pe_bltn hgu hu hw rfl hn2 hd2) pa_nil hs1) hs0)
  refine PE.imp (pe_callB call_isiT hg hm (by decide +kernel) (pa_cons ha (pa_cons ht1 pa_nil hs2) hs) (by decide) (by decide) hs hpl) fun σ H Q ⟨N, ρ, S, K, ab, h, q⟩ => ?_
  refine liftE.mk ab h fun x S1 k v H1 t1 c1 r1 => ?_
  refine ⟨by show 2 ≤ sizeLine; decide, fun pn n => ?_⟩
  unfold oIsi at k
  split at k
  · rename_i kd e
    have tn := Tr.new c1 n (o := .tup [.ty T.name, .ty U.name])
    refine ⟨v, pn, _, _, [.type T.name, .type U.name], kd.isa T || kd.isa U, rfl, upd_same, .cons (.ty _) (.cons (.ty _) .nil), kind_ty (c1.new n) (r1.mono tn) e, ?_, ?_⟩
    · refine kitAny_cons (kit_kind kd T) (fun z => kitAny_cons (kit_kind kd U) (fun w => ?_) fun w => ?_) fun z => ?_
      · rw [z, w]; exact kitAny_nil
      · rw [w, Bool.or_true]
      · rw [z, Bool.true_or]
    · have eb : [T, U].any kd.isa = (kd.isa T || kd.isa U) := by simp
      rw [eb] at k
      exact q _ _ k _ _ (t1.trans tn) (c1.new n) (.bl _)
  · exact k.elim
end
end G

set_option Elab.async false
set_option linter.all false
set_option maxRecDepth 100000
set_option autoImplicit false
namespace G
open PySem PySem.Spec PyProof.Rows L2

section
variable {X : Cx}
variable {o a b e e2 e3 : Expr} {es : List Expr} {wo wa wb w w2 w3 : WE} {wr : WA} {pos apos cpos p : Pos} {x : Str}
/-! ### methods of lists -/
/-- o.append(a) -/
def wApp (o a : WE) : WE := fun ρ S K => o ρ S fun d S1 => ∃ c, d = .cell c ∧ (∃ ds, S1 c = some (.lst ds)) ∧ a ρ S1 fun y S2 => ∃ ds, S2 c = some (.lst ds) ∧ ds.length < sizeLine ∧ K .non (S2.set c (.lst (ds ++ [y])))
theorem tyV_cell {Kf : PySem.W.Frag} {N : Hid} {H : Hp} {S : Sto} {c : Addr} {ds : List D} (k : CellsOk N H S) (e : S c = some (.lst ds)) : tyV Kf "list" (.ref c) H := by
  obtain ⟨vs, e2, _⟩ := k.at_ _ _ e
  exact .inl ⟨rfl, vs, .inl (.inl e2)⟩
theorem liftK.put {N : Hid} {H : Hp} {S : Sto} {K : KE} {Q : VK} (q : liftK N H S K Q) (c : CellsOk N H S) {l : Addr} {ds ds' : List D} {vs' : List V} (e : S l = some (.lst ds)) (rs : Reps H (alive N S) vs' ds') {d : D} (k : K d (S.set l (.lst ds'))) {v : V} (r : Rep H (alive N S) v d) : Q v (upd H l (.lst vs')) :=
  q _ _ k _ _ (Tr.put c e) (c.put e ⟨vs', upd_same, rs.mono (Tr.put c e)⟩) (r.mono (Tr.put c e))
theorem ge_app (ho : GE X o wo) (ha : GE X a wa)
    (hbase : attributeBase o "append" X.env (eval o X.env) = eval o X.env := by rfl)
    (hfew : ((backTo cpos (starEach [a] X.env)).all (fun x => !x.1) && (backToKw cpos (keywordEach [] X.env)).all (fun x => x.1.isSome)
      && decide ([a].length + ([] : List Keyword).length + (if ([] : List Keyword).isEmpty then 0 else 1) < 30)) = true := by rfl)
    (hline : (apos.endLine == cpos.line) = true := by rfl) (hs : starEach [a] X.env = (false, eval a X.env) :: starEach [] X.env := by rfl) (hplain : (backTo cpos (starEach [] X.env)).any (·.1) = false := by rfl) :
    GE X (.Call (.Attribute o "append" apos) [a] [] cpos) (wApp wo wa) := by
  refine PE.imp (pe_bm PySem.F.plainAttrs_list PySem.F.slot_list_append PySem.F.type_list_append mt_append ho (ga_cons ha ga_nil hs) hbase hfew hline hs hplain) fun σ H Q ⟨N, ρ, S, K, ab, h, q⟩ => ?_
  refine liftE.mk ab h fun d S1 ⟨c, ed, ⟨ds0, e0⟩, h1⟩ v H1 t1 c1 r1 => ?_
  subst ed
  cases r1
  refine ⟨tyV_cell c1 e0, ?_⟩
  refine lift_args1 (ab.mono t1 c1) h1 fun y S2 ⟨ds, e2, l, k⟩ u H2 t2 c2 r2 => ?_
  obtain ⟨vs, e3, rs⟩ := c2.at_ _ _ e2
  exact ⟨c, vs, u, rfl, rfl, e3, by rw [rs.length]; exact l, (q.of (t1.trans t2)).put c2 e2 (rs.snoc r2) k .non⟩
/-- o.extend(a) -/
def wExt (o a : WE) : WE := fun ρ S K => o ρ S fun d S1 => ∃ c, d = .cell c ∧ (∃ ds, S1 c = some (.lst ds)) ∧ a ρ S1 fun y S2 => ∃ ds es, S2 c = some (.lst ds) ∧ lstOf S2 y = some es ∧ ds.length + es.length ≤ sizeLine ∧ K .non (S2.set c (.lst (ds ++ es)))
/-- o.pop() -/
def wPop (o : WE) : WE := fun ρ S K => o ρ S fun d S1 => ∃ c ds y, d = .cell c ∧ S1 c = some (.lst ds) ∧ ds[ds.length - 1]? = some y ∧ K y (S1.set c (.lst ds.dropLast))
theorem Reps.dropLast {H : Hp} {A : Addr → Prop} : ∀ {vs : List V} {ds : List D}, Reps H A vs ds → Reps H A vs.dropLast ds.dropLast
  | _, _, .nil => .nil
  | _, _, .cons a .nil => .nil
  | _, _, .cons a (.cons b c) => .cons a (Reps.dropLast (.cons b c))
/-! ### o[i] = v of a list -/
def gIx (o i : WE) : WG := fun d ρ S K => o ρ S fun x S1 => i ρ S1 fun y S2 => ∃ c ds k j, x = .cell c ∧ S2 c = some (.lst ds) ∧ y = .int k ∧ ixN ds.length k = some j ∧ K ρ (S2.set c (.lst (ds.set j d)))
theorem gg_ix (ho : GE X o wo) (hi : GE X a wa)
    (ha : ∀ v, assign (.Subscript o a pos) X.env v = (do
      let ov ← holding [v] (eval o X.env)
      let iv ← holding [v, ov] (eval a X.env)
      standAt pos
      holding [v, ov, iv] (setItem ov iv v)
      release [v, ov, iv] []) := by intro _; rfl) : GG X (.Subscript o a pos) (gIx wo wa) := by
  refine PG.imp (pg_sub ho hi set_list ha) fun v σ H Q ⟨N, ρ, S, d, K, ab, r, h, q⟩ => ?_
  refine liftE.mk ab h fun x S1 h1 u H1 t1 c1 r1 => ?_
  refine liftE.mk (ab.mono t1 c1) h1 fun y S2 ⟨c, ds, k, j, ex, e2, ey, ej, kk⟩ z H2 t2 c2 r2 => ?_
  subst ex ey
  cases r1
  cases r2
  obtain ⟨vs, e3, rs⟩ := c2.at_ _ _ e2
  have tt := t1.trans t2
  have tp := Tr.put c2 e2 (o := .lst (vs.set j v)) (x := .lst (ds.set j d))
  have cp := c2.put e2 (o := .lst (vs.set j v)) (x := .lst (ds.set j d)) ⟨_, upd_same, ((Reps.set (r.mono tt) j rs)).mono tp⟩
  exact ⟨c, vs, k, j, rfl, rfl, e3, by rw [rs.length]; exact ej, q _ _ kk _ _ (tt.trans tp) (ab.mono (tt.trans tp) cp)⟩
/-- x op= e, x a name, of ints -/
def wAug (i : Nat) (f : Int → Int → Int) (a : WE) : WS := fun E ρ S => match Rho.get ρ i with
  | some (.int m) => a ρ S fun y S1 => match y with
    | .int n => E.nx (ρ.set i (some (.int (f m n)))) S1
    | _ => False
  | _ => False
/-! ### methods of texts -/
def rM1 (f : Str → Str → Sto → KE → Prop) : D → List D → Sto → KE → Prop := fun x ds S K => match x, ds with
  | .str a, [.str b] => f a b S K
  | _, _ => False
/-- o.m(e), a method of a text by values -/
def wMeth (f : D → List D → Sto → KE → Prop) (o : WE) (t : WA) : WE := fun ρ S K => o ρ S fun x S1 => (∃ z, x = .str z) ∧ t ρ S1 fun ds S2 => f x ds S2 K
variable {name : Str} {id : String} {r : V → List V → Hp → VK → Prop} {f : D → List D → Sto → KE → Prop}
theorem ge_strM (slot : Slot "str" name id) (hty : typeOf (.builtin id) = pure (.type "method_descriptor")) (hm : MtR X id r) (k : ∀ N H S v d vs ds K Q, CellsOk N H S → Rep H (alive N S) v d → Reps H (alive N S) vs ds → f d ds S K → liftK N H S K Q → r v vs H Q)
    (ho : GE X o wo) (ha : GAs X (e :: es) wr)
    (hbase : attributeBase o name X.env (eval o X.env) = eval o X.env := by rfl)
    (hfew : ((backTo cpos (starEach (e :: es) X.env)).all (fun x => !x.1) && (backToKw cpos (keywordEach [] X.env)).all (fun x => x.1.isSome)
      && decide ((e :: es).length + ([] : List Keyword).length + (if ([] : List Keyword).isEmpty then 0 else 1) < 30)) = true := by rfl)
    (hline : (apos.endLine == cpos.line) = true := by rfl) (hs : starEach (e :: es) X.env = (false, eval e X.env) :: starEach es X.env := by rfl) (hplain : (backTo cpos (starEach es X.env)).any (·.1) = false := by rfl) :
    GE X (.Call (.Attribute o name apos) (e :: es) [] cpos) (wMeth f wo wr) := by
  refine PE.imp (pe_bm PySem.F.plainAttrs_str slot hty hm ho ha hbase hfew hline hs hplain) fun σ H Q ⟨N, ρ, S, K, ab, h, q⟩ => ?_
  refine liftE.mk ab h fun d S1 ⟨⟨z, ed⟩, h1⟩ v H1 t1 c1 r1 => ?_
  subst ed
  cases r1
  refine ⟨rfl, N, ρ, S1, _, ab.mono t1 c1, h1, fun ds S2 h2 vs H2 t2 c2 r2 => ?_⟩
  exact k N H2 S2 _ _ _ _ K Q c2 (.str z) r2 h2 (q.of (t1.trans t2))
/-- sep.join(list or tuple of texts) -/
def D.str? : D → Option Str
  | .str i => some i
  | _ => none
def strs? : List D → Option (List Str)
  | [] => some []
  | d :: l => match d.str?, strs? l with
    | some a, some r => some (a :: r)
    | _, _ => none
theorem strs_map : ∀ ns : List Str, strs? (ns.map D.str) = some ns
  | [] => rfl
  | n :: ns => by
    show (match some n, strs? (ns.map D.str) with
      | some a, some r => some (a :: r)
      | _, _ => none) = _
    rw [strs_map ns]
theorem Reps.strsV {H : Hp} {A : Addr → Prop} : ∀ {ds : List D} {vs : List V} {ns : List Str}, Reps H A vs ds → strs? ds = some ns → vs = ns.map V.str
  | [], _, _, .nil, e => by cases e; rfl
  | d :: ds, _, ns, .cons r1 r2, e => by
    unfold strs? at e
    cases q1 : d.str? with
    | none => rw [q1] at e; cases e
    | some a =>
      cases q2 : strs? ds with
      | none => rw [q1, q2] at e; cases e
      | some z =>
        rw [q1, q2] at e
        cases e
        cases d <;> try (cases q1; done)
        cases q1
        cases r1
        rw [Reps.strsV r2 q2]
        rfl
theorem Reps.strs {H : Hp} {A : Addr → Prop} : ∀ ns : List Str, Reps H A (ns.map V.str) (ns.map D.str)
  | [] => .nil
  | n :: ns => .cons (.str n) (Reps.strs ns)
def fJoin (x : D) (ds : List D) (S : Sto) (K : KE) : Prop := match x, ds with
  | .str a, [d] => ∃ es ys, seqOf S d = some es ∧ strs? es = some ys ∧ (ys.map (·.length)).sum + ys.length * a.length ≤ 16777216 ∧ K (.str (Txt.join a ys)) S
  | _, _ => False
theorem gm_join : ∀ N H S v d vs ds K Q, CellsOk N H S → Rep H (alive N S) v d → Reps H (alive N S) vs ds → fJoin d ds S K → liftK N H S K Q →
    (fun x xs H Q => ∃ a p, ∃ ys : List Str, x = V.str a ∧ xs = [V.ref p] ∧ (SqL X.K H p (ys.map V.str) ∨ SqT X.K H p (ys.map V.str)) ∧ (ys.map (·.length)).sum + ys.length * a.length ≤ 16777216 ∧ Q (.str (Txt.join a ys)) H) v vs H Q := by
  intro N H S v d vs ds K Q c r rs h q
  cases r with
  | str a =>
    cases rs with
    | nil => exact h.elim
    | cons r1 rr =>
      cases rr with
      | cons _ _ => exact h.elim
      | nil =>
        obtain ⟨es, ys, e1, e2, l, k⟩ := h
        obtain ⟨p, us, rfl, sq, rs⟩ := seq_sq (Kf := X.K) c r1 e1
        have ev := rs.strsV e2
        subst ev
        exact ⟨a, p, ys, rfl, rfl, sq, l, q.here c k (.str _)⟩
  | _ => exact h.elim
theorem ge_join (ho : GE X o wo) (ha : GAs X [e] wr)
    (hbase : attributeBase o "join" X.env (eval o X.env) = eval o X.env := by rfl)
    (hfew : ((backTo cpos (starEach [e] X.env)).all (fun x => !x.1) && (backToKw cpos (keywordEach [] X.env)).all (fun x => x.1.isSome)
      && decide ([e].length + ([] : List Keyword).length + (if ([] : List Keyword).isEmpty then 0 else 1) < 30)) = true := by rfl)
    (hline : (apos.endLine == cpos.line) = true := by rfl) (hs : starEach [e] X.env = (false, eval e X.env) :: starEach [] X.env := by rfl) (hplain : (backTo cpos (starEach [] X.env)).any (·.1) = false := by rfl) :
    GE X (.Call (.Attribute o "join" apos) [e] [] cpos) (wMeth fJoin wo wr) :=
  ge_strM PySem.F.slot_str_join PySem.F.type_str_join mt_join gm_join ho ha hbase hfew hline hs hplain
/-- s.count(t) -/
def fCount (x : D) (ds : List D) (S : Sto) (K : KE) : Prop := match x, ds with
  | .str a, [.str b] => K (.int (Txt.count a b)) S
  | _, _ => False
/-- s.split(t): a new list -/
def wSplit (o a : WE) : WF := fun ρ S K => o ρ S fun x S1 => ∃ z, x = .str z ∧ a ρ S1 fun y S2 => ∃ b, y = .str b ∧ (b.length == 0) = false ∧ z.length + 2 ≤ sizeLine ∧ K ((Txt.split z b).map D.str) S2
end
end G

set_option Elab.async false
set_option linter.all false
set_option maxRecDepth 100000
set_option autoImplicit false
namespace G
open PySem PySem.Spec PyProof.Rows L2

/-! ### what is never come to -/
def wNoE : WE := fun _ _ _ => False
def wNoI : WI := fun _ _ _ => False
/-! ### defs and their calls -/
abbrev CS := OpC
def spOf (c : CS) : Sp := fun vs H Q _ => ∃ N S ds K, CellsOk N H S ∧ Reps H (alive N S) vs ds ∧ c ds S K ∧ liftK N H S K Q
/-- a def's end: cells may be forgotten -/
def fin (K : KE) : KE := fun d S' => ∃ S'', Sub S'' S' ∧ K d S''
theorem fin.of {K : KE} {d : D} {S : Sto} (h : K d S) : fin K d S := ⟨S, Sub.refl S, h⟩
def wDef (n m : Nat) (w : WS) : CS := fun ds S K => ds.length = n ∧ w ⟨fun _ S' => fin K .non S', fin K, fun _ _ => False, fun _ _ => False⟩ (ds.map some ++ List.replicate (m - n) none) S
theorem start_abs {N : Hid} {H : Hp} {S : Sto} {vs : List V} {ds : List D} {Nm : List Str} (rs : Reps H (alive N S) vs ds) (c : CellsOk N H S) : Abs N S H (L2.start Nm vs) (ds.map some ++ List.replicate (Nm.length - ds.length) none) := by
  have l := rs.length
  refine ⟨by simp [L2.start, l], fun i d h => ?_, c⟩
  by_cases hi : i < ds.length
  · rw [List.getElem?_append_left (by simpa using hi), List.getElem?_map] at h
    cases q : ds[i]? with
    | none => rw [q] at h; cases h
    | some e =>
      rw [q] at h
      cases h
      obtain ⟨v, ev, r⟩ := rs.getD q
      refine ⟨v, ?_, r⟩
      unfold L2.start
      rw [List.getElem?_append_left (by rw [List.length_map, l]; exact hi), List.getElem?_map, ev]
      rfl
  · rw [List.getElem?_append_right (by simpa using Nat.le_of_not_lt hi)] at h
    rw [List.getElem?_replicate] at h
    split at h <;> cases h
/-- room, and no repr under way -/
structure RoomG (k : Nat) (A : Around) : Prop extends Room k A where
  gd : A.guards = some []
theorem RoomG.mono {j k : Nat} {A : Around} (r : RoomG k A) (h : j ≤ k) : RoomG j A := ⟨r.toRoom.mono h, r.gd⟩
/-- a def's promise where no repr is under way -/
structure FnG (P : Program) (w : World) (K : PySem.W.Frag) (mg : Str → Option Value) (base : Heap) (k : Nat) (f : Addr) (fd : FuncData) (ps : List Str) (sp : Sp) : Prop where
  len : ∀ vs H Q E, sp vs H Q E → vs.length = ps.length
  run : ∀ (A : Around) (outer : List Env) (s : Shared) (H : Hp) (args : Args) (us : List Value) (vs : List V) (Q : VK) (E : XK), RoomG k A → Env0 P w K mg base A outer s H → BindsTo s fd args (ps.zip us) → Vals vs us → sp vs H Q E →
    codeAny (model P w) A (.call (.ref f) args) (CR CX0 outer P w H s Q E) s
theorem FnG.mono {P : Program} {w : World} {K : PySem.W.Frag} {mg : Str → Option Value} {base : Heap} {j k : Nat} {f : Addr} {fd : FuncData} {ps : List Str} {sp : Sp} (F : FnG P w K mg base j f fd ps sp) (h : j ≤ k) : FnG P w K mg base k f fd ps sp :=
  ⟨F.len, fun A o s H ar us vs Q E r => F.run A o s H ar us vs Q E (r.mono h)⟩
theorem FnG.imp {P : Program} {w : World} {K : PySem.W.Frag} {mg : Str → Option Value} {base : Heap} {k : Nat} {f : Addr} {fd : FuncData} {ps : List Str} {sp sp' : Sp} (F : FnG P w K mg base k f fd ps sp) (h : ∀ vs H Q E, sp' vs H Q E → sp vs H Q E) : FnG P w K mg base k f fd ps sp' :=
  ⟨fun vs H Q E q => F.len vs H Q E (h _ _ _ _ q), fun A o s H ar us vs Q E r e b v q => F.run A o s H ar us vs Q E r e b v (h _ _ _ _ q)⟩
section
variable {P : Program} {w : World} {K : PySem.W.Frag} {mg : Str → Option Value} {base : Heap} {x qual : Str} {params : Arguments} {body : List Stmt} {scope : Scope} {f : Addr} {fd : FuncData} {Nm ps : List Str} {k : Nat} {ws : WS}
/-- the rule for a def -/
theorem fn_run {sp : Sp} (F : FunD K x qual params body scope [] [] f fd) (Sc : FnScope Nm ps scope) (len : ∀ vs H Q E, sp vs H Q E → vs.length = ps.length)
    (hb : ∀ (cdv : Value) (A : Around) (outer : List Env) (s : Shared) (H : Hp) (vs : List V) (Q : VK) (E : XK), RoomG k (A.deeper (envOfC qual scope s.heap.objs.size f cdv)) → sp vs H Q E →
      ∃ t, PSs (cxOf CX0 P w K mg base Nm qual scope f cdv A outer s H E) body t ∧ t { nx := fun _ H' => Q .non H', rt := Q } (L2.start Nm vs) H) : FnG P w K mg base (k + 1) f fd ps sp := by
  obtain ⟨oc, od, dV, kV, doc, pm, an, cdv, ct, osl, ef, lk, hcd, _, _⟩ := F.ex
  subst ef
  refine ⟨len, fun A o s H ar us vs Q E r e b v q => ?_⟩
  have hl := len _ _ _ _ q
  have kin : K.In s.heap := e.mod.kin.keeps fun c m z => (e.bs c m z).1
  have lim : s.heap.NoLimit := e.mod.nolimit.keeps fun c m z => (e.bs c m z).1
  have kinds : ∀ y ∈ ps.zip us, scope.names.lookup y.1 = some .local ∨ (scope.names.lookup y.1 = some .cell ∧ ((cellsFrom (s.heap.objs.size + 1) scope.names []).lookup y.1).isSome = true) := fun y hy =>
    (Sc.par y.1 (List.of_mem_zip (show (y.1, y.2) ∈ ps.zip us from hy)).1).elim .inl fun z => .inr ⟨z, PySem.W.cellsFrom_some _ _ _ (.inl z)⟩
  refine codeAny_call_function r.depth (kin _ _ lk) rfl Sc.co Sc.gen rfl (PySem.W.codeRec_of kin hcd) (b _ _ _ _ ?_)
  refine wpAny_newFunctionEnv_cells Sc.kind kinds fun env he s1 z => ?_
  subst he
  refine ⟨lim.keeps z.toInCall.keep, codeAny_func ?_⟩
  obtain ⟨t, ht, hq⟩ := hb cdv A o s H vs Q E ⟨r.toRoom.deeper _, r.gd⟩ q
  have I : Inv (cxOf CX0 P w K mg base Nm qual scope f cdv A o s H E) [] (L2.start Nm vs) H s1 := inv_start Sc r.hd e hl v z
  refine wpAny_mono (ht.run [] s1 (L2.start Nm vs) H _ I hq) (fun fl s2 hs => ?_) fun _ _ hs => hs
  have ends : ∀ {σ2 : L2.St} {H2 : Hp} {y : V} {u : Value}, Inv (cxOf CX0 P w K mg base Nm qual scope f cdv A o s H E) [] σ2 H2 s2 → RelV y u → Q y H2 → CE o P w H s Q u s2 := fun {σ2 H2 y u} J ry qy => ⟨y, H2, J.os, J.bare, J.base, J.hok, ry, qy⟩
  cases fl with
  | ret u =>
    obtain ⟨y, σ2, H2, J, ry, qy⟩ := hs
    exact ends J ry qy
  | next =>
    obtain ⟨σ2, H2, J, qy⟩ := hs
    exact ends (y := V.non) (u := Value.none) J rfl qy
  | brk => exact hs.elim fun _ z => z.elim fun _ z => False.elim z.2
  | cont => exact hs.elim fun _ z => z.elim fun _ z => False.elim z.2
theorem fn_ok (F : FunD K x qual params body scope [] [] f fd) (Sc : FnScope Nm ps scope)
    (hb : ∀ (cdv : Value) (A : Around) (outer : List Env) (s : Shared) (H : Hp) (E : XK), RoomG k (A.deeper (envOfC qual scope s.heap.objs.size f cdv)) → GSs (cxOf CX0 P w K mg base Nm qual scope f cdv A outer s H E).nox body ws) :
    FnG P w K mg base (k + 1) f fd ps (spOf (wDef ps.length Nm.length ws)) := by
  refine fn_run F Sc (fun vs H Q E ⟨N, S, ds, K, c, rs, h, q⟩ => by rw [rs.length]; exact h.1) fun cdv A outer s H vs Q E hr h => ⟨liftS ws, PSs.nox (hb cdv A outer s H E hr), ?_⟩
  obtain ⟨N, S, ds, K1, c, rs, ⟨hl, h⟩, q⟩ := h
  rw [← hl] at h
  refine ⟨N, _, S, _, start_abs rs c, h, ?_, ?_, ?_, ?_⟩
  · intro ρ' S' ⟨S2, sb, kk⟩ σ' H' t' a'
    exact q _ _ kk .non H' (t'.trans (Tr.sub sb)) (a'.cells.sub sb) .non
  · intro d S' ⟨S2, sb, kk⟩ v H' t' c' r'
    exact q _ _ kk v H' (t'.trans (Tr.sub sb)) (c'.sub sb) (r'.mono (Tr.sub sb))
  · intro _ _ z; exact z.elim
  · intro _ _ z; exact z.elim
theorem fn_no {n : Nat} : FnG P w K mg base n f fd ps (spOf fun _ _ _ => False) :=
  ⟨fun vs H Q E ⟨_, _, _, _, _, _, h, _⟩ => h.elim, fun _ _ _ _ _ _ _ _ _ _ _ _ _ ⟨_, _, _, _, _, _, h, _⟩ => h.elim⟩
end
section
variable {X : Cx} {x : Str} {e : Expr} {es : List Expr} {wr : WA} {p pos : Pos} {k : Nat} {f : Addr} {fd : FuncData} {ps : List Str} {c : CS}
theorem ge_call (F : FnG X.prog X.w X.K X.mg X.base k f fd ps (spOf c)) (hr : RoomG k X.A) (hm : X.mg x = some (.ref f)) (hk : PySem.W.keepIn X.K (.ref f) = true) (hb : Binds X.K fd ps []) (ha : GAs X (e :: es) wr) (hg : Gl X x := by rfl)
    (hdb : (x == ("__debug__" : Str)) = false := by decide) (he : starEach (e :: es) X.env = (false, eval e X.env) :: starEach es X.env := by rfl) (hpl : (backTo pos (starEach es X.env)).any (·.1) = false := by rfl) :
    GE X (.Call (.Name x p) (e :: es) [] pos) (wCall c wr) := by
  refine ⟨fun pins s σ H Q I ⟨N, ρ, S, K, ab, h, q⟩ => ?_⟩
  have la : liftA wr σ H fun vs H1 => spOf c vs H1 Q E0 := ⟨N, ρ, S, _, ab, h, fun ds S1 k vs H1 t1 c1 r1 => ⟨N, S1, ds, K, c1, r1, k, q.of t1⟩⟩
  refine wpAny_Call_Name_kw (ld_glob I hg hm ?_ hdb)
  refine PySem.W.callWith_K (h₀ := X.base) I.ok.mod.kin hk (thn (ha.run pos pins s σ H _ I la) fun us s1 ⟨vs, H1, I1, r, q1⟩ => ⟨I1.kIn, ?_⟩) he hpl
  have hl : (us ++ []).length = ps.length := by rw [List.append_nil, ← r.length]; exact F.len _ _ _ _ q1
  have hbi := hb s1 us I1.kIn hl
  rw [List.append_nil] at hbi
  refine wpAny_call (codeAny_mono (F.run X.A X.stack s1 H1 ⟨us, []⟩ us vs Q E0 hr I1.env0 hbi r q1) fun r2 s2 hq => ?_)
  cases r2 with
  | error y => exact pass0 pins σ H1 s1 y s2 I1 hq
  | ok fl =>
    cases fl with
    | ret u => exact I1.after hq
    | _ => exact False.elim hq
end

/-! ### enumerate(list) -/
def ienum : Nat → List D → List D
  | _, [] => []
  | i, d :: ds => .tup [.int (i : Nat), d] :: ienum (i + 1) ds
theorem ienum_length : ∀ (i : Nat) (ds : List D), (ienum i ds).length = ds.length
  | _, [] => rfl
  | i, d :: ds => congrArg Nat.succ (ienum_length (i + 1) ds)
theorem ienum_get : ∀ (k : Nat) (ds : List D) (i : Nat) (d : D), ds[i]? = some d → (ienum k ds)[i]? = some (.tup [.int ((k + i : Nat)), d])
  | _, [], _, _, h => by simp at h
  | k, e :: ds, 0, d, h => by
    have h : e = d := by simpa using h
    rw [h]; rfl
  | k, e :: ds, i + 1, d, h => by
    show (ienum (k + 1) ds)[i]? = _
    rw [ienum_get (k + 1) ds i d (by simpa using h), show k + 1 + i = k + (i + 1) by omega]
def wEnum (a : WE) : WI := fun ρ S K => a ρ S fun x S1 => match x with
  | .lst ds => K ⟨ienum 0 ds, fun _ => True⟩ S1
  | .cell c => (match S1 c with
    | some (.lst ds) => K ⟨ienum 0 ds, fun S' => S' c = some (.lst ds)⟩ S1
    | _ => False)
  | _ => False
section
variable {X : Cx} {e : Expr} {w : WE} {p pos tpos : Pos} {elts : List Expr} {kk : Nat}
theorem ItAt.enum {N : Hid} {H : Hp} {S : Sto} {K : PySem.W.Frag} {a : Addr} {vs : List V} {ds : List D} (hq : SqL K H a vs) (rs : Reps H (alive N S) vs ds) (c : CellsOk N H S) : ItAt N (Ite K a) H S (ienum 0 ds) := by
  refine ItAt.pair (walk_enum (K := K) (a := a) (xs := vs)) (by rw [ienum_length, rs.length]) hq c fun i x y hi e1 e2 => ?_
  obtain ⟨d, e3, r⟩ := rs.get e2
  cases e1
  refine ⟨.int (i : Nat), d, ?_, .int _, r⟩
  rw [ienum_get 0 ds i d e3, Nat.zero_add]
theorem gi_enum (h : GE X e w) (hm : X.mg "enumerate" = none) (hg : Gl X "enumerate" := by rfl) (hs : starEach [e] X.env = [(false, eval e X.env)] := by rfl) : GI X (.Tuple elts kk tpos) (.Call (.Name "enumerate" p) [e] [] pos) (wEnum w) := by
  refine PI.imp (pi_enum hg hm (ga_cons h ga_nil hs) hs) fun σ H R ⟨N, ρ, S, K, ab, hw, q⟩ => ?_
  refine lift_args1 ab hw fun x S1 k v H1 t1 c1 r1 => ?_
  cases r1 with
  | lst rd na rs =>
    exact ⟨_, _, rfl, .inl (.inl rd), q _ _ k _ H1 t1 c1 fun N2 H2 S2 x2 t2 c2 _ => ItAt.enum (.inl (.inl (t2.t0.keep _ _ rd na))) (rs.mono0 (t2.ext x2)) c2⟩
  | cell a =>
    have k : (match S1 a with
      | some (.lst ds) => K ⟨ienum 0 ds, fun S' => S' a = some (.lst ds)⟩ S1
      | _ => False) := k
    split at k
    · rename_i ds ec
      obtain ⟨vs, e2, rs⟩ := c1.at_ _ _ ec
      refine ⟨a, vs, rfl, .inl (.inl e2), q _ _ k _ H1 t1 c1 fun N2 H2 S2 x2 t2 c2 kp => ?_⟩
      obtain ⟨vs2, e3, rs2⟩ := c2.at_ _ _ kp
      exact ItAt.enum (.inl (.inl e3)) rs2 c2
    · exact k.elim
  | _ => exact k.elim
end

/-! ### defs by name -/
def Callee (P : Program) (w : World) (K : PySem.W.Frag) (mg : Str → Option Value) (base : Heap) (x : Str) (k : Nat) (c : CS) : Prop :=
  ∃ (f : Addr) (fd : FuncData) (ps : List Str), mg x = some (.ref f) ∧ PySem.W.keepIn K (.ref f) = true ∧ Binds K fd ps [] ∧ FnG P w K mg base k f fd ps (spOf c)
/-- a def as the head tells it -/
def DefAt (K : PySem.W.Frag) (mg : Str → Option Value) (x : Str) (st : Stmt) : Prop := ∃ fd : FuncData, mg x = some (.ref (He.ga K x)) ∧ FunD K x x (defArgs st) (defBody st) (defScope st) [] [] (He.ga K x) fd
section
variable {P : Program} {w : World} {K : PySem.W.Frag} {mg : Str → Option Value} {base : Heap} {x : Str} {st : Stmt} {k : Nat} {c : CS}
theorem callee_of {Nm ps : List Str} {ws : WS} (h : DefAt K mg x st) (Sc : FnScope Nm ps (defScope st))
    (hb : ∀ (kV doc pm : Value) (an : Option Addr) (cdv ct : Value) (us : List Value), us.length = ps.length → bindArgs (PySem.W.fnOf x x (defArgs st) (defBody st) (defScope st) .none kV doc pm an cdv ct) ⟨us, []⟩ = pure (ps.zip us))
    (body : ∀ (f : Addr) (cdv : Value) (A : Around) (outer : List Env) (s : Shared) (H : Hp) (E : XK), RoomG k (A.deeper (envOfC x (defScope st) s.heap.objs.size f cdv)) → GSs (cxOf CX0 P w K mg base Nm x (defScope st) f cdv A outer s H E).nox (defBody st) ws) :
    Callee P w K mg base x (k + 1) (wDef ps.length Nm.length ws) := by
  obtain ⟨fd, hm, F⟩ := h
  exact ⟨_, fd, ps, hm, F.kp, F.bindsN hb, fn_ok F Sc (body _)⟩
theorem callee_no {k : Nat} (h : DefAt K mg x st) (Sc : ∃ ps : List Str, ∀ (kV doc pm : Value) (an : Option Addr) (cdv ct : Value) (us : List Value), us.length = ps.length → bindArgs (PySem.W.fnOf x x (defArgs st) (defBody st) (defScope st) .none kV doc pm an cdv ct) ⟨us, []⟩ = pure (ps.zip us)) :
    Callee P w K mg base x k (fun _ _ _ => False) := by
  obtain ⟨fd, hm, F⟩ := h
  obtain ⟨ps, hb⟩ := Sc
  exact ⟨_, fd, ps, hm, F.kp, F.bindsN hb, fn_no⟩
end
section
variable {X : Cx} {x : Str} {e : Expr} {es : List Expr} {wr : WA} {p pos : Pos} {k j : Nat} {c : CS}
theorem ge_callee (C : Callee X.prog X.w X.K X.mg X.base x k c) (hr : RoomG j X.A) (ha : GAs X (e :: es) wr) (hj : k ≤ j := by decide) (hg : Gl X x := by rfl)
    (hdb : (x == ("__debug__" : Str)) = false := by decide) (he : starEach (e :: es) X.env = (false, eval e X.env) :: starEach es X.env := by rfl) (hpl : (backTo pos (starEach es X.env)).any (·.1) = false := by rfl) :
    GE X (.Call (.Name x p) (e :: es) [] pos) (wCall c wr) := by
  obtain ⟨f, fd, ps, hm, hk, hb, F⟩ := C
  exact ge_call F (hr.mono hj) hm hk hb ha hg hdb he hpl
end

/-! ### the law -/
def spLaw (K : PySem.W.Frag) : Sp := fun vs H Q _ => ∃ (a : Addr) (ns : List Int), vs = [.ref a] ∧ SqL K H a (ns.map V.int) ∧ ns.length ≤ 63 ∧ ∀ H', Q (.bl true) H'
theorem law_fn {P : Program} {w : World} {K : PySem.W.Frag} {mg : Str → Option Value} {base : Heap} {k : Nat} {f : Addr} {fd : FuncData} {c : CS} (F : FnG P w K mg base k f fd ["script"] (spOf c))
    (h : ∀ ns : List Int, ns.length ≤ 63 → c [.scr K ns] Sto.nil fun d _ => d = .bl true) : FnG P w K mg base k f fd ["script"] (spLaw K) := by
  refine F.imp fun vs H Q E ⟨a, ns, ev, hS, hl, q⟩ => ?_
  subst ev
  have hd : ¬ alive (fun _ => False) Sto.nil a := fun z => by
    rcases z with z | z
    · exact z
    · exact z rfl
  refine ⟨fun _ => False, Sto.nil, [.scr K ns], _, ⟨fun c x e => (nomatch e), fun _ z => False.elim z⟩, .cons (.scr (.of hS hd)) .nil, h ns hl, fun d S' e v H' t cc r => ?_⟩
  rw [e] at r
  cases r
  exact q H'

/-! ### the end: the law's def at the heap behind the top -/
theorem head_call {P : Program} {w : World} {K : PySem.W.Frag} {mg mb : Str → Option Value} {k : Nat} {fa a : Addr} {fd : FuncData} {x : Str} {sp : Sp} {s1 : Shared} {us : List Value} {ns : List Int}
    (kin : K.In s1.heap) (gn : s1.heap.Ns mainGlobals mg) (gb : s1.heap.Ns builtinsNs mb) (gbb : ∀ y : Str, y ≠ "__name__" → mb y = bootBuiltins y) (lim : s1.heap.NoLimit) (gg : s1.gens = #[])
    (ga : s1.heap.get? a = some { cls := .type "list", data := .seq us.toArray }) (gi : IntsAre us ns) (gl : ns.length ≤ sizeLine) (gr : Room k callerA)
    (F : ∀ base : Heap, K.In base → base.Ns mainGlobals mg → FnG P w K mg base k fa fd [x] sp) (bi : ∀ (s : Shared) (u : Value), BindsTo s fd ⟨[u], []⟩ [(x, u)])
    (gs : ∀ H : Hp, Only H → SqL K H a (ns.map V.int) → sp [.ref a] H (fun v _ => v = .bl true) fun _ _ _ => False) :
    codeAny (model P w) callerA (.call (.ref fa) ⟨[.ref a], []⟩) (fun r s2 => r = .ok (.ret (.bool true)) ∧ OldK s1.heap s2.heap ∧ s2.os = s1.os ∧ AllBare s2.gens) s1 := by
  have rv := vals_ints gi
  have lu := gi.length
  have core : ∀ H : Hp, Only H → SqL K H a (ns.map V.int) → HOk P w H s1.heap → (∀ c, H c ≠ none → c = a) → (H a ≠ none → K.lookup a = none) →
      codeAny (model P w) callerA (.call (.ref fa) ⟨[.ref a], []⟩) (fun r s2 => r = .ok (.ret (.bool true)) ∧ OldK s1.heap s2.heap ∧ s2.os = s1.os ∧ AllBare s2.gens) s1 := by
    intro H onl sq ok oa ok2
    have lay : ∀ {c : Addr} {m : Obj}, s1.heap.get? c = some m → H c = none → (hidT s1.heap H).get? c = some m := fun e n => hidT_get e n
    have nd : ∀ {c : Addr} {m : Obj} {es : Array DictEntry} {ep : Nat}, s1.heap.get? c = some m → m.data = .dict es ep → H c = none := fun {c m es ep} e d => by
      cases z : H c with
      | none => rfl
      | some y =>
        have e1 : c = a := oa c (by rw [z]; simp)
        rw [e1, ga] at e
        cases e
        cases (show Data.seq us.toArray _ = Data.dict es ep from d)
    have nsk : ∀ {c : Addr} {m : Str → Option Value}, s1.heap.Ns c m → (hidT s1.heap H).Ns c m := fun {c m} ⟨o, es, ep, e, d, r⟩ => ⟨o, es, ep, lay e (nd e d), d, r⟩
    have kb : K.In (hidT s1.heap H) := fun c o e => lay (kin c o e) (by
      cases z : H c with
      | none => rfl
      | some y =>
        have e1 : c = a := oa c (by rw [z]; simp)
        rw [e1, ok2 (by rw [← e1, z]; simp)] at e
        cases e)
    have md : Mod K mg (hidT s1.heap H) := ⟨kb, nsk gn, ⟨mb, nsk gb, gbb⟩, let ⟨mc, z1, z2⟩ := lim; ⟨mc, nsk z1, z2⟩⟩
    have e0 : Env0 P w K mg (hidT s1.heap H) callerA [] s1 H := ⟨rfl, md, fun c o e => of_hidT e, Nat.le_of_eq (hidT_size _ _), trivial, fun c hc => absurd (show c ∈ ([] : List Addr) from hc) (by simp), ok, .of_eq gg⟩
    refine codeAny_mono ((F _ kb (nsk gn)).run callerA [] s1 H ⟨[.ref a], []⟩ [.ref a] [.ref a] _ _ ⟨gr, rfl⟩ e0 (bi s1 (.ref a)) (.cons rfl .nil) (gs H onl sq)) fun r s2 h => ?_
    cases r with
    | error y => exact False.elim h
    | ok fl =>
      cases fl with
      | ret u =>
        obtain ⟨v, H2, eos, bare, un, ok3, rv2, qv⟩ := h
        obtain rfl : v = .bl true := qv
        obtain rfl : u = Value.bool true := rv2
        refine ⟨rfl, OldK.of_keep fun c m e => ?_, eos, bare⟩
        cases z : H c with
        | none => exact un.keep c m e z (by intro t; exact absurd (show c ∈ ([] : List Addr) from t) (by simp)) (by simp)
        | some y =>
          rcases onl c with t | ⟨ob, xs, t⟩
          · rw [z] at t
            cases t
          · obtain ⟨g1, _⟩ := ok c _ t
            obtain ⟨g2, _⟩ := ok3 c _ (un.frzs c ob _ t)
            rw [e] at g1
            cases g1
            exact g2
      | _ => exact False.elim h
  cases hk : K.lookup a with
  | some m =>
    have e := kin a m hk
    rw [ga] at e
    cases e
    refine core (fun _ => none) (fun _ => .inl rfl) (.inr ⟨_, us.toArray, _, hk, rfl, rfl, rfl, by rw [List.size_toArray, lu]; exact gl, by simpa using rv⟩) (fun c y t => (nomatch (show (none : Option HO) = some y from t))) (fun c t => absurd rfl t) fun t => absurd rfl t
  | none =>
    have at_ : ∀ c, c ≠ a → (if c = a then some (HO.frz { cls := .type "list", data := .seq us.toArray } (.lst (ns.map V.int))) else none) = none := fun c n => if_neg n
    refine core (fun c => if c = a then some (.frz { cls := .type "list", data := .seq us.toArray } (.lst (ns.map V.int))) else none) (fun c => ?_) (.inl (.inr ⟨{ cls := .type "list", data := .seq us.toArray }, if_pos rfl⟩)) (fun c y t => ?_) (fun c t => ?_) fun _ => hk
    · by_cases n : c = a
      · exact .inr ⟨_, _, if_pos n⟩
      · exact .inl (at_ c n)
    · by_cases n : c = a
      · have t2 := (if_pos n).symm.trans t
        cases t2
        rw [n]
        exact ⟨ga, by rw [List.length_map]; exact gl, us, _, rv, ga⟩
      · cases (at_ c n).symm.trans t
    · by_cases n : c = a
      · exact n
      · exact absurd (at_ c n) t
theorem walk_ofG {l : PySem.W.OpenLaw} {n k : Nat} {q : Program} {loose : List Str} {XP : (Str → Option Value) → Heap → Prop} {YP : World → Heap → Prop} {d : DefRec} {x : Str}
    (hn : l.most = some n) (hn2 : n ≤ sizeLine) (hdf : d.params.defaults = []) (hr : Room k callerA)
    (F : ∀ (w : World) (mg : Str → Option Value) (fa : Addr) (h : Heap), YP w h → h.Ns mainGlobals mg → mg d.name = some (.ref fa) →
      ∃ (K : PySem.W.Frag) (fd : FuncData) (sp : Sp), K.In h ∧ (∀ (s : Shared) (u : Value), BindsTo s fd ⟨[u], []⟩ [(x, u)]) ∧
        (∀ (H : Hp) (a : Addr) (ns : List Int), ns.length ≤ n → Only H → SqL K H a (ns.map V.int) → sp [.ref a] H (fun v _ => v = .bl true) fun _ _ _ => False) ∧
        ∀ base : Heap, K.In base → base.Ns mainGlobals mg → FnG l.prog w K mg base k fa fd [x] sp) :
    PySem.W.WalkO q loose XP YP l.row.toRowW d [] (fun f vs => PySem.call f vs) := by
  refine Att.attach_call hn hdf fun w s0 s1 mg mb fa o pm cd doc a vs ns gT gY ho hd hcd hmg hob hin hle hge => ?_
  obtain ⟨K, fd, sp, kx, hb, hsp, hF⟩ := F w mg fa _ gY gT.T.g hmg
  exact head_call kx gT.T.g gT.T.b gT.T.builtins gT.T.nolimit hge hob hin (Nat.le_trans hle hn2) hr hF hb fun H hO hS => hsp H a ns hle hO hS
end G

set_option linter.all false
set_option maxRecDepth 100000
set_option autoImplicit false
namespace G
open PySem PySem.Spec PyProof.Rows L2

/-! ### steps, from the goal backwards -/
section
variable {E : EndsG} {ρ : Rho} {S : Sto} {K : KE} {i : Nat} {d : D} {a b c : WE} {ta tb : WT} {s t u : WS}
theorem st_seq {na ba ca : Rho → Sto → Prop} {ra : D → Sto → Prop} (h : t ⟨u ⟨na, ra, ba, ca⟩, ra, ba, ca⟩ ρ S) : wSeq t u ⟨na, ra, ba, ca⟩ ρ S := ⟨_, h, fun _ _ z => z⟩
theorem st_skip {na ba ca : Rho → Sto → Prop} {ra : D → Sto → Prop} (h : na ρ S) : wSkip ⟨na, ra, ba, ca⟩ ρ S := h
theorem st_ret {na ba ca : Rho → Sto → Prop} {ra : D → Sto → Prop} (h : a ρ S ra) : wRet a ⟨na, ra, ba, ca⟩ ρ S := h
theorem st_retN {na ba ca : Rho → Sto → Prop} {ra : D → Sto → Prop} (h : ra .non S) : wRetN ⟨na, ra, ba, ca⟩ ρ S := h
theorem st_do {na ba ca : Rho → Sto → Prop} {ra : D → Sto → Prop} (h : a ρ S fun _ S1 => na ρ S1) : wDo a ⟨na, ra, ba, ca⟩ ρ S := h
theorem st_if (h : ta ρ S fun k S1 => (k = true → t E ρ S1) ∧ (k = false → u E ρ S1)) : wIf ta t u E ρ S := h
theorem st_set {na ba ca : Rho → Sto → Prop} {ra : D → Sto → Prop} (h : a ρ S fun d S1 => na (ρ.set i (some d)) S1) : wSet i a ⟨na, ra, ba, ca⟩ ρ S := h
theorem st_asg {na ba ca : Rho → Sto → Prop} {ra : D → Sto → Prop} {g : WG} (h : a ρ S fun d S1 => g d ρ S1 na) : wAsg a g ⟨na, ra, ba, ca⟩ ρ S := h
theorem st_par {na ba ca : Rho → Sto → Prop} {ra : D → Sto → Prop} {j : Nat} (h : a ρ S fun x S1 => b ρ S1 fun y S2 => na ((ρ.set i (some x)).set j (some y)) S2) : wPar i j a b ⟨na, ra, ba, ca⟩ ρ S := h
theorem st_var (e : Rho.get ρ i = some d) (h : K d S) : wVar i ρ S K := by
  unfold wVar
  rw [e]
  exact h
theorem st_c (h : K d S) : wC d ρ S K := h
theorem st_op2 {o : Op2} (h : a ρ S fun x S1 => b ρ S1 fun y S2 => o x y S2 K) : wOp2 o a b ρ S K := h
theorem st_op1 {o : Op1} (h : a ρ S fun x S1 => o x S1 K) : wOp1 o a ρ S K := h
theorem st_test {K : Bool → Sto → Prop} (h : a ρ S fun d S' => ∃ b, d = .bl b ∧ K b S') : wTest a ρ S K := h
theorem st_tbl {K : Bool → Sto → Prop} {k : Bool} (h : K k S) : ∃ b, D.bl k = .bl b ∧ K b S := ⟨k, rfl, h⟩
theorem st_and {K : Bool → Sto → Prop} (h : ta ρ S fun c S1 => (c = true → tb ρ S1 K) ∧ (c = false → K false S1)) : wAnd ta tb ρ S K := h
theorem st_or {K : Bool → Sto → Prop} (h : ta ρ S fun c S1 => (c = true → K true S1) ∧ (c = false → tb ρ S1 K)) : wOr ta tb ρ S K := h
theorem st_not {K : Bool → Sto → Prop} (h : ta ρ S fun c S1 => K (!c) S1) : wNot ta ρ S K := h
theorem st_andV (h : a ρ S fun x S1 => ∃ c, x = .bl c ∧ (c = true → b ρ S1 K) ∧ (c = false → K (.bl false) S1)) : wAndV a b ρ S K := h
theorem st_orV (h : a ρ S fun x S1 => ∃ c, x = .bl c ∧ (c = true → K (.bl true) S1) ∧ (c = false → b ρ S1 K)) : wOrV a b ρ S K := h
theorem st_notV (h : a ρ S fun x S1 => ∃ c, x = .bl c ∧ K (.bl (!c)) S1) : wNotV a ρ S K := h
theorem st_bl {k : Bool} {P : Bool → Prop} (h : P k) : ∃ c, D.bl k = .bl c ∧ P c := ⟨k, rfl, h⟩
theorem st_ifE (h : ta ρ S fun c S1 => (c = true → a ρ S1 K) ∧ (c = false → b ρ S1 K)) : wIfE ta a b ρ S K := h
theorem st_chain {o o' : Op2} (h : a ρ S fun x S1 => b ρ S1 fun y S2 => o x y S2 fun z S3 => ∃ k, z = .bl k ∧ (k = true → c ρ S3 fun w S4 => o' y w S4 K) ∧ (k = false → K (.bl false) S3)) : wChain o o' a b c ρ S K := h
theorem st_nil {K : List D → Sto → Prop} (h : K [] S) : wNil ρ S K := h
theorem st_cons {r : WA} {K : List D → Sto → Prop} (h : a ρ S fun x S1 => r ρ S1 fun xs S2 => K (x :: xs) S2) : wCons a r ρ S K := h
theorem st_call {o : OpC} {r : WA} (h : r ρ S fun ds S1 => o ds S1 K) : wCall o r ρ S K := h
theorem st_fr {w : WF} (h : w ρ S fun ds S1 => K (.lst ds) S1) : wFr w ρ S K := h
theorem st_lv {w : WF} (h : w ρ S fun ds S1 => ∀ p, S1 p = none → K (.cell p) (S1.set p (.lst ds))) : wLv w ρ S K := h
theorem st_lst {r : WA} {K : List D → Sto → Prop} (h : r ρ S fun ds S1 => ds.length ≤ sizeLine ∧ K ds S1) : wLst r ρ S K := h
theorem st_tup {r : WA} (h : r ρ S fun ds S1 => ds.length ≤ sizeLine ∧ K (.tup ds) S1) : wTup r ρ S K := h
theorem st_list {K : List D → Sto → Prop} (h : a ρ S fun x S1 => match listOf S1 x with
  | some ds => K ds S1
  | none => False) : wList a ρ S K := h
theorem st_one {o : Op1} (h : o d S K) : one o [d] S K := h
theorem st_two {o : Op2} {e : D} (h : o d e S K) : two o [d, e] S K := h
theorem st_for {w : WI} {g : WG} (h : w ρ S fun it S1 => forW it.keep g t E it.items ρ S1) : wFor w g t E ρ S := h
theorem st_gN {K : Rho → Sto → Prop} (h : K (ρ.set i (some d)) S) : gN i d ρ S K := h
theorem st_gsC {K : Rho → Sto → Prop} {es : List D} {g : WG} {gs : WGs} (h : g d ρ S fun ρ1 S1 => gs es ρ1 S1 K) : gsC g gs (d :: es) ρ S K := ⟨d, es, rfl, h⟩
theorem st_gsN {K : Rho → Sto → Prop} (h : K ρ S) : gsN [] ρ S K := ⟨rfl, h⟩
theorem st_frz (h : a ρ S fun d S1 => ∃ c, d = .cell c ∧ ((∃ ds, S1 c = some (.lst ds) ∧ K (.lst ds) (S1.del c)) ∨ (∃ es, S1 c = some (.dic es) ∧ K (.dic es) (S1.del c)))) : wFrz a ρ S K := h
/-! ### values -/
theorem st_add {x y : Int} (h : K (.int (x + y)) S) : oAdd (.int x) (.int y) S K := h
theorem st_addS {x y : Str} (l : x.length + y.length ≤ sizeLine) (h : K (.str (x ++ y)) S) : oAdd (.str x) (.str y) S K := ⟨l, h⟩
theorem st_addT {x y : List D} (l : x.length + y.length ≤ sizeLine) (h : K (.tup (x ++ y)) S) : oAdd (.tup x) (.tup y) S K := ⟨l, h⟩
theorem st_sub {x y : Int} (h : K (.int (x - y)) S) : oSub (.int x) (.int y) S K := ⟨trivial, h⟩
theorem st_mul {x y : Int} (l : x.natAbs.log2 + y.natAbs.log2 < 1000000) (h : K (.int (x * y)) S) : oMul (.int x) (.int y) S K := ⟨l, h⟩
theorem st_div {x y : Int} (l : 0 < y) (l2 : y.natAbs.log2 < 9000) (h : K (.int (x / y)) S) : oDiv (.int x) (.int y) S K := ⟨⟨l, l2⟩, h⟩
theorem st_mod {x y : Int} (l : 0 < y) (h : K (.int (x % y)) S) : oMod (.int x) (.int y) S K := by
  have e : x.fmod y = x % y := Int.fmod_eq_emod_of_nonneg _ (by omega)
  refine ⟨by omega, ?_⟩
  show K (.int (x.fmod y)) S
  rw [e]
  exact h
theorem st_pow {x y : Int} (l : 0 ≤ y ∧ y ≤ 1000000 ∧ x.natAbs < 2 ^ 64) (h : K (.int (x ^ y.toNat)) S) : oPow (.int x) (.int y) S K := ⟨l, h⟩
theorem st_neg {x : Int} (h : K (.int (-x)) S) : oNeg (.int x) S K := h
theorem st_lt {x y : Int} (h : K (.bl (decide (x < y))) S) : oLt (.int x) (.int y) S K := h
theorem st_le {x y : Int} (h : K (.bl (decide (x ≤ y))) S) : oLe (.int x) (.int y) S K := h
theorem st_gt {x y : Int} (h : K (.bl (decide (y < x))) S) : oGt (.int x) (.int y) S K := h
theorem st_ge {x y : Int} (h : K (.bl (decide (y ≤ x))) S) : oGe (.int x) (.int y) S K := h
theorem shaped_int (x : Int) : SeqAt.shaped (.int x) = true := by simp [SeqAt.shaped, PyData.canLay0, PyData.depth]
theorem st_eq {x y : Int} (h : K (.bl (decide (x = y))) S) : oEq (.int x) (.int y) S K := .inr ⟨_, _, rfl, rfl, shaped_int x, shaped_int y, h⟩
theorem st_ne {x y : Int} (h : K (.bl (!decide (x = y))) S) : oNe (.int x) (.int y) S K := .inr ⟨_, _, rfl, rfl, shaped_int x, shaped_int y, h⟩
theorem shaped_bl (x : Bool) : SeqAt.shaped (.bool x) = true := by simp [SeqAt.shaped, PyData.canLay0, PyData.depth]
theorem st_eqB {x y : Bool} (h : K (.bl (x == y)) S) : oEq (.bl x) (.bl y) S K := .inr ⟨_, _, rfl, rfl, shaped_bl x, shaped_bl y, h⟩
theorem st_neB {x y : Bool} (h : K (.bl (!(x == y))) S) : oNe (.bl x) (.bl y) S K := .inr ⟨_, _, rfl, rfl, shaped_bl x, shaped_bl y, h⟩
theorem st_isN {x : D} (h : K (.bl x.isNon) S) : oIs x .non S K := h
theorem st_isNotN {x : D} (h : K (.bl (!x.isNon)) S) : oIsNot x .non S K := h
theorem st_isi {x : D} {k : Kind} {Ts : List Kind} (e : kindOf S x = some k) (h : K (.bl (Ts.any k.isa)) S) : oIsi Ts x S K := by
  unfold oIsi
  rw [e]
  exact h
theorem st_int {x : Int} (h : K (.int x) S) : oInt (.int x) S K := h
theorem st_len {x : D} {ds : List D} (e : seqOf S x = some ds) (h : K (.int (ds.length : Nat)) S) : oLen x S K := by
  cases x <;> try (cases e; done)
  · cases e; exact h
  · cases e; exact h
  · rename_i c
    show match seqOf S (.cell c) with
      | some ds => K (.int (ds.length : Nat)) S
      | none => _
    rw [e]
    exact h
theorem st_lenS {x : Str} (l : x.length ≤ sizeLine) (h : K (.int (x.length : Nat)) S) : oLen (.str x) S K := ⟨l, h⟩
theorem st_ix {x : D} {ds : List D} {j : Int} (e : seqOf S x = some ds) (e2 : atI ds j = some d) (h : K d S) : oIx x (.int j) S K := by
  have go : ∀ o : Option (List D), o = some ds → (match o with
      | some ds => (match atI ds j with
        | some d => K d S
        | none => False)
      | none => False) := fun o eo => by
    subst eo
    show (match atI ds j with
        | some d => K d S
        | none => False)
    rw [e2]
    exact h
  cases x <;> first | exact go _ e | exact nomatch e
theorem st_tuple {x : D} {ds : List D} (e : seqOf S x = some ds) (h : K (.tup ds) S) : oTuple x S K := by
  unfold oTuple
  rw [e]
  exact h
theorem st_all {x : D} {ds : List D} {bs : List Bool} (e : lstOf S x = some ds) (e2 : bools? ds = some bs) (h : K (.bl (bs.all id)) S) : oAll x S K := ⟨ds, bs, e, e2, h⟩
/-! ### branches -/
theorem br_t {A B : Prop} (h : A) : (true = true → A) ∧ (true = false → B) := ⟨fun _ => h, fun z => nomatch z⟩
theorem br_f {A B : Prop} (h : B) : (false = true → A) ∧ (false = false → B) := ⟨fun z => (nomatch z), fun _ => h⟩
theorem br_b {k : Bool} {A B : Prop} (h1 : k = true → A) (h2 : k = false → B) : (k = true → A) ∧ (k = false → B) := ⟨h1, h2⟩
end
/-! ### a whole def -/
theorem st_def {n m : Nat} {w : WS} {ds : List D} {S : Sto} {K : KE} (l : ds.length = n) (h : w ⟨fun _ S' => fin K .non S', fin K, fun _ _ => False, fun _ _ => False⟩ (ds.map some ++ List.replicate (m - n) none) S) : wDef n m w ds S K := ⟨l, h⟩
/-! ### loops -/
theorem for_ind {keep : Sto → Prop} {g : WG} {body : WS} {na ba ca : Rho → Sto → Prop} {ra : D → Sto → Prop} {I : List D → Rho → Sto → Prop} {items : List D} {ρ : Rho} {S : Sto} (h0 : I items ρ S) (hn : ∀ ρ S, I [] ρ S → keep S ∧ na ρ S)
    (hs : ∀ d ds (F : Rho → Sto → Prop), (∀ ρ S, I ds ρ S → F ρ S) → ∀ ρ S, I (d :: ds) ρ S → keep S ∧ g d ρ S fun ρ1 S1 => body ⟨F, ra, na, F⟩ ρ1 S1) : forW keep g body ⟨na, ra, ba, ca⟩ items ρ S := by
  induction items generalizing ρ S with
  | nil => exact hn ρ S h0
  | cons d ds ih => exact hs d ds _ (fun ρ S h => ih h) ρ S h0
theorem while_ind {c : WT} {body : WS} {na ba ca : Rho → Sto → Prop} {ra : D → Sto → Prop} {I : Nat → Rho → Sto → Prop} {m : Nat} {ρ : Rho} {S : Sto} (h0 : I m ρ S)
    (hs : ∀ m (F : Rho → Sto → Prop), (∀ m', m' < m → ∀ ρ S, I m' ρ S → F ρ S) → ∀ ρ S, I m ρ S → c ρ S fun k S1 => (k = true → body ⟨F, ra, na, F⟩ ρ S1) ∧ (k = false → na ρ S1)) : wWhile c body ⟨na, ra, ba, ca⟩ ρ S := by
  have go : ∀ n m, m < n → ∀ ρ S, I m ρ S → whileN c body ⟨na, ra, ba, ca⟩ n ρ S := by
    intro n
    induction n with
    | zero => intro m h; omega
    | succ n ih => intro m h ρ S i; exact hs m _ (fun m' l ρ S i' => ih m' (by omega) ρ S i') ρ S i
  exact ⟨m + 1, go (m + 1) m (Nat.lt_succ_self m) ρ S h0⟩
theorem comp_ind {keep : Sto → Prop} {g : WG} {t : WT} {e : WE} {ρ : Rho} {K : List D → Sto → Prop} {I : List D → List D → Sto → Prop} {items acc : List D} {S : Sto} (h0 : I items acc S) (hn : ∀ acc S, I [] acc S → keep S ∧ K acc S)
    (hs : ∀ d ds (F : List D → Sto → Prop), (∀ acc S, I ds acc S → F acc S) → ∀ acc S, I (d :: ds) acc S → keep S ∧ g d ρ S fun ρ1 S1 => t ρ1 S1 fun b S2 => (b = true → e ρ1 S2 fun y S3 => acc.length < sizeLine ∧ F (acc ++ [y]) S3) ∧ (b = false → F acc S2)) : compW keep g t e ρ items acc S K := by
  induction items generalizing acc S with
  | nil => exact hn acc S h0
  | cons d ds ih => exact hs d ds _ (fun acc S h => ih h) acc S h0
/-- each item its value, nothing changes -/
theorem comp_map {keep : Sto → Prop} {g : WG} {e : WE} {ρ : Rho} {K : List D → Sto → Prop} {items : List D} {S : Sto} (f : D → D) (hk : keep S) (l : items.length ≤ sizeLine)
    (hs : ∀ d, d ∈ items → ∀ K : D → Sto → Prop, ∀ F : Sto → Prop, K (f d) S → g d ρ S fun ρ1 S1 => (true = true → e ρ1 S1 K) ∧ (true = false → F S1)) (h : K (items.map f) S) : compW keep g wYes e ρ items [] S K := by
  refine comp_ind (I := fun ds acc S1 => S1 = S ∧ acc ++ ds.map f = items.map f ∧ (∀ d, d ∈ ds → d ∈ items)) ⟨rfl, rfl, fun _ z => z⟩ (fun acc S1 ⟨e1, e2, _⟩ => ?_) fun d ds F ih acc S1 ⟨e1, e2, e3⟩ => ?_
  · subst e1
    refine ⟨hk, ?_⟩
    rw [List.map_nil, List.append_nil] at e2
    rw [e2]
    exact h
  · subst e1
    refine ⟨hk, ?_⟩
    have hl := congrArg List.length e2
    simp at hl
    exact hs d (e3 d (List.mem_cons_self ..)) (fun y S3 => acc.length < sizeLine ∧ F (acc ++ [y]) S3) (F acc) ⟨by omega, ih _ _ ⟨rfl, by rw [List.append_assoc]; exact e2, fun x hx => e3 x (List.mem_cons_of_mem _ hx)⟩⟩
theorem seq_at {S : Sto} {p : Addr} {ds : List D} (h : S p = some (.lst ds)) : seqOf S (.cell p) = some ds := by
  show (match S p with
    | some (.lst ds) => some ds
    | _ => none) = some ds
  rw [h]
theorem lst_at {S : Sto} {p : Addr} {ds : List D} (h : S p = some (.lst ds)) : lstOf S (.cell p) = some ds := by
  show (match S p with
    | some (.lst ds) => some ds
    | _ => none) = some ds
  rw [h]
theorem st_isi2 {S : Sto} {K : KE} {x : D} {k : Kind} {Ts : List Kind} {b : Bool} (e : kindOf S x = some k) (eb : Ts.any k.isa = b) (h : K (.bl b) S) : oIsi Ts x S K := st_isi e (eb.symm ▸ h)
theorem br_ct {c : Bool} {A B : Prop} (e : c = true) (h : A) : (c = true → A) ∧ (c = false → B) := by
  subst e
  exact br_t h
theorem br_cf {c : Bool} {A B : Prop} (e : c = false) (h : B) : (c = true → A) ∧ (c = false → B) := by
  subst e
  exact br_f h
theorem st_len2 {S : Sto} {K : KE} {x : D} {ds : List D} {n : Int} (e : seqOf S x = some ds) (el : ((ds.length : Nat) : Int) = n) (h : K (.int n) S) : oLen x S K := st_len e (el.symm ▸ h)
theorem st_listM {x : D} {S : Sto} {ds : List D} {K : List D → Sto → Prop} (e : listOf S x = some ds) (h : K ds S) : (match listOf S x with
    | some ds => K ds S
    | none => False) := by
  rw [e]
  exact h
theorem list_str {S : Sto} {z : Str} (h : z.length ≤ sizeLine) : listOf S (.str z) = some (charsD z) := if_pos h
theorem st_itM {d : D} {S : Sto} {it : IT} {K : IT → Sto → Prop} (e : itemsOf S d = some it) (h : K it S) : (match itemsOf S d with
    | some it => K it S
    | none => False) := by
  rw [e]
  exact h
theorem st_it {w : WE} {ρ : Rho} {S : Sto} {K : IT → Sto → Prop} (h : w ρ S fun d S1 => match itemsOf S1 d with
    | some it => K it S1
    | none => False) : wIt w ρ S K := h
def itAt (p : Addr) (ds : List D) : IT := ⟨ds, fun S' => S' p = some (.lst ds)⟩
theorem it_at {S : Sto} {p : Addr} {ds : List D} (h : S p = some (.lst ds)) : itemsOf S (.cell p) = some (itAt p ds) := by
  unfold itemsOf
  dsimp only
  rw [h]
  rfl
theorem st_comp {w : WI} {g : WG} {t : WT} {e : WE} {vs : List Nat} {ρ : Rho} {S : Sto} {K : List D → Sto → Prop} (h : w ρ S fun it S1 => compW it.keep g t e (wipeR ρ vs) it.items [] S1 K) : wComp w g t e vs ρ S K := h
theorem st_gIx {o i : WE} {d : D} {ρ : Rho} {S : Sto} {K : Rho → Sto → Prop} (h : o ρ S fun x S1 => i ρ S1 fun y S2 => ∃ c ds k j, x = .cell c ∧ S2 c = some (.lst ds) ∧ y = .int k ∧ ixN ds.length k = some j ∧ K ρ (S2.set c (.lst (ds.set j d)))) : gIx o i d ρ S K := h
theorem st_ixM {c : Addr} {ds : List D} {k : Int} {j : Nat} {d : D} {ρ : Rho} {S : Sto} {K : Rho → Sto → Prop} (e : S c = some (.lst ds)) (ej : ixN ds.length k = some j) (h : K ρ (S.set c (.lst (ds.set j d)))) : ∃ (c' : Addr) (ds' : List D) (k' : Int) (j' : Nat), D.cell c = .cell c' ∧ S c' = some (.lst ds') ∧ D.int k = .int k' ∧ ixN ds'.length k' = some j' ∧ K ρ (S.set c' (.lst (ds'.set j' d))) := ⟨c, ds, k, j, rfl, e, rfl, ej, h⟩
theorem st_range1 {a : WE} {ρ : Rho} {S : Sto} {K : IT → Sto → Prop} (h : a ρ S fun x S1 => ∃ j : Int, x = .int j ∧ -(2 ^ 62) ≤ j ∧ j < 2 ^ 62 ∧ K ⟨irange 0 j.toNat, fun _ => True⟩ S1) : wRange1 a ρ S K := h
theorem st_app {o a : WE} {ρ : Rho} {S : Sto} {K : KE} (h : o ρ S fun d S1 => ∃ c, d = .cell c ∧ (∃ ds, S1 c = some (.lst ds)) ∧ a ρ S1 fun y S2 => ∃ ds, S2 c = some (.lst ds) ∧ ds.length < sizeLine ∧ K .non (S2.set c (.lst (ds ++ [y])))) : wApp o a ρ S K := h
theorem lg_lt {n k : Nat} (h : n < 2 ^ k) (hk : 0 < k) : n.log2 < k := by
  by_cases z : n = 0
  · subst z; exact hk
  · exact (Nat.log2_lt z).2 h
/-! ### equality of data -/
/-- what == may be asked of: no deeper than n -/
structure Sh (n : Nat) (p : PyData) : Prop where
  lay : p.canLay0 = true
  dp : p.depth ≤ n
theorem Sh.int (i : Int) (n : Nat) : Sh n (.int i) := ⟨by simp [PyData.canLay0], by simp [PyData.depth]⟩
theorem Sh.bl (i : Bool) (n : Nat) : Sh n (.bool i) := ⟨by simp [PyData.canLay0], by simp [PyData.depth]⟩
theorem Sh.non (n : Nat) : Sh n .none := ⟨by simp [PyData.canLay0], by simp [PyData.depth]⟩
theorem Sh.str {i : Str} (h : PyData.strOk i = true) (n : Nat) : Sh n (.str i) := ⟨by simp [PyData.canLay0, h], by simp [PyData.depth]⟩
theorem sh_all {n : Nat} : ∀ {ps : List PyData}, (∀ p, p ∈ ps → Sh n p) → PyData.canLayAll0 ps = true ∧ PyData.depthAll ps ≤ n
  | [], _ => ⟨by simp [PyData.canLayAll0], by simp [PyData.depthAll]⟩
  | p :: ps, h => by
    have a := h p (List.mem_cons_self ..)
    have b := sh_all (ps := ps) fun q hq => h q (List.mem_cons_of_mem _ hq)
    refine ⟨?_, ?_⟩
    · simp [PyData.canLayAll0, a.lay, b.1]
    · simp only [PyData.depthAll]
      have := a.dp
      have := b.2
      omega
theorem Sh.list {n : Nat} {ps : List PyData} (h : ∀ p, p ∈ ps → Sh n p) : Sh (n + 1) (.list ps) := ⟨by simp [PyData.canLay0, (sh_all h).1], by simp only [PyData.depth]; have := (sh_all h).2; omega⟩
theorem Sh.tup {n : Nat} {ps : List PyData} (h : ∀ p, p ∈ ps → Sh n p) : Sh (n + 1) (.tuple ps) := ⟨by simp [PyData.canLay0, (sh_all h).1], by simp only [PyData.depth]; have := (sh_all h).2; omega⟩
theorem Sh.shaped {n : Nat} {p : PyData} (h : Sh n p) (l : n ≤ 64) : SeqAt.shaped p = true := by
  unfold SeqAt.shaped
  rw [h.lay, decide_eq_true (Nat.le_trans h.dp l)]
  rfl
theorem st_mulS {x y : Int} {S : Sto} {K : KE} (hx : x.natAbs < 2 ^ 250) (hy : y.natAbs < 2 ^ 250) (h : K (.int (x * y)) S) : oMul (.int x) (.int y) S K := by
  have a := lg_lt hx (by decide)
  have b := lg_lt hy (by decide)
  exact st_mul (by omega) h
theorem st_divS {x y : Int} {S : Sto} {K : KE} (l : 0 < y) (hy : y.natAbs < 2 ^ 250) (h : K (.int (x / y)) S) : oDiv (.int x) (.int y) S K := by
  have b := lg_lt hy (by decide)
  exact st_div l (by omega) h
theorem st_allL {bs : List Bool} {S : Sto} {K : KE} (h : K (.bl (bs.all id)) S) : oAll (.lst (bs.map D.bl)) S K := st_all rfl (bools_map bs) h
theorem st_gT2 {n : Nat} {ρ : Rho} {S : Sto} {K : Rho → Sto → Prop} {ds : List D} {gs : WGs} (e : ds.length = n) (h : gs ds ρ S K) : gT n gs (.tup ds) ρ S K := ⟨ds, rfl, e, h⟩
theorem st_size {n : Nat} {P : Prop} (h : Nat.ble n sizeLine = true) (k : P) : n ≤ sizeLine ∧ P := ⟨Nat.le_of_ble_eq_true h, k⟩
theorem st_addLL {x y : D} {a b : List D} {S : Sto} {K : KE} (ex : lstOf S x = some a) (ey : lstOf S y = some b) (l : a.length + b.length ≤ sizeLine) (h : K (.lst (a ++ b)) S) : oAdd x y S K := by
  have go : (match lstOf S x, lstOf S y with
    | some ds, some es => ds.length + es.length ≤ sizeLine ∧ K (.lst (ds ++ es)) S
    | _, _ => False) := by
    rw [ex, ey]
    exact ⟨l, h⟩
  cases x <;> first | exact go | (cases ex; done)
theorem ixN_in {n : Nat} {j : Int} (h0 : 0 ≤ j) (h1 : j < n) : ixN n j = some j.toNat := by
  unfold ixN
  rw [if_pos h0, if_pos h1]
theorem st_ixAll {x : D} {ds : List D} {j : Int} {S : Sto} {K : KE} (e : seqOf S x = some ds) (h0 : 0 ≤ j) (h1 : j < (ds.length : Nat)) (h : ∀ d, d ∈ ds → K d S) : oIx x (.int j) S K := by
  have l : j.toNat < ds.length := by omega
  refine st_ix (d := ds[j.toNat]) e ?_ (h _ (List.getElem_mem l))
  unfold atI
  rw [ixN_in h0 h1]
  exact List.getElem?_eq_getElem l
theorem bnd_mul {x y X Y : Int} (hx : 0 ≤ x) (h1 : x ≤ X) (hy : 0 ≤ y) (h2 : y ≤ Y) : 0 ≤ x * y ∧ x * y ≤ X * Y :=
  ⟨Int.mul_nonneg hx hy, Int.mul_le_mul h1 h2 hy (Int.le_trans hx h1)⟩
section
variable {E : EndsG} {ρ : Rho} {S : Sto} {u t : WS} {a b c : WE} {g : WG} {w : WI} {tb : WT} {i j k : Nat} {f : Int → Int → Int}
theorem st_seqSet {na ba ca : Rho → Sto → Prop} {ra : D → Sto → Prop} (h : wSet i a ⟨u ⟨na, ra, ba, ca⟩, ra, ba, ca⟩ ρ S) : wSeq (wSet i a) u ⟨na, ra, ba, ca⟩ ρ S := st_seq h
theorem st_seqAsg {na ba ca : Rho → Sto → Prop} {ra : D → Sto → Prop} (h : wAsg a g ⟨u ⟨na, ra, ba, ca⟩, ra, ba, ca⟩ ρ S) : wSeq (wAsg a g) u ⟨na, ra, ba, ca⟩ ρ S := st_seq h
theorem st_seqDo {na ba ca : Rho → Sto → Prop} {ra : D → Sto → Prop} (h : wDo a ⟨u ⟨na, ra, ba, ca⟩, ra, ba, ca⟩ ρ S) : wSeq (wDo a) u ⟨na, ra, ba, ca⟩ ρ S := st_seq h
theorem st_seqPar {na ba ca : Rho → Sto → Prop} {ra : D → Sto → Prop} (h : wPar i j a b ⟨u ⟨na, ra, ba, ca⟩, ra, ba, ca⟩ ρ S) : wSeq (wPar i j a b) u ⟨na, ra, ba, ca⟩ ρ S := st_seq h
theorem st_seqPar3 {na ba ca : Rho → Sto → Prop} {ra : D → Sto → Prop} (h : wPar3 i j k a b c ⟨u ⟨na, ra, ba, ca⟩, ra, ba, ca⟩ ρ S) : wSeq (wPar3 i j k a b c) u ⟨na, ra, ba, ca⟩ ρ S := st_seq h
theorem st_seqFor {na ba ca : Rho → Sto → Prop} {ra : D → Sto → Prop} (h : wFor w g t ⟨u ⟨na, ra, ba, ca⟩, ra, ba, ca⟩ ρ S) : wSeq (wFor w g t) u ⟨na, ra, ba, ca⟩ ρ S := st_seq h
theorem st_seqWhile {na ba ca : Rho → Sto → Prop} {ra : D → Sto → Prop} (h : wWhile tb t ⟨u ⟨na, ra, ba, ca⟩, ra, ba, ca⟩ ρ S) : wSeq (wWhile tb t) u ⟨na, ra, ba, ca⟩ ρ S := st_seq h
theorem st_seqAug {na ba ca : Rho → Sto → Prop} {ra : D → Sto → Prop} (h : wAug i f a ⟨u ⟨na, ra, ba, ca⟩, ra, ba, ca⟩ ρ S) : wSeq (wAug i f a) u ⟨na, ra, ba, ca⟩ ρ S := st_seq h
theorem st_seqSkip {na ba ca : Rho → Sto → Prop} {ra : D → Sto → Prop} (h : wSkip ⟨u ⟨na, ra, ba, ca⟩, ra, ba, ca⟩ ρ S) : wSeq (wSkip) u ⟨na, ra, ba, ca⟩ ρ S := st_seq h
theorem st_seqRet {na ba ca : Rho → Sto → Prop} {ra : D → Sto → Prop} (h : wRet a ⟨u ⟨na, ra, ba, ca⟩, ra, ba, ca⟩ ρ S) : wSeq (wRet a) u ⟨na, ra, ba, ca⟩ ρ S := st_seq h
end
theorem st_ixM2 {c : Addr} {ds ds' : List D} {k : Int} {j : Nat} {d : D} {ρ : Rho} {S : Sto} {K : Rho → Sto → Prop} (e : S c = some (.lst ds)) (ej : ixN ds.length k = some j) (es : ds.set j d = ds') (h : K ρ (S.set c (.lst ds'))) : ∃ (c' : Addr) (ds' : List D) (k' : Int) (j' : Nat), D.cell c = .cell c' ∧ S c' = some (.lst ds') ∧ D.int k = .int k' ∧ ixN ds'.length k' = some j' ∧ K ρ (S.set c' (.lst (ds'.set j' d))) := st_ixM e ej (es.symm ▸ h)
theorem st_slF {F : PySem.W.Frag} {a : WE} {lo hi : WO} {ρ : Rho} {S : Sto} {K : List D → Sto → Prop} (h : a ρ S fun x S1 => lo ρ S1 fun l S2 => hi ρ S2 fun h S3 => ∃ ds, LstK F S3 x ds ∧ K (cutD ds l h) S3) : wSlF F a lo hi ρ S K := h
theorem st_oNo {ρ : Rho} {S : Sto} {K : Option Int → Sto → Prop} (h : K none S) : wONo ρ S K := h
theorem st_oS {a : WE} {ρ : Rho} {S : Sto} {K : Option Int → Sto → Prop} (h : a ρ S fun x S1 => match x with
  | .int i => K (some i) S1
  | _ => False) : wOSo a ρ S K := h
theorem st_scr {F : PySem.W.Frag} {ns : List Int} {S : Sto} {P : List D → Prop} (h : P (ns.map D.int)) : ∃ ds, LstK F S (.scr F ns) ds ∧ P ds := ⟨_, .inr ⟨ns, rfl, rfl⟩, h⟩
theorem cutD_map {α β : Type} (f : α → β) (xs : List α) (lo hi : Option Int) : cutD (xs.map f) lo hi = (cutD xs lo hi).map f := by
  unfold cutD
  rw [List.length_map, List.map_take, List.map_drop]
theorem st_enum {a : WE} {ρ : Rho} {S : Sto} {K : IT → Sto → Prop} (h : a ρ S fun x S1 => match x with
  | .lst ds => K ⟨ienum 0 ds, fun _ => True⟩ S1
  | .cell c => (match S1 c with
    | some (.lst ds) => K ⟨ienum 0 ds, fun S' => S' c = some (.lst ds)⟩ S1
    | _ => False)
  | _ => False) : wEnum a ρ S K := h
theorem cut_lo {α : Type} (xs : List α) (k : Nat) : cutD xs none (some (k : Int)) = xs.take k := by
  unfold cutD
  rw [HT.sIx_nat, HT.sIx_none, List.drop_zero, Nat.sub_zero]
  by_cases h : k ≤ xs.length
  · rw [Nat.min_eq_left h]
  · rw [Nat.min_eq_right (by omega), List.take_of_length_le (Nat.le_refl _), List.take_of_length_le (by omega)]
theorem cut_lh {α : Type} (xs : List α) (j k : Nat) : cutD xs (some (j : Int)) (some (k : Int)) = (xs.drop j).take (k - j) := by
  unfold cutD
  rw [HT.sIx_nat, HT.sIx_nat]
  by_cases h : j ≤ xs.length
  · rw [Nat.min_eq_left h]
    by_cases h2 : k ≤ xs.length
    · rw [Nat.min_eq_left h2]
    · rw [Nat.min_eq_right (by omega), List.take_of_length_le (by rw [List.length_drop]; exact Nat.le_refl _), List.take_of_length_le (by rw [List.length_drop]; omega)]
  · rw [List.drop_of_length_le (by omega), List.drop_of_length_le (l := xs) (i := j) (by omega), List.take_nil, List.take_nil]
theorem cut_l {α : Type} (xs : List α) (j : Nat) : cutD xs (some (j : Int)) none = xs.drop j := by
  unfold cutD
  rw [HT.sIx_nat, HT.sIx_none]
  by_cases h : j ≤ xs.length
  · rw [Nat.min_eq_left h, List.take_of_length_le (by rw [List.length_drop]; omega)]
  · rw [List.drop_of_length_le (by omega), List.drop_of_length_le (l := xs) (i := j) (by omega), List.take_nil]
theorem irange_length (lo : Int) (n : Nat) : (irange lo n).length = n := by unfold irange; simp
end G

set_option Elab.async false
set_option linter.all false
set_option maxRecDepth 100000
set_option autoImplicit false
set_option maxHeartbeats 1000000
namespace G
open PySem PySem.Spec PyProof.Rows L2
open Sem (wp)

/-! ### zip over lists and tuples, strict or not -/
def itH (tp : Bool) (h : Heap) (p a : Addr) (i : Nat) : Prop := match tp with
  | true => h.IsTupleIter p a i
  | false => h.IsListIter p a i
def sqH (tp : Bool) (h : Heap) (a : Addr) (xs : Array Value) : Prop := match tp with
  | true => h.IsTuple a xs
  | false => h.IsList a xs
theorem itH.ext {tp : Bool} {h h' : Heap} {p a c : Addr} {i : Nat} (x : itH tp h p a i) (e : Heap.ExtBut c h h') (n : p ≠ c) : itH tp h' p a i := by
  cases tp
  · exact Heap.IsListIter.extBut x e n
  · exact Heap.IsTupleIter.extBut x e n
theorem sqH.ext {tp : Bool} {h h' : Heap} {a c : Addr} {xs : Array Value} (x : sqH tp h a xs) (e : Heap.ExtBut c h h') (n : a ≠ c) : sqH tp h' a xs := by
  cases tp
  · exact Heap.IsList.extBut x e n
  · exact Heap.IsTuple.extBut x e n
theorem itH.mv {tp : Bool} {h h' : Heap} {p a : Addr} {i : Nat} (x : itH tp h p a i) (e : ∀ o, h.get? p = some o → h'.get? p = some o) : itH tp h' p a i := by
  cases tp
  · exact Heap.IsListIter.at x e
  · exact Heap.IsTupleIter.at x e
theorem itH.obj {tp : Bool} {h : Heap} {p a : Addr} {i : Nat} (x : itH tp h p a i) : ∃ o, h.get? p = some o ∧ ∀ v, o.data ≠ .cell v := by
  cases tp
  · obtain ⟨o, e, _, d⟩ := x
    exact ⟨o, e, fun v q => by rw [d] at q; cases q⟩
  · obtain ⟨o, e, _, d⟩ := x
    exact ⟨o, e, fun v q => by rw [d] at q; cases q⟩
/-- the zip object -/
abbrev zipO (sb : Bool) (h : Heap) (z u o : Addr) (f : Value) : Prop := h.get? z = some { cls := .type "zip", dict := none, data := .fields #[f, .bool false, .bool sb, .ref u, .ref o], slots := #[] }
section
variable {prog : Program} {w : World} {A : Around} {E : Value → Shared → Prop} {s : Shared}
theorem nx_item {tp : Bool} {p a : Addr} {i : Nat} {xs : Array Value} {x : Value} {Q : Value → Shared → Prop} (hp : itH tp s.heap p a i) (ha : sqH tp s.heap a xs) (hx : xs[i]? = some x)
    (q : ∀ h', itH tp h' p a (i + 1) → Heap.SameBut p s.heap h' → Q x { s with heap := h' }) : wpAny (model prog w) A (Builtin.SmallTypes.nextOf (.ref p)) Q E s := by
  cases tp
  · exact wpAny_nextOf_list_item hp ha hx q
  · exact RZ.nextOf_tuple_item hp ha hx q
def stopAt (h : Heap) (e : Addr) : Prop := ∃ o, h.get? e = some o ∧ o.cls = .type "StopIteration"
theorem nx_end {tp : Bool} {p a : Addr} {i : Nat} {xs : Array Value} {Q : Value → Shared → Prop} (hh : A.handled = none) (hp : itH tp s.heap p a i) (ha : sqH tp s.heap a xs) (hx : xs[i]? = none)
    (q : ∀ h' e, Heap.ExtBut p s.heap h' → stopAt h' e → E (.ref e) { s with heap := h' }) : wpAny (model prog w) A (Builtin.SmallTypes.nextOf (.ref p)) Q E s := by
  cases tp
  · exact wpAny_nextOf_list_end hh hp ha hx q
  · exact RZ.nextOf_tuple_end hh hp ha hx q
/-- one draw -/
def drawZ (sb : Bool) (p : Addr) : Sem (Option Value) := match sb with
  | true => Builtin.SmallTypes.nextOrEnd (.ref p)
  | false => do return some (← Builtin.SmallTypes.nextOf (.ref p))
theorem dr_conv {sb : Bool} {p : Addr} {m : Sem (Option Value)} {Q : Option Value → Shared → Prop} (e : m = drawZ sb p) (h : wpAny (model prog w) A (drawZ sb p) Q E s) : wpAny (model prog w) A m Q E s := e ▸ h
theorem dr_item {sb tp : Bool} {p a : Addr} {i : Nat} {xs : Array Value} {x : Value} {Q : Option Value → Shared → Prop} (hp : itH tp s.heap p a i) (ha : sqH tp s.heap a xs) (hx : xs[i]? = some x)
    (q : ∀ h', itH tp h' p a (i + 1) → Heap.SameBut p s.heap h' → Q (some x) { s with heap := h' }) : wpAny (model prog w) A (drawZ sb p) Q E s := by
  cases sb
  · exact wpAny_bind (nx_item hp ha hx fun h' b c => wpAny_pure (q h' b c))
  · exact wpAny_bind (wpAny_attempt (nx_item hp ha hx fun h' b c => wpAny_pure (q h' b c)))
theorem dr_stop {tp : Bool} {p a : Addr} {i : Nat} {xs : Array Value} {Q : Option Value → Shared → Prop} (hh : A.handled = none) (hp : itH tp s.heap p a i) (ha : sqH tp s.heap a xs) (hx : xs[i]? = none)
    (q : ∀ h', Heap.ExtBut p s.heap h' → Q none { s with heap := h' }) : wpAny (model prog w) A (drawZ true p) Q E s :=
  wpAny_bind (wpAny_attempt (nx_end hh hp ha hx fun h' e b ⟨o, ho, hc⟩ => wpAny_bind (wpAny_isInstance (T := "StopIteration") (b := true) ⟨o, ho, hc⟩ isSubtype_stop (wpAny_pure (q h' b)))))
theorem stop_raise {Q : Fin → Shared → Prop} (hh : A.handled = none) (q : ∀ h' e, (∀ c m, s.heap.get? c = some m → h'.get? c = some m) → stopAt h' e → E (.ref e) { s with heap := h' }) :
    wpAny (model prog w) A Builtin.SmallTypes.stopIteration Q E s := by
  show wpAny _ _ (newExc (.type "StopIteration") [] >>= _) _ _ _
  refine wpAny_bind (?_ : wpAny _ _ (newExc (.type "StopIteration") []) _ _ _)
  simp only [newExc, newTuple]
  refine wpAny_bind (wpAny_newObj_type (wpAny_bind (m := firstArgMember _ _) (wpAny_of_eq (a := Value.none) (by first | rfl | (simp only [firstArgMember]; rfl)) (wpAny_newObj_type ?_ (by size_fits)))) (by size_fits))
  simp only [raiseNew]
  refine wpAny_bind (wpAny_handled ?_)
  rw [hh]
  refine wpAny_bind (wpAny_pure (wpAny_throw (q _ _ (fun c m e => Heap.get?_push_of_some _ (Heap.get?_push_of_some _ e)) ⟨_, Heap.get?_push_size _ rfl, rfl⟩)))
theorem zip_item {sb t1 t2 : Bool} {z u o i j a b : Addr} {k1 k2 : Nat} {xs ys : Array Value} {x y v1 v2 : Value} {Q : Value → Shared → Prop} (D : ZipApart z u o i j a b)
    (gz : zipO sb s.heap z u o .none) (gu : IsPair s.heap u (.ref i) (.ref j)) (go : IsPair s.heap o v1 v2)
    (gi : itH t1 s.heap i a k1) (gj : itH t2 s.heap j b k2) (ga : sqH t1 s.heap a xs) (gb : sqH t2 s.heap b ys) (ex : xs[k1]? = some x) (ey : ys[k2]? = some y)
    (q : ∀ h', zipO sb h' z u o (rawInt s.heap.objs.size) → IsPair h' o x y → itH t1 h' i a (k1 + 1) → itH t2 h' j b (k2 + 1) → IsPair h' s.heap.objs.size x y → h'.objs.size = s.heap.objs.size + 1 →
      (∀ c m, c ≠ z → c ≠ o → c ≠ i → c ≠ j → s.heap.get? c = some m → h'.get? c = some m) → Q (.ref s.heap.objs.size) { s with heap := h' }) :
    wpAny (model prog w) A (Builtin.«zip.__next__» ⟨[.ref z], []⟩) (fun f s' => ∃ v, f = .done (.ret v) ∧ Q v s') E s := by
  show wpAny _ _ (field (.ref z) 2 >>= _) _ _ _
  refine wpAny_bind (wpAny_field gz rfl (x := .bool sb) rfl ?_)
  refine wpAny_bind (wpAny_field gz rfl (x := .ref u) rfl (wpAny_bind (wpAny_seqItems gu rfl ?_)))
  show wpAny _ _ (Builtin.SmallTypes.ownedTupleIsFree (.ref z) >>= _) _ _ _
  refine wpAny_bind (?_ : wpAny _ _ (Builtin.SmallTypes.ownedTupleIsFree (.ref z)) _ _ _)
  unfold Builtin.SmallTypes.ownedTupleIsFree
  refine wpAny_bind (wpAny_field gz rfl (x := .none) rfl (wpAny_pure ?_))
  simp only [if_true]
  refine wpAny_bind (wpAny_rule (wpAny_bind (wpAny_field gz rfl (x := .ref o) rfl (wpAny_bind (wpAny_setField_rec gz (by simp) fun m1 gz1 s1 => ?_)))))
  replace gz1 : zipO sb m1 z u o .ellipsis := gz1
  refine wpAny_bind (?_ : wpAny _ _ (forIn _ _ _) _ _ _)
  simp only [List.zipIdx_cons, List.zipIdx_nil, List.forIn_cons, List.forIn_nil]
  refine wpAny_bind (wpAny_bind (wpAny_onRaise (dr_conv (sb := sb) (p := i) (by cases sb <;> rfl) (dr_item (gi.ext s1.extBut D.i1z) (ga.ext s1.extBut D.l1z) ex fun m2 gi2 s2 => ?_))))
  have go2 : IsPair m2 o v1 v2 := s2.extBut _ _ D.TOi1 (s1.extBut _ _ D.TOz go)
  refine wpAny_bind (wpAny_seqItems go2 rfl (wpAny_bind (wpAny_updateSeq_pair go2 fun m3 go3 s3 => wpAny_bind (wpAny_letGo (wpAny_pure ?_)))))
  replace go3 : IsPair m3 o x v2 := go3
  have gj3 := ((gj.ext s1.extBut D.i2z).ext s2.extBut D.i12.symm).ext s3.extBut D.TOi2.symm
  have gb3 := ((gb.ext s1.extBut D.l2z).ext s2.extBut D.l2i1).ext s3.extBut D.l2TO
  refine wpAny_bind (wpAny_bind (wpAny_onRaise (dr_conv (sb := sb) (p := j) (by cases sb <;> rfl) (dr_item gj3 gb3 ey fun m4 gj4 s4 => ?_))))
  have go4 : IsPair m4 o x v2 := s4.extBut _ _ D.TOi2 go3
  refine wpAny_bind (wpAny_seqItems go4 rfl (wpAny_bind (wpAny_updateSeq_pair go4 fun m5 go5 s5 => wpAny_bind (wpAny_letGo (wpAny_pure (wpAny_pure ?_))))))
  replace go5 : IsPair m5 o x y := go5
  refine wpAny_bind (wpAny_seqItems go5 rfl (wpAny_bind (wpAny_newTuple ?_)))
  have sz : m5.objs.size = s.heap.objs.size := by rw [s5.1, s4.1, s3.1, s2.1, s1.1]
  have gz5 : zipO sb m5 z u o .ellipsis := s5.extBut _ _ D.TOz.symm (s4.extBut _ _ D.i2z.symm (s3.extBut _ _ D.TOz.symm (s2.extBut _ _ D.i1z.symm gz1)))
  have kp : ∀ c m, c ≠ z → c ≠ o → c ≠ i → c ≠ j → s.heap.get? c = some m → m5.get? c = some m := fun c m n1 n2 n3 n4 e =>
    s5.extBut _ _ n2 (s4.extBut _ _ n4 (s3.extBut _ _ n2 (s2.extBut _ _ n3 (s1.extBut _ _ n1 e))))
  have gi5 : itH t1 m5 i a (k1 + 1) := ((gi2.ext s3.extBut D.TOi1.symm).ext s4.extBut D.i12).ext s5.extBut D.TOi1.symm
  have gj5 : itH t2 m5 j b (k2 + 1) := gj4.ext s5.extBut D.TOi2.symm
  have lz : z < m5.objs.size := Heap.lt_size gz5
  show wpAny _ _ (Builtin.SmallTypes.ownedTupleHandOut (.ref z) (.ref m5.objs.size) >>= _) _ _ _
  refine wpAny_bind (?_ : wpAny _ _ (Builtin.SmallTypes.ownedTupleHandOut (.ref z) (.ref m5.objs.size)) _ _ _)
  unfold Builtin.SmallTypes.ownedTupleHandOut
  have gz6 : zipO sb (m5.push { cls := .type "tuple", data := .seq #[x, y] }) z u o .ellipsis := Heap.get?_push_of_some _ gz5
  refine wpAny_bind (wpAny_setField_rec gz6 (by simp) fun m7 gz7 s7 => wpAny_setField_rec gz7 (by simp) fun m8 gz8 s8 => ?_)
  replace gz8 : zipO sb m8 z u o (rawInt m5.objs.size) := gz8
  have up : ∀ c m, c ≠ z → m5.get? c = some m → m8.get? c = some m := fun c m n e => s8.extBut _ _ n (s7.extBut _ _ n (Heap.get?_push_of_some _ e))
  have gt8 : IsPair m8 m5.objs.size x y := s8.extBut _ _ (Nat.ne_of_gt lz) (s7.extBut _ _ (Nat.ne_of_gt lz) (Heap.get?_push_size _ rfl))
  have sz8 : m8.objs.size = m5.objs.size + 1 := by rw [s8.1, s7.1, Heap.size_push]
  rw [sz] at gz8 gt8 sz8
  refine wpAny_pure ⟨_, rfl, ?_⟩
  show Q (.ref m5.objs.size) _
  rw [sz]
  exact q m8 gz8 (up _ _ D.TOz go5) (gi5.mv fun m e => up _ m D.i1z e) (gj5.mv fun m e => up _ m D.i2z e) gt8 sz8 fun c m n1 n2 n3 n4 e => up c m n1 (kp c m n1 n2 n3 n4 e)
/-- the end: strict ones end both at once -/
theorem zip_end {sb t1 t2 : Bool} {z u o i j a b : Addr} {k : Nat} {xs ys : Array Value} {v1 v2 : Value} {Q : Fin → Shared → Prop} (hh : A.handled = none) (D : ZipApart z u o i j a b)
    (gz : zipO sb s.heap z u o .none) (gu : IsPair s.heap u (.ref i) (.ref j)) (go : IsPair s.heap o v1 v2)
    (gi : itH t1 s.heap i a k) (gj : itH t2 s.heap j b k) (ga : sqH t1 s.heap a xs) (gb : sqH t2 s.heap b ys) (ex : xs[k]? = none ∨ ys[k]? = none) (st : sb = true → xs[k]? = none ∧ ys[k]? = none)
    (q : ∀ h' e, (∀ c m, c ≠ z → c ≠ o → c ≠ i → c ≠ j → s.heap.get? c = some m → h'.get? c = some m) → stopAt h' e → E (.ref e) { s with heap := h' }) :
    wpAny (model prog w) A (Builtin.«zip.__next__» ⟨[.ref z], []⟩) Q E s := by
  show wpAny _ _ (field (.ref z) 2 >>= _) _ _ _
  refine wpAny_bind (wpAny_field gz rfl (x := .bool sb) rfl ?_)
  refine wpAny_bind (wpAny_field gz rfl (x := .ref u) rfl (wpAny_bind (wpAny_seqItems gu rfl ?_)))
  show wpAny _ _ (Builtin.SmallTypes.ownedTupleIsFree (.ref z) >>= _) _ _ _
  refine wpAny_bind (?_ : wpAny _ _ (Builtin.SmallTypes.ownedTupleIsFree (.ref z)) _ _ _)
  unfold Builtin.SmallTypes.ownedTupleIsFree
  refine wpAny_bind (wpAny_field gz rfl (x := .none) rfl (wpAny_pure ?_))
  simp only [if_true]
  refine wpAny_bind (wpAny_rule (wpAny_bind (wpAny_field gz rfl (x := .ref o) rfl (wpAny_bind (wpAny_setField_rec gz (by simp) fun m1 gz1 s1 => ?_)))))
  replace gz1 : zipO sb m1 z u o .ellipsis := gz1
  refine wpAny_bind (?_ : wpAny _ _ (forIn _ _ _) _ _ _)
  simp only [List.zipIdx_cons, List.zipIdx_nil, List.forIn_cons, List.forIn_nil]
  have gi1 := gi.ext s1.extBut D.i1z
  have ga1 := ga.ext s1.extBut D.l1z
  have gj1 := gj.ext s1.extBut D.i2z
  have gb1 := gb.ext s1.extBut D.l2z
  cases sb with
  | true =>
    obtain ⟨e1, e2⟩ := st rfl
    refine wpAny_bind (wpAny_bind (wpAny_onRaise (dr_conv (sb := true) (p := i) rfl (dr_stop hh gi1 ga1 e1 fun m2 s2 => ?_))))
    have gz2 : zipO true m2 z u o .ellipsis := s2 _ _ D.i1z.symm gz1
    refine wpAny_bind (wpAny_setField_rec gz2 (by simp) fun m3 gz3 s3 => wpAny_bind ?_)
    have gj3 := (gj1.ext s2 D.i12.symm).ext s3.extBut D.i2z
    have gb3 := (gb1.ext s2 D.l2i1).ext s3.extBut D.l2z
    show wpAny _ _ (_ >>= _) _ _ _
    refine wpAny_bind (?_ : wpAny _ _ (forIn _ _ _) _ _ _)
    simp only [List.drop_succ_cons, List.drop_zero, List.zipIdx_cons, List.zipIdx_nil, List.forIn_cons, List.forIn_nil]
    refine wpAny_bind (wpAny_bind (dr_stop hh gj3 gb3 e2 fun m4 s4 => ?_))
    rw [if_neg (by simp)]
    refine wpAny_pure (wpAny_pure (wpAny_bind (wpAny_rule (stop_raise hh fun m5 e k5 se => q _ _ (fun c m n1 n2 n3 n4 x => k5 _ _ (s4 _ _ n4 (s3.extBut _ _ n1 (s2 _ _ n3 (s1.extBut _ _ n1 x))))) se))))
  | false =>
    refine wpAny_bind (wpAny_bind (wpAny_onRaise ?_))
    show wpAny _ _ (Builtin.SmallTypes.nextOf (.ref i) >>= _) _ _ _
    cases hx : xs[k]? with
    | none =>
      refine wpAny_bind (nx_end hh gi1 ga1 hx fun m2 e s2 ⟨oe, ho, hc⟩ => ?_)
      have gz2 : zipO false m2 z u o .ellipsis := s2 _ _ D.i1z.symm gz1
      have ne : e ≠ z := fun t => by subst t; rw [gz2] at ho; cases ho; simp at hc
      exact wpAny_setField_rec gz2 (by simp) fun m3 _ s3 => q m3 e (fun c m n1 n2 n3 n4 x => s3.extBut _ _ n1 (s2 _ _ n3 (s1.extBut _ _ n1 x))) ⟨oe, s3.extBut _ _ ne ho, hc⟩
    | some x =>
      have hy : ys[k]? = none := ex.elim (fun t => by rw [hx] at t; cases t) id
      refine wpAny_bind (nx_item gi1 ga1 hx fun m2 gi2 s2 => wpAny_pure ?_)
      have go2 : IsPair m2 o v1 v2 := s2.extBut _ _ D.TOi1 (s1.extBut _ _ D.TOz go)
      refine wpAny_bind (wpAny_seqItems go2 rfl (wpAny_bind (wpAny_updateSeq_pair go2 fun m3 go3 s3 => wpAny_bind (wpAny_letGo (wpAny_pure ?_)))))
      have gj3 := (gj1.ext s2.extBut D.i12.symm).ext s3.extBut D.TOi2.symm
      have gb3 := (gb1.ext s2.extBut D.l2i1).ext s3.extBut D.l2TO
      refine wpAny_bind (wpAny_bind (wpAny_onRaise ?_))
      show wpAny _ _ (Builtin.SmallTypes.nextOf (.ref j) >>= _) _ _ _
      refine wpAny_bind (nx_end hh gj3 gb3 hy fun m4 e s4 ⟨oe, ho, hc⟩ => ?_)
      have gz4 : zipO false m4 z u o .ellipsis := s4 _ _ D.i2z.symm (s3.extBut _ _ D.TOz.symm (s2.extBut _ _ D.i1z.symm gz1))
      have ne : e ≠ z := fun t => by subst t; rw [gz4] at ho; cases ho; simp at hc
      exact wpAny_setField_rec gz4 (by simp) fun m5 _ s5 => q m5 e (fun c m n1 n2 n3 n4 x => s5.extBut _ _ n1 (s4 _ _ n4 (s3.extBut _ _ n2 (s2.extBut _ _ n3 (s1.extBut _ _ n1 x))))) ⟨oe, s5.extBut _ _ ne ho, hc⟩
theorem pyn_item {sb t1 t2 : Bool} {z u o i j a b : Addr} {k : Nat} {xs ys : Array Value} {x y v1 v2 : Value} {Q : Option Value → Shared → Prop} (D : ZipApart z u o i j a b)
    (gz : zipO sb s.heap z u o .none) (gu : IsPair s.heap u (.ref i) (.ref j)) (go : IsPair s.heap o v1 v2)
    (gi : itH t1 s.heap i a k) (gj : itH t2 s.heap j b k) (ga : sqH t1 s.heap a xs) (gb : sqH t2 s.heap b ys) (ex : xs[k]? = some x) (ey : ys[k]? = some y)
    (q : ∀ h', zipO sb h' z u o (rawInt s.heap.objs.size) → IsPair h' o x y → itH t1 h' i a (k + 1) → itH t2 h' j b (k + 1) → IsPair h' s.heap.objs.size x y → h'.objs.size = s.heap.objs.size + 1 →
      (∀ c m, c ≠ z → c ≠ o → c ≠ i → c ≠ j → s.heap.get? c = some m → h'.get? c = some m) → Q (some (.ref s.heap.objs.size)) { s with heap := h' }) :
    wpAny (model prog w) A (pyNext (.ref z)) Q E s := by
  have ty : s.TypeIs (.ref z) "zip" := ⟨_, gz, rfl⟩
  unfold pyNext
  refine wpAny_bind (wpAny_attempt (wpAny_callSpecial?_slot (name := Str.ofString "__next__") ty F.slot_zip_next (wpAny_call_entry F.slot_zip_next ty F.entry_zip_next ?_ (F.args_zip_next_1 _))))
  exact zip_item D gz gu go gi gj ga gb ex ey fun h' c1 c2 c3 c4 c5 c6 c7 => wpAny_pure (q h' c1 c2 c3 c4 c5 c6 c7)
theorem pyn_end {sb t1 t2 : Bool} {z u o i j a b : Addr} {k : Nat} {xs ys : Array Value} {v1 v2 : Value} {Q : Option Value → Shared → Prop} (hh : A.handled = none) (D : ZipApart z u o i j a b)
    (gz : zipO sb s.heap z u o .none) (gu : IsPair s.heap u (.ref i) (.ref j)) (go : IsPair s.heap o v1 v2)
    (gi : itH t1 s.heap i a k) (gj : itH t2 s.heap j b k) (ga : sqH t1 s.heap a xs) (gb : sqH t2 s.heap b ys) (ex : xs[k]? = none ∨ ys[k]? = none) (st : sb = true → xs[k]? = none ∧ ys[k]? = none)
    (q : ∀ h', (∀ c m, c ≠ z → c ≠ o → c ≠ i → c ≠ j → s.heap.get? c = some m → h'.get? c = some m) → Q none { s with heap := h' }) : wpAny (model prog w) A (pyNext (.ref z)) Q E s := by
  have ty : s.TypeIs (.ref z) "zip" := ⟨_, gz, rfl⟩
  unfold pyNext
  refine wpAny_bind (wpAny_attempt (wpAny_callSpecial?_slot (name := Str.ofString "__next__") ty F.slot_zip_next (wpAny_call_entry F.slot_zip_next ty F.entry_zip_next ?_ (F.args_zip_next_1 _))))
  refine zip_end hh D gz gu go gi gj ga gb ex st fun h' e kk ⟨m, hm, hc⟩ => ?_
  exact wpAny_bind (wpAny_isInstance (T := "StopIteration") (b := true) ⟨m, hm, hc⟩ isSubtype_stop (wpAny_pure (q _ kk)))
theorem letgo_zip {sb : Bool} {elts : List Expr} {n : Nat} {pos : Pos} {z u o T : Addr} {Q : Unit → Shared → Prop} (gz : zipO sb s.heap z u o (rawInt T))
    (q : ∀ h', zipO sb h' z u o .none → Heap.SameBut z s.heap h' → Q () { s with heap := h' }) : wpAny (model prog w) A (letOwnedTupleGo (.Tuple elts n pos) (.ref z) (.ref T)) Q E s := by
  unfold letOwnedTupleGo
  refine wpAny_bind (wpAny_load gz ?_)
  show wpAny _ _ (if (["enumerate", "zip", "dict_itemiterator", "dict_reverseitemiterator", "odict_iterator", "itertools.zip_longest", "itertools.pairwise"].contains "zip" &&
      (#[rawInt T, .bool false, .bool sb, .ref u, .ref o] : Array Value)[0]? == some (rawInt T)) = true then _ else _) Q E s
  rw [if_pos (by simp)]
  refine wpAny_bind (wpAny_rule ?_)
  show wpAny _ _ (setField (.ref z) 0 .none) _ _ _
  exact wpAny_setField_rec gz (by simp) fun h' gz' s' => q h' gz' s'
theorem pyit_zip {sb : Bool} {z u o : Addr} {f : Value} {Q : Value → Shared → Prop} (gz : zipO sb s.heap z u o f) (h : Q (.ref z) s) : wpAny (model prog w) A (pyIter (.ref z)) Q E s := by
  have ty : s.TypeIs (.ref z) "zip" := ⟨_, gz, rfl⟩
  refine wpAny_pyIter_slot ty F.slot_zip_iter (wpAny_call_entry F.slot_zip_iter ty F.entry_zip_iter ?_ (F.args_zip_iter_1 _))
  show wpAny _ _ (ret (.ref z)) _ _ s
  exact wpAny_pure ⟨_, rfl, "zip", _, ty, F.slot_zip_next.lookup, h⟩
end

/-! ### as an iterator -/
def srcV (tp : Bool) (K : PySem.W.Frag) (H : Hp) (a : Addr) (xs : List V) : Prop := match tp with
  | true => SqT K H a xs
  | false => SqL K H a xs
theorem srcV.get {X : Cx} {pins : List (Addr × Obj)} {σ : L2.St} {H : Hp} {s : Shared} {tp : Bool} {a : Addr} {xs : List V} (I : Inv X pins σ H s) (h : srcV tp X.K H a xs) : ∃ its : List Value, Vals xs its ∧ sqH tp s.heap a its.toArray := by
  cases tp
  · obtain ⟨its, rv, p, _⟩ := I.list h
    exact ⟨its, rv, p.isList⟩
  · obtain ⟨its, rv, p, _⟩ := I.tuple h
    exact ⟨its, rv, show s.heap.IsTuple a its.toArray from p⟩
theorem srcV.inj {X : Cx} {pins : List (Addr × Obj)} {σ : L2.St} {H : Hp} {s : Shared} {tp : Bool} {a : Addr} {xs ys : List V} (I : Inv X pins σ H s) (h : srcV tp X.K H a xs) (k : srcV tp X.K H a ys) : xs = ys := by
  cases tp
  · exact I.list_inj h k
  · exact I.tuple_inj h k
/-- pairs in step, as the sources stand at each turn -/
def ItZ (sb t1 t2 : Bool) (K : PySem.W.Frag) (a b : Addr) : It :=
  ⟨fun i H => ∃ (xs ys : List V) (x y : V), srcV t1 K H a xs ∧ srcV t2 K H b ys ∧ xs[i]? = some x ∧ ys[i]? = some y,
    fun i H v H' => ∃ T x y, v = .ref T ∧ H T = none ∧ H' = upd H T (.tup [x, y]) ∧ (∀ xs, srcV t1 K H a xs → xs[i]? = some x) ∧ ∀ ys, srcV t2 K H b ys → ys[i]? = some y,
    fun i H => ∃ xs ys : List V, srcV t1 K H a xs ∧ srcV t2 K H b ys ∧ (xs.length ≤ i ∨ ys.length ≤ i) ∧ (sb = true → xs.length ≤ i ∧ ys.length ≤ i)⟩
theorem turnZ {sb t1 t2 : Bool} {P : Program} {w : World} {K : PySem.W.Frag} {elts : List Expr} {n : Nat} {tp : Pos} {a b z u o p q : Addr} (D : ZipApart z u o p q a b) :
    Turn P w K (.Tuple elts n tp) (ItZ sb t1 t2 K a b) [z, u, o, p, q] z (fun i h => zipO sb h z u o .none ∧ IsPair h u (.ref p) (.ref q) ∧ (∃ x y, IsPair h o x y) ∧ itH t1 h p a i ∧ itH t2 h q b i) where
  mem := by simp
  obj := fun i h st c hc => by
    obtain ⟨gz, gu, ⟨x, y, go⟩, gp, gq⟩ := st
    have e : c = z ∨ c = u ∨ c = o ∨ c = p ∨ c = q := by simpa using hc
    rcases e with e | e | e | e | e
    · rw [e]; exact ⟨_, gz, fun v k => (nomatch k)⟩
    · rw [e]; exact ⟨_, gu, fun v k => (nomatch k)⟩
    · rw [e]; exact ⟨_, go, fun v k => (nomatch k)⟩
    · rw [e]; exact gp.obj
    · rw [e]; exact gq.obj
  keep := fun i h h' st k => by
    obtain ⟨gz, gu, ⟨x, y, go⟩, gp, gq⟩ := st
    exact ⟨k z (by simp) _ gz, k u (by simp) _ gu, ⟨x, y, k o (by simp) _ go⟩, gp.mv fun m e => k p (by simp) m e, gq.mv fun m e => k q (by simp) m e⟩
  item := by
    intro X hP hw hK hc i pins s σ H E I hf st hg
    subst hP hw hK
    obtain ⟨gz, gu, ⟨x0, y0, go⟩, gp, gq⟩ := st
    obtain ⟨xs, ys, x, y, sx, sy, ex, ey⟩ := hg
    obtain ⟨as, rv, ga⟩ := sx.get I
    obtain ⟨bs, rw', gb⟩ := sy.get I
    obtain ⟨v1, ev1, r1⟩ := rv.get ex
    obtain ⟨v2, ev2, r2⟩ := rw'.get ey
    have lz : z < s.heap.objs.size := Heap.lt_size gz
    refine pyn_item D gz gu go gp gq ga gb (x := v1) (y := v2) (by simpa using ev1) (by simpa using ev2) fun m1 gz1 go1 gp1 gq1 gt1 sz1 kp1 => ?_
    refine ⟨_, rfl, letgo_zip (s := { s with heap := m1 }) gz1 fun m2 gz2 s2 => ?_⟩
    have gt2 : m2.get? s.heap.objs.size = some { cls := .type "tuple", data := .seq #[v1, v2] } := (s2.2 _ (Nat.ne_of_gt lz)).trans gt1
    have ok : ObjOk X.prog X.w (upd H s.heap.objs.size (.tup [x, y])) m2 s.heap.objs.size (.tup [x, y]) := ⟨by show 2 ≤ sizeLine; decide, [v1, v2], .cons r1 (.cons r2 .nil), ⟨_, gt2, rfl, _, rfl⟩⟩
    have I1 : Inv X pins σ (upd H s.heap.objs.size (.tup [x, y])) { s with heap := m2 } :=
      I.turnedNew (t' := s.toks) (ch := [z, u, o, p, q]) (fun c m n e => (s2.2 c (fun t => n (by simp [t]))).trans (kp1 c m (fun t => n (by simp [t])) (fun t => n (by simp [t])) (fun t => n (by simp [t])) (fun t => n (by simp [t])) e)) hf (Nat.le_refl _) ok
    refine ⟨.ref s.heap.objs.size, _, I1, rfl, ⟨_, x, y, rfl, I.hok.fresh (Nat.le_refl _), rfl, fun l hl => by rw [hl.inj I sx]; exact ex, fun l hl => by rw [hl.inj I sy]; exact ey⟩, ⟨gz2, ?_, ⟨v1, v2, ?_⟩, ?_, ?_⟩, fun c hcm => ?_⟩
    · exact (s2.2 _ D.TIz).trans (kp1 _ _ D.TIz D.TITO D.TIi1 D.TIi2 gu)
    · exact (s2.2 _ D.TOz).trans go1
    · exact gp1.mv fun m e => (s2.2 _ D.i1z).trans e
    · exact gq1.mv fun m e => (s2.2 _ D.i2z).trans e
    · have lt : c < s.heap.objs.size := by
        have e : c = z ∨ c = u ∨ c = o ∨ c = p ∨ c = q := by simpa using hcm
        rcases e with e | e | e | e | e
        · rw [e]; exact lz
        · rw [e]; exact Heap.lt_size gu
        · rw [e]; exact Heap.lt_size go
        · rw [e]; obtain ⟨_, e1, _⟩ := gp.obj; exact Heap.lt_size e1
        · rw [e]; obtain ⟨_, e1, _⟩ := gq.obj; exact Heap.lt_size e1
      rw [upd_ne (Nat.ne_of_lt lt)]
      exact (hf c hcm).1
  done := by
    intro X hP hw hK hc i pins s σ H E I hf st hg
    subst hP hw hK
    obtain ⟨gz, gu, ⟨x0, y0, go⟩, gp, gq⟩ := st
    obtain ⟨xs, ys, sx, sy, he, hs⟩ := hg
    obtain ⟨as, rv, ga⟩ := sx.get I
    obtain ⟨bs, rw', gb⟩ := sy.get I
    have l1 := rv.length
    have l2 := rw'.length
    have n1 : xs.length ≤ i → as.toArray[i]? = none := fun t => by simp; omega
    have n2 : ys.length ≤ i → bs.toArray[i]? = none := fun t => by simp; omega
    exact pyn_end (I.ok.hd hc) D gz gu go gp gq ga gb (he.elim (fun t => .inl (n1 t)) fun t => .inr (n2 t)) (fun t => ⟨n1 (hs t).1, n2 (hs t).2⟩) fun m1 kp => ⟨rfl, I.turnedL (t' := s.toks) (ch := [z, u, o, p, q]) (fun c m n e =>
      kp c m (fun t => n (by simp [t])) (fun t => n (by simp [t])) (fun t => n (by simp [t])) (fun t => n (by simp [t])) e) hf⟩
  self := fun A i s Q E st h => pyit_zip st.1 h
end G

set_option Elab.async false
set_option linter.all false
set_option maxRecDepth 100000
set_option autoImplicit false
set_option maxHeartbeats 1000000
namespace G
open PySem PySem.Spec PyProof.Rows L2
open Sem (wp)
def kwZ : Option Bool → List (Str × Value)
  | none => []
  | some b => [("strict", .bool b)]
def stZ : Option Bool → Bool
  | some true => true
  | _ => false
theorem zipT_ok (o : Option Bool) (a b : Value) : checkTypeCall "zip" ⟨[a, b], kwZ o⟩ = pure () := by
  rcases o with _ | _ | _ <;> kernel_rfl
theorem zipN_ok (o : Option Bool) (a b : Value) : checkBuiltinCall "zip.__new__" ⟨[.type "zip", a, b], kwZ o⟩ = pure () := by
  rcases o with _ | _ | _ <;> kernel_rfl
theorem zipI_ok (o : Option Bool) (a b c : Value) : argsOk "object.__init__" ⟨[a, b, c], kwZ o⟩ := by
  unfold argsOk
  rw [signature?_of (id := "object.__init__") (n := ['_', '_', 't', 'i', 'n', 'i', '_', '_']) (o := ['t', 'c', 'e', 'j', 'b', 'o']) (by kernel_rfl) F.owner_object]
  rcases o with _ | _ | _ <;> kernel_rfl
section
variable {prog : Program} {w : World} {A : Around} {E : Value → Shared → Prop} {s : Shared}
def itC : Bool → Value
  | true => .type "tuple_iterator"
  | false => .type "list_iterator"
def itO (tp : Bool) (a : Addr) : Obj := { cls := itC tp, data := .fields #[.ref a, .int 0 0] }
theorem src_iter {tp : Bool} {a : Addr} {xs : Array Value} {Q : Value → Shared → Prop} (h : sqH tp s.heap a xs) (q : Q (.ref s.heap.objs.size) { s with heap := s.heap.push (itO tp a) }) : wpAny (model prog w) A (pyIter (.ref a)) Q E s := by
  cases tp
  · exact wpAny_pyIter_list h q
  · exact wpAny_pyIter_tuple h q
theorem sqH.push {tp : Bool} {h : Heap} {a : Addr} {xs : Array Value} (x : sqH tp h a xs) (o : Obj) : sqH tp (h.push o) a xs := by
  cases tp
  · exact Heap.IsList.push x _
  · exact Heap.IsTuple.push x _
abbrev hz1 (t1 : Bool) (h : Heap) (a : Addr) : Heap := h.push (itO t1 a)
abbrev hz2 (t1 t2 : Bool) (h : Heap) (a b : Addr) : Heap := (hz1 t1 h a).push (itO t2 b)
abbrev hz3 (t1 t2 : Bool) (h : Heap) (a b : Addr) : Heap := (hz2 t1 t2 h a b).push { cls := .type "tuple", data := .seq #[.ref h.objs.size, .ref (hz1 t1 h a).objs.size] }
abbrev hz4 (t1 t2 : Bool) (h : Heap) (a b : Addr) : Heap := (hz3 t1 t2 h a b).push { cls := .type "tuple", data := .seq #[.none, .none] }
abbrev hz5 (sb t1 t2 : Bool) (h : Heap) (a b : Addr) : Heap := (hz4 t1 t2 h a b).push { cls := .type "zip", data := .fields #[.none, .bool false, .bool sb, .ref (hz2 t1 t2 h a b).objs.size, .ref (hz3 t1 t2 h a b).objs.size] }
theorem zip_new (o : Option Bool) {t1 t2 : Bool} {a b : Addr} {xs ys : Array Value} :
    Meets (Builtin.«zip.__new__» ⟨[.type "zip", .ref a, .ref b], kwZ o⟩) (fun _ R s => sqH t1 s.heap a xs ∧ sqH t2 s.heap b ys ∧ R (.ok (.ret (.ref (hz4 t1 t2 s.heap a b).objs.size))) { s with heap := hz5 (stZ o) t1 t2 s.heap a b }) :=
  .of_wp fun prog w A R s h => by
    obtain ⟨m, g, d, tk, os⟩ := s
    obtain ⟨ga, gb, h⟩ := h
    have sub := sub_zip
    have gA : sqH t1 (Shared.heap ⟨m, g, d, tk, os⟩) a xs := ga
    have gB : sqH t2 (Shared.heap ⟨m.push (itO t1 a), g, d, tk, os⟩) b ys := gb.push _
    rcases o with _ | _ | _
    · wp_walk using src_iter gA, src_iter gB
      exact ⟨_, rfl, h⟩
    · wp_walk using src_iter gA, src_iter gB
      exact ⟨_, rfl, h⟩
    · wp_walk using src_iter gA, src_iter gB
      exact ⟨_, rfl, h⟩
end
end G

set_option Elab.async false
set_option linter.all false
set_option maxRecDepth 100000
set_option autoImplicit false
set_option maxHeartbeats 1000000
namespace G
open PySem PySem.Spec PyProof.Rows L2
open Sem (wp)
section
variable {prog : Program} {w : World} {A : Around} {E : Value → Shared → Prop} {s : Shared}
theorem oinit_kw {T n : String} {self : Value} {rest : List Value} {kw : List (Str × Value)} (hl : typeLookup (.type T) "__init__" = pure (some (.builtin "object.__init__")))
    (hm : Bind.madeBy (.type T) = pure (some n)) (hne : (some n != some "object.__new__") = true) : Meets (Builtin.«object.__init__» ⟨self :: rest, kw⟩) (fun _ R s => s.TypeIs self T ∧ R (.ok (.ret .none)) s) := by
  refine Meets.of_wp fun prog w A R s hs => ?_
  obtain ⟨hT, q⟩ := hs
  cases rest with
  | nil =>
    cases kw with
    | nil => exact wpAny_pure ⟨_, rfl, q⟩
    | cons c kw =>
      repeat (any_goals (first | assumption | wp_step))
      exact ⟨_, rfl, q⟩
  | cons c rest =>
    repeat (any_goals (first | assumption | wp_step))
    exact ⟨_, rfl, q⟩
theorem tyc_kw {T n : String} {Bn : Builtin} {args : List Value} {kw : List (Str × Value)} {Sp : PySem.Spec} {Q : Value → Shared → Prop} (ft : TypeCalled T n "object.__init__") (hne : (some n != some "object.__new__") = true)
    (c1 : checkTypeCall T ⟨args, kw⟩ = pure ()) (c2 : checkBuiltinCall n ⟨.type T :: args, kw⟩ = pure ()) (c3 : ∀ obj, argsOk "object.__init__" ⟨obj :: args, kw⟩) (en : entryFor table n = some Bn) (g : Meets (Bn ⟨.type T :: args, kw⟩) Sp)
    (h : Sp A.in1 (wants (fun obj s1 => s1.TypeIs obj T ∧ Q obj s1) E) s) : wpAny (model prog w) A (call (.type T) args kw) Q E s := by
  obtain ⟨c, tl, hmro⟩ := ft.mro
  have hmade := ft.made
  have hsub := ft.sub
  refine wpAny_call (codeAny_of_tree ?_)
  show wpAny _ _ (callAny (.type T) _) _ _ _
  refine wpAny_pure ⟨Code.quiet_builtin _ (by decide +kernel), codeAny_builtin F.entry_type_call ?_⟩
  rw [Around.under_plain (weight_type_call_type T args kw) (units_type_call_type T args kw)]
  have h1 := ft.notType
  have h2 := ft.canCreate
  repeat (any_goals (first | assumption | wp_step))
  refine codeAny_mono (codeAny_call_builtin ft.plain en (wpAny_of_eq c2 (g prog w A.in1 _ s h))) fun r s1 hr => ?_
  cases r with
  | error e => exact hr
  | ok fl =>
    cases fl with
    | ret obj =>
      obtain ⟨hT, hq⟩ := hr
      have hli := ft.init.lookup
      have hbi := ft.init.bind obj
      repeat (any_goals (first | assumption | wp_step))
      refine codeAny_mono (codeAny_call_builtin ft.init.plain F.entry_object_init (ft.init.check _ _ _ _ _ _ _ _ hT (c3 obj) (oinit_kw ft.init.lookup ft.made hne prog w A.in1 (wants (fun r s2 => r = .none ∧ Q obj s2) E) s1 ⟨hT, rfl, hq⟩))) fun r2 s2 hr2 => ?_
      cases r2 with
      | error e => exact hr2
      | ok fl2 =>
        cases fl2 with
        | ret r =>
          obtain ⟨rfl, hq⟩ := hr2
          repeat (any_goals (first | assumption | wp_step))
        | _ => exact hr2.elim
    | _ => exact hr.elim
theorem call_zipK (o : Option Bool) {t1 t2 : Bool} {a b : Addr} {xs ys : Array Value} {Q : Value → Shared → Prop} (ga : sqH t1 s.heap a xs) (gb : sqH t2 s.heap b ys)
    (q : ∀ h', zipO (stZ o) h' (s.heap.objs.size + 4) (s.heap.objs.size + 2) (s.heap.objs.size + 3) .none → IsPair h' (s.heap.objs.size + 2) (.ref s.heap.objs.size) (.ref (s.heap.objs.size + 1)) →
      IsPair h' (s.heap.objs.size + 3) .none .none → itH t1 h' s.heap.objs.size a 0 → itH t2 h' (s.heap.objs.size + 1) b 0 → (∀ c m, s.heap.get? c = some m → h'.get? c = some m) → Q (.ref (s.heap.objs.size + 4)) { s with heap := h' }) :
    wpAny (model prog w) A (call (.type "zip") [.ref a, .ref b] (kwZ o)) Q E s := by
  refine tyc_kw F.called_zip (by decide) (zipT_ok o _ _) (zipN_ok o _ _) (fun obj => zipI_ok o obj _ _) F.entry_zip_new (zip_new o (t1 := t1) (t2 := t2) (xs := xs) (ys := ys)) ⟨ga, gb, ?_⟩
  have e1 : (hz1 t1 s.heap a).objs.size = s.heap.objs.size + 1 := Heap.size_push ..
  have e2 : (hz2 t1 t2 s.heap a b).objs.size = s.heap.objs.size + 2 := by rw [Heap.size_push, e1]
  have e3 : (hz3 t1 t2 s.heap a b).objs.size = s.heap.objs.size + 3 := by rw [Heap.size_push, e2]
  have e4 : (hz4 t1 t2 s.heap a b).objs.size = s.heap.objs.size + 4 := by rw [Heap.size_push, e3]
  have k5 : (hz5 (stZ o) t1 t2 s.heap a b).get? (hz4 t1 t2 s.heap a b).objs.size = some _ := Heap.get?_push_size _ rfl
  have k4 : (hz5 (stZ o) t1 t2 s.heap a b).get? (hz3 t1 t2 s.heap a b).objs.size = some _ := Heap.get?_push_of_some _ (Heap.get?_push_size _ rfl)
  have k3 : (hz5 (stZ o) t1 t2 s.heap a b).get? (hz2 t1 t2 s.heap a b).objs.size = some _ := Heap.get?_push_of_some _ (Heap.get?_push_of_some _ (Heap.get?_push_size _ rfl))
  have k2 : (hz5 (stZ o) t1 t2 s.heap a b).get? (hz1 t1 s.heap a).objs.size = some (itO t2 b) := Heap.get?_push_of_some _ (Heap.get?_push_of_some _ (Heap.get?_push_of_some _ (Heap.get?_push_size _ rfl)))
  have k1 : (hz5 (stZ o) t1 t2 s.heap a b).get? s.heap.objs.size = some (itO t1 a) := Heap.get?_push_of_some _ (Heap.get?_push_of_some _ (Heap.get?_push_of_some _ (Heap.get?_push_of_some _ (Heap.get?_push_size _ rfl))))
  show _ ∧ _
  rw [e2, e3, e4] at k5
  rw [e1, e2] at k3
  rw [e3] at k4
  rw [e1] at k2
  rw [e4]
  refine ⟨⟨_, k5, rfl⟩, q _ k5 k3 k4 ?_ ?_ fun c m x => Heap.get?_push_of_some _ (Heap.get?_push_of_some _ (Heap.get?_push_of_some _ (Heap.get?_push_of_some _ (Heap.get?_push_of_some _ x))))⟩
  · cases t1
    · exact ⟨_, k1, rfl, rfl⟩
    · exact ⟨_, k1, rfl, rfl⟩
  · cases t2
    · exact ⟨_, k2, rfl, rfl⟩
    · exact ⟨_, k2, rfl, rfl⟩
end
end G

set_option Elab.async false
set_option linter.all false
set_option maxRecDepth 100000
set_option autoImplicit false
namespace G
open PySem PySem.Spec PyProof.Rows L2
section
variable {M : Model} {A : Around} {E : Value → Shared → Prop} {s : Shared} {env : Env}
end
def tpOf : D → Bool
  | .tup _ => true
  | _ => false
def keepOf (d : D) (ds : List D) : Sto → Prop := match d with
  | .cell c => fun S => S c = some (.lst ds)
  | _ => fun _ => True
theorem src_at {K : PySem.W.Frag} {N : Hid} {H : Hp} {S : Sto} {v : V} {d : D} {ds : List D} (c : CellsOk N H S) (r : Rep H (alive N S) v d) (e : seqOf S d = some ds) :
    ∃ a, v = .ref a ∧ (∃ vs, srcV (tpOf d) K H a vs ∧ Reps H (alive N S) vs ds) ∧ ∀ N' H' S', Ext N N' H → Tr N H S H' S' → CellsOk N' H' S' → keepOf d ds S' → ∃ vs, srcV (tpOf d) K H' a vs ∧ Reps H' (alive N' S') vs ds := by
  cases r with
  | tup rd na rs =>
    cases e
    exact ⟨_, rfl, ⟨_, .inl rd, rs⟩, fun N' H' S' x t c' _ => ⟨_, .inl (t.t0.rd rd na).1, rs.mono0 (t.ext x)⟩⟩
  | lst rd na rs =>
    cases e
    exact ⟨_, rfl, ⟨_, .inl (.inl rd), rs⟩, fun N' H' S' x t c' _ => ⟨_, .inl (.inl (t.t0.keep _ _ rd na)), rs.mono0 (t.ext x)⟩⟩
  | cell a =>
    have e1 : S a = some (.lst ds) := by
      have ee : seqOf S (.cell a) = match S a with
        | some (.lst ds) => some ds
        | _ => none := rfl
      rw [ee] at e
      split at e <;> first | (cases e; assumption) | (cases e; done)
    obtain ⟨vs, e2, rs⟩ := c.at_ _ _ e1
    refine ⟨_, rfl, ⟨vs, .inl (.inl e2), rs⟩, fun N' H' S' x t c' kp => ?_⟩
    obtain ⟨vs', e3, rs'⟩ := c'.at_ _ _ kp
    exact ⟨vs', .inl (.inl e3), rs'⟩
  | _ => cases e
def zipD (xs ys : List D) : List D := List.zipWith (fun x y => D.tup [x, y]) xs ys
theorem zipD_length (xs ys : List D) : (zipD xs ys).length = min xs.length ys.length := List.length_zipWith
theorem ItAt.zip {sb t1 t2 : Bool} {K : PySem.W.Frag} {N : Hid} {H : Hp} {S : Sto} {a b : Addr} {us vs : List V} {xs ys : List D} (su : srcV t1 K H a us) (sv : srcV t2 K H b vs) (ru : Reps H (alive N S) us xs) (rv : Reps H (alive N S) vs ys) (c : CellsOk N H S)
    (hs : sb = true → xs.length = ys.length) : ItAt N (ItZ sb t1 t2 K a b) H S (zipD xs ys) := by
  have l1 := ru.length
  have l2 := rv.length
  refine ⟨fun i hi => ?_, ?_, fun i x H' hi y => ?_⟩
  · rw [zipD_length] at hi
    exact ⟨us, vs, us[i], vs[i], su, sv, List.getElem?_eq_getElem (by omega), List.getElem?_eq_getElem (by omega)⟩
  · rw [zipD_length]
    exact ⟨us, vs, su, sv, by omega, fun t => by have := hs t; omega⟩
  · obtain ⟨T, u, v, rfl, nT, rfl, e1, e2⟩ := y
    obtain ⟨d, ed, r1⟩ := ru.get (e1 us su)
    obtain ⟨e, ee, r2⟩ := rv.get (e2 vs sv)
    have t := Tr.new c nT (o := .tup [u, v])
    refine ⟨.tup [d, e], ?_, t, c.new nT, .tup (.inl upd_same) (c.dead nT) (.cons (r1.mono t) (.cons (r2.mono t) .nil))⟩
    unfold zipD
    rw [List.getElem?_zipWith, ed, ee]
def wZip (o : Option Bool) (a b : WE) : WI := fun ρ S K => a ρ S fun x S1 => b ρ S1 fun y S2 => ∃ xs ys, seqOf S2 x = some xs ∧ seqOf S2 y = some ys ∧ (stZ o = true → xs.length = ys.length) ∧ K ⟨zipD xs ys, fun S' => keepOf x xs S' ∧ keepOf y ys S'⟩ S2
section
variable {X : Cx} {elts : List Expr} {kk : Nat} {tpos p pos kp : Pos} {e e2 : Expr} {wa wb : WE} {cj : Nat} {kp2 : Pos}
theorem zip_run {o : Option Bool} {pins : List (Addr × Obj)} {σ : L2.St} {H0 H1 : Hp} {s1 : Shared} {R : It → Hp → Prop} {N : Hid} {S0 S1 : Sto} {K : IT → Sto → Prop} {x y : D} {v u : V} {us : List Value} {xs ys : List D} (I1 : Inv X pins σ H1 s1)
    (t1 : Tr N H0 S0 H1 S1) (c1 : CellsOk N H1 S1) (r1 : Rep H1 (alive N S1) v x) (r2 : Rep H1 (alive N S1) u y) (rr : Vals [v, u] us) (ex : seqOf S1 x = some xs) (ey : seqOf S1 y = some ys) (hs : stZ o = true → xs.length = ys.length)
    (k : K ⟨zipD xs ys, fun S' => keepOf x xs S' ∧ keepOf y ys S'⟩ S1) (q : ∀ it S', K it S' → ∀ J H', Tr N H0 S0 H' S' → CellsOk N H' S' → ItOk N J H' S' it → R J H') :
    wpAny (model X.prog X.w) X.A (call (.type "zip") us (kwZ o)) (fun v s' => wpAny (model X.prog X.w) X.A (pyIter v) (PIE X pins σ (.Tuple elts kk tpos) R) X.xe s') X.xe s1 := by
  obtain ⟨a, ev, ⟨as, sa, ra⟩, fa⟩ := src_at (K := X.K) c1 r1 ex
  obtain ⟨b, eu, ⟨bs, sb, rb⟩, fb⟩ := src_at (K := X.K) c1 r2 ey
  subst ev eu
  cases rr with
  | cons q1 rr =>
    cases rr with
    | cons q2 rr =>
      cases rr
      cases q1
      cases q2
      obtain ⟨as', rva, ga⟩ := sa.get I1
      obtain ⟨bs', rvb, gb⟩ := sb.get I1
      have la : a < s1.heap.objs.size := by
        cases h : tpOf x
        · rw [h] at ga; obtain ⟨o, ho, _⟩ := ga; exact Heap.lt_size ho
        · rw [h] at ga; obtain ⟨o, ho, _⟩ := ga; exact Heap.lt_size ho
      have lb : b < s1.heap.objs.size := by
        cases h : tpOf y
        · rw [h] at gb; obtain ⟨o, ho, _⟩ := gb; exact Heap.lt_size ho
        · rw [h] at gb; obtain ⟨o, ho, _⟩ := gb; exact Heap.lt_size ho
      refine call_zipK o ga gb fun m gz gu go gi gj kp => pyit_zip gz ?_
      have I2 : Inv X pins σ H1 { s1 with heap := m } := I1.kept (t' := s1.toks) kp
      refine ⟨s1.heap.objs.size + 4, [s1.heap.objs.size + 4, s1.heap.objs.size + 2, s1.heap.objs.size + 3, s1.heap.objs.size, s1.heap.objs.size + 1], _, _, H1, rfl, I2, turnZ (sb := stZ o) (t1 := tpOf x) (t2 := tpOf y) (PySem.W.ktu_apart s1.heap.objs.size a b la lb), ⟨gz, gu, ⟨_, _, go⟩, gi, gj⟩, fun c hcm => ?_, ?_⟩
      · have hle : s1.heap.objs.size ≤ c := by
          have e' : c = s1.heap.objs.size + 4 ∨ c = s1.heap.objs.size + 2 ∨ c = s1.heap.objs.size + 3 ∨ c = s1.heap.objs.size ∨ c = s1.heap.objs.size + 1 := by simpa using hcm
          rcases e' with z | z | z | z | z <;> (subst z; first | exact Nat.le_refl _ | exact Nat.le_add_right _ _)
        exact I1.fpOk hle (I1.hok.fresh hle)
      · refine q _ S1 k _ H1 t1 c1 fun N2 H2 S2 x2 t2 c2 ⟨k1, k2⟩ => ?_
        obtain ⟨us1, su, ru⟩ := fa N2 H2 S2 x2 t2 c2 k1
        obtain ⟨vs1, sv, rv⟩ := fb N2 H2 S2 x2 t2 c2 k2
        exact ItAt.zip su sv ru rv c2 hs
theorem gi_zip (ha : GE X e wa) (hb : GE X e2 wb) (hm : X.mg "zip" = none) (hg : Gl X "zip" := by rfl)
    (hs : starEach [e, e2] X.env = (false, eval e X.env) :: starEach [e2] X.env := by rfl) (hs2 : starEach [e2] X.env = (false, eval e2 X.env) :: starEach [] X.env := by rfl) (hpl : (backTo pos (starEach [e2] X.env)).any (·.1) = false := by rfl) :
    GI X (.Tuple elts kk tpos) (.Call (.Name "zip" p) [e, e2] [] pos) (wZip none wa wb) := by
  refine ⟨fun pins s σ H R I ⟨N, ρ, S, K, ab, hw, q⟩ => ?_⟩
  have la := lift_args2 (Q := fun vs H1 => ∃ x y S1 xs ys v u, vs = [v, u] ∧ Tr N H S H1 S1 ∧ CellsOk N H1 S1 ∧ Rep H1 (alive N S1) v x ∧ Rep H1 (alive N S1) u y ∧ seqOf S1 x = some xs ∧ seqOf S1 y = some ys ∧ (stZ none = true → xs.length = ys.length) ∧ K ⟨zipD xs ys, fun S' => keepOf x xs S' ∧ keepOf y ys S'⟩ S1)
    ab hw fun x y S1 ⟨xs, ys, ex, ey, hl, k⟩ v u H1 t c r1 r2 => ⟨x, y, S1, xs, ys, v, u, rfl, t, c, r1, r2, ex, ey, hl, k⟩
  refine Call_ (ld_blt I hg hm PyProof.Rows.boot_zip (PyProof.Rows.callWith_type1 (thn ((ga_cons ha (ga_cons hb ga_nil hs2) hs).run pos pins s σ H _ I la) fun us s1 ⟨vs, H1, I1, r1, x, y, S1, xs, ys, v, u, ev, t, c, q1, q2, ex, ey, hl, k⟩ => ?_) hs hpl))
  subst ev
  exact zip_run (o := none) I1 t c q1 q2 r1 ex ey hl k q
end
end G

set_option Elab.async false
set_option linter.all false
set_option maxRecDepth 100000
set_option autoImplicit false
namespace G
open PySem PySem.Spec PyProof.Rows L2
/-! ### reversed(range(..)) -/
def idown (hi : Int) (n : Nat) : List D := (List.range n).map fun i => .int (hi - 1 - (i : Nat))
def wRev1 (a : WE) : WI := fun ρ S K => a ρ S fun x S1 => ∃ j : Int, x = .int j ∧ -(2 ^ 62) ≤ j ∧ j < 2 ^ 62 ∧ K ⟨idown j j.toNat, fun _ => True⟩ S1
section
variable {X : Cx} {tg e : Expr} {w : WE} {p p2 pos pos2 : Pos}
end
theorem st_rev1 {a : WE} {ρ : Rho} {S : Sto} {K : IT → Sto → Prop} (h : a ρ S fun x S1 => ∃ j : Int, x = .int j ∧ -(2 ^ 62) ≤ j ∧ j < 2 ^ 62 ∧ K ⟨idown j j.toNat, fun _ => True⟩ S1) : wRev1 a ρ S K := h
theorem st_zip {o : Option Bool} {a b : WE} {ρ : Rho} {S : Sto} {K : IT → Sto → Prop} (h : a ρ S fun x S1 => b ρ S1 fun y S2 => ∃ xs ys, seqOf S2 x = some xs ∧ seqOf S2 y = some ys ∧ (stZ o = true → xs.length = ys.length) ∧ K ⟨zipD xs ys, fun S' => keepOf x xs S' ∧ keepOf y ys S'⟩ S2) : wZip o a b ρ S K := h

/-! ### counted lists -/
def ups : Nat → Nat → List D
  | _, 0 => []
  | k, m + 1 => .int (k : Nat) :: ups (k + 1) m
def dwn : Nat → List D
  | 0 => []
  | m + 1 => .int (m : Nat) :: dwn m
/-! ### texts -/
open TL PySem.StrLaws
theorem len_app (x y : Str) : (x ++ y).length = x.length + y.length := by rw [len_tl, tl_append, List.length_append, ← len_tl, ← len_tl]
theorem joinL_len (S : List Nat) : ∀ ps : List (List Nat), (joinL S ps).length ≤ (ps.map List.length).sum + ps.length * S.length
  | [] => by simp [joinL]
  | [p] => by simp [joinL]
  | p :: q :: r => by
    have ih := joinL_len S (q :: r)
    show (p ++ (S ++ joinL S (q :: r))).length ≤ _
    rw [List.length_append, List.length_append, List.map_cons, List.sum_cons]
    have e : (p :: q :: r).length * S.length = (q :: r).length * S.length + S.length := by
      rw [List.length_cons, Nat.add_mul, Nat.one_mul]
    rw [e]
    omega
theorem join_len (y : Str) (ps : List Str) : (Txt.join y ps).length ≤ (ps.map (·.length)).sum + ps.length * y.length := by
  have h := joinL_len (tl y) (ps.map tl)
  rw [join_eq, len_tl, tl_join]
  rw [List.map_map, List.length_map, ← len_tl] at h
  have e : (List.length ∘ tl) = fun s : Str => s.length := funext fun s => (len_tl s).symm
  rw [e] at h
  exact h
theorem sum_le {l : List Nat} {b : Nat} (h : ∀ x, x ∈ l → x ≤ b) : l.sum ≤ l.length * b := by
  induction l with
  | nil => simp
  | cons x l ih =>
    have h1 := h x (List.mem_cons_self ..)
    have h2 := ih fun y hy => h y (List.mem_cons_of_mem _ hy)
    rw [List.sum_cons, List.length_cons, Nat.add_mul, Nat.one_mul]
    omega
theorem st_meth {f : D → List D → Sto → KE → Prop} {o : WE} {t : WA} {ρ : Rho} {S : Sto} {K : KE} (h : o ρ S fun x S1 => (∃ z, x = .str z) ∧ t ρ S1 fun ds S2 => f x ds S2 K) : wMeth f o t ρ S K := h
theorem st_isS {z : Str} {P : Prop} (h : P) : (∃ y, D.str z = .str y) ∧ P := ⟨⟨z, rfl⟩, h⟩
theorem st_count {a b : Str} {S : Sto} {K : KE} (h : K (.int (Txt.count a b)) S) : fCount (.str a) [.str b] S K := h
theorem st_join {a : Str} {d : D} {ys : List Str} {S : Sto} {K : KE} {es : List D} (e : seqOf S d = some es) (e2 : es = ys.map D.str) (l : (ys.map (·.length)).sum + ys.length * a.length ≤ 16777216) (h : K (.str (Txt.join a ys)) S) : fJoin (.str a) [d] S K := ⟨es, ys, e, by rw [e2]; exact strs_map ys, l, h⟩
theorem st_sl {a : WE} {lo hi : WO} {ρ : Rho} {S : Sto} {K : KE} (h : a ρ S fun x S1 => lo ρ S1 fun l S2 => hi ρ S2 fun h S3 => oSl x l h S3 K) : wSl a lo hi ρ S K := h
theorem st_slS {z : Str} {lo hi : Option Int} {S : Sto} {K : KE} (l : z.length ≤ sizeLine) (h : K (.str (cutS z lo hi)) S) : oSl (.str z) lo hi S K := ⟨l, h⟩
theorem st_slT {z : List D} {lo hi : Option Int} {S : Sto} {K : KE} (h : K (.tup (cutD z lo hi)) S) : oSl (.tup z) lo hi S K := h
theorem st_slL {z : List D} {lo hi : Option Int} {S : Sto} {K : KE} (h : K (.lst (cutD z lo hi)) S) : oSl (.lst z) lo hi S K := h
theorem st_ixS {z : Str} {j : Int} {S : Sto} {K : KE} (l : z.length ≤ sizeLine) (h0 : 0 ≤ j) (h1 : j < z.length) (h : ∀ c, c ∈ tl z → K (.str ⟨#[c]⟩) S) : oIx (.str z) (.int j) S K := by
  refine ⟨l, ?_⟩
  have hl : j.toNat < z.cps.toList.length := by
    have := len_tl z
    unfold tl at this
    omega
  have e : atI z.cps.toList j = some z.cps.toList[j.toNat] := by
    unfold atI
    rw [ixN_in h0 (by have := len_tl z; unfold tl at this; omega)]
    exact List.getElem?_eq_getElem hl
  rw [e]
  exact h _ (List.getElem_mem hl)
theorem st_max2 {i j : Int} {S : Sto} {K : KE} (h : K (.int (if j > i then j else i)) S) : oMax2 (.int i) (.int j) S K := h
theorem st_min2 {i j : Int} {S : Sto} {K : KE} (h : K (.int (if j < i then j else i)) S) : oMin2 (.int i) (.int j) S K := h
theorem st_sum {d : D} {ds : List D} {ns : List Int} {S : Sto} {K : KE} (e : seqOf S d = some ds) (e2 : ds = ns.map D.int) (h : K (.int ns.sum) S) : oSum d S K := ⟨ds, ns, e, by rw [e2]; exact ints_map ns, h⟩
theorem zipD_ints (a b : List Int) : zipD (a.map D.int) (b.map D.int) = (List.zip a b).map fun p => .tup [.int p.1, .int p.2] := by
  unfold zipD
  rw [List.zipWith_map, List.zip, List.map_zipWith]
def dot (a b : List Int) : Int := ((List.zip a b).map fun p => p.1 * p.2).sum

theorem joinL_mem {S : List Nat} {c : Nat} : ∀ {ps : List (List Nat)}, c ∈ joinL S ps → c ∈ S ∨ ∃ p, p ∈ ps ∧ c ∈ p
  | [], h => by simp [joinL] at h
  | [p], h => .inr ⟨p, List.mem_singleton.mpr rfl, h⟩
  | p :: q :: r, h => by
    have h : c ∈ p ++ (S ++ joinL S (q :: r)) := h
    rcases List.mem_append.mp h with h | h
    · exact .inr ⟨p, List.mem_cons_self .., h⟩
    · rcases List.mem_append.mp h with h | h
      · exact .inl h
      · rcases joinL_mem h with h | ⟨x, hx, hc⟩
        · exact .inl h
        · exact .inr ⟨x, List.mem_cons_of_mem _ hx, hc⟩
theorem joinL_nil : ∀ ps : List (List Nat), joinL [] ps = ps.flatten
  | [] => rfl
  | [p] => by simp [joinL]
  | p :: q :: r => by
    show p ++ ([] ++ joinL [] (q :: r)) = _
    rw [joinL_nil (q :: r)]
    simp
theorem tl_joinT (y : Str) (ps : List Str) : tl (Txt.join y ps) = joinL (tl y) (ps.map tl) := by rw [join_eq, tl_join]
/-- each sign of a text -/
def Sg (P : Nat → Prop) (s : Str) : Prop := ∀ c, c ∈ tl s → P c
theorem Sg.app {P : Nat → Prop} {a b : Str} (ha : Sg P a) (hb : Sg P b) : Sg P (a ++ b) := fun c h => by
  rw [tl_append] at h
  exact (List.mem_append.mp h).elim (ha c) (hb c)
theorem tl_cut (z : Str) (lo hi : Option Int) : tl (cutS z lo hi) = ((tl z).drop (HT.sIx z.length 0 lo)).take (HT.sIx z.length z.length hi - HT.sIx z.length 0 lo) := rfl
theorem Sg.cut {P : Nat → Prop} {a : Str} (ha : Sg P a) (lo hi : Option Int) : Sg P (cutS a lo hi) := fun c h => by
  rw [tl_cut] at h
  exact ha c (List.mem_of_mem_drop (List.mem_of_mem_take h))
theorem Sg.join {P : Nat → Prop} {y : Str} {ps : List Str} (hy : Sg P y) (h : ∀ p, p ∈ ps → Sg P p) : Sg P (Txt.join y ps) := fun c hc => by
  rw [tl_joinT] at hc
  rcases joinL_mem hc with h1 | ⟨p, hp, h1⟩
  · exact hy c h1
  · obtain ⟨q, hq, e⟩ := List.mem_map.mp hp
    subst e
    exact h q hq c h1
theorem Sg.imp {P Q : Nat → Prop} {a : Str} (ha : Sg P a) (h : ∀ c, P c → Q c) : Sg Q a := fun c hc => h c (ha c hc)
theorem Sg.one {P : Nat → Prop} {c : Nat} (h : P c) : Sg P ⟨#[c]⟩ := fun x hx => by
  have : x = c := by simpa [tl] using hx
  rw [this]
  exact h
theorem Sg.of {p : Nat → Bool} {s : Str} (h : (tl s).all p = true) : Sg (fun c => p c = true) s := fun c hc => List.all_eq_true.mp h c hc
theorem strOk_of {s : Str} (h : Sg (fun c => c < 128) s) : PyData.strOk s = true := by
  unfold PyData.strOk
  rw [← Array.all_toList, List.all_eq_true]
  intro c hc
  have := h c hc
  exact decide_eq_true (by omega)
theorem st_eqS {x y : Str} {S : Sto} {K : KE} (h : K (.bl (x == y)) S) : oEq (.str x) (.str y) S K := .inl ⟨_, _, rfl, rfl, h⟩
theorem st_neS {x y : Str} {S : Sto} {K : KE} (h : K (.bl (!(x == y))) S) : oNe (.str x) (.str y) S K := .inl ⟨_, _, rfl, rfl, h⟩
end G

set_option Elab.async false
set_option linter.all false
set_option maxRecDepth 100000
set_option autoImplicit false
namespace G
open PySem PySem.Spec PyProof.Rows L2
/-! ### repr -/
/-- what repr shows: at most n signs, no deeper than k -/
structure Shw (n k : Nat) (p : PyData) : Prop where
  sh : p.showable = true
  nd : p.hasDict = false
  len : p.shown.length ≤ n
  dp : p.depth ≤ k
theorem Shw.mono {n m k j : Nat} {p : PyData} (h : Shw n k p) (l : n ≤ m) (l2 : k ≤ j) : Shw m j p := ⟨h.sh, h.nd, by have := h.len; omega, by have := h.dp; omega⟩
theorem Shw.int {i : Int} (h : i.natAbs < 10 ^ 100) : Shw 101 0 (.int i) := by
  refine ⟨?_, by simp [PyData.hasDict], ?_, by simp [PyData.depth]⟩
  · unfold PyData.showable
    refine decide_eq_true (Nat.lt_of_lt_of_le (lg_lt (k := 334) (Nat.lt_trans h (by decide)) (by decide)) (by decide))
  · have e := int_text_length_le10 (k := 100) (by decide) h
    show (Str.ofString (toString i)).length ≤ 101
    rw [PySem.ofString_length]
    exact e
theorem Shw.bl (b : Bool) : Shw 5 0 (.bool b) := ⟨by simp [PyData.showable], by simp [PyData.hasDict], by cases b <;> decide, by simp [PyData.depth]⟩
theorem Shw.non : Shw 4 0 .none := ⟨by simp [PyData.showable], by simp [PyData.hasDict], by decide, by simp [PyData.depth]⟩
theorem Shw.str {x : Str} {n : Nat} (h : Sg (fun c => c < 128) x) (l : x.length ≤ n) : Shw (10 * n + 2) 0 (.str x) := by
  refine ⟨by simp [PyData.showable], by simp [PyData.hasDict], ?_, by simp [PyData.depth]⟩
  have := StrLaws.reprText_len x fun c hc => by
    have := h c hc
    omega
  show (reprText x).length ≤ _
  omega
theorem shw_all {n k : Nat} : ∀ {ps : List PyData}, (∀ p, p ∈ ps → Shw n k p) → PyData.showableAll ps = true ∧ PyData.hasDictAll ps = false ∧ ((PyData.shownAll ps).map (·.length)).sum ≤ ps.length * n ∧ (PyData.shownAll ps).length = ps.length ∧ PyData.depthAll ps ≤ k
  | [], _ => ⟨by simp [PyData.showableAll], by simp [PyData.hasDictAll], by simp [PyData.shownAll], by simp [PyData.shownAll], by simp [PyData.depthAll]⟩
  | p :: ps, h => by
    have a := h p (List.mem_cons_self ..)
    obtain ⟨b1, b2, b3, b4, b5⟩ := shw_all (ps := ps) fun q hq => h q (List.mem_cons_of_mem _ hq)
    refine ⟨by simp [PyData.showableAll, a.sh, b1], by simp [PyData.hasDictAll, a.nd, b2], ?_, ?_, ?_⟩
    · simp only [PyData.shownAll, List.map_cons, List.sum_cons, List.length_cons]
      have := a.len
      rw [Nat.add_mul, Nat.one_mul]
      omega
    · simp only [PyData.shownAll, List.length_cons, b4]
    · simp only [PyData.depthAll]
      have := a.dp
      omega
theorem Shw.list {n k m : Nat} {ps : List PyData} (h : ∀ p, p ∈ ps → Shw n k p) (l : ps.length ≤ m) : Shw (m * (n + 2) + 3) (k + 1) (.list ps) := by
  obtain ⟨b1, b2, b3, b4, b5⟩ := shw_all h
  refine ⟨by simp [PyData.showable, b1], by simp [PyData.hasDict, b2], ?_, by simp only [PyData.depth]; omega⟩
  simp only [PyData.shown]
  have h1 := listText_len_le (PyData.shownAll ps)
  have h2 : ps.length * (n + 2) ≤ m * (n + 2) := Nat.mul_le_mul_right _ l
  rw [Nat.mul_add] at h2
  rw [b4] at h1
  omega
theorem Shw.tup {n k m : Nat} {ps : List PyData} (h : ∀ p, p ∈ ps → Shw n k p) (l : ps.length ≤ m) : Shw (m * (n + 2) + 3) (k + 1) (.tuple ps) := by
  obtain ⟨b1, b2, b3, b4, b5⟩ := shw_all h
  refine ⟨by simp [PyData.showable, b1], by simp [PyData.hasDict, b2], ?_, by simp only [PyData.depth]; omega⟩
  simp only [PyData.shown]
  have h1 := tupleText_len_le (PyData.shownAll ps)
  have h2 : ps.length * (n + 2) ≤ m * (n + 2) := Nat.mul_le_mul_right _ l
  rw [Nat.mul_add] at h2
  rw [b4] at h1
  omega
/-- a tuple with live lists in it -/
def top2 (S : Sto) (d : D) : D := match d with
  | .tup l => .tup (l.map (top S))
  | d => top S d
def oRepr (d : D) (S : Sto) (K : KE) : Prop := ∃ p, ((top S d).pd = some p ∨ (top2 S d).pd = some p) ∧ Shw sizeLine 60 p ∧ K (.str p.shown) S
section
variable {X : Cx}
/-! ### sorted -/
theorem strs_at {us : List Value} {ys : List Str} (l : us.length = ys.length) (h : ∀ (j : Nat) (u : Value), us[j]? = some u → ∃ y t, ys[j]? = some y ∧ u = .str y t) : StrsAre us ys := by
  induction us generalizing ys with
  | nil =>
    cases ys with
    | nil => exact .nil
    | cons _ _ => simp at l
  | cons u us ih =>
    cases ys with
    | nil => simp at l
    | cons y ys =>
      obtain ⟨y', t, e, rfl⟩ := h 0 u rfl
      cases e
      exact .cons y t (ih (by simpa using l) fun j x e => by
        obtain ⟨y2, t2, e2, e3⟩ := h (j + 1) x (by simpa using e)
        exact ⟨y2, t2, by simpa using e2, e3⟩)
def singles (z : Str) : List Str := z.cps.toList.map fun c => ⟨#[c]⟩
theorem call_sortedStr (hc : X.calm = true) : CallR X (.builtin "sorted") (fun xs H Q => ∃ z, xs = [.str z] ∧ z.length < 64 ∧ ∀ ys p, ys.Perm (singles z) → sortedS ys = true → H p = none → Q (.ref p) (upd H p (.lst (ys.map V.str)))) := by
  intro pins s σ H xs us Q I r h
  obtain ⟨z, ev, hz, q⟩ := h
  subst ev
  obtain ⟨u, rfl, rx⟩ := vals1 r
  obtain ⟨t, rfl⟩ := rx
  have hsz : z.cps.size ≤ sizeLine := by
    have : z.cps.size < 64 := hz
    unfold sizeLine
    omega
  refine Calls.call_function_entry PyProof.Rows.kind_sorted PyProof.Rows.plain_sorted PyProof.Rows.entry_sorted (PyProof.Rows.args_sorted1 _) ?_
  unfold Builtin.«sorted»
  refine wpAny_bind (m := checkCount "sorted" 1 1 _) (wpAny_pure (wpAny_bind (wpAny_collect_str (A := X.A.in1) (I.ok.hd hc) z t (hn := hsz) fun s2 acc kp eg ed eo ha => ?_)))
  obtain ⟨h2, g2, d2, tk, o2⟩ := s2
  obtain rfl : g2 = s.gens := eg
  obtain rfl : d2 = s.drawn := ed
  obtain rfl : o2 = s.os := eo
  have la : acc.toList.length = (singles z).length := by unfold singles; rw [Array.length_toList, List.length_map, Array.length_toList, ha.1]
  have l64 : acc.toList.length < 64 := by rw [Array.length_toList, ha.1]; exact hz
  have hS : StrsAre acc.toList (singles z) := strs_at la fun j u ej => by
    obtain ⟨ch, k, ec, rfl⟩ := ha.2 j u (by simpa using ej)
    refine ⟨⟨#[ch]⟩, k, ?_, rfl⟩
    unfold singles
    rw [List.getElem?_map, show z.cps.toList[j]? = some ch by simpa using ec]
    rfl
  have I1 : Inv X pins σ H { s with heap := h2, toks := tk } := I.kept (t' := tk) kp
  refine wpAny_bind (wpAny_newList ?_ (by unfold sizeLine; omega))
  have ho : (h2.push (seqObj "list" acc.toList.toArray 0)).get? h2.objs.size = some (seqObj "list" acc.toList.toArray 0) := Heap.get?_push_size _ rfl
  show wpAny _ _ _ _ _ { s with heap := h2.push (seqObj "list" acc.toList.toArray 0), toks := tk }
  refine wpAny_bind (wpAny_holding (wpAny_call_entry PyProof.Rows.slot_list_sort ⟨_, ho, rfl⟩ PyProof.Rows.entry_list_sort
    (list_sort_treeK strKind_oneLt (s := { s with heap := h2.push (seqObj "list" acc.toList.toArray 0), toks := tk }) ho hS.keysOf (fun a b rest e => keyKind_strs (by rw [← e]; exact hS)) l64 fun st hp hs => ⟨_, rfl, ?_⟩) (PyProof.Rows.args_list_sort _)))
  obtain ⟨ys, g1, g2, g3⟩ := sorted_out_str hS hp hs
  obtain ⟨e', he'⟩ := PyProof.Rows.sortedHeap_at (vs := acc.toList) (out := (arrOf st).map (·.2)) ho
  have hlen : (ys.map V.str).length ≤ sizeLine := by
    rw [List.length_map, g2.length_eq, ← la]
    unfold sizeLine
    omega
  refine wpAny_pure ⟨_, rfl, .ref h2.objs.size, upd H h2.objs.size (.lst (ys.map V.str)), I1.laid (t' := tk) (fun b u e => ?_) (Nat.le_refl _)
    (show ObjOk X.prog X.w _ _ _ (.lst (ys.map V.str)) from ⟨hlen, ((arrOf st).map (·.2)).toList, e', vals_of_strs g1, by rw [Array.toArray_toList]; exact he'⟩), rfl, q ys _ g2 g3 (I1.hok.fresh (Nat.le_refl _))⟩
  have hb : b < h2.objs.size := Heap.lt_size e
  rw [PyProof.Rows.sortedHeap_old (Nat.ne_of_lt hb) (by rw [size_push']; exact Nat.lt_succ_of_lt hb)]
  exact Heap.get?_push_of_some _ e
/-- sorted of a text, of texts, of ints: a new list -/
def oSrt (x : D) (S : Sto) (K : List D → Sto → Prop) : Prop :=
  (∃ z, x = .str z ∧ z.length < 64 ∧ ∀ ys, ys.Perm (singles z) → sortedS ys = true → K (ys.map D.str) S) ∨
  (∃ ss : List Str, lstOf S x = some (ss.map D.str) ∧ ss.length < 64 ∧ ∀ ys, ys.Perm ss → sortedS ys = true → K (ys.map D.str) S) ∨
  (∃ ns : List Int, lstOf S x = some (ns.map D.int) ∧ ns.length < 64 ∧ ∀ ys : List Int, ys.Perm ns → ys.Pairwise (· ≤ ·) → K (ys.map D.int) S)
def wSorted (a : WE) : WF := fun ρ S K => a ρ S fun x S1 => oSrt x S1 K
theorem reps_strs {H : Hp} {A : Addr → Prop} : ∀ l : List Str, Reps H A (l.map V.str) (l.map D.str)
  | [] => .nil
  | _ :: l => .cons (.str _) (reps_strs l)
theorem repsV_strs {H : Hp} {A : Addr → Prop} : ∀ {vs : List V} {l : List Str}, Reps H A vs (l.map D.str) → vs = l.map V.str
  | [], [], _ => rfl
  | _, [], r => by cases r; rfl
  | _, x :: l, r => by
    cases r with
    | cons r1 rr =>
      cases r1
      rw [repsV_strs rr]
      rfl
theorem repsV_ints {H : Hp} {A : Addr → Prop} : ∀ {vs : List V} {l : List Int}, Reps H A vs (l.map D.int) → vs = l.map V.int
  | _, [], r => by cases r; rfl
  | _, x :: l, r => by
    cases r with
    | cons r1 rr =>
      cases r1
      rw [repsV_ints rr]
      rfl
variable {a : Expr} {wa : WE} {pos p : Pos}
theorem gf_sorted (ha : GE X a wa) (hm : X.mg "sorted" = none) (hg : Gl X "sorted" := by rfl) (hs : starEach [a] X.env = (false, eval a X.env) :: starEach [] X.env := by rfl) (hpl : (backTo pos (starEach [] X.env)).any (·.1) = false := by rfl) (hc : X.calm = true := by rfl) : GF X (.Call (.Name "sorted" p) [a] [] pos) (wSorted wa) := by
  refine PE.imp (pe_callB (CallR.or (call_sortedStr hc) (CallR.or cr_sortedS cr_sorted)) hg hm (by decide +kernel) (ga_cons ha ga_nil hs) (by decide) (by decide) hs hpl) fun σ H Q ⟨N, ρ, S, K, ab, h, q⟩ => ?_
  refine lift_args1 ab h fun d S1 k v H1 t1 c1 r1 => ?_
  rcases k with ⟨z, rfl, hz, k⟩ | ⟨ss, e, hz, k⟩ | ⟨ns, e, hz, k⟩
  · cases r1
    exact .inl ⟨z, rfl, hz, fun ys p h1 h2 n => q _ _ (k ys h1 h2) p H1 _ t1 c1 (reps_strs ys) n⟩
  · obtain ⟨b, vs, rfl, rd, rs⟩ := lstOf_rd c1 r1 e
    have ev := repsV_strs rs
    subst ev
    exact .inr (.inl ⟨b, ss, rfl, .inl rd, hz, fun ys p h1 h2 n => q _ _ (k ys h1 h2) p H1 _ t1 c1 (reps_strs ys) n⟩)
  · obtain ⟨b, vs, rfl, rd, rs⟩ := lstOf_rd c1 r1 e
    have ev := repsV_ints rs
    subst ev
    exact .inr (.inr ⟨b, ns, rfl, .inl rd, hz, fun ys p h1 h2 n => q _ _ (k ys h1 h2) p H1 _ t1 c1 (Reps.ints ys) n⟩)
end
theorem st_sorted {a : WE} {ρ : Rho} {S : Sto} {K : List D → Sto → Prop} (h : a ρ S fun x S1 => oSrt x S1 K) : wSorted a ρ S K := h
theorem st_srtS {z : Str} {S : Sto} {K : List D → Sto → Prop} (l : z.length < 64) (h : ∀ ys, ys.Perm (singles z) → sortedS ys = true → K (ys.map D.str) S) : oSrt (.str z) S K := .inl ⟨z, rfl, l, h⟩
theorem st_abs {x : Int} {S : Sto} {K : KE} (h : K (.int ((x.natAbs : Nat) : Int)) S) : oAbs (.int x) S K := by
  show K (.int (if x < 0 then -x else x)) S
  have e : (if x < 0 then -x else x) = ((x.natAbs : Nat) : Int) := by split <;> omega
  rw [e]
  exact h
theorem comp_mapL {α : Type} {keep : Sto → Prop} {g : WG} {e : WE} {ρ : Rho} {K : List D → Sto → Prop} {S : Sto} (l : List α) (h r : α → D) (hk : keep S) (hl : l.length ≤ sizeLine)
    (hs : ∀ x, x ∈ l → ∀ K1 : D → Sto → Prop, ∀ F : Sto → Prop, K1 (r x) S → g (h x) ρ S fun ρ1 S1 => (true = true → e ρ1 S1 K1) ∧ (true = false → F S1)) (q : K (l.map r) S) : compW keep g wYes e ρ (l.map h) [] S K := by
  refine comp_ind (I := fun ds acc S1 => S1 = S ∧ ∃ m, ds = m.map h ∧ acc ++ m.map r = l.map r ∧ ∀ x, x ∈ m → x ∈ l) ⟨rfl, l, rfl, rfl, fun _ z => z⟩ (fun acc S1 ⟨e1, m, e2, e3, _⟩ => ?_) fun d ds F ih acc S1 ⟨e1, m, e2, e3, e4⟩ => ?_
  · subst e1
    cases m with
    | cons _ _ => cases e2
    | nil =>
      rw [List.map_nil, List.append_nil] at e3
      rw [e3]
      exact ⟨hk, q⟩
  · subst e1
    cases m with
    | nil => cases e2
    | cons x m =>
      injection e2 with e2 e5
      subst e2
      have le := congrArg List.length e3
      simp at le
      exact ⟨hk, hs x (e4 x (List.mem_cons_self ..)) (fun y S3 => acc.length < sizeLine ∧ F (acc ++ [y]) S3) (F acc) ⟨by omega, ih _ _ ⟨rfl, m, e5, by rw [List.append_assoc]; exact e3, fun y hy => e4 y (List.mem_cons_of_mem _ hy)⟩⟩⟩
theorem pd_bools : ∀ bs : List Bool, pds (bs.map D.bl) = some (bs.map PyData.bool)
  | [] => rfl
  | b :: bs => by
    show (match D.pd (.bl b), pds (bs.map D.bl) with
      | some p, some q => some (p :: q)
      | _, _ => none) = _
    rw [pd_bools bs]
    rfl
theorem st_notInB {bs : List Bool} {S : Sto} {K : KE} (h : K (.bl (bs.all id)) S) : oNotIn (.bl false) (.lst (bs.map D.bl)) S K := by
  refine ⟨bs.map D.bl, .bool false, bs.map PyData.bool, rfl, rfl, pd_bools bs, shaped_bl false, (Sh.list (n := 0) fun p hp => ?_).shaped (by decide), ?_⟩
  · obtain ⟨b, _, e⟩ := List.mem_map.mp hp
    rw [← e]
    exact .bl b 0
  · have e : (!((bs.map PyData.bool).any fun z => PyData.eqv z (.bool false))) = bs.all id := by
      clear h
      induction bs with
      | nil => rfl
      | cons b bs ih =>
        rw [List.map_cons, List.any_cons, Bool.not_or, ih, List.all_cons]
        cases b <;> rfl
    rw [e]
    exact h
theorem sorted_join {z : Str} {ys : List Str} (h : ys.Perm (singles z)) : (Txt.join (Str.ofString "") ys).length = z.length ∧ (∀ P : Nat → Prop, Sg P z → Sg P (Txt.join (Str.ofString "") ys)) ∧ (ys.map (·.length)).sum + ys.length * (Str.ofString "").length = z.length := by
  have ht : TL.tl (Txt.join (Str.ofString "") ys) = (ys.map TL.tl).flatten := by
    rw [tl_joinT]
    show TL.joinL [] _ = _
    rw [joinL_nil]
  have hp : (ys.map TL.tl).flatten.Perm (TL.tl z) := by
    have h1 := (h.map TL.tl).flatten
    have h2 : ((singles z).map TL.tl).flatten = TL.tl z := by
      unfold singles
      rw [List.map_map]
      show ((TL.tl z).map (fun c => [c])).flatten = _
      induction TL.tl z with
      | nil => rfl
      | cons c l ih => rw [List.map_cons, List.flatten_cons, ih]; rfl
    rw [h2] at h1
    exact h1
  refine ⟨?_, fun P hz c hc => ?_, ?_⟩
  · rw [TL.len_tl, ht, hp.length_eq, ← TL.len_tl]
  · rw [ht] at hc
    exact hz c (hp.mem_iff.mp hc)
  · have l0 : (Str.ofString "").length = 0 := rfl
    rw [l0, Nat.mul_zero, Nat.add_zero]
    have h3 : (ys.map (·.length)).sum = ((singles z).map (·.length)).sum := (h.map (·.length)).sum_nat
    rw [h3]
    unfold singles
    rw [List.map_map, TL.len_tl]
    show ((TL.tl z).map fun _ => 1).sum = _
    generalize TL.tl z = l
    clear hp h3 ht h
    induction l with
    | nil => rfl
    | cons c l ih => rw [List.map_cons, List.sum_cons, ih, List.length_cons]; omega
theorem list_tup {S : Sto} {ds : List D} : listOf S (.tup ds) = some ds := rfl
theorem list_lst {S : Sto} {ds : List D} : listOf S (.lst ds) = some ds := rfl
theorem items_tup {S : Sto} {ds : List D} : itemsOf S (.tup ds) = some ⟨ds, fun _ => True⟩ := rfl
theorem items_lst {S : Sto} {ds : List D} : itemsOf S (.lst ds) = some ⟨ds, fun _ => True⟩ := rfl
end G

set_option Elab.async false
set_option linter.all false
set_option maxRecDepth 100000
set_option autoImplicit false
namespace G
open PySem PySem.Spec PyProof.Rows L2 TL PySem.StrLaws
/-! ### one sign in a text -/
/-! ### text[::-1] -/
def revS (z : Str) : Str := ⟨(tl z).reverse.toArray⟩
theorem tl_rev (z : Str) : tl (revS z) = (tl z).reverse := rfl
theorem rev_len (z : Str) : (revS z).length = z.length := by rw [len_tl, tl_rev, List.length_reverse, ← len_tl]
theorem rev_idx (n : Nat) : Builtin.Str.strSliceIndices none none (-1) n = (List.range n).map fun k => n - 1 - k := by
  rw [← PySem.W.krv_sliceRange]
  rfl
theorem pick_rev {z : Str} {t : Tok} {k : Int × Tok} (hk : k.1 = -1) : (PySem.sliceMade z t none none (some k)) = .str (revS z) := by
  unfold PySem.sliceMade
  have e : PySem.slicePicked z none none (some k) = (List.range z.length).map fun j => z.length - 1 - j := by
    show Builtin.Str.strSliceIndices none none (((some k).map (·.1)).getD 1) z.length = _
    rw [show ((some k).map (·.1)).getD 1 = k.1 from rfl, hk, rev_idx]
  rw [e, show ((some k).map (·.1)).getD 1 = k.1 from rfl, hk]
  rw [if_neg (by simp)]
  rw [PySem.W.krv_range, List.filterMap_reverse]
  have e2 : (List.range z.length).filterMap (fun x => z.cps[x]?) = tl z := PySem.W.krv_all z.cps
  rw [e2]
  rfl
def tRevS (te : TE) : TE := fun σ H Q => te σ H fun x H1 => ∃ z, x = .str z ∧ z.length ≤ sizeLine ∧ Q (.str (revS z)) H1
section
variable {X : Cx}
theorem pe_revS {e : Expr} {te : TE} {k : Nat} {p1 p2 p3 pos : Pos} (he : PE X e te) : PE X (.Subscript e (.Slice none none (some (.UnaryOp .USub (.Constant (.int 1) k p1) p2)) p3) pos) (tRevS te) := by
  refine ⟨fun pins s σ H Q I h => ?_⟩
  refine Subscript_ (thn (he.run pins s σ H _ I h) fun v s1 ⟨x, H1, I1, r1, z, ex, hz, q⟩ => ?_)
  subst ex
  obtain ⟨t, rfl⟩ := r1
  have hst : PO X (some (.UnaryOp .USub (.Constant (.int 1) k p1) p2)) (tPart (tUn (rU fun i => .int (-i)) (tC (.int 1)))) := po_some (pe_un un_neg pe_int)
  refine wpAny_Slice (thn (po_none.run pins s1 σ H1 (fun o H2 => o = none ∧ H2 = H1) I1 ⟨rfl, rfl⟩) fun vl s2 ⟨l, H2, I2, pl, el, e2⟩ => ?_)
  subst el e2
  refine thn (po_none.run pins s2 σ H2 (fun o H3 => o = none ∧ H3 = H2) I2 ⟨rfl, rfl⟩) fun vu s3 ⟨u, H3, I3, pu, eu, e3⟩ => ?_
  subst eu e3
  refine thn (hst.run pins s3 σ H3 (fun o H4 => o = some (-1) ∧ H4 = H3) I3 ⟨1, rfl, -1, rfl, rfl, rfl⟩) fun vs s4 ⟨o, H4, I4, ps, eo, e4⟩ => ?_
  subst eo e4
  obtain ⟨ll, rfl, el⟩ := IsPart.raw pl
  obtain ⟨lu, rfl, eu⟩ := IsPart.raw pu
  obtain ⟨ls, rfl, es⟩ := IsPart.raw ps
  cases ll with
  | some _ => cases el
  | none =>
    cases lu with
    | some _ => cases eu
    | none =>
      cases ls with
      | none => cases es
      | some k =>
        have hk : k.1 = -1 := Option.some.inj es
        have I5 : Inv X pins σ H4 { s4 with heap := s4.heap.push { cls := .type "slice", data := .fields #[partValue none, partValue none, partValue (some k)] } } := I4.kept (t' := s4.toks) fun b ob q => Heap.get?_push_of_some _ q
        show wpAny (model X.prog X.w) X.A (subscriptTail e (.Slice none none (some (.UnaryOp .USub (.Constant (.int 1) _ p1) p2)) p3) (.str z t) (.ref s4.heap.objs.size)) (EP X pins σ Q) X.xe { s4 with heap := s4.heap.push { cls := .type "slice", data := .fields #[partValue none, partValue none, partValue (some k)] } }
        refine tail_any (ops := [.str z t, .ref s4.heap.objs.size]) (typeIs_str _ z t) (F.slot_str_getitem.lookup) ?_ (by with_unfolding_all rfl)
        refine wpAny_getItem_str_slice (l := none) (u := none) (st := some k) ⟨_, Heap.get?_push_size _ rfl, rfl, rfl⟩ (by show (k.1 == 0) = false; rw [hk]; decide) ?_
        rw [pick_rev hk]
        exact ⟨by show (revS z).length ≤ _; rw [rev_len]; exact hz, .str (revS z), H4, I5.tok _, ⟨_, rfl⟩, q⟩
def oRevS (x : D) (S : Sto) (K : KE) : Prop := match x with
  | .str z => z.length ≤ sizeLine ∧ K (.str (revS z)) S
  | _ => False
theorem ge_revS {e : Expr} {w : WE} {k : Nat} {p1 p2 p3 pos : Pos} (he : GE X e w) : GE X (.Subscript e (.Slice none none (some (.UnaryOp .USub (.Constant (.int 1) k p1) p2)) p3) pos) (wOp1 oRevS w) := by
  refine PE.imp (pe_revS he) fun σ H Q ⟨N, ρ, S, K, ab, h, q⟩ => ?_
  refine liftE.mk ab h fun x S1 h1 v H1 t1 c1 r1 => ?_
  cases r1 with
  | str z => exact ⟨z, rfl, h1.1, q _ _ h1.2 _ H1 t1 c1 (.str _)⟩
  | _ => exact h1.elim
end
/-- text.index(sign), where it is -/
def fIndex (x : D) (ds : List D) (S : Sto) (K : KE) : Prop := match x, ds with
  | .str a, [.str b] => ∃ i rest, Builtin.Str.occurrences a b 0 a.length 1 = i :: rest ∧ K (.int (i : Nat)) S
  | _, _ => False
section
variable {X : Cx} {o e : Expr} {wo : WE} {wr : WA} {apos cpos : Pos}
end
theorem Sg.rev {P : Nat → Prop} {z : Str} (h : Sg P z) : Sg P (revS z) := fun c hc => h c (List.mem_reverse.mp (by rw [← tl_rev]; exact hc))
theorem single_sum {ys : List Str} (h : ∀ y, y ∈ ys → y.length = 1) : (ys.map (·.length)).sum = ys.length := by
  induction ys with
  | nil => rfl
  | cons y ys ih =>
    rw [List.map_cons, List.sum_cons, ih fun z hz => h z (List.mem_cons_of_mem _ hz), h y (List.mem_cons_self ..), List.length_cons]
    omega
theorem sorted_perm {z : Str} {ys : List Str} (h : ys.Perm (singles z)) : (tl (Txt.join (Str.ofString "") ys)).Perm (tl z) := by
  have ht : tl (Txt.join (Str.ofString "") ys) = (ys.map tl).flatten := by
    rw [tl_joinT]
    show joinL [] _ = _
    rw [joinL_nil]
  rw [ht]
  have h1 := (h.map tl).flatten
  have h2 : ((singles z).map tl).flatten = tl z := by
    unfold singles
    rw [List.map_map]
    show ((tl z).map (fun c => [c])).flatten = _
    induction tl z with
    | nil => rfl
    | cons c l ih => rw [List.map_cons, List.flatten_cons, ih]; rfl
  rw [h2] at h1
  exact h1
theorem rep_list (z : Array Nat) : ∀ (n : Nat) (a : Array Nat), ((List.replicate n z).foldl (· ++ ·) a).toList = a.toList ++ (List.replicate n z.toList).flatten
  | 0, a => by simp
  | n + 1, a => by
    show ((List.replicate n z).foldl (· ++ ·) (a ++ z)).toList = _
    rw [rep_list z n (a ++ z), Array.toList_append, List.replicate_succ, List.flatten_cons, List.append_assoc]
theorem tl_rep (z : Str) (k : Int) : tl (repS z k) = (List.replicate k.toNat (tl z)).flatten := by
  show ((List.replicate k.toNat z.cps).foldl (· ++ ·) #[]).toList = _
  rw [rep_list]
  rfl
theorem Sg.rep {P : Nat → Prop} {z : Str} (h : Sg P z) (k : Int) : Sg P (repS z k) := fun c hc => by
  rw [tl_rep] at hc
  obtain ⟨l, hl, hc⟩ := List.mem_flatten.mp hc
  rw [List.eq_of_mem_replicate hl] at hc
  exact h c hc
theorem st_inB {bs : List Bool} {S : Sto} {K : KE} (h : K (.bl (!bs.all id)) S) : oIn (.bl false) (.lst (bs.map D.bl)) S K := by
  refine ⟨bs.map D.bl, .bool false, bs.map PyData.bool, rfl, rfl, pd_bools bs, shaped_bl false, (Sh.list (n := 0) fun p hp => ?_).shaped (by decide), ?_⟩
  · obtain ⟨b, _, e⟩ := List.mem_map.mp hp
    rw [← e]
    exact .bl b 0
  · have e : ((bs.map PyData.bool).any fun z => PyData.eqv z (.bool false)) = !bs.all id := by
      clear h
      induction bs with
      | nil => rfl
      | cons b bs ih =>
        rw [List.map_cons, List.any_cons, ih, List.all_cons, Bool.not_and]
        cases b <;> rfl
    show K (.bl (id _)) S
    rw [e]
    exact h
end G

set_option Elab.async false
set_option linter.all false
set_option maxRecDepth 100000
set_option autoImplicit false
namespace G
open PySem PySem.Spec PyProof.Rows L2
/-! ### a, b, c = .. -/
section
variable {X : Cx} {a b c : Expr} {pos : Pos} {wa wb wc : WE}
end
theorem st_par3 {na ba ca : Rho → Sto → Prop} {ra : D → Sto → Prop} {ρ : Rho} {S : Sto} {i j k : Nat} {a b c : WE} (h : a ρ S fun x S1 => b ρ S1 fun y S2 => c ρ S2 fun z S3 => na (((ρ.set i (some x)).set j (some y)).set k (some z)) S3) : wPar3 i j k a b c ⟨na, ra, ba, ca⟩ ρ S := h
/-! ### a comprehension that keeps some items -/
theorem comp_filterL {α : Type} {keep : Sto → Prop} {g : WG} {t : WT} {e : WE} {ρ : Rho} {K : List D → Sto → Prop} {S : Sto} (l : List α) (h r : α → D) (f : α → Bool) (hk : keep S) (hl : l.length ≤ sizeLine)
    (hs : ∀ a, a ∈ l → ∀ (K1 : D → Sto → Prop) (F1 : Sto → Prop), (f a = true → K1 (r a) S) → (f a = false → F1 S) → g (h a) ρ S fun ρ1 S1 => t ρ1 S1 fun b S2 => (b = true → e ρ1 S2 K1) ∧ (b = false → F1 S2))
    (hK : K ((l.filter f).map r) S) : compW keep g t e ρ (l.map h) [] S K := by
  refine comp_ind (I := fun ds acc S1 => S1 = S ∧ ∃ m : List α, ds = m.map h ∧ acc.length + m.length ≤ l.length ∧ acc ++ (m.filter f).map r = (l.filter f).map r ∧ ∀ x, x ∈ m → x ∈ l) ⟨rfl, l, rfl, by simp, rfl, fun _ z => z⟩ (fun acc S1 ⟨e1, m, e2, e3, e4, e5⟩ => ?_) fun d ds F ih acc S1 ⟨e1, m, e2, e3, e4, e5⟩ => ?_
  · subst e1
    refine ⟨hk, ?_⟩
    cases m with
    | cons _ _ => cases e2
    | nil =>
      rw [List.filter_nil, List.map_nil, List.append_nil] at e4
      rw [e4]
      exact hK
  · subst e1
    refine ⟨hk, ?_⟩
    cases m with
    | nil => cases e2
    | cons a m =>
      injection e2 with e2 e6
      subst e2
      rw [List.length_cons] at e3
      refine hs a (e5 a (List.mem_cons_self ..)) _ _ (fun z => ⟨by omega, ih _ _ ⟨rfl, m, e6, by simp; omega, ?_, fun x hx => e5 x (List.mem_cons_of_mem _ hx)⟩⟩) fun z => ih _ _ ⟨rfl, m, e6, by omega, ?_, fun x hx => e5 x (List.mem_cons_of_mem _ hx)⟩
      · rw [List.filter_cons, if_pos z] at e4
        rw [List.append_assoc]
        exact e4
      · rw [List.filter_cons, if_neg (by rw [z]; decide)] at e4
        exact e4
/-! ### data that are equal -/
inductive Dt : Nat → D → Prop
  | non (n : Nat) : Dt n .non
  | bl (n : Nat) (b : Bool) : Dt n (.bl b)
  | int (n : Nat) (i : Int) : Dt n (.int i)
  | str (n : Nat) {s : Str} : PyData.strOk s = true → Dt n (.str s)
  | tup {n : Nat} {l : List D} : (∀ d, d ∈ l → Dt n d) → Dt (n + 1) (.tup l)
  | lst {n : Nat} {l : List D} : (∀ d, d ∈ l → Dt n d) → Dt (n + 1) (.lst l)
theorem pds_all {n : Nat} : ∀ {l : List D}, (∀ d, d ∈ l → ∃ p, d.pd = some p ∧ Sh n p) → ∃ ps, pds l = some ps ∧ ps.length = l.length ∧ ∀ p, p ∈ ps → Sh n p
  | [], _ => ⟨[], rfl, rfl, fun p hp => by cases hp⟩
  | d :: l, h => by
    obtain ⟨p, e, s⟩ := h d (List.mem_cons_self ..)
    obtain ⟨ps, e2, l2, s2⟩ := pds_all (l := l) fun x hx => h x (List.mem_cons_of_mem _ hx)
    refine ⟨p :: ps, ?_, by simp [l2], fun q hq => ?_⟩
    · show (match d.pd, pds l with
        | some a, some r => some (a :: r)
        | _, _ => none) = _
      rw [e, e2]
    · rcases List.mem_cons.mp hq with z | z
      · rw [z]; exact s
      · exact s2 q z
theorem Dt.pd {n : Nat} {d : D} (h : Dt n d) : ∃ p, d.pd = some p ∧ Sh n p := by
  induction h with
  | non n => exact ⟨_, rfl, .non n⟩
  | bl n b => exact ⟨_, rfl, .bl b n⟩
  | int n i => exact ⟨_, rfl, .int i n⟩
  | str n k => exact ⟨_, rfl, .str k n⟩
  | tup _ ih =>
    obtain ⟨ps, e, _, s⟩ := pds_all ih
    refine ⟨.tuple ps, ?_, .tup s⟩
    show (pds _).map PyData.tuple = _
    rw [e]
    rfl
  | lst _ ih =>
    obtain ⟨ps, e, _, s⟩ := pds_all ih
    refine ⟨.list ps, ?_, .list s⟩
    show (pds _).map PyData.list = _
    rw [e]
    rfl
theorem st_neSame {n : Nat} {S : Sto} {x y d : D} {K : KE} (ex : top S x = d) (ey : top S y = d) (hd : Dt n d) (l : n ≤ 64) (h : K (.bl false) S) : oNe x y S K := by
  obtain ⟨p, e, s⟩ := hd.pd
  refine .inr ⟨p, p, by rw [ex]; exact e, by rw [ey]; exact e, s.shaped l, s.shaped l, ?_⟩
  rw [show PyData.eqv p p = true from SeqAt.eqv_refl p s.lay]
  exact h
/-! ### a new dict without items -/
section
variable {X : Cx} {pos : Pos}
def wD0 : WE := fun _ S K => K (.dic []) S
def wDL0 : WE := fun _ S K => ∀ p, S p = none → K (.cell p) (S.set p (.dic []))
theorem ge_d0 : GE X (.Dict [] [] pos) wD0 := PE.imp pe_dnewK fun σ H Q ⟨N, ρ, S, K, ab, h, q⟩ p n =>
  q _ S h _ _ (Tr.new ab.cells n) (ab.cells.new n) (.dic upd_same (ab.cells.dead n) .nil)
end
end G

set_option Elab.async false
set_option linter.all false
set_option maxRecDepth 100000
set_option autoImplicit false
namespace G
open PySem PySem.Spec PyProof.Rows L2
/-! ### attributes -/
def putD (f : Str) (v : D) : List (Str × D) → List (Str × D)
  | [] => [(f, v)]
  | (g, x) :: r => if g = f then (g, v) :: r else (g, x) :: putD f v r
theorem RepF.length {H : Hp} {A : Addr → Prop} {vs : List (Str × V)} {ds : List (Str × D)} (h : RepF H A vs ds) : vs.length = ds.length := by
  induction h with
  | nil => rfl
  | cons _ _ ih => exact congrArg Nat.succ ih
theorem RepF.put {H : Hp} {A : Addr → Prop} {vs : List (Str × V)} {ds : List (Str × D)} (h : RepF H A vs ds) {f : Str} {v : V} {d : D} (r : Rep H A v d) : RepF H A (putF f v vs) (putD f d ds) := by
  induction h with
  | nil => exact .cons r .nil
  | cons r2 q ih =>
    unfold putF putD
    split
    · exact .cons r q
    · exact .cons r2 ih
/-- e.f of an object of one of these classes -/
def wFld (Cs : List Addr) (f : Str) (a : WE) : WE := fun ρ S K => a ρ S fun d S1 => ∃ c C fs v, d = .cell c ∧ S1 c = some (.obj C fs) ∧ C ∈ Cs ∧ fs.lookup f = some v ∧ K v S1
/-- e.f = .. -/
def gFld (Cs : List Addr) (f : Str) (o : WE) : WG := fun d ρ S K => o ρ S fun x S1 => ∃ c C fs, x = .cell c ∧ S1 c = some (.obj C fs) ∧ C ∈ Cs ∧ fs.length < 1000 ∧ K ρ (S1.set c (.obj C (putD f d fs)))
section
variable {X : Cx} {e o : Expr} {f : Str} {pos : Pos} {wa wo : WE} {Cs : List Addr}
end
/-! ### methods -/
/-- o.m(..) -/
def wMt (C : Addr) (m : Str) (c : CS) (o : WE) (t : WA) : WE := fun ρ S K => o ρ S fun x S1 => ∃ p fs, x = .cell p ∧ S1 p = some (.obj C fs) ∧ fs.lookup m = none ∧ t ρ S1 fun ds S2 => c (x :: ds) S2 K
def CalleeM (P : Program) (w : World) (K : PySem.W.Frag) (mg : Str → Option Value) (base : Heap) (C : Addr) (m : Str) (k : Nat) (c : CS) : Prop :=
  ∃ (f : Addr) (fd : FuncData) (ps : List Str), Meth K C m f ∧ Binds K fd ps [] ∧ FnG P w K mg base k f fd ps (spOf c)
section
variable {X : Cx} {e o : Expr} {es : List Expr} {m : Str} {pos apos p : Pos} {wo : WE} {wr : WA} {C : Addr} {c : CS} {k j : Nat}
end
/-! ### new objects -/
/-- C(..) -/
def wMake (C : Addr) (c : CS) (t : WA) : WE := fun ρ S K => t ρ S fun ds S1 => ∀ p, S1 p = none → c (.cell p :: ds) (S1.set p (.obj C [])) fun d S2 => d = .non ∧ K (.cell p) S2
def CalleeN (P : Program) (w : World) (K : PySem.W.Frag) (mg : Str → Option Value) (base : Heap) (x : Str) (C : Addr) (k : Nat) (c : CS) : Prop :=
  ∃ (f : Addr) (fd : FuncData) (ps : List Str), mg x = some (.ref C) ∧ Mk K C f ∧ Binds K fd ps [] ∧ FnG P w K mg base k f fd ps (spOf c)
section
variable {X : Cx} {e : Expr} {es : List Expr} {x : Str} {pos p : Pos} {wr : WA} {C : Addr} {c : CS} {k j : Nat}
end
/-! ### o[i] op= e of a list of ints -/
def wAugIx (f : Int → Int → Int) (o i e : WE) : WS := fun E ρ S => o ρ S fun x S1 => i ρ S1 fun y S2 => ∃ c ds k j m, x = .cell c ∧ S2 c = some (.lst ds) ∧ y = .int k ∧ ixN ds.length k = some j ∧ ds[j]? = some (.int m) ∧ 0 ≤ k ∧ k.toNat = j ∧ e ρ S2 fun z S3 => ∃ n ds3, z = .int n ∧ S3 c = some (.lst ds3) ∧ ixN ds3.length k = some j ∧ E.nx ρ (S3.set c (.lst (ds3.set j (.int (f m n)))))
/-! ### steps -/
section
variable {ρ : Rho} {S : Sto} {K : KE}
end
end G

set_option Elab.async false
set_option linter.all false
set_option maxRecDepth 100000
set_option autoImplicit false
namespace G
open PySem PySem.Spec PyProof.Rows L2
section
variable {X : Cx} {a b o i e : Expr} {pos tpos : Pos} {wa wb wo wi we : WE}
/-! ### a list times an int, new -/
/-! ### o[i] op= e -/
end
end G

set_option Elab.async false
set_option linter.all false
set_option maxRecDepth 100000
set_option autoImplicit false
namespace G
open PySem PySem.Spec PyProof.Rows L2 Ob
/-! ### min of a list of pairs of ints -/
def pairLt (p q : Int × Int) : Bool := decide (p.1 < q.1) || (decide (p.1 = q.1) && decide (p.2 < q.2))
/-- a pair of ints stands at an address -/
def PairAt (h : Heap) (v : Value) (p : Int × Int) : Prop := ∃ (b : Addr) (x y : Value) (t u : Tok), v = .ref b ∧ x = .int p.1 t ∧ y = .int p.2 u ∧ h.IsTuple b #[x, y]
theorem PairAt.lt {prog : Program} {w : World} {A : Around} {s : Shared} {v u : Value} {p q : Int × Int} {Q E : Value → Shared → Prop} (hp : PairAt s.heap v p) (hq : PairAt s.heap u q) (hu : A.units < cLine) (h : Q (.bool (pairLt p q)) s) : wpAny (model prog w) A (richCompare .Lt v u) Q E s := by
  obtain ⟨b, x, y, t, u1, rfl, rfl, rfl, hb⟩ := hp
  obtain ⟨c, x2, y2, t2, u2, rfl, rfl, rfl, hc⟩ := hq
  have go := RcOp.tuples_lt (A := A) (s := s) hb hc hu (e := fun j => if j = 0 then decide (p.1 = q.1) else decide (p.2 = q.2)) (r := fun j => if j = 0 then decide (p.1 < q.1) else decide (p.2 < q.2)) (fun j h1 h2 => ?_) fun j h1 h2 _ => ?_
  · refine go prog w E Q ?_
    have e : lexAt (fun j => if j = 0 then decide (p.1 = q.1) else decide (p.2 = q.2)) (fun j => if j = 0 then decide (p.1 < q.1) else decide (p.2 < q.2)) (decide ((#[Value.int p.1 t, Value.int p.2 u1] : Array Value).size < (#[Value.int q.1 t2, Value.int q.2 u2] : Array Value).size)) 0 (min (#[Value.int p.1 t, Value.int p.2 u1] : Array Value).size (#[Value.int q.1 t2, Value.int q.2 u2] : Array Value).size) = pairLt p q := by
      show (if (if (0 : Nat) = 0 then decide (p.1 = q.1) else decide (p.2 = q.2)) = true then (if (if (0 : Nat) + 1 = 0 then decide (p.1 = q.1) else decide (p.2 = q.2)) = true then decide ((2 : Nat) < 2) else (if (0 : Nat) + 1 = 0 then decide (p.1 < q.1) else decide (p.2 < q.2))) else (if (0 : Nat) = 0 then decide (p.1 < q.1) else decide (p.2 < q.2))) = pairLt p q
      unfold pairLt
      by_cases a1 : p.1 = q.1 <;> by_cases a2 : p.2 = q.2 <;> by_cases a3 : p.1 < q.1 <;> by_cases a4 : p.2 < q.2 <;> simp [a1, a2, a3, a4] <;> omega
    rw [e]
    exact h
  · have : j = 0 ∨ j = 1 := by
      have h1 : j < 2 := h1
      omega
    rcases this with rfl | rfl
    · exact SeqAt.EqAt.int_int _ _ _ _
    · exact SeqAt.EqAt.int_int _ _ _ _
  · have : j = 0 ∨ j = 1 := by
      have h1 : j < 2 := h1
      omega
    rcases this with rfl | rfl
    · exact RcOp.lt_int _ _ _ _
    · exact RcOp.lt_int _ _ _ _
section
variable {prog : Program} {w : World} {A : Around} {R : Result → Shared → Prop} {I S : Addr} {fp wr : List Addr} {n : Nat} {P : Nat → Value → Prop} {St : Nat → Heap → Prop} {Gd : Heap → Prop} {better : Nat → Nat → Bool}
end

section
variable {X : Cx}
/-- min(l) of a list of pairs of ints -/
def rMinPr : List V → Hp → VK → Prop := fun vs H Q => ∃ (a : Addr) (xs : List V) (ps : List (Int × Int)), vs = [.ref a] ∧ H a = some (.lst xs) ∧ xs.length = ps.length ∧ (∀ (j : Nat) (p : Int × Int), ps[j]? = some p → ∃ b, xs[j]? = some (.ref b) ∧ Rd H b (.tup [.int p.1, .int p.2])) ∧ 0 < ps.length ∧
  ∀ (j : Nat) (v : V) (p : Int × Int), xs[j]? = some v → ps[j]? = some p → (∀ q, q ∈ ps → pairLt q p = false) → Q v H
/-- min of a list of pairs -/
def oMinP (d : D) (S : Sto) (K : KE) : Prop := ∃ ps : List (Int × Int), d = .lst (ps.map fun p => .tup [.int p.1, .int p.2]) ∧ ps ≠ [] ∧ ∀ p, p ∈ ps → (∀ q, q ∈ ps → pairLt q p = false) → K (.tup [.int p.1, .int p.2]) S
end
end G

set_option Elab.async false
set_option linter.all false
set_option maxRecDepth 100000
set_option autoImplicit false
namespace G
open PySem PySem.Spec PyProof.Rows L2
/-! ### o.index(i) of a list of ints -/
def wLIx (o a : WE) : WE := fun ρ S K => o ρ S fun x S1 => (∃ ds, lstOf S1 x = some ds) ∧ a ρ S1 fun y S2 => ∃ (ns : List Int) (i : Int) (j : Nat), lstOf S2 x = some (ns.map D.int) ∧ y = .int i ∧ ns[j]? = some i ∧ (∀ m, m < j → ns[m]? ≠ some i) ∧ K (.int (j : Nat)) S2
section
variable {X : Cx} {o a : Expr} {wo wa : WE} {apos cpos : Pos}
end
/-! ### list(range(n)) -/
def wLRng (a : WE) : WF := fun ρ S K => a ρ S fun x S1 => ∃ j : Int, x = .int j ∧ -(2 ^ 62) ≤ j ∧ j ≤ 2 ^ 24 ∧ K (irange 0 j.toNat) S1
def rngV (n : Nat) : List V := (List.range n).map fun i => .int ((i : Nat) : Int)
section
variable {X : Cx} {a : Expr} {wa : WE} {p1 p2 pos pos2 : Pos}
end
/-! ### methods as the head tells them -/
def MethAt (K : PySem.W.Frag) (x m q : Str) (st : Stmt) : Prop := Meth K (He.ga K x) m (He.ma K (He.ga K x) m) ∧ ∃ fd : FuncData, FunD K m q (defArgs st) (defBody st) (defScope st) [] [] (He.ma K (He.ga K x) m) fd
def MakeAt (K : PySem.W.Frag) (mg : Str → Option Value) (x q : Str) (st : Stmt) : Prop := mg x = some (.ref (He.ga K x)) ∧ Mk K (He.ga K x) (He.ma K (He.ga K x) "__init__") ∧ ∃ fd : FuncData, FunD K "__init__" q (defArgs st) (defBody st) (defScope st) [] [] (He.ma K (He.ga K x) "__init__") fd
section
variable {P : Program} {w : World} {K : PySem.W.Frag} {mg : Str → Option Value} {base : Heap} {x m q : Str} {st : Stmt} {k : Nat}
end
/-! ### steps -/
end G

set_option linter.all false
set_option maxRecDepth 100000
set_option autoImplicit false
namespace G
open PySem PySem.Spec PyProof.Rows L2
/-! ### a text times any number -/
section
variable {X : Cx}
/-- × wherever a text may stand on the left -/
def oMulX (x y : D) (S : Sto) (K : KE) : Prop := oMul x y S K ∨ ∃ z k, x = .str z ∧ y = .int k ∧ z.length ≤ 10000 ∧ -1000 ≤ k ∧ k ≤ 1000 ∧ K (.str (repS z k)) S
end
end G

set_option linter.all false
set_option maxRecDepth 100000
set_option autoImplicit false
namespace G
open PySem PySem.Spec PyProof.Rows L2
/-! ### range(e, -1, -1) -/
def wRngD (a b c : WE) : WI := fun ρ S K => a ρ S fun x S1 => b ρ S1 fun y S2 => c ρ S2 fun z S3 => ∃ j : Int, x = .int j ∧ y = .int (-1) ∧ z = .int (-1) ∧ -(2 ^ 61) ≤ j ∧ j < 2 ^ 61 ∧ K ⟨idown (j + 1) (j + 1).toNat, fun _ => True⟩ S3
section
variable {X : Cx} {tg a b c : Expr} {wa wb wc : WE} {p pos : Pos}
end
end G

set_option linter.all false
set_option maxRecDepth 100000
set_option autoImplicit false
/-! ### sorted of tuples of ints of any lengths -/
namespace SrtO
open PySem PySem.Spec PyProof.Rows
section
variable {prog : Program} {w : World} {A : Around} {E : Value → Shared → Prop} {s : Shared}
end
end SrtO
namespace L2
open PySem PySem.Spec PyProof.Rows
/-- sorted(xs), xs a list of tuples of ints that are not empty (k says which) -/
def rSortedTO (K : PySem.W.Frag) : List V → Hp → VK → Prop := fun vs H Q => ∃ (a : Addr) (xs : List V) (k : V → List Int), vs = [V.ref a] ∧ SqL K H a xs ∧ (∀ x ∈ xs, ∃ t, x = V.ref t ∧ SqT K H t ((k x).map V.int) ∧ k x ≠ []) ∧
  ∀ ys p, SrtO.Srtd (fun v u => HT.lexLt (k v) (k u)) ys → SrtO.Stb (fun v u => HT.lexLt (k v) (k u)) ys xs → H p = none → Q (.ref p) (upd H p (.lst ys))
section
variable {X : Cx}
end
end L2
namespace G
open PySem PySem.Spec PyProof.Rows L2
def layI (l : List Int) : D := .tup (l.map D.int)
/-- sorted, of tuples of ints -/
def oSrtT (x : D) (S : Sto) (K : List D → Sto → Prop) : Prop := ∃ ls : List (List Int), lstOf S x = some (ls.map layI) ∧ (∀ l, l ∈ ls → l ≠ []) ∧ ∀ ms : List (List Int), ms.Perm ls → ms.Pairwise (fun a b => HT.lexLt b a = false) → K (ms.map layI) S
def wSortedT (a : WE) : WF := fun ρ S K => a ρ S fun x S1 => oSrtT x S1 K
open Classical in
noncomputable def kOf (H : Hp) (x : V) : List Int := if h : ∃ (l : List Int) (t : Addr), x = .ref t ∧ Rd H t (.tup (l.map V.int)) then h.choose else []
section
variable {X : Cx} {a : Expr} {wa : WE} {pos p : Pos}
end
end G

set_option Elab.async false
set_option linter.all false
set_option maxRecDepth 100000
set_option autoImplicit false
namespace G
open PySem PySem.Spec PyProof.Rows L2

/-! ### enumerate(text) -/
def IteS (z : Str) : It :=
  ⟨fun i _ => i < z.cps.size, fun i H v H' => ∃ T c, v = .ref T ∧ H T = none ∧ H' = upd H T (.tup [.int (i : Nat), .str ⟨#[c]⟩]) ∧ z.cps[i]? = some c, fun i _ => i = z.cps.size⟩
def iEnumS (ta : TA) : TI := fun σ H R => ta σ H fun vs H1 => ∃ z : Str, vs = [.str z] ∧ R (IteS z) H1
def wEnumS (a : WE) : WI := fun ρ S K => a ρ S fun x S1 => ∃ z : Str, x = .str z ∧ K ⟨ienum 0 ((TL.tl z).map fun c => D.str ⟨#[c]⟩), fun _ => True⟩ S1
section
variable {X : Cx} {e : Expr} {w : WE} {p pos tpos : Pos} {elts : List Expr} {kk : Nat}
end
end G

set_option Elab.async false
set_option linter.all false
set_option maxRecDepth 100000
set_option autoImplicit false
namespace G
open PySem PySem.Spec PyProof.Rows L2

/-! ### list[::-1] -/
theorem Reps.revOnto {H : Hp} {A : Addr → Prop} : ∀ {vs : List V} {ds : List D} {us : List V} {es : List D}, Reps H A vs ds → Reps H A us es → Reps H A (vs.reverseAux us) (ds.reverseAux es)
  | [], [], _, _, .nil, r => r
  | _ :: vs, _ :: ds, _, _, .cons p q, r => Reps.revOnto (vs := vs) (ds := ds) q (.cons p r)
def wRevL (a : WE) : WF := fun ρ S K => a ρ S fun x S1 => ∃ ds, lstOf S1 x = some ds ∧ K ds.reverse S1
section
variable {X : Cx} {e : Expr} {w : WE} {k : Nat} {p1 p2 p3 pos : Pos}
end
end G

set_option Elab.async false
set_option linter.all false
set_option maxRecDepth 100000
set_option autoImplicit false
namespace G
open PySem PySem.Spec PyProof.Rows L2

/-! ### sorted(set(list of ints)) -/
abbrev sEmp (w : World) : Obj := { cls := .type "set", dict := none, data := .set #[] 0 (.fresh 0 0 (!w.params.followText "set-order")) }
/-- what has been made when the set is filled -/
def Filled (w : World) (s s2 : Shared) (ns : List Int) : Prop := ∃ h' tk c, s2 = { s with heap := h', toks := tk } ∧ SetR w h' s.heap.objs.size (fun j => decide (j ∈ ns)) c ∧ c ≤ ns.length ∧ ∀ b o, s.heap.get? b = some o → h'.get? b = some o
section
variable {P : Program} {w : World} {A : Around} {E : Value → Shared → Prop} {s : Shared}
set_option maxRecDepth 100000 in
set_option maxHeartbeats 3200000 in
end
section
variable {X : Cx}
def rSetL (w : World) (K : PySem.W.Frag) : List V → Hp → VK → Prop := fun vs H Q => ∃ (a : Addr) (ns : List Int), vs = [V.ref a] ∧ SqL K H a (ns.map V.int) ∧ ns.length ≤ 4000 ∧ (∀ L : List Int, L.Nodup → (∀ j, j ∈ L ↔ j ∈ ns) → L.length < 64) ∧ ∀ p c, H p = none → c < 64 → Q (.ref p) (upd H p (SetO w p (fun j => decide (j ∈ ns)) c))
/-- sorted(set(ns)) -/
def wSrtSet (a : WE) : WF := fun ρ S K => a ρ S fun x S1 => ∃ ns : List Int, lstOf S1 x = some (ns.map D.int) ∧ ns.length ≤ 4000 ∧ (∀ k, k ∈ ns → 0 ≤ k ∧ k < 63) ∧ ∀ ms : List Int, ms.Pairwise (· < ·) → (∀ k, k ∈ ms ↔ k ∈ ns) → K (ms.map D.int) S1
variable {a : Expr} {wa : WE} {pos p pos2 p2 : Pos}
end
end G

set_option Elab.async false
set_option linter.all false
set_option maxRecDepth 100000
set_option autoImplicit false
namespace G
open PySem PySem.Spec PyProof.Rows L2

/-! ### tuple[::-1] -/
theorem rev_pick (xs : Array Value) : ((List.range xs.size).filterMap fun (k : Nat) => xs[(((xs.size : Nat) : Int) - 1 + (k : Int) * (-1)).toNat]?).toArray = xs.toList.reverse.toArray := by
  have e : (fun (k : Nat) => xs[(((xs.size : Nat) : Int) - 1 + (k : Int) * (-1)).toNat]?) = fun k => xs[xs.size - 1 - k]? := by
    funext k
    rw [show (((xs.size : Nat) : Int) - 1 + (k : Int) * (-1)).toNat = xs.size - 1 - k by omega]
  have p := PySem.W.krv_pick xs
  unfold slicePick at p
  rw [PySem.W.krv_bounds] at p
  dsimp only at p
  rw [PySem.W.krv_sliceRange, List.filterMap_map] at p
  rw [e]
  exact p
section
variable {prog : Program} {w : World} {A : Around} {E : Value → Shared → Prop} {s : Shared}
theorem applied_rev {sl : Addr} {vl vu vs : Value} {n : Nat} {Q : Int × Int × Nat → Shared → Prop} (hs : s.heap.IsSliceOf sl vl vu vs) (pl : IsPart vl none) (pu : IsPart vu none) (ps : IsPart vs (some (-1)))
    (h : Q ((n : Int) - 1, -1, n) s) : wpAny (model prog w) A (Builtin.Slice.sliceApplied (.ref sl) (pure (n : Int))) Q E s := by
  obtain ⟨os, hos, hcs, hds⟩ := id hs
  unfold Builtin.Slice.sliceApplied Builtin.Slice.sliceFields
  refine wpAny_bind (wpAny_bind (wpAny_field hos hds (x := vl) rfl (wpAny_bind (wpAny_field hos hds (x := vu) rfl (wpAny_bind (wpAny_field hos hds (x := vs) rfl (wpAny_pure ?_)))))))
  refine wpAny_bind (HT.slicePart_ ps ?_)
  show wpAny _ _ (if ((-1 : Int) == 0) = true then _ else _) _ _ s
  rw [if_neg (by decide)]
  refine wpAny_bind (HT.slicePart_ pl (wpAny_bind (HT.slicePart_ pu (wpAny_bind (wpAny_pure ?_)))))
  show wpAny _ _ (pure ((n : Int) - 1, (-1 : Int), Builtin.Slice.slicePlaces ((n : Int) - 1) (-1) (-1))) _ _ s
  have e : Builtin.Slice.slicePlaces ((n : Int) - 1) (-1) (-1) = n := by
    unfold Builtin.Slice.slicePlaces
    rw [if_neg (by omega)]
    by_cases z : (n : Int) - 1 > -1
    · rw [if_pos z, show -(-1 : Int) = 1 from rfl, Int.ediv_one]
      omega
    · rw [if_neg z]
      omega
  rw [e]
  exact wpAny_pure h
theorem getItem_tuple_rev {t sl : Addr} {items : Array Value} {vl vu vs : Value} {Q : Value → Shared → Prop} (ht : IsTup s.heap t items) (hs : s.heap.IsSliceOf sl vl vu vs) (pl : IsPart vl none) (pu : IsPart vu none) (ps : IsPart vs (some (-1)))
    (h : Q (.ref s.heap.objs.size) { s with heap := s.heap.push { cls := .type "tuple", data := .seq items.toList.reverse.toArray } }) (hsz : items.size ≤ sizeLine) : wpAny (model prog w) A (getItem (.ref t) (.ref sl)) Q E s := by
  have ok : sizeOk (.seq items.toList.reverse.toArray) := by
    show items.toList.reverse.toArray.size ≤ sizeLine
    rw [List.size_toArray, List.length_reverse, Array.length_toList]
    exact hsz
  obtain ⟨os, hos, hcs, hds⟩ := id hs
  have hTs : s.TypeIs (.ref sl) "slice" := ⟨os, hos, hcs⟩
  unfold getItem
  try with_reducible refine wpAny_holding ?_
  first | refine wpAny_bind (wpAny_pure ?_) | skip
  refine wpAny_bind (wpAny_sequenceKey ht.typeIs (by decide) ?_)
  refine wpAny_bind (wpAny_callSpecial?_slot (name := Str.ofString "__getitem__") ht.typeIs PyProof.Rows.slot_tuple_getitem (wpAny_call_entry PyProof.Rows.slot_tuple_getitem ht.typeIs entry_tuple_getitem ?_ (args_tuple_getitem _ _)))
  show wpAny _ _ (Builtin.Tuple.tupleItemsOf (.ref t) >>= _) _ _ s
  refine wpAny_bind (tupleItemsOf_ ht (wpAny_bind (wpAny_typeOf hTs ?_)))
  rw [if_pos (by decide)]
  refine wpAny_bind (applied_rev hs pl pu ps ?_)
  show wpAny _ _ (if (((items.size : Nat) : Int) - 1 == 0 && (-1 : Int) == 1 && items.size == items.size) = true then _ else _) _ _ s
  rw [if_neg (by rw [show ((-1 : Int) == 1) = false from rfl, Bool.and_false, Bool.false_and]; decide), rev_pick]
  first
    | exact wpAny_bind (m := Builtin.Tuple.tupleExact _) (wpAny_newObj_type (wpAny_pure ⟨_, rfl, wpAny_pure h⟩) ok)
    | exact wpAny_bind (wpAny_bind (m := Builtin.Tuple.tupleExact _) (wpAny_newObj_type (wpAny_pure ⟨_, rfl, wpAny_pure h⟩) ok))
end
def tRevT (K : PySem.W.Frag) (te : TE) : TE := fun σ H Q => te σ H fun x H1 => ∃ a xs, x = .ref a ∧ SqT K H1 a xs ∧ ∀ p, H1 p = none → Q (.ref p) (upd H1 p (.tup xs.reverse))
section
variable {X : Cx} {e : Expr} {te : TE} {w : WE} {k : Nat} {p1 p2 p3 pos : Pos}
theorem pe_revT (he : PE X e te) : PE X (.Subscript e (.Slice none none (some (.UnaryOp .USub (.Constant (.int 1) k p1) p2)) p3) pos) (tRevT X.K te) := by
  refine ⟨fun pins s σ H Q I h => Subscript_ (thn (he.run pins s σ H _ I h) fun v s1 ⟨x, H1, I1, r1, q1⟩ => ?_)⟩
  obtain ⟨a, xs, ex, hx, q⟩ := q1
  subst ex
  cases r1
  have st : PO X (some (.UnaryOp .USub (.Constant (.int 1) k p1) p2)) (tPart (tUn (rU fun i => .int (-i)) (tC (.int 1)))) := po_some (pe_un un_neg pe_int)
  refine wpAny_Slice (thn (po_none.run pins s1 σ H1 (fun o H2 => o = none ∧ H2 = H1) I1 ⟨rfl, rfl⟩) fun vl s2 ⟨l, H2, I2, pl, el, e2⟩ => ?_)
  subst el e2
  refine thn (po_none.run pins s2 σ H2 (fun o H3 => o = none ∧ H3 = H2) I2 ⟨rfl, rfl⟩) fun vu s3 ⟨u, H3, I3, pu, eu, e3⟩ => ?_
  subst eu e3
  refine thn (st.run pins s3 σ H3 (fun o H4 => o = some (-1) ∧ H4 = H3) I3 ⟨1, rfl, -1, rfl, rfl, rfl⟩) fun vs s4 ⟨o, H4, I4, ps, eo, e4⟩ => ?_
  subst eo e4
  have I5 : Inv X pins σ H4 { s4 with heap := s4.heap.push { cls := .type "slice", data := .fields #[vl, vu, vs] } } := I4.kept (t' := s4.toks) fun b ob q => Heap.get?_push_of_some _ q
  obtain ⟨its, r, ht, hz⟩ := I5.tuple hx
  have hl := r.length
  refine tail_any (ops := [.ref a, .ref s4.heap.objs.size]) ht.typeIs (PyProof.Rows.slot_tuple_getitem.lookup) ?_ (by with_unfolding_all rfl)
  refine getItem_tuple_rev ht (Heap.IsSliceOf.new _ vl vu vs) pl pu ps ?_ (by rw [List.size_toArray]; omega)
  refine ⟨.ref _, _, I5.laid (t' := s4.toks) (o := .tup xs.reverse) (fun b ob q => Heap.get?_push_of_some _ q) (Nat.le_refl _) ?_, rfl, q _ (I5.hok.fresh (Nat.le_refl _))⟩
  exact ⟨by rw [List.length_reverse]; exact hz, _, r.reverse, IsTup.new _ _⟩
def oRevT (x : D) (S : Sto) (K : KE) : Prop := match x with
  | .tup ds => K (.tup ds.reverse) S
  | _ => False
theorem ge_revT (he : GE X e w) : GE X (.Subscript e (.Slice none none (some (.UnaryOp .USub (.Constant (.int 1) k p1) p2)) p3) pos) (wOp1 oRevT w) := by
  refine PE.imp (pe_revT he) fun σ H Q ⟨N, ρ, S, K, ab, h, q⟩ => ?_
  refine liftE.mk ab h fun d S1 kk v H1 t1 c1 r1 => ?_
  cases r1 with
  | tup rd na rs => exact ⟨_, _, rfl, .inl rd, fun p n => q _ _ kk _ _ (t1.trans (Tr.new c1 n)) (c1.new n) (.tup (.inl upd_same) (c1.dead n) ((rs.revOnto .nil).mono (Tr.new c1 n)))⟩
  | _ => exact kk.elim
end
theorem st_revT {ds : List D} {S : Sto} {K : KE} (h : K (.tup ds.reverse) S) : oRevT (.tup ds) S K := h
end G

set_option Elab.async false
set_option linter.all false
set_option maxRecDepth 100000
set_option autoImplicit false
namespace G
open PySem PySem.Spec PyProof.Rows L2
/-! ### max of a list or tuple of ints -/
variable {X : Cx}
def oMaxS (d : D) (S : Sto) (K : KE) : Prop := ∃ ds ns, seqOf S d = some ds ∧ ints? ds = some ns ∧ 0 < ns.length ∧ ∀ m, m ∈ ns → (∀ y, y ∈ ns → y ≤ m) → K (.int m) S
end G

set_option Elab.async false
set_option linter.all false
set_option maxRecDepth 100000
set_option autoImplicit false
namespace G
open PySem PySem.Spec PyProof.Rows L2
/-! ### a call of one of several defs that stand in a list -/
def wCallSel (i : WE) (cs : List CS) (a : WA) : WE := fun ρ S K => i ρ S fun x S1 => ∃ (k : Nat) (c : CS), x = .int (k : Nat) ∧ cs[k]? = some c ∧ a ρ S1 fun ds S2 => c ds S2 K
section
variable {X : Cx} {x0 x1 x2 : Str} {ie e : Expr} {es : List Expr} {wi : WE} {wr : WA} {p0 p1 p2 pl ps pos : Pos} {k0 k1 k2 j : Nat} {c0 c1 c2 : CS}
/-- what is found in the list -/
def OneOf (X : Cx) (j : Nat) (wr : WA) (cs : List CS) (σ : L2.St) (Q : VK) (v : V) (H1 : Hp) : Prop := ∃ (f : Addr) (fd : FuncData) (ps : List Str) (c : CS), v = .ref f ∧ PySem.W.keepIn X.K (.ref f) = true ∧ Binds X.K fd ps [] ∧ FnG X.prog X.w X.K X.mg X.base j f fd ps (spOf c) ∧ liftA wr σ H1 fun vs H2 => spOf c vs H2 Q E0
end
end G

set_option Elab.async false
set_option linter.all false
set_option maxRecDepth 100000
set_option autoImplicit false
/-! ### sorted of a tuple of pairs whose first parts are different ints -/
namespace SrtP
open PySem PySem.Spec PyProof.Rows SrtO
/-- a pair that begins with an int -/
def PairV (h : Heap) (v : Value) (i : Int) : Prop := ∃ (a : Addr) (y : Value) (t : Tok), v = .ref a ∧ h.IsTuple a #[.int i t, y]
section
variable {prog : Program} {w : World} {A : Around} {E : Value → Shared → Prop} {s : Shared}
theorem PairV.keeps {h h' : Heap} {v : Value} {i : Int} (p : PairV h v i) (k : ∀ b o, h.get? b = some o → o.cls = .type "tuple" → h'.get? b = some o) : PairV h' v i := by
  obtain ⟨a, y, t, e, ⟨o, ho, hc, n, hd⟩⟩ := p
  exact ⟨a, y, t, e, ⟨o, k a o ho hc, hc, n, hd⟩⟩
end
end SrtP
namespace L2
open PySem PySem.Spec PyProof.Rows
def rSortedPr (K : PySem.W.Frag) : List V → Hp → VK → Prop := fun vs H Q => ∃ (a : Addr) (xs : List V) (k : V → Int), vs = [V.ref a] ∧ SqT K H a xs ∧ (∀ x ∈ xs, ∃ t y, x = V.ref t ∧ SqT K H t [V.int (k x), y]) ∧ (∀ x ∈ xs, ∀ y ∈ xs, k x = k y → x = y) ∧
  ∀ ys p, ys.Perm xs → ys.Pairwise (fun v u => k v ≤ k u) → H p = none → Q (.ref p) (upd H p (.lst ys))
section
variable {X : Cx}
end
end L2
namespace G
open PySem PySem.Spec PyProof.Rows L2
def pairD (p : Int × D) : D := .tup [.int p.1, p.2]
open Classical in
/-- the int that a pair begins with -/
noncomputable def kI (H : Hp) (v : V) : Int := if h : ∃ (i : Int) (t : Addr) (y : V), v = .ref t ∧ Rd H t (.tup [.int i, y]) then h.choose else 0
/-- the pair with a key -/
noncomputable def gP (H : Hp) (ps : List (Int × D)) (v : V) : Int × D := (ps.find? fun p => decide (p.1 = kI H v)).getD (0, .non)
/-- sorted, of a tuple of pairs with different ints in front -/
def oSrtP (x : D) (S : Sto) (K : List D → Sto → Prop) : Prop := ∃ ps : List (Int × D), x = .tup (ps.map pairD) ∧ (ps.map Prod.fst).Nodup ∧ ∀ qs : List (Int × D), qs.Perm ps → qs.Pairwise (fun p q => p.1 < q.1) → K (qs.map pairD) S
def wSortedP (a : WE) : WF := fun ρ S K => a ρ S fun x S1 => oSrtP x S1 K
section
variable {X : Cx} {a : Expr} {wa : WE} {pos p : Pos}
end
end G

set_option Elab.async false
set_option linter.all false
set_option maxRecDepth 100000
set_option autoImplicit false
namespace G
open PySem PySem.Spec PyProof.Rows L2

/-! ### sets of texts, their members in order -/
abbrev TxK (P : Program) (w : World) := _root_.PySem.strKind P w
def keyT (e : Int × Value) : Str := match e.2 with
  | .str k _ => k
  | _ => Str.empty
def FineT (w : World) (e : Int × Value) : Prop := ∃ k u, e.2 = Value.str k u ∧ e.1 = hashStr w k
structure SetTx (w : World) (h : Heap) (a : Addr) (S : Str → Bool) (n : Nat) (es : Array (Int × Value)) (ep : Nat) (t : SetTable) (o : Obj) : Prop where
  at_ : h.get? a = some o
  ex : o.ExactSet
  da : o.data = .set es ep t
  fine : ∀ e ∈ es.toList, FineT w e
  nd : (es.toList.map keyT).Nodup
  mem : ∀ k, S k = true ↔ k ∈ es.toList.map keyT
  bd : es.size < scanBound
  fit : t.fits es.size = true
  sz : es.size = n
  ris : Ris t.place.toList
  led : w.params.followText "set-order" = true ∨ t.led = true
/-- the set of texts at a: S its members, n their number -/
def SetY (w : World) (h : Heap) (a : Addr) (S : Str → Bool) (n : Nat) : Prop := ∃ es ep t o, SetTx w h a S n es ep t o
section
variable {P : Program} {w : World} {h h' : Heap} {a : Addr} {S : Str → Bool} {n : Nat}
theorem SetY.at (R : SetY w h a S n) (k : ∀ o, h.get? a = some o → h'.get? a = some o) : SetY w h' a S n := by
  obtain ⟨es, ep, t, o, R⟩ := R
  exact ⟨es, ep, t, o, { R with at_ := k o R.at_ }⟩
theorem SetY.congr {S' : Str → Bool} (R : SetY w h a S n) (e : ∀ k, S' k = S k) : SetY w h a S' n := by
  obtain rfl : S' = S := funext e
  exact R
theorem fineT_elems {l : List (Int × Value)} (g : ∀ e ∈ l, FineT w e) : ElemsOf (TxK P w) l := fun e he => by
  obtain ⟨k, u, h1, h2⟩ := g e he
  exact ⟨⟨k, by rw [h1]; exact strKind_is P w k u, h2⟩, by rw [h1]; rfl⟩
theorem fineT_is {e : Int × Value} (g : FineT w e) (k : Str) : (TxK P w).is k e.2 = true ↔ keyT e = k := by
  obtain ⟨k0, u, h1, _⟩ := g
  unfold keyT
  rw [h1]
  constructor
  · intro q
    exact (TxK P w).inj (.str k0 u) k0 k (strKind_is P w k0 u) q
  · rintro rfl
    exact strKind_is P w _ u
theorem fineT_mem {l : List (Int × Value)} (g : ∀ e ∈ l, FineT w e) (k : Str) : k ∈ l.map keyT ↔ ∃ e ∈ l, (TxK P w).is k e.2 = true := by
  rw [List.mem_map]
  exact ⟨fun ⟨e, he, q⟩ => ⟨e, he, (fineT_is (g e he) k).2 q⟩, fun ⟨e, he, q⟩ => ⟨e, he, (fineT_is (g e he) k).1 q⟩⟩
end
section
variable {P : Program} {w : World} {A : Around} {E : Value → Shared → Prop} {s : Shared} {a : Addr} {S : Str → Bool} {n : Nat}
theorem setY_tail {g : Bool → Sem Unit} (hg : ∀ (b : Bool) (s1 : Shared) (Q1 : Unit → Shared → Prop), Q1 () s1 → wpAny (model P w) A (g b) Q1 E s1)
    {o : Obj} {es es1 : Array (Int × Value)} {ep : Nat} {t t2 : SetTable} (ho : s.heap.get? a = some o) (hex : o.ExactSet) (hd : o.data = .set es ep t) (T : ∀ (h' : Heap) (ep' : Nat) (o' : Obj), h'.get? a = some o' → o'.ExactSet → o'.data = .set es1 ep' t2 → SetTx w h' a S n es1 ep' t2 o')
    {was : Bool} {R : Option Bool → Shared → Prop} (hR : ∀ h', Heap.SameBut a s.heap h' → SetY w h' a S n → R (some true) { s with heap := h' }) :
    wpAny (model P w) A (do
        storeSet a es1 t2
        if (!was && t2.tooFull) = true then do
            g (relayAll t2 es1 (SetTable.grown es1.size)).2.2
            storeSet a (relayAll t2 es1 (SetTable.grown es1.size)).1 (relayAll t2 es1 (SetTable.grown es1.size)).2.1
            pure (some true)
          else pure (some true)) R E s := by
  have o1 := store_at (es' := es1) (t' := t2) ho hd
  have b1 := Heap.SameBut.update s.heap a (Obj.putSet es1 t2)
  have T1 := T _ _ _ o1 hex rfl
  refine wpAny_bind (wpAny_storeSet_of ho hd ?_ (fits_of_scanBound T1.bd))
  split
  · have pm := relayAll_perm t2 es1 (SetTable.grown es1.size)
    have f3 := relayAll_fits t2 es1 (SetTable.grown es1.size)
    have r3 := relayAll_ris t2 es1 (SetTable.grown es1.size)
    have l3 := relayAll_led t2 es1 (SetTable.grown es1.size)
    generalize relayAll t2 es1 (SetTable.grown es1.size) = Z at pm f3 r3 l3 ⊢
    obtain ⟨es2, t3, gave⟩ := Z
    dsimp only at pm f3 r3 l3 ⊢
    have z2 : es2.size = es1.size := by rw [← Array.length_toList, pm.length_eq, Array.length_toList]
    have b2 : es2.size < scanBound := by rw [z2]; exact T1.bd
    refine wpAny_bind (hg _ _ _ ?_)
    refine wpAny_bind (wpAny_storeSet_of o1 rfl ?_ (fits_of_scanBound b2))
    have o2 := store_at (es' := es2) (t' := t3) o1 rfl
    refine wpAny_pure (hR _ (b1.trans (Heap.SameBut.update _ a _)) ⟨es2, _, t3, _, ⟨o2, hex, rfl, fun e he => T1.fine e (pm.mem_iff.mp he), (pm.map keyT).nodup_iff.mpr T1.nd, fun k => (T1.mem k).trans (pm.map keyT).mem_iff.symm, b2, f3, z2.trans T1.sz, r3, T1.led.imp id fun z => by rw [l3]; exact z⟩⟩)
  · exact wpAny_pure (hR _ b1 ⟨_, _, _, _, T1⟩)
theorem setY_add {k : Str} {u : Tok} {Q : Bool → Shared → Prop} (R : SetY w s.heap a S n) (room : n + 1 < scanBound)
    (hQ : ∀ h', Heap.SameBut a s.heap h' → SetY w h' a (fun j => S j || decide (j = k)) (if S k = true then n else n + 1) → Q (!S k) { s with heap := h' }) :
    wpAny (model P w) A (setAddHashed a (.str k u) ((TxK P w).hash k)) Q E s := by
  obtain ⟨es, ep, t, o, R⟩ := R
  have ik : (TxK P w).is k (.str k u) = true := strKind_is P w k u
  have sc : (Value.str k u).scannable = true := rfl
  have el : ElemsOf (TxK P w) es.toList := fineT_elems R.fine
  unfold setAddHashed setAddHashedIn
  refine wpAny_holding (wpAny_bind (wpAny_setState_of R.at_ R.da R.fit ?_))
  dsimp only
  rw [byScan_of sc R.bd el]
  simp only [↓reduceIte]
  unfold setAddByScan
  refine wpAny_bind (wpAny_bind (wpAny_rule (wpAny_bind (wpAny_setScan_of ik R.at_ R.da R.fit el ?_))))
  cases hf : List.findIdx? (fun e => (TxK P w).is k e.2) es.toList with
  | some j =>
    dsimp only
    obtain ⟨hj, pj, _⟩ := List.findIdx?_eq_some_iff_getElem.mp hf
    have yes : S k = true := (R.mem k).2 ((fineT_mem (P := P) R.fine k).2 ⟨es.toList[j], List.getElem_mem hj, pj⟩)
    have q := hQ s.heap (Heap.SameBut.refl a s.heap) ⟨es, ep, t, o, { R with
      mem := fun i => by
        rw [Bool.or_eq_true, decide_eq_true_eq, ← R.mem i]
        exact ⟨fun z => z.elim id fun e => e ▸ yes, .inl⟩
      sz := by rw [if_pos yes]; exact R.sz }⟩
    rw [yes] at q
    exact wpAny_pure (wpAny_pure q)
  | none =>
    dsimp only
    have out : k ∉ es.toList.map keyT := fun z => by
      obtain ⟨e, he, q⟩ := (fineT_mem (P := P) R.fine k).1 z
      have c := List.findIdx?_eq_none_iff.mp hf e he
      rw [q] at c
      cases c
    have no : S k = false := Bool.eq_false_iff.mpr fun q => out ((R.mem k).1 q)
    have gw : ∀ (b : Bool) {s1 : Shared} {Q1 : Unit → Shared → Prop}, Q1 () s1 → wpAny (model P w) A (match b with | true => rule "set.scan.the-table-gave-way" | false => pure ()) Q1 E s1 :=
      fun b s1 Q1 q => by cases b <;> first | exact wpAny_pure q | exact wpAny_rule q
    have pm := layNew_perm t es ((TxK P w).hash k) (.str k u)
    have f1 := layNew_fits t es ((TxK P w).hash k) (.str k u)
    have r1 := layNew_ris t es ((TxK P w).hash k) (.str k u) R.ris
    have l1 := layNew_led t es ((TxK P w).hash k) (.str k u)
    generalize layNew t es ((TxK P w).hash k) (.str k u) = Z at pm f1 r1 l1 ⊢
    obtain ⟨es1, t1, was, gave⟩ := Z
    dsimp only at pm f1 r1 l1 ⊢
    rw [Array.toList_push] at pm
    have pc : es1.toList.Perm (((TxK P w).hash k, Value.str k u) :: es.toList) := pm.trans (List.perm_append_singleton _ _)
    have pk : (es1.toList.map keyT).Perm (k :: es.toList.map keyT) := pc.map keyT
    have z1 : es1.size = n + 1 := by rw [← Array.length_toList, pc.length_eq, List.length_cons, Array.length_toList, R.sz]
    have ld : w.params.followText "set-order" = true ∨ t1.led = true := R.led.imp id fun z => by rw [l1]; exact z
    have T : ∀ t2 : SetTable, t2.fits es1.size = true → Ris t2.place.toList → (w.params.followText "set-order" = true ∨ t2.led = true) → ∀ (h' : Heap) (ep' : Nat) (o' : Obj), h'.get? a = some o' → o'.ExactSet → o'.data = .set es1 ep' t2 → SetTx w h' a (fun j => S j || decide (j = k)) (n + 1) es1 ep' t2 o' :=
      fun t2 y1 y2 y3 h' ep' o' e1 e2 e3 => ⟨e1, e2, e3, fun e he => by
        rcases List.mem_cons.mp (pc.mem_iff.mp he) with z | z
        · rw [z]; exact ⟨k, u, rfl, rfl⟩
        · exact R.fine e z, pk.nodup_iff.mpr (List.nodup_cons.mpr ⟨out, R.nd⟩), fun i => by
        rw [Bool.or_eq_true, decide_eq_true_eq, R.mem i, pk.mem_iff, List.mem_cons]
        exact Or.comm, by rw [z1]; exact room, y1, z1, y2, y3⟩
    have fin : ∀ h', Heap.SameBut a s.heap h' → SetY w h' a (fun j => S j || decide (j = k)) (n + 1) → Q true { s with heap := h' } := fun h' sb r => by
      have q := hQ h' sb
      rw [no] at q
      exact q r
    refine wpAny_bind (gw _ ?_)
    split
    · refine wpAny_bind ?_
      rw [hashByValue_scannable 8 sc]
      refine wpAny_pure (setY_tail ?_ R.at_ R.ex R.da (T _ ?_ ?_ ?_) ?_)
      · intro b s1 Q1 q; cases b <;> first | exact wpAny_pure q | exact wpAny_rule q
      · first | (split <;> first | exact f1 | exact SetTable.fits_plain_off f1) | exact f1
      · first | (split <;> exact r1) | exact r1
      · first | (split <;> exact ld) | exact ld
      · intro h' sb r; dsimp only; exact wpAny_pure (fin h' sb r)
    · refine wpAny_bind (wpAny_pure ?_)
      simp only [↓reduceIte]
      refine setY_tail ?_ R.at_ R.ex R.da (T _ f1 r1 ld) ?_
      · intro b s1 Q1 q; cases b <;> first | exact wpAny_pure q | exact wpAny_rule q
      · intro h' sb r; dsimp only; exact wpAny_pure (fin h' sb r)
end

/-! ### set(..) of texts, of a text -/
section
variable {P : Program} {w : World} {A : Around} {E : Value → Shared → Prop} {s : Shared}
theorem setY_zero {h : Heap} {a : Addr} {ns : List Str} (ho : h.get? a = some (sEmp w)) : SetY w h a (fun j => decide (j ∈ ns.take 0)) 0 :=
  ⟨#[], 0, _, _, ⟨ho, ⟨rfl, rfl, rfl⟩, rfl, fun e he => by simp at he, by simp, fun k => by simp, by decide, by rfl, rfl, List.Pairwise.nil, by
    show _ ∨ (!w.params.followText "set-order") = true
    cases w.params.followText "set-order"
    · exact .inr rfl
    · exact .inl rfl⟩⟩
theorem setY_loop {I : Addr} {fp wr : List Addr} {G : Array GenState → Array GenState → Prop} {n : Nat} {Pv : Nat → Value → Prop} {St : Nat → Shared → Prop} {R : Result → Shared → Prop}
    (W : WalksS P w A.in1 I fp wr G n Pv St) (a : Addr) (haf : a ∉ fp) (ns : List Str) (hn : n = ns.length) (hb : ns.length + 1 < scanBound) (hv : ∀ i v, Pv i v → ∃ k u, ns[i]? = some k ∧ v = .str k u) :
    ∀ (m i : Nat) (s : Shared), n - i = m → i ≤ n → St i s → (∃ c, c ≤ i ∧ SetY w s.heap a (fun j => decide (j ∈ ns.take i)) c) →
      (∀ s1 c, Moved (a :: wr) G s s1 → c ≤ n → SetY w s1.heap a (fun j => decide (j ∈ ns)) c → R (.ok (.ret .none)) s1) →
      codeAny (model P w) A (.builtin "set.update.loop" ⟨[.ref a, .ref I], []⟩) R s := by
  have haw : a ∉ wr := fun h => haf (W.sub _ h)
  have sub : ∀ b ∈ wr, b ∈ a :: wr := fun b hb => List.mem_cons_of_mem _ hb
  intro m
  induction m with
  | zero =>
    intro i s hm hi st ⟨c, hc, hS⟩ hR
    obtain rfl : i = n := by omega
    refine codeAny_builtin F.entry_set_update_loop ?_
    rw [Around.under_plainId F.plain_set_update_loop _]
    show wpAny _ A.in1 (pyNext (.ref I) >>= _) _ _ s
    refine wpAny_bind (W.done s _ _ st fun s1 hm => ?_)
    rw [List.take_of_length_le (by omega)] at hS
    show wpAny _ A.in1 (ret Value.none) _ _ s1
    exact wpAny_pure (hR s1 c (hm.mono sub) hc (hS.at fun o e => hm.heap a o haw e))
  | succ m ih =>
    intro i s hm hi st ⟨c, hc, hS⟩ hR
    have lt : i < n := by omega
    refine codeAny_builtin F.entry_set_update_loop ?_
    rw [Around.under_plainId F.plain_set_update_loop _]
    show wpAny _ A.in1 (pyNext (.ref I) >>= _) _ _ s
    refine wpAny_bind (W.item i s _ _ lt st fun v s1 hP st1 hm => ?_)
    obtain ⟨z, u, hz, rfl⟩ := hv i v hP
    have hS1 : SetY w s1.heap a (fun j => decide (j ∈ ns.take i)) c := hS.at fun o e => hm.heap a o haw e
    show wpAny _ A.in1 (holding [Value.str z u] (setAdd a (.str z u)) >>= _) _ _ s1
    refine wpAny_bind (wpAny_holding ?_)
    unfold setAdd
    refine wpAny_holding (wpAny_bind ((TxK P w).pyHash (k := z) (strKind_is _ _ _ _) ?_))
    refine setY_add (s := { s1 with toks := s1.toks + 1 }) hS1 (by omega) fun h1 sb hS2 => ?_
    have hS3 : SetY w h1 a (fun j => decide (j ∈ ns.take (i + 1))) (if decide (z ∈ ns.take i) = true then c else c + 1) := hS2.congr fun j => by
      rw [List.take_add_one, hz]
      simp [List.mem_append]
    have c3 : (if decide (z ∈ ns.take i) = true then c else c + 1) ≤ i + 1 := by split <;> omega
    refine wpAny_pure ⟨plainId_quiet F.plain_set_update_loop _, ih (i + 1) _ (by omega) lt (W.frame _ s1 _ _ st1 (Nat.le_succ _) fun b hb o e => ?_) ⟨_, c3, hS3⟩ fun s2 c2 m2 hc2 hS4 => ?_⟩
    · rw [sb.2 b (fun h : b = a => haf (by rw [← h]; exact hb))]; exact e
    · refine hR s2 c2 (Moved.trans W.gtrans ((hm.mono sub).then_heap (Nat.le_succ _) fun b o hb e => ?_) m2) hc2 hS4
      rw [sb.2 b (fun h : b = a => hb (by rw [h]; exact List.mem_cons_self))]; exact e
/-- what has been made when the set of texts is filled -/
def FilledT (w : World) (s s2 : Shared) (ns : List Str) : Prop := ∃ h1 tk c, s2 = { s with heap := h1, toks := tk } ∧ SetY w h1 s.heap.objs.size (fun j => decide (j ∈ ns)) c ∧ c ≤ ns.length ∧ ∀ b o, s.heap.get? b = some o → h1.get? b = some o
end
end G

set_option Elab.async false
set_option linter.all false
set_option maxRecDepth 100000
set_option autoImplicit false
namespace G
open PySem PySem.Spec PyProof.Rows L2
section
variable {P : Program} {w : World} {A : Around} {E : Value → Shared → Prop} {s : Shared}
set_option maxRecDepth 100000 in
set_option maxHeartbeats 3200000 in
theorem call_setY {l : Addr} {items : Array Value} (ns : List Str) {Q : Value → Shared → Prop} (hh : A.handled = none) (hl : s.heap.IsList l items) (hit : StrsAre items.toList ns) (hb : ns.length + 1 < scanBound)
    (h : ∀ s2, FilledT w s s2 ns → Q (.ref s.heap.objs.size) s2) : wpAny (model P w) A (call (.type "set") [.ref l]) Q E s := by
  have sz : items.size = ns.length := by rw [← hit.length, Array.length_toList]
  obtain ⟨c, tl, hmro⟩ := F.called_set.mro
  have m1 := F.called_set.made
  have m2 := F.called_set.sub
  have m3 := F.called_set.notType
  have m4 := F.called_set.canCreate
  have m5 := F.typeCall_set_1 (.ref l)
  refine wpAny_call (codeAny_of_tree ?_)
  show wpAny _ _ (callAny (.type "set") _) _ _ _
  refine wpAny_pure ⟨Code.quiet_builtin _ (by decide +kernel), codeAny_builtin F.entry_type_call ?_⟩
  rw [Around.under_plain (weight_type_call_type "set" [.ref l] []) rfl]
  repeat (any_goals (first | assumption | wp_step))

  refine codeAny_mono (code_set_led1 (.ref l) (E := E) (Q₁ := fun v s1 => v = .ref s.heap.objs.size ∧ s1 = { s with heap := s.heap.push (sEmp w) }) ⟨rfl, rfl⟩) fun r s1 hr => ?_
  cases r with
  | error e => exact hr
  | ok fl =>
    cases fl with
    | ret v =>
      obtain ⟨rfl, rfl⟩ := hr
      have hS : (s.heap.push (sEmp w)).get? s.heap.objs.size = some (sEmp w) := Heap.get?_push_size _ rfl
      have hT : Shared.TypeIs { s with heap := s.heap.push (sEmp w) } (.ref s.heap.objs.size) "set" := ⟨_, hS, rfl⟩
      have hli := F.called_set.init.lookup
      have hbi := F.called_set.init.bind (.ref s.heap.objs.size)
      repeat (any_goals (first | assumption | wp_step))

      refine codeAny_mono (codeAny_call_builtin (R := wants (fun r s2 => r = .none ∧ FilledT w s s2 ns) E) F.called_set.init.plain F.entry_set_init (check_set_init_1 hT ?_)) fun r2 s2 hr2 => ?_
      · obtain ⟨⟨ocls, odict, odata, osl⟩, hol, hcl, nl, hdl⟩ := hl
        simp only at hcl hdl
        subst hcl hdl
        have hol1 : (s.heap.push (sEmp w)).get? l = some { cls := .type "list", dict := odict, data := .seq items nl, slots := osl } := Heap.get?_push_of_some _ hol
        have n1 := F.sub_list_set
        have n2 := F.sub_list_frozenset
        have n3 : (Value.type "list" == Value.type "dict") = false := by decide
        have il : (s.heap.push (sEmp w)).IsList l items := ⟨_, hol1, rfl, nl, rfl⟩
        unfold Builtin.«set.__init__» noKeywords Builtin.Frozenset.updateFrom
        generalize hPI : pyIter = PI
        wp_walk
        subst hPI

        refine wpAny_pyIter_list il (wpAny_bind (wpAny_runValue ?_))
        have lS : l < s.heap.objs.size := Heap.lt_size hol
        have hh3 : A.in1.in1.in1.handled = none := by simp [hh]
        have z1 : (s.heap.push (sEmp w)).objs.size = s.heap.objs.size + 1 := Heap.size_push ..
        have ne1 : l ≠ (s.heap.push (sEmp w)).objs.size := Nat.ne_of_lt (by rw [z1]; exact Nat.lt_succ_of_lt lS)
        have nf : s.heap.objs.size ∉ [(s.heap.push (sEmp w)).objs.size, l] := by
          rw [z1]
          simp only [List.mem_cons, List.not_mem_nil, or_false, not_or]
          exact ⟨Nat.ne_of_lt (Nat.lt_succ_self _), Nat.ne_of_gt lS⟩
        have vals : ∀ (i : Nat) (v : Value), items[i]? = some v → ∃ k t, ns[i]? = some k ∧ v = .str k t := fun i v hv => by
          have hi : i < ns.length := by rw [← sz]; exact (Array.getElem?_eq_some_iff.mp hv).1
          obtain ⟨t, e⟩ := SS.strs_at hit i v (by rw [Array.getElem?_toList]; exact hv)
          rw [List.getD_eq_getElem?_getD, List.getElem?_eq_getElem hi] at e
          exact ⟨_, t, List.getElem?_eq_getElem hi, e⟩
        refine setY_loop ((Walks.list hh3 _ l ne1 items).toS) s.heap.objs.size nf ns sz hb vals (items.size - 0) 0 _ (by omega) (Nat.zero_le _) ⟨⟨_, Heap.get?_push_size _ rfl, rfl, rfl⟩, il.push _⟩ ⟨0, Nat.le_refl 0, setY_zero (Heap.get?_push_of_some _ hS)⟩ ?_
        intro s3 c2 hm hc2 hS3
        obtain ⟨h3, g3, d3, t3, o3⟩ := s3
        have e1 : g3 = s.gens := hm.gens
        have e2 : d3 = s.drawn := hm.drawn
        have e3 : o3 = s.os := hm.os
        subst e1 e2 e3
        show wpAny _ _ _ _ _ _
        refine wpAny_pure ?_
        show wpAny _ _ (ret Value.none) _ _ _
        rw [sz] at hc2
        refine wpAny_pure ⟨rfl, h3, t3, c2, rfl, hS3, hc2, fun b o e => ?_⟩
        have b0 : b < s.heap.objs.size := Heap.lt_size e
        refine hm.heap b o ?_ (Heap.get?_push_of_some _ (Heap.get?_push_of_some _ e))
        simp only [List.mem_cons, List.not_mem_nil, or_false, not_or]
        exact ⟨Nat.ne_of_lt b0, Nat.ne_of_lt (by rw [z1]; exact Nat.lt_succ_of_lt b0)⟩
      · cases r2 with
        | error e => exact hr2
        | ok f2 =>
          cases f2 with
          | ret r =>
            obtain ⟨rfl, x⟩ := hr2
            obtain ⟨h3, t3, c3, rfl, x1, x2, x3⟩ := x
            repeat (any_goals (first | assumption | wp_step))
            exact h _ ⟨h3, t3, c3, rfl, x1, x2, x3⟩
          | _ => exact hr2.elim
    | _ => exact hr.elim
set_option maxRecDepth 100000 in
set_option maxHeartbeats 3200000 in
theorem call_setZ {x : Str} {u : Tok} {Q : Value → Shared → Prop} (hh : A.handled = none) (hb : x.length + 1 < scanBound)
    (h : ∀ s2, FilledT w s s2 (singles x) → Q (.ref s.heap.objs.size) s2) : wpAny (model P w) A (call (.type "set") [.str x u]) Q E s := by
  have sz : x.cps.size = (singles x).length := by unfold singles; rw [List.length_map, Array.length_toList]
  obtain ⟨c, tl, hmro⟩ := F.called_set.mro
  have m1 := F.called_set.made
  have m2 := F.called_set.sub
  have m3 := F.called_set.notType
  have m4 := F.called_set.canCreate
  have m5 := F.typeCall_set_1 (.str x u)
  refine wpAny_call (codeAny_of_tree ?_)
  show wpAny _ _ (callAny (.type "set") _) _ _ _
  refine wpAny_pure ⟨Code.quiet_builtin _ (by decide +kernel), codeAny_builtin F.entry_type_call ?_⟩
  rw [Around.under_plain (weight_type_call_type "set" [.str x u] []) rfl]
  repeat (any_goals (first | assumption | wp_step))

  refine codeAny_mono (code_set_led1 (.str x u) (E := E) (Q₁ := fun v s1 => v = .ref s.heap.objs.size ∧ s1 = { s with heap := s.heap.push (sEmp w) }) ⟨rfl, rfl⟩) fun r s1 hr => ?_
  cases r with
  | error e => exact hr
  | ok fl =>
    cases fl with
    | ret v =>
      obtain ⟨rfl, rfl⟩ := hr
      have hS : (s.heap.push (sEmp w)).get? s.heap.objs.size = some (sEmp w) := Heap.get?_push_size _ rfl
      have hT : Shared.TypeIs { s with heap := s.heap.push (sEmp w) } (.ref s.heap.objs.size) "set" := ⟨_, hS, rfl⟩
      have hli := F.called_set.init.lookup
      have hbi := F.called_set.init.bind (.ref s.heap.objs.size)
      repeat (any_goals (first | assumption | wp_step))

      refine codeAny_mono (codeAny_call_builtin (R := wants (fun r s2 => r = .none ∧ FilledT w s s2 (singles x)) E) F.called_set.init.plain F.entry_set_init (check_set_init_1 hT ?_)) fun r2 s2 hr2 => ?_
      · have n1 := F.sub_str_set
        have n2 := F.sub_str_frozenset
        have n3 : (Value.type "str" == Value.type "dict") = false := by decide
        unfold Builtin.«set.__init__» noKeywords Builtin.Frozenset.updateFrom
        generalize hPI : pyIter = PI
        wp_walk
        subst hPI

        refine wpAny_pyIter_str fun o St hW hst => ?_
        refine wpAny_bind (wpAny_runValue ?_)
        have hh3 : A.in1.in1.in1.handled = none := by simp [hh]
        have z1 : (s.heap.push (sEmp w)).objs.size = s.heap.objs.size + 1 := Heap.size_push ..
        have nf : s.heap.objs.size ∉ [(s.heap.push (sEmp w)).objs.size] := by
          rw [z1, List.mem_singleton]
          exact Nat.ne_of_lt (Nat.lt_succ_self _)
        have vals : ∀ (i : Nat) (v : Value), SignAt x i v → ∃ k t, (singles x)[i]? = some k ∧ v = .str k t := fun i v ⟨ch, t, ec, ev⟩ => by
          refine ⟨⟨#[ch]⟩, t, ?_, ev⟩
          unfold singles
          rw [List.getElem?_map, show x.cps.toList[i]? = some ch by simpa using ec]
          rfl
        refine setY_loop ((hW _ hh3).toS) s.heap.objs.size nf (singles x) sz (by rw [← sz]; exact hb) vals (x.cps.size - 0) 0 _ (by omega) (Nat.zero_le _) hst ⟨0, Nat.le_refl 0, setY_zero (Heap.get?_push_of_some _ hS)⟩ ?_
        intro s3 c2 hm hc2 hS3
        obtain ⟨h3, g3, d3, t3, o3⟩ := s3
        have e1 : g3 = s.gens := hm.gens
        have e2 : d3 = s.drawn := hm.drawn
        have e3 : o3 = s.os := hm.os
        subst e1 e2 e3
        show wpAny _ _ _ _ _ _
        refine wpAny_pure ?_
        show wpAny _ _ (ret Value.none) _ _ _
        rw [sz] at hc2
        refine wpAny_pure ⟨rfl, h3, t3, c2, rfl, hS3, hc2, fun b o e => ?_⟩
        have b0 : b < s.heap.objs.size := Heap.lt_size e
        refine hm.heap b o ?_ (Heap.get?_push_of_some _ (Heap.get?_push_of_some _ e))
        simp only [List.mem_cons, List.not_mem_nil, or_false, not_or]
        exact ⟨Nat.ne_of_lt b0, Nat.ne_of_lt (by rw [z1]; exact Nat.lt_succ_of_lt b0)⟩
      · cases r2 with
        | error e => exact hr2
        | ok f2 =>
          cases f2 with
          | ret r =>
            obtain ⟨rfl, y⟩ := hr2
            obtain ⟨h3, t3, c3, rfl, x1, x2, x3⟩ := y
            repeat (any_goals (first | assumption | wp_step))
            exact h _ ⟨h3, t3, c3, rfl, x1, x2, x3⟩
          | _ => exact hr2.elim
    | _ => exact hr.elim
end
end G

set_option Elab.async false
set_option linter.all false
set_option maxRecDepth 100000
set_option autoImplicit false
namespace G
open PySem PySem.Spec PyProof.Rows L2
theorem strsT_of : ∀ l : List Value, (∀ v ∈ l, ∃ k u, v = Value.str k u) → StrsAre l (l.map strOf)
  | [], _ => .nil
  | v :: l, h => by
    obtain ⟨k, u, rfl⟩ := h v List.mem_cons_self
    exact .cons k u (strsT_of l fun x hx => h x (List.mem_cons_of_mem _ hx))
section
variable {P : Program} {w : World} {A : Around} {E : Value → Shared → Prop} {s : Shared} {a : Addr} {S : Str → Bool} {n : Nat}
theorem sorted_setY {Q : Value → Shared → Prop} (R : SetY w s.heap a S n) (hh : A.handled = none) (h64 : n < 64)
    (hQ : ∀ s1 p (out : Array Value) (c : Nat) (ks : List Str), (∀ b o, s.heap.get? b = some o → s1.heap.get? b = some o) → s1.gens = s.gens → s1.os = s.os → s.heap.objs.size ≤ p →
      s1.heap.get? p = some (seqObj "list" out c) → StrsAre out.toList ks → sortedS ks = true → ks.Nodup → (∀ k, k ∈ ks ↔ S k = true) → ks.length = n → Q (.ref p) s1) :
    wpAny (model P w) A (call (.builtin "sorted") [.ref a]) Q E s := by
  obtain ⟨es, ep, t, o, R⟩ := R
  refine Calls.call_function_entry PyProof.Rows.kind_sorted PyProof.Rows.plain_sorted PyProof.Rows.entry_sorted (PyProof.Rows.args_sorted1 _) ?_
  unfold Builtin.«sorted»
  refine wpAny_bind (m := checkCount "sorted" 1 1 _) (wpAny_pure ?_)
  refine wpAny_bind (collect_set (A := A.in1) hh ⟨o, R.at_, R.ex.1, R.da⟩ R.fit R.bd R.ris R.led fun s1 vs k1 hz g1 o1 pm => ?_)
  have vl : vs.length = n := by rw [pm.length_eq, List.length_map, Array.length_toList]; exact R.sz
  have hI : StrsAre vs (vs.map strOf) := strsT_of vs fun v hv => by
    obtain ⟨e, he, q⟩ := List.mem_map.mp (pm.mem_iff.mp hv)
    obtain ⟨k, u, h1, _⟩ := R.fine e he
    exact ⟨k, u, by rw [← q]; exact h1⟩
  have pk : (vs.map strOf).Perm (es.toList.map keyT) := by
    have q := pm.map strOf
    rw [List.map_map] at q
    refine q.trans (List.Perm.of_eq (List.map_congr_left fun e he => ?_))
    obtain ⟨k, u, h1, _⟩ := R.fine e he
    show strOf e.2 = keyT e
    unfold keyT
    rw [h1]
    rfl
  refine wpAny_bind (wpAny_newList ?_ (by rw [vl, sizeLine_eq]; omega))
  have ho : (s1.heap.push (seqObj "list" vs.toArray 0)).get? s1.heap.objs.size = some (seqObj "list" vs.toArray 0) := Heap.get?_push_size _ rfl
  refine wpAny_bind (wpAny_holding (wpAny_call_entry PyProof.Rows.slot_list_sort ⟨_, ho, rfl⟩ PyProof.Rows.entry_list_sort
    (list_sort_treeK strKind_oneLt ho hI.keysOf (fun a b rest e => keyKind_strs (by rw [← e]; exact hI)) (by rw [vl]; exact h64) fun st hp hs => ⟨_, rfl, ?_⟩) (PyProof.Rows.args_list_sort _)))
  obtain ⟨ks, a1, a2, a3⟩ := sorted_out_str hI hp hs
  obtain ⟨c, hc⟩ := PyProof.Rows.sortedHeap_at (vs := vs) (out := (arrOf st).map (·.2)) ho
  have pn : ks.Perm (es.toList.map keyT) := a2.trans pk
  refine wpAny_pure ⟨_, rfl, hQ _ s1.heap.objs.size _ c ks (fun b u e => ?_) g1 o1 hz hc a1 a3 (pn.nodup_iff.mpr R.nd) (fun k => by rw [pn.mem_iff, ← R.mem k]) ?_⟩
  · have q := k1 b u e
    have lt := Heap.lt_size q
    show (sortedHeap (s1.heap.push (seqObj "list" vs.toArray 0)) s1.heap.objs.size vs _).get? b = some u
    rw [PyProof.Rows.sortedHeap_old (Nat.ne_of_lt lt) (by rw [size_push']; exact Nat.lt_succ_of_lt lt)]
    exact Heap.get?_push_of_some _ q
  · rw [pn.length_eq, List.length_map, Array.length_toList]; exact R.sz
end
def SetYO (w : World) (a : Addr) (S : Str → Bool) (n : Nat) : HO := .ext fun h => SetY w h a S n
theorem setYO_new {w : World} {P : Program} {H : Hp} {h : Heap} {a : Addr} {S : Str → Bool} {n : Nat} (R : SetY w h a S n) : ObjOk P w H h a (SetYO w a S n) := by
  have ⟨es, ep, t, o, q⟩ := R
  exact ⟨R, ⟨o, q.at_⟩, fun h1 h2 p k => SetY.at p k⟩
section
variable {X : Cx}
def rSetY (w : World) (K : PySem.W.Frag) : List V → Hp → VK → Prop := fun vs H Q => ∃ ns : List Str, ((∃ a, vs = [V.ref a] ∧ SqL K H a (ns.map V.str)) ∨ ∃ x, vs = [V.str x] ∧ ns = singles x) ∧ ns.length < 63 ∧ ∀ p c, H p = none → c < 64 → Q (.ref p) (upd H p (SetYO w p (fun j => decide (j ∈ ns)) c))
theorem singles_len (x : Str) : (singles x).length = x.length := by
  unfold singles
  rw [List.length_map, Array.length_toList]
  rfl
theorem cr_setY (hc : X.calm = true) : CallR X (.type "set") (rSetY X.w X.K) := by
  intro pins s σ H vs us Q I r h
  obtain ⟨ns, h1, l63, q⟩ := h
  rcases h1 with ⟨a, rfl, hs⟩ | ⟨x, rfl, rfl⟩
  · obtain ⟨its, rv, hl, _⟩ := I.list hs
    rw [Vals.ref1 r]
    refine call_setY ns (I.ok.hd hc) hl.isList rv.strs (by unfold scanBound; omega) fun s2 ⟨h', tk, c, e, R, lc, k⟩ => ?_
    subst e
    exact ⟨.ref _, _, I.laid (t' := tk) (fun b o e => k b o e) (Nat.le_refl _) (setYO_new R), rfl, q _ c (I.hok.fresh (Nat.le_refl _)) (by omega)⟩
  · obtain ⟨u, rfl, rx⟩ := vals1 r
    obtain ⟨t, rfl⟩ := rx
    rw [singles_len] at l63
    refine call_setZ (I.ok.hd hc) (by unfold scanBound; omega) fun s2 ⟨h', tk, c, e, R, lc, k⟩ => ?_
    subst e
    rw [singles_len] at lc
    exact ⟨.ref _, _, I.laid (t' := tk) (fun b o e => k b o e) (Nat.le_refl _) (setYO_new R), rfl, q _ c (I.hok.fresh (Nat.le_refl _)) (by omega)⟩
def rSortedY (w : World) : List V → Hp → VK → Prop := fun vs H Q => ∃ (a : Addr) (S : Str → Bool) (n : Nat), vs = [V.ref a] ∧ H a = some (SetYO w a S n) ∧ n < 64 ∧
  ∀ (ks : List Str) (p : Addr), sortedS ks = true → ks.Nodup → (∀ k, k ∈ ks ↔ S k = true) → H p = none → Q (.ref p) (upd H p (.lst (ks.map V.str)))
theorem cr_sortedY (hc : X.calm = true) : CallR X (.builtin "sorted") (rSortedY X.w) := by
  intro pins s σ H vs us Q I r h
  obtain ⟨a, S, n, rfl, ha, h64, q⟩ := h
  have R : SetY X.w s.heap a S n := (I.hok a _ ha).1
  rw [Vals.ref1 r]
  refine sorted_setY R (I.ok.hd hc) h64 fun s1 p out c ks k g o hp hg hi hs nd hm hl => ?_
  have hlen : (ks.map V.str).length ≤ sizeLine := by rw [List.length_map, hl, sizeLine_eq]; omega
  have hn : H p = none := I.hok.fresh hp
  have J : Inv X pins σ (upd H p (.lst (ks.map V.str))) { s with heap := s1.heap, gens := s1.gens, drawn := s1.drawn, toks := s1.toks } :=
    I.call (ch := []) (Un.laid k hp hn) (I.hok.laid k hp ⟨hlen, out.toList, c, vals_of_strs hi, by rw [Array.toArray_toList]; exact hg⟩) (by rw [g]; exact I.bare) (fun _ z => nomatch z)
  obtain ⟨h2, g2, d2, t2, o2⟩ := s1
  obtain rfl : o2 = s.os := o
  exact ⟨.ref p, _, J, rfl, q ks p hs nd hm hn⟩
/-- sorted(set(..)) of texts or of a text -/
def wSrtSetT (a : WE) : WF := fun ρ S K => a ρ S fun x S1 => ∃ ns : List Str, (lstOf S1 x = some (ns.map D.str) ∨ ∃ z, x = .str z ∧ ns = singles z) ∧ ns.length < 63 ∧ ∀ ks : List Str, sortedS ks = true → ks.Nodup → (∀ k, k ∈ ks ↔ k ∈ ns) → K (ks.map D.str) S1
variable {a : Expr} {wa : WE} {pos p pos2 p2 : Pos}
theorem gf_srtSetT (ha : GE X a wa) (hm : X.mg "sorted" = none) (hm2 : X.mg "set" = none) (hg : Gl X "sorted" := by rfl) (hg2 : Gl X "set" := by rfl)
    (hs2 : starEach [a] X.env = (false, eval a X.env) :: starEach [] X.env := by rfl) (hpl2 : (backTo pos2 (starEach [] X.env)).any (·.1) = false := by rfl)
    (hs : starEach [Expr.Call (.Name "set" p2) [a] [] pos2] X.env = (false, eval (Expr.Call (.Name "set" p2) [a] [] pos2) X.env) :: starEach [] X.env := by rfl) (hpl : (backTo pos (starEach [] X.env)).any (·.1) = false := by rfl) (hc : X.calm = true := by rfl) :
    GF X (.Call (.Name "sorted" p) [.Call (.Name "set" p2) [a] [] pos2] [] pos) (wSrtSetT wa) := by
  refine PE.imp (pe_callB (cr_sortedY hc) hg hm (by decide +kernel) (pa_cons (pe_callTy (cr_setY hc) hg2 hm2 (by decide +kernel) (ga_cons ha ga_nil hs2) (by decide) (by decide) hs2 hpl2) pa_nil hs) (by decide) (by decide) hs hpl) fun σ H Q ⟨N, ρ, S, K, ab, h, q⟩ => ?_
  refine lift_args1 ab h fun d S1 k v H1 t1 c1 r1 => ?_
  obtain ⟨ns, e, l63, k⟩ := k
  rcases e with e | ⟨z, rfl, rfl⟩
  · obtain ⟨b, vs, rfl, rd, rs⟩ := lstOf_rd c1 r1 e
    have ev := repsV_strs rs
    subst ev
    refine ⟨ns, .inl ⟨b, rfl, .inl rd⟩, l63, fun p3 c n hc3 => ⟨p3, _, c, rfl, upd_same, hc3, fun ks p4 s1 nd m1 n4 => ?_⟩⟩
    exact q _ _ (k ks s1 nd fun j => by rw [m1]; exact decide_eq_true_iff) p4 _ _ (t1.trans (Tr.new c1 n)) (c1.new n) (reps_strs ks) n4
  · cases r1
    refine ⟨_, .inr ⟨z, rfl, rfl⟩, l63, fun p3 c n hc3 => ⟨p3, _, c, rfl, upd_same, hc3, fun ks p4 s1 nd m1 n4 => ?_⟩⟩
    exact q _ _ (k ks s1 nd fun j => by rw [m1]; exact decide_eq_true_iff) p4 _ _ (t1.trans (Tr.new c1 n)) (c1.new n) (reps_strs ks) n4
end
theorem st_srtSetT {a : WE} {ρ : Rho} {S : Sto} {K : List D → Sto → Prop} (h : a ρ S fun x S1 => ∃ ns : List Str, (lstOf S1 x = some (ns.map D.str) ∨ ∃ z, x = .str z ∧ ns = singles z) ∧ ns.length < 63 ∧ ∀ ks : List Str, sortedS ks = true → ks.Nodup → (∀ k, k ∈ ks ↔ k ∈ ns) → K (ks.map D.str) S1) : wSrtSetT a ρ S K := h
end G

set_option Elab.async false
set_option linter.all false
set_option maxRecDepth 100000
set_option autoImplicit false
namespace G
open PySem PySem.Spec PyProof.Rows L2
/-! ### text.replace(..) behind a written text -/
section
variable {X : Cx} {l o : Expr} {es : List Expr} {op : Operator} {c y z : Str} {j j0 j1 : Nat} {pc pos c0 c1 apos cpos : Pos}
/-- e.replace(y, z) of written texts -/
def wRepl (y z : Str) (a : WE) : WE := fun ρ S K => a ρ S fun x S1 => ∃ v, x = .str v ∧ v.length + (v.length + 1) * z.length ≤ 16777216 ∧ K (.str (Txt.replace v y z)) S1
end
end G

set_option Elab.async false
set_option linter.all false
set_option maxRecDepth 100000
set_option autoImplicit false
namespace G
open PySem PySem.Spec PyProof.Rows L2
/-! ### repr, also of an empty dict -/
section
variable {X : Cx}
def oReprE (d : D) (S : Sto) (K : KE) : Prop := oRepr d S K ∨ (top S d = .dic [] ∧ K (.str (PyData.shown (.dict []))) S)
end
end G

set_option Elab.async false
set_option linter.all false
set_option maxRecDepth 100000
set_option autoImplicit false
namespace G
open PySem PySem.Spec PyProof.Rows L2
/-! ### repr of lists and tuples with empty dicts in them -/
mutual
inductive RdE (h : Heap) : Value → PyData → Prop
  | non : RdE h .none .none
  | bl (b : Bool) : RdE h (.bool b) (.bool b)
  | int (i : Int) (t : Tok) : RdE h (.int i t) (.int i)
  | str (x : Str) (t : Tok) : RdE h (.str x t) (.str x)
  | lst {a : Addr} {o : Obj} {vs : Array Value} {n : Nat} {xs : List PyData} : h.get? a = some o → o.cls = .type "list" → o.data = .seq vs n → RdEs h vs.toList xs → RdE h (.ref a) (.list xs)
  | tup {a : Addr} {o : Obj} {vs : Array Value} {n : Nat} {xs : List PyData} : h.get? a = some o → o.cls = .type "tuple" → o.data = .seq vs n → RdEs h vs.toList xs → RdE h (.ref a) (.tuple xs)
  | dic {a : Addr} {o : Obj} {es : Array DictEntry} {n : Nat} : h.get? a = some o → o.cls = .type "dict" → o.data = .dict es n → es.toList = [] → (a == sysModules) = false → RdE h (.ref a) (.dict [])
inductive RdEs (h : Heap) : List Value → List PyData → Prop
  | nil : RdEs h [] []
  | cons {v : Value} {d : PyData} {vs : List Value} {ds : List PyData} : RdE h v d → RdEs h vs ds → RdEs h (v :: vs) (d :: ds)
end
section
variable {h : Heap} {prog : Program} {w : World}
mutual
theorem RdE.reads : ∀ {v : Value} {d : PyData}, RdE h v d → ∃ as, Reads h v d as
  | _, _, .non => ⟨_, .none⟩
  | _, _, .bl b => ⟨_, .bool b⟩
  | _, _, .int i t => ⟨_, .int i t⟩
  | _, _, .str x t => ⟨_, .str x t⟩
  | _, _, .lst h1 h2 h3 h4 => let ⟨_, r⟩ := RdEs.reads h4; ⟨_, .list h1 h2 h3 r⟩
  | _, _, .tup h1 h2 h3 h4 => let ⟨_, r⟩ := RdEs.reads h4; ⟨_, .tuple h1 h2 h3 r⟩
  | _, _, .dic h1 h2 h3 h4 _ => ⟨_, .dict (kvs := []) h1 h2 h3 (by rw [h4]; exact .nil) (by rw [h4]; exact .nil)⟩
theorem RdEs.reads : ∀ {vs : List Value} {ds : List PyData}, RdEs h vs ds → ∃ as, ReadsAll h vs ds as
  | _, _, .nil => ⟨_, .nil⟩
  | _, _, .cons r rs => let ⟨_, q⟩ := RdE.reads r; let ⟨_, p⟩ := RdEs.reads rs; ⟨_, .cons q p⟩
end
mutual
theorem RdE.shows : ∀ {v : Value} {d : PyData}, RdE h v d → d.showable = true → d.shown.length ≤ sizeLine → ∃ bs, ReadAtMost h d.depth bs ∧ ReprK prog w bs h d.depth v d.shown
  | _, _, .non, _, _ => ⟨[], (fun _ z => nomatch z), by simp only [PyData.shown]; exact .of_is ReprIs.none _ _ _⟩
  | _, _, .bl b, _, _ => ⟨[], (fun _ z => nomatch z), by simp only [PyData.shown]; exact .of_is (ReprIs.bool b) _ _ _⟩
  | _, _, .int i t, s, _ => ⟨[], (fun _ z => nomatch z), by simp only [PyData.shown]; exact .of_is (ReprIs.int t (by simpa [PyData.showable] using s)) _ _ _⟩
  | _, _, .str x t, _, l => ⟨[], (fun _ z => nomatch z), by simp only [PyData.shown]; exact .of_is (ReprIs.str x t (by simpa only [PyData.shown] using l)) _ _ _⟩
  | _, _, .lst (a := a) (vs := vs) (xs := xs) h1 h2 h3 h4, s, l => by
    have l' : (listText (PyData.shownAll xs)).length ≤ sizeLine := by simpa only [PyData.shown] using l
    obtain ⟨bs, b1, k⟩ := RdEs.shows h4 (by simpa [PyData.showable] using s) fun t ht => Nat.le_trans (listText_mem_le ht) l'
    obtain ⟨as, r4⟩ := RdEs.reads h4
    have r : Reads h (.ref a) (.list xs) _ := .list h1 h2 h3 r4
    have na : a ∉ bs := not_mem_of_deeper r (by simp only [PyData.depth]; omega) b1
    refine ⟨a :: bs, ReadAtMost.cons r (by simp only [PyData.depth]; omega) b1, ?_⟩
    simp only [PyData.depth, PyData.shown]
    obtain ⟨us⟩ := vs
    cases us with
    | nil =>
      have h5 : RdEs h [] xs := h4
      cases h5
      simp only [PyData.shownAll, listText_nil]
      exact ReprK.listEmpty h1 h2 h3
    | cons x us => exact ReprK.list h1 h2 h3 na (by simpa using k.length_eq) fun i y e => k.item i y (by simpa using e)
  | _, _, .tup (a := a) (xs := xs) h1 h2 h3 h4, s, l => by
    have l' : (tupleText (PyData.shownAll xs)).length ≤ sizeLine := by simpa only [PyData.shown] using l
    obtain ⟨bs, b1, k⟩ := RdEs.shows h4 (by simpa [PyData.showable] using s) fun t ht => Nat.le_trans (tupleText_mem_le ht) l'
    obtain ⟨as, r4⟩ := RdEs.reads h4
    have r : Reads h (.ref a) (.tuple xs) _ := .tuple h1 h2 h3 r4
    have na : a ∉ bs := not_mem_of_deeper r (by simp only [PyData.depth]; omega) b1
    refine ⟨a :: bs, ReadAtMost.cons r (by simp only [PyData.depth]; omega) b1, ?_⟩
    simp only [PyData.depth, PyData.shown]
    exact ReprK.tuple h1 h2 h3 na k
  | _, _, .dic (a := a) h1 h2 h3 h4 h5, _, _ => by
    have r : Reads h (.ref a) (.dict []) _ := .dict (kvs := []) h1 h2 h3 (by rw [h4]; exact .nil) (by rw [h4]; exact .nil)
    refine ⟨a :: [], ReadAtMost.cons r (Nat.zero_le _) (fun _ z => nomatch z), ?_⟩
    exact ReprK.dict (ps := []) h1 h2 h3 h5 (fun z => nomatch z) (by rw [h4]; exact .nil)
theorem RdEs.shows : ∀ {vs : List Value} {ds : List PyData}, RdEs h vs ds → PyData.showableAll ds = true → (∀ t ∈ PyData.shownAll ds, t.length ≤ sizeLine) → ∃ bs, ReadAtMost h (PyData.depthAll ds) bs ∧ ReprAllK prog w bs h (PyData.depthAll ds) vs (PyData.shownAll ds)
  | _, _, .nil, _, _ => ⟨[], (fun _ z => nomatch z), by simp only [PyData.shownAll]; exact .nil⟩
  | _, _, .cons (d := d) (ds := ds) r rs, s, l => by
    have s' : d.showable = true ∧ PyData.showableAll ds = true := by simpa [PyData.showableAll] using s
    obtain ⟨b1, q1, k1⟩ := RdE.shows r s'.1 (l _ (by simp only [PyData.shownAll]; exact List.mem_cons_self ..))
    obtain ⟨b2, q2, k2⟩ := RdEs.shows rs s'.2 fun t ht => l t (by simp only [PyData.shownAll]; exact List.mem_cons_of_mem _ ht)
    refine ⟨b1 ++ b2, fun b hm => ?_, ?_⟩
    · simp only [PyData.depthAll]
      rcases List.mem_append.mp hm with hm | hm
      · obtain ⟨d1, as1, r1, e1⟩ := q1 b hm
        exact ⟨d1, as1, r1, Nat.le_trans e1 (Nat.le_max_left _ _)⟩
      · obtain ⟨d1, as1, r1, e1⟩ := q2 b hm
        exact ⟨d1, as1, r1, Nat.le_trans e1 (Nat.le_max_right _ _)⟩
    · simp only [PyData.depthAll, PyData.shownAll]
      exact .cons ((k1.more fun b hb => List.mem_append_left _ hb).level_le (Nat.le_max_left _ _)) (k2.more_le (fun b hb => List.mem_append_right _ hb) (Nat.le_max_right _ _))
end
end
section
variable {prog : Program} {w : World} {A : Around} {E : Value → Shared → Prop} {s : Shared}
theorem repr_RdE {a : Addr} {d : PyData} {Q : Value → Shared → Prop} (r : RdE s.heap (.ref a) d) (hs : d.showable = true) (hg : A.guards = some []) (hu : A.units + (d.depth + 1) < cLine) (hz : d.shown.length ≤ sizeLine)
    (hQ : ∀ h' u tk, (∀ b o, s.heap.get? b = some o → h'.get? b = some o) → Q (.str d.shown u) { s with heap := h', toks := tk }) : wpAny (model prog w) A (call (.builtin "repr") [.ref a]) Q E s := by
  cases r with
  | dic h1 h2 h3 h4 h5 =>
    obtain ⟨as, q⟩ := RdE.reads (.dic h1 h2 h3 h4 h5)
    refine PySem.repr_of_reads' (.dict (kvs := []) h1 h2 h3 (by rw [h4]; exact .nil) (by rw [h4]; exact .nil)) hs (fun _ z => ?_) hg hu (fun _ _ e => e) (fun h' u tk k => hQ h' u tk k) hz
    rw [List.append_nil, List.mem_singleton] at z
    rw [← z] at h5
    cases h5
  | @lst _ o vs n xs h1 h2 h3 h4 =>
    have hz' : (listText (PyData.shownAll xs)).length ≤ sizeLine := by simpa only [PyData.shown] using hz
    obtain ⟨bs, hb, hk⟩ := RdEs.shows (prog := prog) (w := w) h4 (by simpa [PyData.showable] using hs) fun t ht => Nat.le_trans (listText_mem_le ht) hz'
    obtain ⟨as, r4⟩ := RdEs.reads h4
    have na : a ∉ bs := not_mem_of_deeper (.list h1 h2 h3 r4) (by simp only [PyData.depth]; omega) hb
    simp only [PyData.depth] at hu
    simp only [PyData.shown] at hQ
    refine call_repr_slot (by omega) ⟨o, h1, h2⟩ F.slot_list_repr.toG ?_
    obtain ⟨us⟩ := vs
    cases us with
    | nil =>
      have h5 : RdEs s.heap [] xs := h4
      cases h5
      simp only [PyData.shownAll, listText_nil] at hQ
      exact call_list_repr_empty ⟨o, h1, h2⟩ h1 h3 ⟨_, _, rfl, hQ s.heap _ _ fun _ _ e => e⟩
    | cons x us =>
      exact call_list_reprK h1 h2 h3 na (by simpa using hk.length_eq) (fun i y e => hk.item i y (by simpa using e)) hg (fun b _ => Clear.nil b) (by show A.units + 1 + _ < cLine; omega) (fun _ _ e => e) (fun h' u tk k => ⟨_, _, rfl, hQ h' u tk k⟩) hz'
  | @tup _ o vs n xs h1 h2 h3 h4 =>
    have hz' : (tupleText (PyData.shownAll xs)).length ≤ sizeLine := by simpa only [PyData.shown] using hz
    obtain ⟨bs, hb, hk⟩ := RdEs.shows (prog := prog) (w := w) h4 (by simpa [PyData.showable] using hs) fun t ht => Nat.le_trans (tupleText_mem_le ht) hz'
    obtain ⟨as, r4⟩ := RdEs.reads h4
    have na : a ∉ bs := not_mem_of_deeper (.tuple h1 h2 h3 r4) (by simp only [PyData.depth]; omega) hb
    simp only [PyData.depth] at hu
    simp only [PyData.shown] at hQ
    refine call_repr_slot (by omega) ⟨o, h1, h2⟩ F.slot_tuple_repr ?_
    exact call_tuple_reprK h1 h2 h3 na hk hg (fun b _ => Clear.nil b) (by show A.units + 1 + _ < cLine; omega) (fun _ _ e => e) (fun h' u tk k => ⟨_, _, rfl, hQ h' u tk k⟩) hz'
end
mutual
inductive PdE : D → PyData → Prop
  | non : PdE .non .none
  | bl (b : Bool) : PdE (.bl b) (.bool b)
  | int (i : Int) : PdE (.int i) (.int i)
  | str (x : Str) : PdE (.str x) (.str x)
  | tup {l : List D} {ps : List PyData} : PdEs l ps → PdE (.tup l) (.tuple ps)
  | lst {l : List D} {ps : List PyData} : PdEs l ps → PdE (.lst l) (.list ps)
  | dic : PdE (.dic []) (.dict [])
inductive PdEs : List D → List PyData → Prop
  | nil : PdEs [] []
  | cons {d : D} {p : PyData} {l : List D} {ps : List PyData} : PdE d p → PdEs l ps → PdEs (d :: l) (p :: ps)
end
section
variable {X : Cx} {pins : List (Addr × Obj)} {σ : L2.St} {H : Hp} {s : Shared} {A : Addr → Prop}
mutual
theorem PdE.rd (I : Inv X pins σ H s) : ∀ {d : D} {p : PyData} {v : V} {u : Value}, PdE d p → Rep H A v d → RelV v u → RdE s.heap u p
  | _, _, _, _, .non, r, q => by cases r; cases q; exact .non
  | _, _, _, _, .bl b, r, q => by cases r; cases q; exact .bl b
  | _, _, _, _, .int i, r, q => by cases r; obtain ⟨t, rfl⟩ := q; exact .int i t
  | _, _, _, _, .str x, r, q => by cases r; obtain ⟨t, rfl⟩ := q; exact .str x t
  | _, _, _, _, .tup h, r, q => by
    cases r with
    | tup rd na rs =>
      cases q
      obtain ⟨its, rv, ⟨o, ho, hc, n, hd⟩, _⟩ := I.tuple (.inl rd)
      exact .tup ho hc hd (PdEs.rd I h rs rv)
  | _, _, _, _, .lst h, r, q => by
    cases r with
    | lst rd na rs =>
      cases q
      obtain ⟨its, rv, ⟨o, n, ho, hc, _, hd⟩, _⟩ := I.list (.inl (.inl rd))
      exact .lst ho hc hd (PdEs.rd I h rs rv)
  | _, _, _, _, .dic, r, q => by
    cases r with
    | dic rd na rs =>
      cases rs
      cases q
      obtain ⟨_, ns, vs, kv, o, es, ep, ho, ⟨hx1, hx2⟩, hd, _, pr, _⟩ := dk_rd I.hok (.inl rd)
      cases kv
      exact .dic ho hx1 hd (List.length_eq_zero_iff.mp pr.length) ns
theorem PdEs.rd (I : Inv X pins σ H s) : ∀ {ds : List D} {ps : List PyData} {vs : List V} {us : List Value}, PdEs ds ps → Reps H A vs ds → Vals vs us → RdEs s.heap us ps
  | _, _, _, _, .nil, r, q => by cases r; cases q; exact .nil
  | _, _, _, _, .cons h hs, r, q => by
    cases r with
    | cons r1 r2 =>
      cases q with
      | cons q1 q2 => exact .cons (PdE.rd I h r1 q1) (PdEs.rd I hs r2 q2)
end
end
/-- what repr shows, dicts in it, too -/
structure ShX (n k : Nat) (p : PyData) : Prop where
  sh : p.showable = true
  len : p.shown.length ≤ n
  dp : p.depth ≤ k
theorem shx_all {n k : Nat} : ∀ {ps : List PyData}, (∀ p, p ∈ ps → ShX n k p) → PyData.showableAll ps = true ∧ ((PyData.shownAll ps).map (·.length)).sum ≤ ps.length * n ∧ (PyData.shownAll ps).length = ps.length ∧ PyData.depthAll ps ≤ k
  | [], _ => ⟨by simp [PyData.showableAll], by simp [PyData.shownAll], by simp [PyData.shownAll], by simp [PyData.depthAll]⟩
  | p :: ps, h => by
    have a := h p (List.mem_cons_self ..)
    obtain ⟨b1, b3, b4, b5⟩ := shx_all (ps := ps) fun q hq => h q (List.mem_cons_of_mem _ hq)
    refine ⟨by simp [PyData.showableAll, a.sh, b1], ?_, ?_, ?_⟩
    · simp only [PyData.shownAll, List.map_cons, List.sum_cons, List.length_cons]
      have := a.len
      rw [Nat.add_mul, Nat.one_mul]
      omega
    · simp only [PyData.shownAll, List.length_cons, b4]
    · simp only [PyData.depthAll]
      have := a.dp
      omega
theorem ShX.mono {n m k j : Nat} {p : PyData} (h : ShX n k p) (l : n ≤ m) (l2 : k ≤ j) : ShX m j p := ⟨h.sh, by have := h.len; omega, by have := h.dp; omega⟩
theorem Shw.x {n k : Nat} {p : PyData} (h : Shw n k p) : ShX n k p := ⟨h.sh, h.len, h.dp⟩
theorem ShX.dic : ShX 2 1 (.dict []) := ⟨rfl, by decide +kernel, by decide +kernel⟩
theorem ShX.list {n k m : Nat} {ps : List PyData} (h : ∀ p, p ∈ ps → ShX n k p) (l : ps.length ≤ m) : ShX (m * (n + 2) + 3) (k + 1) (.list ps) := by
  obtain ⟨b1, b3, b4, b5⟩ := shx_all h
  refine ⟨by simp [PyData.showable, b1], ?_, by simp only [PyData.depth]; omega⟩
  simp only [PyData.shown]
  have h1 := listText_len_le (PyData.shownAll ps)
  have h2 : ps.length * (n + 2) ≤ m * (n + 2) := Nat.mul_le_mul_right _ l
  rw [Nat.mul_add] at h2
  rw [b4] at h1
  omega
theorem ShX.tup {n k m : Nat} {ps : List PyData} (h : ∀ p, p ∈ ps → ShX n k p) (l : ps.length ≤ m) : ShX (m * (n + 2) + 3) (k + 1) (.tuple ps) := by
  obtain ⟨b1, b3, b4, b5⟩ := shx_all h
  refine ⟨by simp [PyData.showable, b1], ?_, by simp only [PyData.depth]; omega⟩
  simp only [PyData.shown]
  have h1 := tupleText_len_le (PyData.shownAll ps)
  have h2 : ps.length * (n + 2) ≤ m * (n + 2) := Nat.mul_le_mul_right _ l
  rw [Nat.mul_add] at h2
  rw [b4] at h1
  omega
/-- repr of a list or tuple that nothing changes any more, with empty dicts in it -/
def oReprX (d : D) (S : Sto) (K : KE) : Prop := ∃ p, PdE d p ∧ (∃ l, d = .lst l ∨ d = .tup l) ∧ ShX sizeLine 60 p ∧ K (.str p.shown) S
section
variable {X : Cx}
theorem call_reprX (hg : X.A.guards = some []) (hu : X.A.units + 65 < cLine) : CallR X (.builtin "repr") (fun xs H Q => ∃ (d : D) (p : PyData) (A : Addr → Prop) (v : V), xs = [v] ∧ PdE d p ∧ (∃ l, d = .lst l ∨ d = .tup l) ∧ Rep H A v d ∧ ShX sizeLine 60 p ∧ Q (.str p.shown) H) := by
  intro pins s σ H xs us Q I r h
  obtain ⟨d, p, A, v, ev, pd, hl, rp, sx, q⟩ := h
  subst ev
  obtain ⟨u, rfl, rx⟩ := vals1 r
  have rd := PdE.rd I pd rp rx
  obtain ⟨a, eu⟩ : ∃ a, u = .ref a := by
    obtain ⟨l, e | e⟩ := hl <;> subst e <;> cases rp <;> cases rx <;> exact ⟨_, rfl⟩
  subst eu
  exact repr_RdE rd sx.sh hg (by have := sx.dp; omega) sx.len fun h' u tk kp => ⟨.str _, H, I.kept (t' := tk) kp, ⟨_, rfl⟩, q⟩
theorem gc_reprX (hg : X.A.guards = some []) (hu : X.A.units + 65 < cLine) : CallR X (.builtin "repr") (liftC (one oReprX)) :=
  gc_one (call_reprX hg hu) fun N H S v d K Q c r ⟨p, e, hl, sx, k⟩ q => ⟨d, p, _, v, rfl, e, hl, r, sx, q.here c k (.str _)⟩
end
end G

set_option Elab.async false
set_option linter.all false
set_option maxRecDepth 100000
set_option autoImplicit false
namespace G
open PySem PySem.Spec PyProof.Rows L2
/-! ### == and != with an empty list or tuple, whatever the items are -/
def rEqNil (f : Bool → Bool) (K : PySem.W.Frag) : R2 := fun x y H Q => ∃ (a b : Addr) (vs : List V), x = .ref a ∧ y = .ref b ∧ ((SqL K H a vs ∧ SqL K H b []) ∨ (SqT K H a vs ∧ SqT K H b [])) ∧ Q (.bl (f vs.isEmpty)) H
section
variable {X : Cx}
theorem op_eqNil (hu : X.A.units < cLine) : OpR X (compareOp .Eq) (rEqNil id X.K) := by
  intro pins s σ H x y v u Q I rx ry h
  obtain ⟨a, b, vs, rfl, rfl, h, q⟩ := h
  cases rx
  cases ry
  rcases h with ⟨h1, h2⟩ | ⟨h1, h2⟩
  · obtain ⟨its, rv, hl, _⟩ := I.list h1
    obtain ⟨its2, rv2, hl2, _⟩ := I.list h2
    cases rv2
    cases rv with
    | nil => exact SeqAt.eq_listAt (e := fun _ => true) hl.isList hl2.isList rfl hu (fun j k _ => absurd k (Nat.not_lt_zero j)) ⟨.bl true, H, I, rfl, q⟩
    | cons r1 rr => exact SeqAt.eq_list_lengthsAt hl.isList hl2.isList (by simp) hu ⟨.bl false, H, I, rfl, q⟩
  · obtain ⟨its, rv, ⟨o, ho, hc, n, hd⟩, _⟩ := I.tuple h1
    obtain ⟨its2, rv2, ⟨o2, ho2, hc2, n2, hd2⟩, _⟩ := I.tuple h2
    cases rv2
    have il : s.heap.IsTuple a its.toArray := ⟨o, ho, hc, n, hd⟩
    have il2 : s.heap.IsTuple b ([] : List Value).toArray := ⟨o2, ho2, hc2, n2, hd2⟩
    cases rv with
    | nil => exact SeqAt.eq_tupleAt (e := fun _ => true) il il2 hu (fun j k _ => absurd k (Nat.not_lt_zero j)) ⟨.bl true, H, I, rfl, q⟩
    | cons r1 rr => exact SeqAt.eq_tupleAt (e := fun _ => true) il il2 hu (fun j _ k => absurd k (Nat.not_lt_zero j)) ⟨.bl false, H, I, by simp; rfl, q⟩
theorem op_neNil (hu : X.A.units < cLine) : OpR X (compareOp .NotEq) (rEqNil not X.K) := by
  intro pins s σ H x y v u Q I rx ry h
  obtain ⟨a, b, vs, rfl, rfl, h, q⟩ := h
  cases rx
  cases ry
  rcases h with ⟨h1, h2⟩ | ⟨h1, h2⟩
  · obtain ⟨its, rv, hl, _⟩ := I.list h1
    obtain ⟨its2, rv2, hl2, _⟩ := I.list h2
    cases rv2
    cases rv with
    | nil => exact SeqAt.RcNeAt.lists (e := fun _ => true) hl.isList hl2.isList rfl hu (fun j k _ => absurd k (Nat.not_lt_zero j)) _ _ _ _ ⟨.bl false, H, I, rfl, q⟩
    | cons r1 rr => exact SeqAt.RcNeAt.lists_lengths hl.isList hl2.isList (by simp) hu _ _ _ _ ⟨.bl true, H, I, rfl, q⟩
  · obtain ⟨its, rv, ⟨o, ho, hc, n, hd⟩, _⟩ := I.tuple h1
    obtain ⟨its2, rv2, ⟨o2, ho2, hc2, n2, hd2⟩, _⟩ := I.tuple h2
    cases rv2
    have il : s.heap.IsTuple a its.toArray := ⟨o, ho, hc, n, hd⟩
    have il2 : s.heap.IsTuple b ([] : List Value).toArray := ⟨o2, ho2, hc2, n2, hd2⟩
    cases rv with
    | nil => exact SeqAt.RcNeAt.tuples (e := fun _ => true) il il2 hu (fun j k _ => absurd k (Nat.not_lt_zero j)) _ _ _ _ ⟨.bl false, H, I, rfl, q⟩
    | cons r1 rr => exact SeqAt.RcNeAt.tuples (e := fun _ => true) il il2 hu (fun j _ k => absurd k (Nat.not_lt_zero j)) _ _ _ _ ⟨.bl true, H, I, by simp; rfl, q⟩
def oEqNB (f : Bool → Bool) : Op2 := fun x y S K => oEqB f x y S K ∨ (∃ l, x = .lst l ∧ y = .lst [] ∧ K (.bl (f l.isEmpty)) S) ∨ ∃ l, x = .tup l ∧ y = .tup [] ∧ K (.bl (f l.isEmpty)) S
theorem reps_isEmpty {H : Hp} {A : Addr → Prop} {vs : List V} {ds : List D} (r : Reps H A vs ds) : vs.isEmpty = ds.isEmpty := by cases r <;> rfl
theorem go_eqNB {op : CmpOp} {f : Bool → Bool} (h1 : OpR X (compareOp op) (liftO (oEqB f))) (h2 : OpR X (compareOp op) (rEqNil f X.K)) : OpR X (compareOp op) (liftO (oEqNB f)) :=
  OpR.imp (OpR.or h1 h2) fun x y H Q ⟨N, S, dx, dy, K, c, r1, r2, o, q⟩ => by
    rcases o with o | ⟨l, e1, e2, k⟩ | ⟨l, e1, e2, k⟩
    · exact .inl ⟨N, S, dx, dy, K, c, r1, r2, o, q⟩
    · subst e1 e2
      cases r1 with
      | lst rd na rs =>
        cases r2 with
        | lst rd2 na2 rs2 =>
          cases rs2
          exact .inr ⟨_, _, _, rfl, rfl, .inl ⟨.inl (.inl rd), .inl (.inl rd2)⟩, by rw [reps_isEmpty rs]; exact q.here c k (.bl _)⟩
    · subst e1 e2
      cases r1 with
      | tup rd na rs =>
        cases r2 with
        | tup rd2 na2 rs2 =>
          cases rs2
          exact .inr ⟨_, _, _, rfl, rfl, .inr ⟨.inl rd, .inl rd2⟩, by rw [reps_isEmpty rs]; exact q.here c k (.bl _)⟩
def oEqN : Op2 := oEqNB id
def oNeN : Op2 := oEqNB not
theorem go_eqN (hu : X.A.units + 64 < cLine) : OpR X (compareOp .Eq) (liftO oEqN) := go_eqNB (go_eq hu) (op_eqNil (by omega))
theorem go_neN (hu : X.A.units + 64 < cLine) : OpR X (compareOp .NotEq) (liftO oNeN) := go_eqNB (go_ne hu) (op_neNil (by omega))
end
theorem st_eqNilT {l : List D} {S : Sto} {K : KE} (h : K (.bl l.isEmpty) S) : oEqN (.tup l) (.tup []) S K := .inr (.inr ⟨l, rfl, rfl, h⟩)
theorem st_neNilL {l : List D} {S : Sto} {K : KE} (h : K (.bl (!l.isEmpty)) S) : oNeN (.lst l) (.lst []) S K := .inr (.inl ⟨l, rfl, rfl, h⟩)
theorem st_eqNilL {l : List D} {S : Sto} {K : KE} (h : K (.bl l.isEmpty) S) : oEqN (.lst l) (.lst []) S K := .inr (.inl ⟨l, rfl, rfl, h⟩)
end G

set_option Elab.async false
set_option linter.all false
set_option maxRecDepth 100000
set_option autoImplicit false
namespace G
open PySem PySem.Spec PyProof.Rows L2
/-! ### tuple(text) -/
section
variable {X : Cx}
theorem call_tupS (hc : X.calm = true) : CallR X (.type "tuple") (fun xs H Q => ∃ z, xs = [.str z] ∧ z.length ≤ sizeLine ∧ ∀ l, H l = none → Q (.ref l) (upd H l (.tup (charsV z)))) := by
  intro pins s σ H xs us Q I r h
  obtain ⟨z, rfl, hz, q⟩ := h
  obtain ⟨u, rfl, rx⟩ := vals1 r
  obtain ⟨t, rfl⟩ := rx
  have hsz : z.cps.size ≤ sizeLine := hz
  refine call_tuple_str (hsz := hsz) (I.ok.hd hc) z t fun h' tk acc kp ha => ?_
  have rv : Vals (charsV z) acc.toList := vals_get (by unfold charsV; rw [List.length_map, Array.length_toList, Array.length_toList, ha.1]) fun j u ej => by
    obtain ⟨ch, k, ec, rfl⟩ := ha.2 j u (by simpa using ej)
    refine ⟨.str ⟨#[ch]⟩, ?_, ⟨k, rfl⟩⟩
    unfold charsV
    rw [List.getElem?_map, show z.cps.toList[j]? = some ch by simpa using ec]
    rfl
  have hl : (charsV z).length ≤ sizeLine := by unfold charsV; rw [List.length_map, Array.length_toList]; exact hsz
  have I1 : Inv X pins σ H { s with heap := h', toks := tk } := I.kept (t' := tk) kp
  have I2 : Inv X pins σ (upd H h'.objs.size (.tup (charsV z))) { s with heap := h'.push { cls := .type "tuple", data := .seq acc }, toks := tk } :=
    I1.laid (t' := tk) (fun b o e => Heap.get?_push_of_some _ e) (Nat.le_refl _) (show ObjOk X.prog X.w _ _ _ (.tup (charsV z)) from ⟨hl, acc.toList, rv, by rw [show acc = acc.toList.toArray by simp]; simpa using IsTup.new _ _⟩)
  exact ⟨.ref h'.objs.size, _, I2, rfl, q _ (I1.hok.fresh (Nat.le_refl _))⟩
def oTupS (d : D) (S : Sto) (K : KE) : Prop := oTuple d S K ∨ ∃ z, d = .str z ∧ z.length ≤ sizeLine ∧ K (.tup (charsD z)) S
theorem gc_tupS (hc : X.calm = true) : CallR X (.type "tuple") (liftC (one oTupS)) := fun pins s σ H xs us Q I r h => by
  obtain ⟨N, S, ds, K, c, rs, o, q⟩ := h
  obtain ⟨d, rfl, o⟩ : ∃ d, ds = [d] ∧ oTupS d S K := by
    match ds, o with
    | [d], o => exact ⟨d, rfl, o⟩
  rcases o with o | ⟨z, rfl, hz, o⟩
  · exact gc_tuple pins s σ H xs us Q I r ⟨N, S, [d], K, c, rs, o, q⟩
  · cases rs with
    | cons r1 r2 =>
      cases r2
      cases r1
      exact call_tupS hc pins s σ H _ us Q I r ⟨z, rfl, hz, fun l n => q.newT c o (reps_chars _) n⟩
end
theorem st_tupSs {z : Str} {S : Sto} {K : KE} (l : z.length ≤ sizeLine) (h : K (.tup (charsD z)) S) : oTupS (.str z) S K := .inr ⟨z, rfl, l, h⟩
/-! ### an empty tuple times an int -/
theorem tuple_mulE (l : Addr) (n : Nat) (dd : Option Addr) (sl : Array (Option Value)) (x : Int) (u : Tok) (c0 : (decide (x < -(2 ^ 63)) || decide (x ≥ 2 ^ 63)) = false) :
    Meets (Builtin.«tuple.__mul__» ⟨[.ref l, .int x u], []⟩) (fun _ R s => s.heap.get? l = some { cls := .type "tuple", dict := dd, data := .seq #[] n, slots := sl } ∧ R (.ok (.ret (Value.ref l))) s) :=
  .of_wp fun prog w A R s h => by
    obtain ⟨hp, g, d, tk, os⟩ := s
    obtain ⟨hl, h⟩ := h
    have f1 := AutoSeq1.idx_int
    have hT : Shared.TypeIs ⟨hp, g, d, tk, os⟩ (.ref l) "tuple" := ⟨_, hl, rfl⟩
    wp_walk using wpAny_loadPart' hl
    repeat (first
      | (refine wpAny_ite_false (decide_eq_false (by rw [c0]; exact Bool.false_ne_true)) ?_; wp_walk using wpAny_loadPart' hl)
      | (refine wpAny_ite_true (decide_eq_true (by rfl)) ?_; wp_walk using wpAny_loadPart' hl))
    exact ⟨_, rfl, h⟩
section
variable {X : Cx}
def rRep0 (K : PySem.W.Frag) : R2 := fun x y H Q => ∃ l k, x = .ref l ∧ y = .int k ∧ SqT K H l [] ∧ -(2 ^ 63) ≤ k ∧ k < 2 ^ 63 ∧ Q x H
theorem op_rep0 : OpR X (binaryOp .Mult) (rRep0 X.K) := by
  intro pins s σ H x y v u Q I rx ry h
  obtain ⟨l, k, rfl, rfl, hT, h1, h2, q⟩ := h
  cases rx
  obtain ⟨t, rfl⟩ := ry
  obtain ⟨its, r, ⟨⟨cls, dd, data, sl⟩, ho, hc, n, hd⟩, hs⟩ := I.tuple hT
  simp only at hc hd
  subst hc hd
  cases r
  have c0 : (decide (k < -(2 ^ 63)) || decide (k ≥ 2 ^ 63)) = false := by
    rw [decide_eq_false (by omega), decide_eq_false (by omega)] <;> rfl
  refine wpAny_binaryOp_repeat_ref (T := "tuple") (U := "int") (by decide) ⟨_, ho, rfl⟩ (fun s' => typeIs_int s' k t) noFill_tuple_mul F.fills_int_mul F.slot_int_rmul repeat_tuple F.slot_int_index.lookup
    (call_meets F.slot_int_rmul (typeIs_int s k t) F.entry_int_rmul (F.args_int_rmul_2 _ _) (int_rmul_tuple k t l #[] n dd sl)
      ⟨ho, rfl, ⟨_, ho, rfl⟩, call_meets F.slot_tuple_mul ⟨_, ho, rfl⟩ F.entry_tuple_mul (F.args_tuple_mul_2 _ _) (tuple_mulE l n dd sl k t c0) ⟨ho, ?_⟩⟩)
  exact ⟨.ref l, H, I, rfl, q⟩
def oMulZ (x y : D) (S : Sto) (K : KE) : Prop := oMul x y S K ∨ ∃ k, x = .tup [] ∧ y = .int k ∧ -(2 ^ 63) ≤ k ∧ k < 2 ^ 63 ∧ K (.tup []) S
theorem go_mulZ : OpR X (binaryOp .Mult) (liftO oMulZ) := by
  intro pins s σ H x y v u Q I rx ry ⟨N, S, dx, dy, K, c, r1, r2, o, q⟩
  rcases o with o | ⟨k, rfl, rfl, a, b, o⟩
  · exact go_mul pins s σ H x y v u Q I rx ry ⟨N, S, dx, dy, K, c, r1, r2, o, q⟩
  · cases r2
    cases r1 with
    | tup rd na rs =>
      cases rs
      exact op_rep0 pins s σ H _ _ v u Q I rx ry ⟨_, k, rfl, rfl, .inl rd, a, b, q.here c o (.tup rd na .nil)⟩
end
theorem st_mulZ {x y : D} {S : Sto} {K : KE} (h : oMul x y S K) : oMulZ x y S K := .inl h
theorem st_mulZ0 {k : Int} {S : Sto} {K : KE} (a : -(2 ^ 63) ≤ k) (b : k < 2 ^ 63) (h : K (.tup []) S) : oMulZ (.tup []) (.int k) S K := .inr ⟨k, rfl, rfl, a, b, h⟩
end G

set_option Elab.async false
set_option linter.all false
set_option maxRecDepth 100000
set_option autoImplicit false
namespace G
open PySem PySem.Spec PyProof.Rows L2
/-! ### enumerate(tuple) -/
set_option maxHeartbeats 1000000 in
section
variable {prog : Program} {w : World} {A : Around} {E : Value → Shared → Prop} {s : Shared}
end
def IteT (K : PySem.W.Frag) (a : Addr) (xs : List V) : It :=
  ⟨fun i H => i < xs.length ∧ SqT K H a xs, fun i H v H' => ∃ T x, v = .ref T ∧ H T = none ∧ H' = upd H T (.tup [.int (i : Nat), x]) ∧ xs[i]? = some x, fun i H => i = xs.length ∧ SqT K H a xs⟩
def iEnumT (K : PySem.W.Frag) (ta : TA) : TI := fun σ H R => ta σ H fun vs H1 => ∃ a xs, vs = [.ref a] ∧ SqT K H1 a xs ∧ R (IteT K a xs) H1
def wEnumT (a : WE) : WI := fun ρ S K => a ρ S fun x S1 => ∃ ds, x = .tup ds ∧ K ⟨ienum 0 ds, fun _ => True⟩ S1
section
variable {X : Cx} {e : Expr} {w : WE} {p pos tpos : Pos} {elts : List Expr} {kk : Nat}
end
end G

set_option Elab.async false
set_option linter.all false
set_option autoImplicit false
set_option maxHeartbeats 1000000
namespace G
/-! ### sums, determinants -/
def sumN : Nat → (Nat → Int) → Int
  | 0, _ => 0
  | n + 1, f => sumN n f + f n
abbrev Vec := Nat → Int
def sk (j t : Nat) : Nat := if t < j then t else t + 1
def sgn (k : Nat) : Int := if k % 2 = 0 then 1 else -1
def det : Nat → (Nat → Vec) → Int
  | 0, _ => 1
  | n + 1, M => sumN (n + 1) fun j => sgn (j + n) * M n j * det n fun i t => M i (sk j t)
def upd (f : Nat → Vec) (i : Nat) (v : Vec) : Nat → Vec := fun k => if k = i then v else f k
theorem upd_ne {f : Nat → Vec} {i k : Nat} {v : Vec} (h : k ≠ i) : upd f i v k = f k := if_neg h
def Alt (n : Nat) : Prop := ∀ (M : Nat → Vec) (i j : Nat), i < j → j < n → (∀ t, t < n → M i t = M j t) → det n M = 0
def prodN : Nat → (Nat → Nat) → Nat
  | 0, _ => 1
  | n + 1, f => prodN n f * f n
end G

set_option linter.all false
set_option autoImplicit false
set_option maxRecDepth 100000
namespace G
open PySem PySem.Spec PyProof.Rows L2

/-- is_integer fcde5923 -/
def w_is_integer : WS :=
    (wRet (wAndV (wOp1 (oIsi [.int]) (wVar 0)) (wNotV (wOp1 (oIsi [.bl]) (wVar 0)))))
def c_is_integer : CS := wDef 1 1 (w_is_integer)
/-- is_within c84c6ce5 -/
def w_is_within : WS :=
    (wRet (wAndV (wCall c_is_integer (wCons (wVar 0) wNil)) (wChain oLe oLe (wVar 1) (wVar 0) (wVar 2))))
def c_is_within : CS := wDef 3 3 (w_is_within)
/-- is_letters 3e5cd11b -/
def w_is_letters : WS :=
    (wSeq (wIf (wOr (wNot (wTest (wOp1 (oIsi [.str]) (wVar 0)))) (wNot (wTest (wChain oLe oLe (wC (.int 1)) (wCall (one oLen) (wCons (wVar 0) wNil)) (wC (.int 4)))))) (wRet (wC (.bl false))) wSkip)
    (wSeq (wIf (wNot (wTest (wCall (one oAll) (wCons (wFr (wComp (wIt (wVar 0)) (gN 1) wYes (wChain oLe oLe (wC (.str "!")) (wVar 1) (wC (.str "~"))) [1])) wNil)))) (wRet (wC (.bl false))) wSkip)
    (wRet (wOp2 oEq (wFr (wList (wVar 0))) (wFr (wSrtSetT (wVar 0)))))))
def c_is_letters : CS := wDef 1 2 (w_is_letters)
/-- common_divisor c47834df -/
def w_common_divisor : WS :=
    (wSeq (wWhile (wTest (wOp2 oNe (wVar 1) (wC (.int 0)))) (wPar 0 1 (wVar 1) (wOp2 oMod (wVar 0) (wVar 1))))
    (wRet (wVar 0)))
def c_common_divisor : CS := wDef 2 2 (w_common_divisor)
/-- divisor_of 8be8b621 -/
def w_divisor_of : WS :=
    (wSeq (wSet 1 (wC (.int 0)))
    (wSeq (wFor (wIt (wVar 0)) (gN 2) (wSet 1 (wCall c_common_divisor (wCons (wVar 1) (wCons (wVar 2) wNil)))))
    (wRet (wVar 1))))
def c_divisor_of : CS := wDef 1 3 (w_divisor_of)
/-- is_condition 503c2452 -/
def w_is_condition : WS :=
    (wSeq (wIf (wOr (wNot (wTest (wOp1 (oIsi [.tup]) (wVar 1)))) (wTest (wOp2 oNe (wCall (one oLen) (wCons (wVar 1) wNil)) (wC (.int 3))))) (wRet (wC (.bl false))) wSkip)
    (wSeq (wAsg (wVar 1) (gT 3 (gsC (gN 2) (gsC (gN 3) (gsC (gN 4) gsN)))))
    (wSeq (wIf (wOr (wNot (wTest (wOp1 (oIsi [.tup]) (wVar 2)))) (wTest (wOp2 oNe (wCall (one oLen) (wCons (wVar 2) wNil)) (wOp2 oAdd (wCall (one oLen) (wCons (wVar 0) wNil)) (wC (.int 1)))))) (wRet (wC (.bl false))) wSkip)
    (wSeq (wIf (wNot (wTest (wCall (one oAll) (wCons (wFr (wComp (wIt (wVar 2)) (gN 5) wYes (wCall c_is_within (wCons (wVar 5) (wCons (wOp2 oSub (wC (.int 0)) (wC (.int 99))) (wCons (wC (.int 99)) wNil)))) [5])) wNil)))) (wRet (wC (.bl false))) wSkip)
    (wRet (wAndV (wCall c_is_within (wCons (wVar 3) (wCons (wOp2 oSub (wC (.int 0)) (wC (.int 9999))) (wCons (wC (.int 9999)) wNil)))) (wOp1 (oIsi [.bl]) (wVar 4))))))))
def c_is_condition : CS := wDef 2 6 (w_is_condition)
/-- is_font 5358793e -/
def w_is_font : WS :=
    (wSeq (wIf (wOr (wNot (wTest (wOp1 (oIsi [.tup]) (wVar 1)))) (wOr (wTest (wOp2 oNe (wCall (one oLen) (wCons (wVar 1) wNil)) (wC (.int 2)))) (wOr (wNot (wTest (wCall c_is_integer (wCons (wOp2 oIx (wVar 1) (wC (.int 0))) wNil)))) (wTest (wOp2 oLt (wOp2 oIx (wVar 1) (wC (.int 0))) (wC (.int 1))))))) (wRet (wC (.bl false))) wSkip)
    (wSeq (wAsg (wVar 1) (gT 2 (gsC (gN 2) (gsC (gN 3) gsN))))
    (wSeq (wIf (wOr (wNot (wTest (wOp1 (oIsi [.tup]) (wVar 3)))) (wTest (wOp2 oNe (wCall (one oLen) (wCons (wVar 3) wNil)) (wOp2 oAdd (wCall (one oLen) (wCons (wVar 0) wNil)) (wC (.int 1)))))) (wRet (wC (.bl false))) wSkip)
    (wSeq (wIf (wNot (wTest (wCall (one oAll) (wCons (wFr (wComp (wIt (wVar 3)) (gN 4) wYes (wCall c_is_within (wCons (wVar 4) (wCons (wC (.int 0)) (wCons (wOp2 oMul (wC (.int 20)) (wVar 2)) wNil)))) [4])) wNil)))) (wRet (wC (.bl false))) wSkip)
    (wRet (wOp2 oEq (wCall c_divisor_of (wCons (wOp2 oAdd (wFr (wLst (wCons (wVar 2) wNil))) (wFr (wList (wVar 3)))) wNil)) (wC (.int 1))))))))
def c_is_font : CS := wDef 2 5 (w_is_font)
/-- is_knowledge cf52e939 -/
def w_is_knowledge : WS :=
    (wSeq (wIf (wOr (wNot (wTest (wOp1 (oIsi [.tup]) (wVar 0)))) (wOr (wTest (wOp2 oNe (wCall (one oLen) (wCons (wVar 0) wNil)) (wC (.int 2)))) (wNot (wTest (wCall c_is_letters (wCons (wOp2 oIx (wVar 0) (wC (.int 0))) wNil)))))) (wRet (wC (.bl false))) wSkip)
    (wSeq (wAsg (wVar 0) (gT 2 (gsC (gN 1) (gsC (gN 2) gsN))))
    (wSeq (wIf (wOr (wNot (wTest (wOp1 (oIsi [.tup]) (wVar 2)))) (wTest (wOp2 oGt (wCall (one oLen) (wCons (wVar 2) wNil)) (wC (.int 8))))) (wRet (wC (.bl false))) wSkip)
    (wRet (wCall (one oAll) (wCons (wFr (wComp (wIt (wVar 2)) (gN 3) wYes (wCall c_is_condition (wCons (wVar 1) (wCons (wVar 3) wNil))) [3])) wNil))))))
def c_is_knowledge : CS := wDef 1 4 (w_is_knowledge)
/-- _law_open 77ae459e -/
def w_law_open (Fr : PySem.W.Frag) : WS :=
    (wSeq (wSet 1 (wLv (wList (wFr (wSlF Fr (wVar 0) wONo (wOSo (wC (.int 12))))))))
    (wSeq (wFor (wEnum (wFr (wSlF Fr (wVar 0) (wOSo (wC (.int 12))) (wOSo (wC (.int 63)))))) (gT 2 (gsC (gN 2) (gsC (gN 3) gsN))) (wAsg (wOp2 oAdd (wOp2 oIx (wVar 1) (wOp2 oMod (wVar 2) (wC (.int 12)))) (wVar 3)) (gIx (wVar 1) (wOp2 oMod (wVar 2) (wC (.int 12))))))
    (wRet (wLv (wLst (wCons (wFrz (wVar 1)) (wCons (wC (.int 0)) (wCons (wC (.int 0)) wNil))))))))
def c_law_open (Fr : PySem.W.Frag) : CS := wDef 1 4 (w_law_open Fr)
/-- _law_spread 952baa55 -/
def w_law_spread : WS :=
    (wSeq (wIf (wTest (wOp2 oGe (wVar 0) (wOp2 oPow (wC (.int 10)) (wC (.int 18))))) (wRet (wVar 0)) wSkip)
    (wSeq (wSet 2 (wFr (wLst (wCons (wC (.int 2147483629)) (wCons (wC (.int 2147483587)) (wCons (wC (.int 2147483579)) (wCons (wC (.int 2147483563)) (wCons (wC (.int 2147483549)) (wCons (wC (.int 2147483543)) (wCons (wC (.int 2147483497)) (wCons (wC (.int 2147483489)) wNil)))))))))))
    (wSeq (wSet 2 (wOp2 oAdd (wVar 2) (wFr (wLst (wCons (wC (.int 2147483477)) (wCons (wC (.int 2147483423)) (wCons (wC (.int 2147483399)) (wCons (wC (.int 2147483353)) (wCons (wC (.int 2147483323)) wNil)))))))))
    (wSeq (wSet 3 (wOp2 oMod (wOp2 oPow (wOp2 oAdd (wOp2 oAdd (wOp2 oMul (wOp2 oMod (wVar 0) (wC (.int 1000000007))) (wOp2 oAdd (wOp2 oMul (wC (.int 2)) (wVar 1)) (wC (.int 69069)))) (wOp2 oMul (wVar 1) (wC (.int 40503)))) (wC (.int 977))) (wC (.int 3))) (wOp2 oIx (wVar 2) (wOp2 oMod (wVar 1) (wC (.int 13))))))
    (wSeq (wSet 4 (wOp2 oMod (wOp2 oPow (wOp2 oAdd (wOp2 oAdd (wOp2 oMul (wVar 3) (wOp2 oAdd (wVar 1) (wC (.int 3)))) (wOp2 oMod (wVar 0) (wC (.int 65537)))) (wC (.int 5))) (wC (.int 5))) (wOp2 oIx (wVar 2) (wOp2 oMod (wOp2 oAdd (wVar 1) (wC (.int 5))) (wC (.int 13))))))
    (wSeq (wSet 5 (wOp2 oMod (wOp2 oPow (wOp2 oAdd (wOp2 oAdd (wVar 4) (wOp2 oMod (wVar 3) (wC (.int 1009)))) (wVar 1)) (wC (.int 3))) (wOp2 oIx (wVar 2) (wOp2 oMod (wOp2 oAdd (wVar 1) (wC (.int 7))) (wC (.int 13))))))
    (wRet (wOp2 oAdd (wOp2 oMul (wOp2 oAdd (wOp2 oMul (wVar 3) (wC (.int 2147483647))) (wVar 4)) (wC (.int 2147483647))) (wVar 5)))))))))
def c_law_spread : CS := wDef 2 6 (w_law_spread)
/-- _law_take 7df0b857 -/
def w_law_take : WS :=
    (wSeq (wIf (wTest (wOp2 oLt (wOp2 oIx (wVar 0) (wC (.int 2))) (wVar 1))) (wSeq (wSet 2 (wOp2 oIx (wVar 0) (wC (.int 1))))
    (wSeq (wSet 3 (wC (.int 0)))
    (wSeq (wIf (wTest (wOp2 oLt (wVar 2) (wCall (one oLen) (wCons (wOp2 oIx (wVar 0) (wC (.int 0))) wNil)))) (wSet 3 (wOp2 oIx (wOp2 oIx (wVar 0) (wC (.int 0))) (wVar 2))) (wIf (wTest (wOp2 oGt (wCall (one oLen) (wCons (wOp2 oIx (wVar 0) (wC (.int 0))) wNil)) (wC (.int 0)))) (wSet 3 (wOp2 oMod (wOp2 oIx (wOp2 oIx (wVar 0) (wC (.int 0))) (wOp2 oMod (wOp2 oAdd (wOp2 oMul (wVar 2) (wC (.int 5))) (wC (.int 3))) (wCall (one oLen) (wCons (wOp2 oIx (wVar 0) (wC (.int 0))) wNil)))) (wOp2 oAdd (wOp2 oPow (wC (.int 10)) (wC (.int 17))) (wVar 2)))) wSkip))
    (wSeq (wAsg (wOp2 oAdd (wVar 2) (wC (.int 1))) (gIx (wVar 0) (wC (.int 1))))
    (wAsg (wCall c_law_spread (wCons (wVar 3) (wCons (wVar 2) wNil))) (gIx (wVar 0) (wC (.int 2)))))))) wSkip)
    (wSeq (wSet 4 (wOp2 oMod (wOp2 oIx (wVar 0) (wC (.int 2))) (wVar 1)))
    (wSeq (wAsg (wOp2 oDiv (wOp2 oIx (wVar 0) (wC (.int 2))) (wVar 1)) (gIx (wVar 0) (wC (.int 2))))
    (wRet (wVar 4)))))
def c_law_take : CS := wDef 2 5 (w_law_take)
/-- _law_same c4b846c1 -/
def w_law_same (me : CS) : WS :=
    (wSeq (wIf (wOr (wTest (wOp2 oIs (wVar 1) (wC .non))) (wTest (wOp2 oIs (wVar 0) (wC .non)))) (wRet (wAndV (wOp2 oIs (wVar 1) (wC .non)) (wOp2 oIs (wVar 0) (wC .non)))) wSkip)
    (wSeq (wIf (wOr (wTest (wOp1 (oIsi [.bl]) (wVar 1))) (wTest (wOp1 (oIsi [.bl]) (wVar 0)))) (wRet (wAndV (wOp1 (oIsi [.bl]) (wVar 1)) (wAndV (wOp1 (oIsi [.bl]) (wVar 0)) (wOp2 oEq (wVar 0) (wVar 1))))) wSkip)
    (wSeq (wIf (wTest (wOp1 (oIsi [.int, .str]) (wVar 1))) (wSeq (wIf (wTest (wOp2 oNe (wOp1 (oIsi [.int]) (wVar 0)) (wOp1 (oIsi [.int]) (wVar 1)))) (wRet (wC (.bl false))) wSkip)
    (wRet (wAndV (wOp1 (oIsi [.int, .str]) (wVar 0)) (wOp2 oEq (wVar 0) (wVar 1))))) wSkip)
    (wSeq (wIf (wOr (wTest (wOp2 oNe (wOp1 (oIsi [.tup]) (wVar 1)) (wOp1 (oIsi [.tup]) (wVar 0)))) (wTest (wOp2 oNe (wOp1 (oIsi [.lst]) (wVar 1)) (wOp1 (oIsi [.lst]) (wVar 0))))) (wRet (wC (.bl false))) wSkip)
    (wSeq (wIf (wTest (wOp2 oNe (wCall (one oLen) (wCons (wVar 0) wNil)) (wCall (one oLen) (wCons (wVar 1) wNil)))) (wRet (wC (.bl false))) wSkip)
    (wRet (wOp2 oNotIn (wC (.bl false)) (wFr (wComp (wZip none (wVar 0) (wVar 1)) (gT 2 (gsC (gN 2) (gsC (gN 3) gsN))) wYes (wCall me (wCons (wVar 2) (wCons (wVar 3) wNil))) [2, 3])))))))))
def c_law_same : Nat → CS
  | 0 => fun _ _ _ => False
  | n + 1 => wDef 2 4 (w_law_same (c_law_same n))
/-- _law_one_of 1f8c10b8 -/
def w_law_one_of : WS :=
    (wRet (wOp2 oIx (wVar 1) (wCall c_law_take (wCons (wVar 0) (wCons (wCall (one oLen) (wCons (wVar 1) wNil)) wNil)))))
def c_law_one_of : CS := wDef 2 2 (w_law_one_of)
/-- _law_divisor 7a70dd03 -/
def w_law_divisor : WS :=
    (wSeq (wSet 1 (wC (.int 0)))
    (wSeq (wFor (wIt (wVar 0)) (gN 2) (wSeq (wPar 3 4 (wCall (one oAbs) (wCons (wVar 2) wNil)) (wVar 1))
    (wSeq (wWhile (wTest (wOp2 oNe (wVar 4) (wC (.int 0)))) (wPar 3 4 (wVar 4) (wOp2 oMod (wVar 3) (wVar 4))))
    (wSet 1 (wVar 3)))))
    (wRet (wVar 1))))
def c_law_divisor : CS := wDef 1 5 (w_law_divisor)
/-- _law_plain 1eb207be -/
def w_law_plain : WS :=
    (wSeq (wSet 2 (wCall c_law_divisor (wCons (wOp2 oAdd (wFr (wLst (wCons (wVar 0) wNil))) (wFr (wList (wVar 1)))) wNil)))
    (wRet (wTup (wCons (wOp2 oDiv (wVar 0) (wVar 2)) (wCons (wCall (one oTuple) (wCons (wFr (wComp (wIt (wVar 1)) (gN 3) wYes (wOp2 oDiv (wVar 3) (wVar 2)) [3])) wNil)) wNil)))))
def c_law_plain : CS := wDef 2 4 (w_law_plain)
/-- _law_draw_font 1ed8ba3b -/
def w_law_draw_font : WS :=
    (wSeq (wSet 2 (wCall c_law_one_of (wCons (wVar 0) (wCons (wFr (wLst (wCons (wC (.int 1)) (wCons (wC (.int 1)) (wCons (wC (.int 2)) (wCons (wC (.int 3)) (wCons (wC (.int 7)) wNil))))))) wNil))))
    (wSeq (wSet 3 (wFr (wComp (wRange1 (wVar 1)) (gN 4) wYes (wCall c_law_one_of (wCons (wVar 0) (wCons (wFr (wLst (wCons (wC (.int 0)) (wCons (wVar 2) (wCons (wOp2 oMul (wC (.int 20)) (wVar 2)) (wCons (wCall c_law_take (wCons (wVar 0) (wCons (wOp2 oAdd (wOp2 oMul (wC (.int 20)) (wVar 2)) (wC (.int 1))) wNil))) wNil)))))) wNil))) [4])))
    (wRet (wCall c_law_plain (wCons (wVar 2) (wCons (wFr (wComp (wIt (wVar 3)) (gN 5) wYes (wCall (two oMin2) (wCons (wVar 5) (wCons (wOp2 oMul (wCall c_law_one_of (wCons (wVar 0) (wCons (wFr (wLst (wCons (wC (.int 20)) (wCons (wC (.int 6)) (wCons (wC (.int 6)) wNil))))) wNil))) (wVar 2)) wNil))) [5])) wNil))))))
def c_law_draw_font : CS := wDef 2 6 (w_law_draw_font)
/-- _law_sum 42e610c1 -/
def w_law_sum : WS :=
    (wRet (wCall (one oSum) (wCons (wFr (wComp (wZip none (wVar 0) (wOp2 oIx (wVar 1) (wC (.int 1)))) (gT 2 (gsC (gN 2) (gsC (gN 3) gsN))) wYes (wOp2 oMul (wVar 2) (wVar 3)) [2, 3])) wNil)))
def c_law_sum : CS := wDef 2 4 (w_law_sum)
/-- _law_holds 44d7a3aa -/
def w_law_holds : WS :=
    (wSeq (wPar 2 3 (wCall c_law_sum (wCons (wOp2 oIx (wVar 0) (wC (.int 0))) (wCons (wVar 1) wNil))) (wOp2 oMul (wOp2 oIx (wVar 0) (wC (.int 1))) (wOp2 oIx (wVar 1) (wC (.int 0)))))
    (wRet (wIfE (wTest (wOp2 oIx (wVar 0) (wC (.int 2)))) (wOp2 oLt (wVar 2) (wVar 3)) (wOp2 oLe (wVar 2) (wVar 3)))))
def c_law_holds : CS := wDef 2 4 (w_law_holds)
/-- _law_draw_condition d215ccbc -/
def w_law_draw_condition : WS :=
    (wSeq (wSet 2 (wCall c_law_one_of (wCons (wVar 0) (wCons (wFr (wLst (wCons (wC (.int 1)) (wCons (wC (.int 2)) (wCons (wC (.int 3)) (wCons (wC (.int 3)) (wCons (wC (.int 9)) (wCons (wC (.int 99)) wNil)))))))) wNil))))
    (wSeq (wSet 3 (wCall (one oTuple) (wCons (wFr (wComp (wIt (wOp2 oIx (wVar 1) (wC (.int 1)))) (gN 6) wYes (wCall c_law_one_of (wCons (wVar 0) (wCons (wFr (wLst (wCons (wC (.int 0)) (wCons (wC (.int 1)) (wCons (wC (.int (-1))) (wCons (wOp2 oSub (wCall c_law_take (wCons (wVar 0) (wCons (wOp2 oAdd (wOp2 oMul (wC (.int 2)) (wVar 2)) (wC (.int 1))) wNil))) (wVar 2)) wNil)))))) wNil))) [6])) wNil)))
    (wSeq (wSet 4 (wOp2 oDiv (wCall c_law_sum (wCons (wVar 3) (wCons (wVar 1) wNil))) (wOp2 oIx (wVar 1) (wC (.int 0)))))
    (wSeq (wSet 5 (wCall (two oMax2) (wCons (wC (.int (-9999))) (wCons (wCall (two oMin2) (wCons (wC (.int 9999)) (wCons (wOp2 oAdd (wVar 4) (wCall c_law_one_of (wCons (wVar 0) (wCons (wFr (wLst (wCons (wC (.int 0)) (wCons (wC (.int 1)) (wCons (wC (.int 1)) (wCons (wC (.int 2)) (wCons (wC (.int 5)) (wCons (wCall c_law_take (wCons (wVar 0) (wCons (wC (.int 40)) wNil))) (wCons (wC (.int (-1))) wNil))))))))) wNil)))) wNil))) wNil))))
    (wRet (wTup (wCons (wVar 3) (wCons (wVar 5) (wCons (wOp2 oEq (wCall c_law_take (wCons (wVar 0) (wCons (wC (.int 4)) wNil))) (wC (.int 0))) wNil)))))))))
def c_law_draw_condition : CS := wDef 2 7 (w_law_draw_condition)
/-- _law_draw_letters 665f1190 -/
def w_law_draw_letters : WS :=
    (wRet (wCall c_law_one_of (wCons (wVar 0) (wCons (wFr (wLst (wCons (wC (.str "a")) (wCons (wC (.str "~")) (wCons (wC (.str "im")) (wCons (wC (.str "!x")) (wCons (wC (.str "AZ")) (wCons (wC (.str "Mi")) (wCons (wC (.str "abc")) (wCons (wC (.str "ilm")) (wCons (wC (.str "019")) (wCons (wC (.str "abcd")) (wCons (wC (.str "Wimt")) (wCons (wC (.str "!+~")) (wCons (wC (.str "-.:")) wNil))))))))))))))) wNil))))
def c_law_draw_letters : CS := wDef 1 1 (w_law_draw_letters)
/-- _law_draw_knowledge da85e34f -/
def w_law_draw_knowledge : WS :=
    (wSeq (wSet 2 (wMeth fJoin (wC (.str "")) (wCons (wFr (wSorted (wCall c_law_draw_letters (wCons (wVar 0) wNil)))) wNil)))
    (wSeq (wPar 3 4 (wCall c_law_draw_font (wCons (wVar 0) (wCons (wOp2 oAdd (wCall (one oLen) (wCons (wVar 2) wNil)) (wC (.int 1))) wNil))) (wLv (wLst wNil)))
    (wSeq (wSet 5 (wOp2 oGt (wCall c_law_take (wCons (wVar 0) (wCons (wC (.int 5)) wNil))) (wC (.int 0))))
    (wSeq (wFor (wRange1 (wCall c_law_take (wCons (wVar 0) (wCons (wOp2 oAdd (wVar 1) (wC (.int 1))) wNil)))) (gN 6) (wSeq (wSet 7 (wCall c_law_draw_condition (wCons (wVar 0) (wCons (wVar 3) wNil))))
    (wIf (wOr (wNot (wTest (wVar 5))) (wTest (wCall c_law_holds (wCons (wVar 7) (wCons (wVar 3) wNil))))) (wDo (wApp (wVar 4) (wVar 7))) wSkip)))
    (wRet (wTup (wCons (wVar 2) (wCons (wCall (one oTuple) (wCons (wVar 4) wNil)) wNil))))))))
def c_law_draw_knowledge : CS := wDef 2 8 (w_law_draw_knowledge)
/-- _law_draw_text 4b765686 -/
def w_law_draw_text : WS :=
    (wSeq (wSet 4 (wLv (wLst wNil)))
    (wSeq (wFor (wRange1 (wOp2 oAdd (wC (.int 1)) (wCall c_law_take (wCons (wVar 0) (wCons (wVar 2) wNil))))) (gN 5) (wDo (wApp (wVar 4) (wMeth fJoin (wC (.str "")) (wCons (wFr (wComp (wRange1 (wOp2 oAdd (wC (.int 1)) (wCall c_law_take (wCons (wVar 0) (wCons (wVar 3) wNil))))) (gN 6) wYes (wCall c_law_one_of (wCons (wVar 0) (wCons (wVar 1) wNil))) [6])) wNil)))))
    (wRet (wMeth fJoin (wC (.str " ")) (wCons (wVar 4) wNil)))))
def c_law_draw_text : CS := wDef 4 7 (w_law_draw_text)
/-- _law_counts debb5a44 -/
def w_law_counts : WS :=
    (wRet (wCall (one oTuple) (wCons (wFr (wComp (wIt (wOp2 oAdd (wC (.str " ")) (wVar 0))) (gN 2) wYes (wCall (one oLen) (wCons (wFr (wComp (wIt (wVar 1)) (gN 3) (wTest (wOp2 oEq (wVar 3) (wVar 2))) (wVar 3) [3])) wNil)) [2])) wNil)))
def c_law_counts : CS := wDef 2 4 (w_law_counts)
/-- _law_fits 978e283d -/
def w_law_fits : WS :=
    (wRet (wOp2 oNotIn (wC (.bl false)) (wFr (wComp (wIt (wOp2 oIx (wVar 0) (wC (.int 1)))) (gN 2) wYes (wCall c_law_holds (wCons (wVar 2) (wCons (wVar 1) wNil))) [2]))))
def c_law_fits : CS := wDef 2 3 (w_law_fits)
/-- _law_is_font 65fcb68e -/
def w_law_is_font : WS :=
    (wSeq (wIf (wOr (wNot (wTest (wOp1 (oIsi [.tup]) (wVar 1)))) (wOr (wTest (wOp2 oNe (wCall (one oLen) (wCons (wVar 1) wNil)) (wC (.int 2)))) (wNot (wTest (wOp1 (oIsi [.tup]) (wOp2 oIx (wVar 1) (wC (.int 1)))))))) (wRet (wC (.bl false))) wSkip)
    (wSeq (wSet 2 (wOp2 oAdd (wTup (wCons (wOp2 oIx (wVar 1) (wC (.int 0))) wNil)) (wOp2 oIx (wVar 1) (wC (.int 1)))))
    (wSeq (wIf (wTest (wOp2 oNeN (wFr (wComp (wIt (wVar 2)) (gN 3) (wOr (wNot (wTest (wOp1 (oIsi [.int]) (wVar 3)))) (wTest (wOp1 (oIsi [.bl]) (wVar 3)))) (wVar 3) [3])) (wFr (wLst wNil)))) (wRet (wC (.bl false))) wSkip)
    (wSeq (wIf (wOr (wTest (wOp2 oLt (wOp2 oIx (wVar 1) (wC (.int 0))) (wC (.int 1)))) (wOr (wTest (wOp2 oNe (wCall (one oLen) (wCons (wOp2 oIx (wVar 1) (wC (.int 1))) wNil)) (wOp2 oAdd (wCall (one oLen) (wCons (wVar 0) wNil)) (wC (.int 1))))) (wTest (wOp2 oNe (wCall c_law_divisor (wCons (wVar 2) wNil)) (wC (.int 1)))))) (wRet (wC (.bl false))) wSkip)
    (wRet (wOp2 oEqN (wFr (wComp (wIt (wOp2 oIx (wVar 1) (wC (.int 1)))) (gN 3) (wNot (wTest (wChain oLe oLe (wC (.int 0)) (wVar 3) (wOp2 oMul (wC (.int 20)) (wOp2 oIx (wVar 1) (wC (.int 0))))))) (wVar 3) [3])) (wFr (wLst wNil))))))))
def c_law_is_font : CS := wDef 2 4 (w_law_is_font)
/-- _law_rows 2f04e910 -/
def w_law_rows : WS :=
    (wSeq (wSet 2 (wOp2 oAdd (wCall (one oLen) (wCons (wOp2 oIx (wVar 0) (wC (.int 0))) wNil)) (wC (.int 1))))
    (wSeq (wSet 3 (wFr (wComp (wRange1 (wVar 2)) (gN 5) wYes (wTup (wCons (wCall (one oTuple) (wCons (wFr (wComp (wRange1 (wVar 2)) (gN 6) wYes (wOp2 oSub (wC (.int 0)) (wCall (one oInt) (wCons (wOp2 oEq (wVar 6) (wVar 5)) wNil))) [6])) wNil)) (wCons (wC (.int 0)) (wCons (wC (.bl false)) wNil)))) [5])))
    (wSeq (wSet 4 (wFr (wComp (wRange1 (wVar 2)) (gN 5) wYes (wTup (wCons (wCall (one oTuple) (wCons (wFr (wComp (wRange1 (wVar 2)) (gN 6) wYes (wCall (one oInt) (wCons (wOp2 oEq (wVar 6) (wVar 5)) wNil)) [6])) wNil)) (wCons (wC (.int 20)) (wCons (wC (.bl false)) wNil)))) [5])))
    (wRet (wOp2 oAdd (wOp2 oAdd (wOp2 oAdd (wFr (wList (wOp2 oIx (wVar 0) (wC (.int 1))))) (wFr (wList (wVar 1)))) (wVar 3)) (wVar 4))))))
def c_law_rows : CS := wDef 2 7 (w_law_rows)
/-- _law_refutes bbe4cfb3 -/
def w_law_refutes : WS :=
    (wSeq (wSet 3 (wCall c_law_rows (wCons (wVar 0) (wCons (wVar 1) wNil))))
    (wSeq (wIf (wOr (wNot (wTest (wOp1 (oIsi [.tup]) (wVar 2)))) (wTest (wOp2 oNe (wCall (one oLen) (wCons (wVar 2) wNil)) (wCall (one oLen) (wCons (wVar 3) wNil))))) (wRet (wC (.bl false))) wSkip)
    (wSeq (wFor (wIt (wVar 2)) (gN 4) (wIf (wOr (wNot (wTest (wOp1 (oIsi [.int]) (wVar 4)))) (wOr (wTest (wOp1 (oIsi [.bl]) (wVar 4))) (wTest (wOp2 oLt (wVar 4) (wC (.int 0)))))) (wRet (wC (.bl false))) wSkip))
    (wSeq (wFor (wRange1 (wOp2 oAdd (wCall (one oLen) (wCons (wOp2 oIx (wVar 0) (wC (.int 0))) wNil)) (wC (.int 1)))) (gN 5) (wIf (wTest (wOp2 oNe (wCall (one oSum) (wCons (wFr (wComp (wZip none (wVar 2) (wVar 3)) (gT 2 (gsC (gN 4) (gsC (gN 8) gsN))) wYes (wOp2 oMul (wVar 4) (wOp2 oIx (wOp2 oIx (wVar 8) (wC (.int 0))) (wVar 5))) [4, 8])) wNil)) (wC (.int 0)))) (wRet (wC (.bl false))) wSkip))
    (wSeq (wSet 6 (wCall (one oSum) (wCons (wFr (wComp (wZip none (wVar 2) (wVar 3)) (gT 2 (gsC (gN 4) (gsC (gN 8) gsN))) wYes (wOp2 oMul (wVar 4) (wOp2 oIx (wVar 8) (wC (.int 1)))) [4, 8])) wNil)))
    (wSeq (wSet 7 (wFr (wComp (wZip none (wVar 2) (wVar 3)) (gT 2 (gsC (gN 4) (gsC (gN 8) gsN))) (wAnd (wTest (wOp2 oIx (wVar 8) (wC (.int 2)))) (wTest (wOp2 oGt (wVar 4) (wC (.int 0))))) (wVar 4) [4, 8])))
    (wRet (wOrV (wOp2 oLt (wVar 6) (wC (.int 0))) (wAndV (wOp2 oEq (wVar 6) (wC (.int 0))) (wOp2 oNe (wVar 7) (wFr (wLst wNil))))))))))))
def c_law_refutes : CS := wDef 3 9 (w_law_refutes)
/-- _law_is_between a6b6e791 -/
def w_law_is_between : WS :=
    (wRet (wAndV (wOp1 (oIsi [.int]) (wVar 0)) (wAndV (wNotV (wOp1 (oIsi [.bl]) (wVar 0))) (wChain oLe oLe (wVar 1) (wVar 0) (wVar 2)))))
def c_law_is_between : CS := wDef 3 3 (w_law_is_between)
/-- _law_is_condition a02dd662 -/
def w_law_is_condition : WS :=
    (wSeq (wIf (wOr (wNot (wTest (wOp1 (oIsi [.tup]) (wVar 1)))) (wOr (wTest (wOp2 oNe (wCall (one oLen) (wCons (wVar 1) wNil)) (wC (.int 3)))) (wNot (wTest (wOp1 (oIsi [.tup]) (wOp2 oIx (wVar 1) (wC (.int 0)))))))) (wRet (wC (.bl false))) wSkip)
    (wSeq (wIf (wOr (wTest (wOp2 oNe (wCall (one oLen) (wCons (wOp2 oIx (wVar 1) (wC (.int 0))) wNil)) (wOp2 oAdd (wCall (one oLen) (wCons (wVar 0) wNil)) (wC (.int 1))))) (wTest (wOp2 oIn (wC (.bl false)) (wFr (wComp (wIt (wOp2 oIx (wVar 1) (wC (.int 0)))) (gN 2) wYes (wCall c_law_is_between (wCons (wVar 2) (wCons (wC (.int (-99))) (wCons (wC (.int 99)) wNil)))) [2]))))) (wRet (wC (.bl false))) wSkip)
    (wRet (wAndV (wCall c_law_is_between (wCons (wOp2 oIx (wVar 1) (wC (.int 1))) (wCons (wC (.int (-9999))) (wCons (wC (.int 9999)) wNil)))) (wOp1 (oIsi [.bl]) (wOp2 oIx (wVar 1) (wC (.int 2))))))))
def c_law_is_condition : CS := wDef 2 3 (w_law_is_condition)
/-- _law_is_knowledge 62b23910 -/
def w_law_is_knowledge : WS :=
    (wSeq (wIf (wOr (wNot (wTest (wOp1 (oIsi [.tup]) (wVar 0)))) (wOr (wTest (wOp2 oNe (wCall (one oLen) (wCons (wVar 0) wNil)) (wC (.int 2)))) (wNot (wTest (wOp1 (oIsi [.str]) (wOp2 oIx (wVar 0) (wC (.int 0)))))))) (wRet (wC (.bl false))) wSkip)
    (wSeq (wAsg (wVar 0) (gT 2 (gsC (gN 1) (gsC (gN 2) gsN))))
    (wSeq (wIf (wOr (wNot (wTest (wChain oLe oLe (wC (.int 1)) (wCall (one oLen) (wCons (wVar 1) wNil)) (wC (.int 4))))) (wTest (wOp2 oNe (wFr (wList (wVar 1))) (wFr (wSrtSetT (wVar 1)))))) (wRet (wC (.bl false))) wSkip)
    (wSeq (wIf (wOr (wTest (wOp2 oNe (wFr (wComp (wIt (wVar 1)) (gN 3) (wNot (wTest (wChain oLe oLe (wC (.str "!")) (wVar 3) (wC (.str "~"))))) (wVar 3) [3])) (wFr (wLst wNil)))) (wOr (wNot (wTest (wOp1 (oIsi [.tup]) (wVar 2)))) (wTest (wOp2 oGt (wCall (one oLen) (wCons (wVar 2) wNil)) (wC (.int 8)))))) (wRet (wC (.bl false))) wSkip)
    (wRet (wOp2 oNotIn (wC (.bl false)) (wFr (wComp (wIt (wVar 2)) (gN 4) wYes (wCall c_law_is_condition (wCons (wVar 1) (wCons (wVar 4) wNil))) [4]))))))))
def c_law_is_knowledge : CS := wDef 1 5 (w_law_is_knowledge)
/-- _law_bend 459d60e0 -/
def w_law_bend (me : CS) : WS :=
    (wSeq (wIf (wOr (wNot (wTest (wOp1 (oIsi [.tup]) (wVar 1)))) (wOr (wTest (wOp2 oEqN (wVar 1) (wTup wNil))) (wTest (wOp2 oEq (wCall c_law_take (wCons (wVar 0) (wCons (wC (.int 8)) wNil))) (wC (.int 0)))))) (wSeq (wSet 2 (wFr (wLst (wCons (wC .non) (wCons (wC (.bl true)) (wCons (wC (.bl false)) (wCons (wC (.int 0)) (wCons (wC (.int 1)) (wCons (wC (.int 2)) (wCons (wC (.int (-1))) (wCons (wC (.int 20)) (wCons (wC (.int 21)) (wCons (wC (.int 99)) (wCons (wC (.int 100)) (wCons (wC (.int (-99))) (wCons (wC (.int (-100))) (wCons (wC (.int 9999)) (wCons (wC (.int 10000)) (wCons (wC (.int (-9999))) (wCons (wC (.int (-10000))) (wCons (wC (.str "")) (wCons (wC (.str "a")) (wCons (wC (.str "ba")) wNil)))))))))))))))))))))))
    (wRet (wCall c_law_one_of (wCons (wVar 0) (wCons (wOp2 oAdd (wVar 2) (wFr (wLst (wCons (wC (.str "aa")) (wCons (wC (.str "abcde")) (wCons (wC (.str " a")) (wCons (wC (.str "a ")) (wCons (wC (.str "\n")) (wCons (wTup wNil) (wCons (wFr (wLst wNil)) (wCons wD0 (wCons (wC (.str "0")) (wCons (wTup (wCons (wC (.int 0)) (wCons (wC (.int 0)) wNil))) wNil))))))))))))) wNil))))) wSkip)
    (wSeq (wPar 3 4 (wCall c_law_take (wCons (wVar 0) (wCons (wCall (one oLen) (wCons (wVar 1) wNil)) wNil))) (wCall c_law_take (wCons (wVar 0) (wCons (wC (.int 12)) wNil))))
    (wSeq (wIf (wTest (wOp2 oLt (wVar 4) (wC (.int 9)))) (wRet (wOp2 oAdd (wOp2 oAdd (wSl (wVar 1) wONo (wOSo (wVar 3))) (wTup (wCons (wCall me (wCons (wVar 0) (wCons (wOp2 oIx (wVar 1) (wVar 3)) wNil))) wNil))) (wSl (wVar 1) (wOSo (wOp2 oAdd (wVar 3) (wC (.int 1)))) wONo))) wSkip)
    (wRet (wOp2 oIx (wFr (wLst (wCons (wOp2 oAdd (wSl (wVar 1) wONo (wOSo (wVar 3))) (wSl (wVar 1) (wOSo (wOp2 oAdd (wVar 3) (wC (.int 1)))) wONo)) (wCons (wOp2 oAdd (wSl (wVar 1) wONo (wOSo (wOp2 oAdd (wVar 3) (wC (.int 1))))) (wSl (wVar 1) (wOSo (wVar 3)) wONo)) (wCons (wFr (wList (wVar 1))) wNil))))) (wOp2 oSub (wVar 4) (wC (.int 9))))))))
def c_law_bend : Nat → CS
  | 0 => fun _ _ _ => False
  | n + 1 => wDef 2 5 (w_law_bend (c_law_bend n))
/-- _law_any_letters fbcdb55f -/
def w_law_any_letters : WS :=
    (wSeq (wSet 1 (wC (.str "!\"#$&'()*+,-./0123456789:;<=>?@ABCDEFGHIJKLMNOPQRSTUVWXYZ[\\]^_`abcdefghijklmnopqrstuvwxyz{|}~")))
    (wRet (wMeth fJoin (wC (.str "")) (wCons (wFr (wSrtSetT (wFr (wComp (wRange1 (wOp2 oAdd (wC (.int 1)) (wCall c_law_take (wCons (wVar 0) (wCons (wC (.int 4)) wNil))))) (gN 2) wYes (wCall c_law_one_of (wCons (wVar 0) (wCons (wVar 1) wNil))) [2])))) wNil))))
def c_law_any_letters : CS := wDef 1 3 (w_law_any_letters)
/-- _law_fonts_near d5eba509 -/
def w_law_fonts_near : WS :=
    (wSeq (wAsg (wVar 2) (gT 2 (gsC (gN 3) (gsC (gN 4) gsN))))
    (wSeq (wSet 5 (wCall c_law_one_of (wCons (wVar 0) (wCons (wFr (wLst (wCons (wC (.int 2)) (wCons (wC (.int 3)) (wCons (wC (.int 5)) (wCons (wC (.int 7)) (wCons (wC (.int 11)) (wCons (wC (.int 13)) (wCons (wC (.int 23)) (wCons (wC (.int 101)) (wCons (wC (.int 10007)) wNil))))))))))) wNil))))
    (wSeq (wSet 6 (wFr (wLst (wCons (wVar 2) (wCons (wTup (wCons (wOp2 oMul (wVar 3) (wVar 5)) (wCons (wCall (one oTuple) (wCons (wFr (wComp (wIt (wVar 4)) (gN 9) wYes (wOp2 oMul (wVar 5) (wVar 9)) [9])) wNil)) wNil))) (wCons (wTup (wCons (wVar 3) (wCons (wOp1 oRevT (wVar 4)) wNil))) (wCons (wTup (wCons (wC (.int 0)) (wCons (wVar 4) wNil))) (wCons (wTup (wCons (wC (.int (-1))) (wCons (wVar 4) wNil))) wNil))))))))
    (wSeq (wSet 6 (wOp2 oAdd (wOp2 oAdd (wVar 6) (wFr (wComp (wRange1 (wC (.int 6))) (gN 10) wYes (wCall (c_law_bend 12) (wCons (wVar 0) (wCons (wVar 2) wNil))) [10]))) (wFr (wLst (wCons (wTup (wCons (wVar 3) (wCons (wCall (one oTuple) (wCons (wOp2 oMul (wFr (wLst (wCons (wOp2 oAdd (wOp2 oMul (wC (.int 20)) (wVar 3)) (wC (.int 1))) wNil))) (wCall (one oLen) (wCons (wVar 4) wNil))) wNil)) wNil))) wNil)))))
    (wSeq (wSet 7 (wOp2 oAdd (wOp2 oPow (wC (.int 10)) (wC (.int 12))) (wCall c_law_take (wCons (wVar 0) (wCons (wOp2 oPow (wC (.int 10)) (wC (.int 12))) wNil)))))
    (wSeq (wSet 8 (wCall c_law_plain (wCons (wVar 7) (wCons (wFr (wComp (wIt (wOp2 oAdd (wC (.str " ")) (wVar 1))) (gN 11) wYes (wCall c_law_take (wCons (wVar 0) (wCons (wOp2 oAdd (wOp2 oMul (wC (.int 20)) (wVar 7)) (wC (.int 1))) wNil))) [11])) wNil))))
    (wSeq (wSet 6 (wOp2 oAdd (wVar 6) (wFr (wLst (wCons (wVar 8) (wCons (wTup (wCons (wOp2 oMul (wOp2 oIx (wVar 8) (wC (.int 0))) (wOp2 oAdd (wOp2 oPow (wC (.int 10)) (wC (.int 9))) (wC (.int 7)))) (wCons (wCall (one oTuple) (wCons (wFr (wComp (wIt (wOp2 oIx (wVar 8) (wC (.int 1)))) (gN 9) wYes (wOp2 oMul (wVar 9) (wOp2 oAdd (wOp2 oPow (wC (.int 10)) (wC (.int 9))) (wC (.int 7)))) [9])) wNil)) wNil))) wNil))))))
    (wRet (wOp2 oAdd (wVar 6) (wFr (wLst (wCons (wTup (wCons (wVar 3) (wCons (wOp2 oAdd (wVar 4) (wTup (wCons (wOp2 oAdd (wOp2 oMul (wC (.int 20)) (wVar 3)) (wC (.int 1))) wNil))) wNil))) (wCons (wTup (wCons (wVar 3) (wCons (wOp2 oAdd (wSl (wVar 4) (wOSo (wC (.int 1))) (wOSo (wC (.int (-1))))) (wTup (wCons (wC (.int (-1))) wNil))) wNil))) (wCons (wCall (c_law_bend 12) (wCons (wVar 0) (wCons (wOp2 oIx (wVar 6) (wC (.int 5))) wNil))) wNil))))))))))))))
def c_law_fonts_near : CS := wDef 3 12 (w_law_fonts_near)
/-- _law_values_near 4dc33160 -/
def w_law_values_near : WS :=
    (wSeq (wAsg (wVar 1) (gT 2 (gsC (gN 2) (gsC (gN 3) gsN))))
    (wSeq (wPar 4 5 (wFr (wLst (wCons (wVar 1) (wCons (wTup (wCons (wVar 2) (wCons (wOp2 oMulZ (wVar 3) (wC (.int 9))) wNil))) (wCons (wTup (wCons (wOp1 oRevS (wVar 2)) (wCons (wVar 3) wNil))) wNil))))) (wCall c_law_take (wCons (wVar 0) (wCons (wCall (one oLen) (wCons (wVar 2) wNil)) wNil))))
    (wSeq (wSet 4 (wOp2 oAdd (wVar 4) (wFr (wLst (wCons (wTup (wCons (wOp2 oAdd (wSl (wVar 2) wONo (wOSo (wOp2 oAdd (wVar 5) (wC (.int 1))))) (wSl (wVar 2) (wOSo (wVar 5)) wONo)) (wCons (wTup wNil) wNil))) (wCons (wTup (wCons (wOp2 oAdd (wSl (wVar 2) wONo (wOSo (wVar 5))) (wOp1 oRevS (wSl (wVar 2) (wOSo (wVar 5)) wONo))) (wCons (wTup wNil) wNil))) wNil))))))
    (wSeq (wSet 4 (wOp2 oAdd (wVar 4) (wFr (wLst (wCons (wTup (wCons (wC (.str "edcba")) (wCons (wTup wNil) wNil))) (wCons (wTup (wCons (wC (.str "aabbc")) (wCons (wTup wNil) wNil))) (wCons (wTup (wCons (wC (.str " abcd")) (wCons (wTup wNil) wNil))) (wCons (wTup (wCons (wCall (one oTupS) (wCons (wVar 2) wNil)) (wCons (wVar 3) wNil))) (wCons (wTup (wCons (wFr (wList (wVar 2))) (wCons (wVar 3) wNil))) wNil)))))))))
    (wSeq (wSet 4 (wOp2 oAdd (wVar 4) (wFr (wComp (wRange1 (wC (.int 8))) (gN 6) wYes (wCall (c_law_bend 12) (wCons (wVar 0) (wCons (wVar 1) wNil))) [6]))))
    (wRet (wOp2 oAdd (wVar 4) (wFr (wLst (wCons (wCall (c_law_bend 12) (wCons (wVar 0) (wCons (wOp2 oIx (wVar 4) (wC (.int (-1)))) wNil))) wNil))))))))))
def c_law_values_near : CS := wDef 2 7 (w_law_values_near)
/-- law dd6c8fe8 -/
def w_law (Fr : PySem.W.Frag) : WS :=
    (wSeq (wSet 1 (wCall (c_law_open Fr) (wCons (wVar 0) wNil)))
    (wSeq (wFor (wRange1 (wC (.int 5))) (gN 2) (wSeq (wSet 3 (wCall c_law_draw_knowledge (wCons (wVar 1) (wCons (wC (.int 8)) wNil))))
    (wSeq (wAsg (wVar 3) (gT 2 (gsC (gN 4) (gsC (gN 5) gsN))))
    (wSeq (wSet 6 (wCall c_law_draw_font (wCons (wVar 1) (wCons (wOp2 oAdd (wCall (one oLen) (wCons (wVar 4) wNil)) (wC (.int 1))) wNil))))
    (wSeq (wSet 7 (wCall c_law_draw_condition (wCons (wVar 1) (wCons (wVar 6) wNil))))
    (wSeq (wIf (wTest (wOp2 oNe (wFr (wLst (wCons (wCall c_is_knowledge (wCons (wVar 3) wNil)) (wCons (wCall c_is_font (wCons (wVar 4) (wCons (wVar 6) wNil))) (wCons (wCall c_is_condition (wCons (wVar 4) (wCons (wVar 7) wNil))) wNil))))) (wOp2 oMul (wFr (wLst (wCons (wC (.bl true)) wNil))) (wC (.int 3))))) (wRet (wC (.bl false))) wSkip)
    (wSeq (wSet 8 (wCall c_law_fonts_near (wCons (wVar 1) (wCons (wVar 4) (wCons (wVar 6) wNil)))))
    (wSeq (wSet 9 (wOp2 oAdd (wFr (wLst (wCons (wVar 7) wNil))) (wFr (wComp (wRange1 (wC (.int 8))) (gN 13) wYes (wCall (c_law_bend 12) (wCons (wVar 1) (wCons (wVar 7) wNil))) [13]))))
    (wSeq (wIf (wTest (wOp2 oIsNot (wCall c_is_knowledge (wCons (wTup (wCons (wCall c_law_any_letters (wCons (wVar 1) wNil)) (wCons (wTup wNil) wNil))) wNil)) (wC (.bl true)))) (wRet (wC (.bl false))) wSkip)
    (wSeq (wSet 10 (wCall c_law_values_near (wCons (wVar 1) (wCons (wVar 3) wNil))))
    (wSeq (wSet 11 (wCall (one oReprX) (wCons (wTup (wCons (wVar 8) (wCons (wVar 9) (wCons (wVar 10) wNil)))) wNil)))
    (wSeq (wIf (wNot (wTest (wCall (c_law_same 12) (wCons (wFr (wComp (wIt (wVar 8)) (gN 12) wYes (wCall c_is_font (wCons (wVar 4) (wCons (wVar 12) wNil))) [12])) (wCons (wFr (wComp (wIt (wVar 8)) (gN 12) wYes (wCall c_law_is_font (wCons (wVar 4) (wCons (wVar 12) wNil))) [12])) wNil))))) (wRet (wC (.bl false))) wSkip)
    (wSeq (wFor (wIt (wVar 9)) (gN 12) (wIf (wNot (wTest (wCall (c_law_same 12) (wCons (wCall c_is_condition (wCons (wVar 4) (wCons (wVar 12) wNil))) (wCons (wCall c_law_is_condition (wCons (wVar 4) (wCons (wVar 12) wNil))) wNil))))) (wRet (wC (.bl false))) wSkip))
    (wSeq (wFor (wIt (wVar 10)) (gN 12) (wIf (wNot (wTest (wCall (c_law_same 12) (wCons (wCall c_is_knowledge (wCons (wVar 12) wNil)) (wCons (wCall c_law_is_knowledge (wCons (wVar 12) wNil)) wNil))))) (wRet (wC (.bl false))) wSkip))
    (wIf (wTest (wOp2 oNe (wCall (one oReprX) (wCons (wTup (wCons (wVar 8) (wCons (wVar 9) (wCons (wVar 10) wNil)))) wNil)) (wVar 11))) (wRet (wC (.bl false))) wSkip)))))))))))))))
    (wRet (wC (.bl true)))))
def c_law (Fr : PySem.W.Frag) : CS := wDef 1 14 (w_law Fr)
end G

set_option Elab.async false
set_option linter.all false
set_option maxRecDepth 100000
set_option autoImplicit false
set_option maxHeartbeats 2000000
namespace G
open PySem PySem.Spec PyProof.Rows L2
local macro_rules
  | `(tactic| get_elem_tactic_trivial) => `(tactic| first
    | (with_reducible first
      | refine st_seqSet ?_ | refine st_seqAsg ?_ | refine st_seqDo ?_ | refine st_seqPar ?_ | refine st_seqPar3 ?_ | refine st_seqFor ?_ | refine st_seqWhile ?_ | refine st_seqAug ?_ | refine st_seqSkip ?_ | refine st_seqRet ?_
      | refine st_skip ?_ | refine st_ret ?_ | refine st_retN ?_ | refine st_do ?_ | refine st_if ?_ | refine st_set ?_ | refine st_asg ?_ | refine st_par ?_ | refine st_par3 ?_
      | refine st_c ?_ | refine st_op2 ?_ | refine st_op1 ?_ | refine st_test ?_ | refine st_tbl ?_ | refine st_and ?_ | refine st_or ?_ | refine st_not ?_ | refine st_andV ?_ | refine st_orV ?_ | refine st_notV ?_ | refine st_bl ?_
      | refine st_chain ?_ | refine st_ifE ?_ | refine st_nil ?_ | refine st_cons ?_ | refine st_call ?_ | refine st_fr ?_ | refine st_lv ?_ | refine st_one ?_ | refine st_two ?_
      | refine st_gN ?_ | refine st_lst ?_ | refine st_tup ?_ | refine st_slF ?_ | refine st_oNo ?_ | refine st_oS ?_ | refine st_enum ?_ | refine st_scr ?_ | refine st_list ?_ | refine st_it ?_ | refine st_comp ?_ | refine st_for ?_ | refine st_gIx ?_ | refine st_range1 ?_ | refine st_app ?_ | refine st_zip ?_ | refine st_rev1 ?_ | refine st_meth ?_ | refine st_isS ?_ | refine st_count ?_ | refine st_sl ?_ | refine st_slT ?_ | refine st_slL ?_ | refine st_max2 ?_ | refine st_min2 ?_
      | refine st_add ?_ | refine st_sub ?_ | refine st_int ?_ | refine st_neg ?_ | refine st_lt ?_ | refine st_le ?_ | refine st_gt ?_ | refine st_ge ?_ | refine st_eq ?_ | refine st_ne ?_ | refine st_eqB ?_ | refine st_neB ?_ | refine st_eqS ?_ | refine st_neS ?_ | refine st_isN ?_ | refine st_sorted ?_ | refine st_abs ?_ | refine st_isNotN ?_
      | refine br_t ?_ | refine br_f ?_)
    | ((with_reducible refine st_var (d := ?_) ?_ ?_); rotate_left; (exact rfl))
    | ((with_reducible refine st_isi2 (k := ?_) (b := true) ?_ ?_ ?_); rotate_left; (exact rfl); (exact rfl))
    | ((with_reducible refine st_isi2 (k := ?_) (b := false) ?_ ?_ ?_); rotate_left; (exact rfl); (exact rfl))
    | ((with_reducible refine st_ix (ds := ?_) (d := ?_) ?_ ?_ ?_); rotate_left 2; (first | exact rfl | exact seq_at (by assumption)); (exact rfl))
    | ((with_reducible refine st_len2 (ds := ?_) (n := ?_) ?_ ?_ ?_); rotate_left 2; (first | exact rfl | exact seq_at (by assumption)); (exact rfl))
    | ((with_reducible refine st_addLL (a := ?_) (b := ?_) ?_ ?_ ?_ ?_); rotate_left 2; (first | exact rfl | exact lst_at (by assumption)); (first | exact rfl | exact lst_at (by assumption)); (exact Nat.le_of_ble_eq_true rfl))
    | ((with_reducible refine st_pow ?_ ?_); (exact ⟨by decide, by decide, by decide⟩))
    | ((with_reducible refine st_mod ?_ ?_); (first | decide | omega))
    | ((with_reducible refine st_size ?_ ?_); (exact rfl))
    | ((with_reducible refine st_gT2 ?_ ?_); (exact rfl))
    | ((with_reducible refine st_gsC ?_))
    | ((with_reducible refine st_gsN ?_))
    | ((with_reducible refine st_mulS ?_ ?_ ?_); omega; omega)
    | ((with_reducible refine br_ct ?_ ?_); (exact rfl))
    | ((with_reducible refine br_cf ?_ ?_); (exact rfl))
    | (rw [list_tup])
    | (rw [list_lst])
    | (rw [items_tup])
    | (rw [items_lst])
    | ((refine st_listM (ds := ?_) ?_ ?_); rotate_left; (first | exact rfl | exact seq_at (by assumption)))
    | ((refine st_itM (it := ?_) ?_ ?_); rotate_left; (first | exact rfl | exact it_at (by assumption))))

/-! ### the pen -/
def Pn (n : Nat) (S : Sto) (p : Addr) : Prop := ∃ (cs : List Int) (a v : Int), S p = some (.lst [.lst (cs.map D.int), .int a, .int v]) ∧ 0 ≤ a ∧ a ≤ n
def isP (d : D) : Prop := ∃ p : Int, d = .int p ∧ 2147483323 ≤ p ∧ p ≤ 2147483629
theorem isP_int {p : Int} (h : (decide (2147483323 ≤ p) && decide (p ≤ 2147483629)) = true) : isP (.int p) := by
  simp at h
  exact ⟨p, rfl, h⟩
theorem sp_spread {c a : Int} {S : Sto} {K : KE} (ha : 0 ≤ a) (ha2 : a < 2 ^ 24) (h : ∀ r, K (.int r) S) : c_law_spread [.int c, .int a] S K := by
  refine st_def rfl ?_
  unfold w_law_spread
  repeat (first | get_elem_tactic_trivial | with_reducible refine st_seq ?_)
  refine br_b (fun _ => ?_) fun _ => ?_
  · repeat (first | get_elem_tactic_trivial | with_reducible refine st_seq ?_)
    exact fin.of (h _)
  repeat (first | get_elem_tactic_trivial | with_reducible refine st_seq ?_)
  have hc : 0 ≤ c % 1000000007 ∧ c % 1000000007 < 1000000007 := by omega
  have hd : 0 ≤ c % 65537 ∧ c % 65537 < 65537 := by omega
  generalize c % 1000000007 = u at *
  generalize c % 65537 = w at *
  have b1 := bnd_mul (x := u) (y := 2 * a + 69069) (X := 2 ^ 30) (Y := 2 ^ 26) (by omega) (by omega) (by omega) (by omega)
  refine st_pow ⟨by decide, by decide, by omega⟩ ?_
  repeat (first | get_elem_tactic_trivial | with_reducible refine st_seq ?_)
  refine st_ixAll rfl (by omega) (by show _ < (13 : Int); omega) fun d hd1 => ?_
  have hp : isP d := by
    simp only [List.mem_append, List.mem_cons, List.not_mem_nil, or_false] at hd1
    rcases hd1 with (rfl | rfl | rfl | rfl | rfl | rfl | rfl | rfl) | (rfl | rfl | rfl | rfl | rfl) <;> exact isP_int rfl
  obtain ⟨p, rfl, p1, p2⟩ := hp
  repeat (first | get_elem_tactic_trivial | with_reducible refine st_seq ?_)
  obtain ⟨o, eo⟩ : ∃ o, o = (u * (2 * a + 69069) + a * 40503 + 977) ^ Int.toNat 3 % p := ⟨_, rfl⟩
  have o1 : 0 ≤ o := eo ▸ Int.emod_nonneg _ (by omega)
  have o2 : o < p := eo ▸ Int.emod_lt_of_pos _ (by omega)
  rw [← eo]
  clear eo
  repeat (first | get_elem_tactic_trivial | with_reducible refine st_seq ?_)
  have hd : 0 ≤ c % 65537 ∧ c % 65537 < 65537 := by omega
  generalize c % 65537 = w at *
  have b2 := bnd_mul (x := o) (y := a + 3) (X := 2 ^ 31) (Y := 2 ^ 25) (by omega) (by omega) (by omega) (by omega)
  refine st_pow ⟨by decide, by decide, by omega⟩ ?_
  repeat (first | get_elem_tactic_trivial | with_reducible refine st_seq ?_)
  refine st_ixAll rfl (by omega) (by show _ < (13 : Int); omega) fun d hd1 => ?_
  have hp : isP d := by
    simp only [List.mem_append, List.mem_cons, List.not_mem_nil, or_false] at hd1
    rcases hd1 with (rfl | rfl | rfl | rfl | rfl | rfl | rfl | rfl) | (rfl | rfl | rfl | rfl | rfl) <;> exact isP_int rfl
  obtain ⟨q, rfl, q1, q2⟩ := hp
  repeat (first | get_elem_tactic_trivial | with_reducible refine st_seq ?_)
  obtain ⟨o', eo⟩ : ∃ o', o' = (o * (a + 3) + w + 5) ^ Int.toNat 5 % q := ⟨_, rfl⟩
  have o3 : 0 ≤ o' := eo ▸ Int.emod_nonneg _ (by omega)
  have o4 : o' < q := eo ▸ Int.emod_lt_of_pos _ (by omega)
  rw [← eo]
  clear eo
  refine st_pow ⟨by decide, by decide, by omega⟩ ?_
  repeat (first | get_elem_tactic_trivial | with_reducible refine st_seq ?_)
  refine st_ixAll rfl (by omega) (by show _ < (13 : Int); omega) fun d hd1 => ?_
  have hp : isP d := by
    simp only [List.mem_append, List.mem_cons, List.not_mem_nil, or_false] at hd1
    rcases hd1 with (rfl | rfl | rfl | rfl | rfl | rfl | rfl | rfl) | (rfl | rfl | rfl | rfl | rfl) <;> exact isP_int rfl
  obtain ⟨q', rfl, q3, q4⟩ := hp
  repeat (first | get_elem_tactic_trivial | with_reducible refine st_seq ?_)
  have b3 := bnd_mul (x := o) (y := 2147483647) (X := 2 ^ 31) (Y := 2 ^ 31) (by omega) (by omega) (by omega) (by omega)
  repeat (first | get_elem_tactic_trivial | with_reducible refine st_seq ?_)
  exact fin.of (h _)
/-- other places are as they were -/
def Oth (p : Addr) (S S' : Sto) : Prop := ∀ b, b ≠ p → S' b = S b
theorem Oth.refl {p : Addr} {S : Sto} : Oth p S S := fun _ _ => rfl
theorem Oth.set {p : Addr} {S S' : Sto} {c : Cell} (h : Oth p S S') : Oth p S (S'.set p c) := fun b n => (Sto.set_ne n).trans (h b n)
theorem Oth.trans {p : Addr} {A B C : Sto} (h : Oth p A B) (k : Oth p B C) : Oth p A C := fun b n => (k b n).trans (h b n)
theorem sp_take {n : Nat} {p : Addr} {m : Int} {S : Sto} {K : KE} (hp : Pn n S p) (hn : n < 2 ^ 23) (hm : 0 < m) (hm2 : m.natAbs < 2 ^ 250) (h : ∀ r S', 0 ≤ r → r < m → Pn (n + 1) S' p → Oth p S S' → K (.int r) S') : c_law_take [.cell p, .int m] S K := by
  obtain ⟨cs, a, v, e, a1, a2⟩ := hp
  refine st_def rfl ?_
  unfold w_law_take
  refine ⟨fun ρ1 S1 => ∃ (x2 x3 : Option D) (a' v' : Int), ρ1 = [some (.cell p), some (.int m), x2, x3, none] ∧ S1 p = some (.lst [.lst (cs.map D.int), .int a', .int v']) ∧ 0 ≤ a' ∧ a' ≤ n + 1 ∧ Oth p S S1, ?_, ?_⟩
  · repeat get_elem_tactic_trivial
    refine br_b (fun _ => ?_) fun _ => ?_
    · repeat get_elem_tactic_trivial
      refine ⟨fun ρ1 S1 => S1 = S ∧ ∃ c : Int, ρ1 = [some (.cell p), some (.int m), some (.int a), some (.int c), none], ?_, ?_⟩
      · repeat get_elem_tactic_trivial
        refine br_b (fun e1 => ?_) fun e1 => ?_
        · have e1 := of_decide_eq_true e1
          repeat get_elem_tactic_trivial
          refine st_ixAll rfl a1 e1 fun d hd => ?_
          obtain ⟨c, _, ec⟩ := List.mem_map.mp hd
          subst ec
          exact ⟨rfl, c, rfl⟩
        · repeat get_elem_tactic_trivial
          refine br_b (fun e2 => ?_) fun e2 => ?_
          · have e2 := of_decide_eq_true e2
            repeat get_elem_tactic_trivial
            refine st_ixAll rfl (Int.emod_nonneg _ (by omega)) (Int.emod_lt_of_pos _ (by omega)) fun d hd => ?_
            obtain ⟨c, _, ec⟩ := List.mem_map.mp hd
            subst ec
            repeat get_elem_tactic_trivial
            have e17 : (10 : Int) ^ Int.toNat 17 = 100000000000000000 := rfl
            refine st_mod (by omega) ?_
            exact ⟨rfl, _, rfl⟩
          · repeat get_elem_tactic_trivial
            exact ⟨rfl, _, rfl⟩
      · intro ρ1 S1 ⟨e1, c, e2⟩
        subst e1 e2
        repeat get_elem_tactic_trivial
        refine st_ixM2 (ds' := [.lst (cs.map D.int), .int (a + 1), .int v]) e rfl rfl ?_
        have e' : (S1.set p (.lst [.lst (cs.map D.int), .int (a + 1), .int v])) p = some (.lst [.lst (cs.map D.int), .int (a + 1), .int v]) := Sto.set_same
        repeat get_elem_tactic_trivial
        refine sp_spread a1 (by omega) fun r => ?_
        repeat get_elem_tactic_trivial
        refine ⟨_, _, _, _, rfl, e', rfl, rfl, ?_⟩
        exact ⟨_, _, a + 1, r, rfl, Sto.set_same, by omega, by omega, Oth.refl.set.set⟩
    · repeat get_elem_tactic_trivial
      exact ⟨_, _, a, v, rfl, e, a1, by omega, Oth.refl⟩
  · intro ρ1 S1 ⟨x2, x3, a', v', e1, e2, h1, h2, h3⟩
    subst e1
    repeat get_elem_tactic_trivial
    refine st_divS hm hm2 ?_
    repeat get_elem_tactic_trivial
    refine ⟨_, _, _, _, rfl, e2, rfl, rfl, ?_⟩
    repeat get_elem_tactic_trivial
    exact fin.of (h _ _ (Int.emod_nonneg _ (by omega)) (Int.emod_lt_of_pos _ hm) ⟨cs, a', v' / m, Sto.set_same, h1, by omega⟩ h3.set)
theorem sp_one_of {n : Nat} {p : Addr} {ds : List D} {S : Sto} {K : KE} (hp : Pn n S p) (hn : n < 2 ^ 23) (hm : 0 < ds.length) (hm2 : ds.length < 2 ^ 24) (h : ∀ d S', d ∈ ds → Pn (n + 1) S' p → Oth p S S' → K d S') : c_law_one_of [.cell p, .lst ds] S K := by
  refine st_def rfl ?_
  unfold w_law_one_of
  repeat (first | get_elem_tactic_trivial | with_reducible refine st_seq ?_)
  refine sp_take hp hn (by omega) (by omega) fun r S' r1 r2 hp' ho => ?_
  refine st_ixAll rfl r1 r2 fun d hd => ?_
  exact fin.of (h d S' hd hp' ho)
theorem sp_open {Fr : PySem.W.Frag} {ns : List Int} {S : Sto} {K : KE} (h : ∀ p S', Pn 0 S' p → K (.cell p) S') : c_law_open Fr [.scr Fr ns] S K := by
  refine st_def rfl ?_
  unfold w_law_open
  repeat (first | get_elem_tactic_trivial | with_reducible refine st_seq ?_)
  rw [cutD_map, show (some (12 : Int)) = some ((12 : Nat) : Int) from rfl, cut_lo]
  intro p np
  repeat (first | get_elem_tactic_trivial | with_reducible refine st_seq ?_)
  rw [cutD_map, show (some (12 : Int)) = some ((12 : Nat) : Int) from rfl, show (some (63 : Int)) = some ((63 : Nat) : Int) from rfl, cut_lh]
  repeat (first | get_elem_tactic_trivial | with_reducible refine st_seq ?_)
  have hc : (ns.drop 12).take (63 - 12) = [] ∨ (ns.take 12).length = 12 := by
    by_cases l : 12 ≤ ns.length
    · exact .inr (by rw [List.length_take]; omega)
    · exact .inl (by rw [List.drop_of_length_le (by omega)]; rfl)
  generalize (ns.drop 12).take (63 - 12) = ms at *
  generalize ns.take 12 = cs at *
  refine for_ind (I := fun ds ρ S1 => ∃ (k : Nat) (ms cs : List Int) (x0 x2 x3 : Option D), ds = ienum k (ms.map D.int) ∧ ρ = [x0, some (.cell p), x2, x3] ∧ S1 p = some (.lst (cs.map D.int)) ∧ (ms = [] ∨ cs.length = 12)) ⟨0, ms, cs, _, _, _, rfl, rfl, Sto.set_same, hc⟩ (fun ρ S1 ⟨k, ms, cs, x0, x2, x3, e1, e2, e3, e4⟩ => ⟨trivial, ?_⟩) fun d ds F ih ρ S1 ⟨k, ms, cs, x0, x2, x3, e1, e2, e3, e4⟩ => ⟨trivial, ?_⟩
  · subst e2
    repeat (first | get_elem_tactic_trivial | with_reducible refine st_seq ?_)
    refine st_frz ?_
    repeat (first | get_elem_tactic_trivial | with_reducible refine st_seq ?_)
    refine ⟨p, rfl, .inl ⟨_, e3, ?_⟩⟩
    repeat (first | get_elem_tactic_trivial | with_reducible refine st_seq ?_)
    intro q nq
    exact fin.of (h q _ ⟨cs, 0, 0, Sto.set_same, by omega, by omega⟩)
  · subst e2
    cases ms with
    | nil => cases e1
    | cons m ms =>
      injection e1 with e1 e5
      subst e1
      have l : cs.length = 12 := e4.elim (fun z => nomatch z) id
      repeat (first | get_elem_tactic_trivial | with_reducible refine st_seq ?_)
      refine st_ixAll (seq_at e3) (by omega) (by rw [List.length_map, l]; omega) fun d hd => ?_
      obtain ⟨c, _, ec⟩ := List.mem_map.mp hd
      subst ec
      repeat (first | get_elem_tactic_trivial | with_reducible refine st_seq ?_)
      refine st_ixM2 (ds' := (cs.set ((k : Int) % 12).toNat (c + m)).map D.int) (j := ((k : Int) % 12).toNat) e3 (ixN_in (by omega) (by rw [List.length_map, l]; omega)) (by rw [List.map_set]) ?_
      exact ih _ _ ⟨k + 1, ms, cs.set ((k : Int) % 12).toNat (c + m), _, _, _, e5, rfl, Sto.set_same, .inr (by rw [List.length_set]; exact l)⟩
theorem isInt_mem {d : D} {ds : List D} (h : d ∈ ds) (k : (ds.all fun d => match d with
    | .int _ => true
    | _ => false) = true) : ∃ w, d = .int w := by
  have := List.all_eq_true.mp k d h
  cases d <;> first | exact ⟨_, rfl⟩ | cases this
theorem Pn.mono {n m : Nat} {p : Addr} {S : Sto} (h : Pn n S p) (l : n ≤ m) : Pn m S p := by
  obtain ⟨cs, a, v, e, h1, h2⟩ := h
  exact ⟨cs, a, v, e, h1, by omega⟩
theorem Pn.ne {n : Nat} {p q : Addr} {S : Sto} (h : Pn n S p) (e : S q = none) : q ≠ p := fun z => by
  obtain ⟨cs, a, v, e1, _⟩ := h
  rw [z, e1] at e
  cases e
theorem Pn.setO {n : Nat} {p q : Addr} {S : Sto} {c : Cell} (h : Pn n S p) (z : q ≠ p) : Pn n (S.set q c) p := by
  obtain ⟨cs, a, v, e, h⟩ := h
  exact ⟨cs, a, v, (Sto.set_ne (Ne.symm z)).trans e, h⟩
theorem Pn.delO {n : Nat} {p q : Addr} {S : Sto} (h : Pn n S p) (z : q ≠ p) : Pn n (S.del q) p := by
  obtain ⟨cs, a, v, e, h⟩ := h
  exact ⟨cs, a, v, (Sto.del_ne (Ne.symm z)).trans e, h⟩
theorem Sub.del {S : Sto} {q : Addr} : Sub (S.del q) S := fun a c e => by
  by_cases z : a = q
  · rw [z, Sto.del_same] at e
    cases e
  · rw [Sto.del_ne z] at e
    exact e
/-- a cell of one's own is given up at the end -/
theorem Oth.drop {p q : Addr} {S S' : Sto} {c : Cell} (h : Oth p (S.set q c) S') (nq : S q = none) : Oth p S (S'.del q) := fun b n => by
  by_cases z : b = q
  · rw [z, Sto.del_same, nq]
  · rw [Sto.del_ne z, h b n, Sto.set_ne z]
theorem Oth.of2 {p q : Addr} {S S' : Sto} (h : ∀ b, b ≠ p → b ≠ q → S' b = S b) (nq : S q = none) : Oth p S (S'.del q) := fun b n => by
  by_cases z : b = q
  · rw [z, Sto.del_same, nq]
  · rw [Sto.del_ne z]
    exact h b n z
theorem sp_one_ofS {n : Nat} {p : Addr} {z : Str} {S : Sto} {K : KE} (hp : Pn n S p) (hn : n < 2 ^ 23) (hm : 0 < z.length) (hm2 : z.length < 2 ^ 24) (h : ∀ c S', c ∈ TL.tl z → Pn (n + 1) S' p → Oth p S S' → K (.str ⟨#[c]⟩) S') : c_law_one_of [.cell p, .str z] S K := by
  refine st_def rfl ?_
  unfold w_law_one_of
  repeat get_elem_tactic_trivial
  refine st_lenS (by unfold sizeLine; omega) ?_
  repeat get_elem_tactic_trivial
  refine sp_take hp hn (by omega) (by omega) fun r S' r1 r2 hp' ho => ?_
  refine st_ixS (by unfold sizeLine; omega) r1 r2 fun c hc => ?_
  exact fin.of (h c S' hc hp' ho)
/-- a comprehension that draws: what each item costs -/
theorem comp_pen {p : Addr} {keep : Sto → Prop} {g : WG} {e : WE} {ρ : Rho} {K : List D → Sto → Prop} {items : List D} {S : Sto} {n : Nat} (c : Nat) (P : D → Prop) (hk : ∀ S1, Oth p S S1 → keep S1) (hp : Pn n S p) (l : items.length ≤ sizeLine)
    (hs : ∀ d, d ∈ items → ∀ n1 S1, n1 + c ≤ n + c * items.length → Pn n1 S1 p → Oth p S S1 → ∀ (K1 : D → Sto → Prop) (F : Sto → Prop), (∀ r S2, P r → Pn (n1 + c) S2 p → Oth p S1 S2 → K1 r S2) → g d ρ S1 fun ρ1 S2 => (true = true → e ρ1 S2 K1) ∧ (true = false → F S2))
    (h : ∀ rs S1, rs.length = items.length → (∀ r, r ∈ rs → P r) → Pn (n + c * items.length) S1 p → Oth p S S1 → K rs S1) : compW keep g wYes e ρ items [] S K := by
  refine comp_ind (I := fun ds acc S1 => ∃ n1, acc.length + ds.length = items.length ∧ (∀ r, r ∈ acc → P r) ∧ (∀ d, d ∈ ds → d ∈ items) ∧ n1 + c * ds.length = n + c * items.length ∧ Pn n1 S1 p ∧ Oth p S S1) ⟨n, by simp, fun r z => by simp at z, fun _ z => z, rfl, hp, Oth.refl⟩ (fun acc S1 ⟨n1, e1, e2, e3, e4, e5, e6⟩ => ⟨hk S1 e6, ?_⟩) fun d ds F ih acc S1 ⟨n1, e1, e2, e3, e4, e5, e6⟩ => ⟨hk S1 e6, ?_⟩
  · simp at e1 e4
    subst e4
    exact h acc S1 e1 e2 e5 e6
  · have em : c * (d :: ds).length = c * ds.length + c := by rw [List.length_cons, Nat.mul_add, Nat.mul_one]
    rw [em] at e4
    rw [List.length_cons] at e1
    refine hs d (e3 d (List.mem_cons_self ..)) n1 S1 (by omega) e5 e6 (fun y S3 => acc.length < sizeLine ∧ F (acc ++ [y]) S3) (F acc) fun r S2 hr hp2 ho2 => ⟨by omega, ih _ _ ⟨n1 + c, by simp; omega, fun x hx => ?_, fun x hx => e3 x (List.mem_cons_of_mem _ hx), by omega, hp2, e6.trans ho2⟩⟩
    rcases List.mem_append.mp hx with z | z
    · exact e2 x z
    · rw [List.mem_singleton.mp z]
      exact hr

def gcds (g : Nat) (ns : List Int) : Nat := ns.foldl (fun g n => Nat.gcd g n.natAbs) g
theorem gcds_dvd : ∀ (ns : List Int) (g : Nat), gcds g ns ∣ g
  | [], g => Nat.dvd_refl g
  | n :: ns, g => Nat.dvd_trans (gcds_dvd ns (Nat.gcd g n.natAbs)) (Nat.gcd_dvd_left g n.natAbs)
theorem strs_of {rs : List D} {Q : Str → Prop} (h : ∀ r, r ∈ rs → ∃ z, r = .str z ∧ Q z) : ∃ ys : List Str, rs = ys.map D.str ∧ ∀ y, y ∈ ys → Q y := by
  induction rs with
  | nil => exact ⟨[], rfl, fun y z => by simp at z⟩
  | cons r rs ih =>
    obtain ⟨z, rfl, hz⟩ := h r (List.mem_cons_self ..)
    obtain ⟨ys, rfl, hy⟩ := ih fun x hx => h x (List.mem_cons_of_mem _ hx)
    exact ⟨z :: ys, rfl, fun y hm => (List.mem_cons.mp hm).elim (fun e => e ▸ hz) (hy y)⟩
theorem ints_of {rs : List D} {Q : Int → Prop} (h : ∀ r, r ∈ rs → ∃ z, r = .int z ∧ Q z) : ∃ ys : List Int, rs = ys.map D.int ∧ ∀ y, y ∈ ys → Q y := by
  induction rs with
  | nil => exact ⟨[], rfl, fun y z => by simp at z⟩
  | cons r rs ih =>
    obtain ⟨z, rfl, hz⟩ := h r (List.mem_cons_self ..)
    obtain ⟨ys, rfl, hy⟩ := ih fun x hx => h x (List.mem_cons_of_mem _ hx)
    exact ⟨z :: ys, rfl, fun y hm => (List.mem_cons.mp hm).elim (fun e => e ▸ hz) (hy y)⟩
theorem lens_sum {ys : List Str} {b : Nat} (h : ∀ y, y ∈ ys → y.length ≤ b) : (ys.map (·.length)).sum ≤ ys.length * b := by
  have := sum_le (l := ys.map (·.length)) (b := b) fun x hx => by
    obtain ⟨y, hy, e⟩ := List.mem_map.mp hx
    rw [← e]
    exact h y hy
  rw [List.length_map] at this
  exact this
theorem tl_empty {P : Nat → Prop} : Sg P (Str.ofString "") := fun c hc => by
  have hc : c ∈ ([] : List Nat) := hc
  cases hc
abbrev LetC (c : Nat) : Prop := 33 ≤ c ∧ c < 128
abbrev TxtC (c : Nat) : Prop := 32 ≤ c ∧ c < 128
structure LetOk (l : Str) : Prop where
  l1 : 1 ≤ l.length
  l4 : l.length ≤ 4
  sg : Sg LetC l
  nd : (32 :: TL.tl l).Nodup
def letB (l : Str) : Bool := decide (1 ≤ l.length) && decide (l.length ≤ 4) && ((TL.tl l).all fun c => decide (33 ≤ c ∧ c < 128)) && decide (32 :: TL.tl l).Nodup
theorem LetOk.of {l : Str} (h : letB l = true) : LetOk l := by
  unfold letB at h
  rw [Bool.and_eq_true, Bool.and_eq_true, Bool.and_eq_true] at h
  refine ⟨of_decide_eq_true h.1.1.1, of_decide_eq_true h.1.1.2, fun c hc => ?_, of_decide_eq_true h.2⟩
  exact of_decide_eq_true (List.all_eq_true.mp h.1.2 c hc)
theorem LetOk.no {l : Str} (h : LetOk l) : 32 ∉ TL.tl l := (List.nodup_cons.mp h.nd).1
/-- a font -/
def fontD (u : Int) (ws : List Int) : D := .tup [.int u, .tup (ws.map D.int)]
structure FontOk (n : Nat) (u : Int) (ws : List Int) : Prop where
  u1 : 1 ≤ u
  u2 : u < 2 ^ 150
  len : ws.length = n
  ws : ∀ w, w ∈ ws → 0 ≤ w ∧ w < 2 ^ 160
theorem FontOk.bnd {n : Nat} {u : Int} {ws : List Int} (f : FontOk n u ws) : ∀ w, w ∈ ws → w.natAbs < 2 ^ 240 := fun w hw => by
  have := f.ws w hw
  omega
theorem dot_items (a b : List Int) : ((zipD (a.map D.int) (b.map D.int)).map fun d => match d with
    | .tup [.int x, .int y] => .int (x * y)
    | _ => .non) = ((List.zip a b).map fun p => p.1 * p.2).map D.int := by
  rw [zipD_ints, List.map_map, List.map_map]
  rfl
theorem sp_same {a b : Bool} {n : Nat} {S : Sto} {K : KE} (h : K (.bl (a == b)) S) : c_law_same (n + 1) [.bl a, .bl b] S K := by
  refine st_def rfl ?_
  unfold w_law_same
  repeat (first | get_elem_tactic_trivial | with_reducible refine st_seq ?_)
  exact fin.of h

/-- the sum of a condition -/
theorem sp_sumF {a : List Int} {u : Int} {b : List Int} {S : Sto} {K : KE} (hs : a.length ≤ 1000) (ha : ∀ x, x ∈ a → x.natAbs < 2 ^ 240) (hb : ∀ x, x ∈ b → x.natAbs < 2 ^ 240) (h : K (.int (dot a b)) S) : c_law_sum [.tup (a.map D.int), fontD u b] S K := by
  refine st_def rfl ?_
  unfold w_law_sum
  repeat get_elem_tactic_trivial
  refine ⟨_, _, rfl, rfl, fun z => (nomatch z), ?_⟩
  refine comp_map (f := fun d => match d with
    | .tup [.int x, .int y] => .int (x * y)
    | _ => .non) ⟨trivial, trivial⟩ (by rw [zipD_length, List.length_map, List.length_map]; unfold sizeLine; omega) (fun d hd K F k => ?_) ?_
  · rw [zipD_ints] at hd
    obtain ⟨⟨x, y⟩, hm, e⟩ := List.mem_map.mp hd
    subst e
    have hz := List.of_mem_zip hm
    have b1 := ha _ hz.1
    have b2 := hb _ hz.2
    repeat get_elem_tactic_trivial
    exact k
  · rw [dot_items]
    repeat get_elem_tactic_trivial
    exact st_sum rfl rfl (fin.of h)
/-! ### conditions -/
structure Cond where
  fs : List Int
  b : Int
  st : Bool
def condD (c : Cond) : D := .tup [.tup (c.fs.map D.int), .int c.b, .bl c.st]
structure CondOk (n : Nat) (c : Cond) : Prop where
  len : c.fs.length = n
  fs : ∀ f, f ∈ c.fs → f.natAbs ≤ 1000000
  b : c.b.natAbs < 2 ^ 190
def holdsB (c : Cond) (u : Int) (ws : List Int) : Bool := if c.st then decide (dot c.fs ws < c.b * u) else decide (dot c.fs ws ≤ c.b * u)
theorem CondOk.bnd {n : Nat} {c : Cond} (h : CondOk n c) : ∀ f, f ∈ c.fs → f.natAbs < 2 ^ 240 := fun f hf => by
  have := h.fs f hf
  omega
theorem sp_law_holds {n : Nat} {c : Cond} {u : Int} {ws : List Int} {S : Sto} {K : KE} (hn : n ≤ 1000) (hc : CondOk n c) (f : FontOk n u ws) (h : K (.bl (holdsB c u ws)) S) : c_law_holds [condD c, fontD u ws] S K := by
  unfold condD
  refine st_def rfl ?_
  unfold w_law_holds
  have fu1 := f.u1
  have fu2 := f.u2
  have cb : c.b.natAbs < 2 ^ 190 := hc.b
  have cl : c.fs.length = n := hc.len
  have cf : ∀ x, x ∈ c.fs → x.natAbs < 2 ^ 240 := hc.bnd
  repeat get_elem_tactic_trivial
  refine sp_sumF (by omega) cf f.bnd ?_
  unfold holdsB at h
  repeat get_elem_tactic_trivial
  refine br_b (fun e => ?_) fun e => ?_
  · rw [if_pos e] at h
    repeat get_elem_tactic_trivial
    exact fin.of h
  · rw [if_neg (by rw [e]; decide)] at h
    repeat get_elem_tactic_trivial
    exact fin.of h
/-! ### what is drawn -/
theorem sp_divisor {ns : List Int} {S : Sto} {K : KE} (h : K (.int ((gcds 0 ns : Nat) : Int)) S) : c_law_divisor [.lst (ns.map D.int)] S K := by
  refine st_def rfl ?_
  unfold w_law_divisor
  repeat get_elem_tactic_trivial
  refine for_ind (I := fun ds ρ S1 => S1 = S ∧ ∃ (x0 x2 x3 x4 : Option D) (g : Nat) (ms : List Int), ρ = [x0, some (.int (g : Nat)), x2, x3, x4] ∧ ds = ms.map D.int ∧ gcds g ms = gcds 0 ns) ⟨rfl, _, _, _, _, 0, ns, rfl, rfl, rfl⟩ (fun ρ S1 ⟨e1, x0, x2, x3, x4, g, ms, e2, e3, h2⟩ => ⟨trivial, ?_⟩) fun d ds F ih ρ S1 ⟨e1, x0, x2, x3, x4, g, ms, e2, e3, h2⟩ => ⟨trivial, ?_⟩
  · subst e1 e2
    cases ms with
    | cons m ms => cases e3
    | nil =>
      repeat get_elem_tactic_trivial
      have e : g = gcds 0 ns := h2
      rw [← e] at h
      exact fin.of h
  · subst e1 e2
    cases ms with
    | nil => cases e3
    | cons m ms =>
      injection e3 with e3 e4
      subst e3
      repeat get_elem_tactic_trivial
      refine while_ind (I := fun k ρ S2 => S2 = S1 ∧ ∃ a b : Nat, ρ = [x0, some (.int (g : Nat)), some (.int m), some (.int (a : Nat)), some (.int (b : Nat))] ∧ k = b ∧ Nat.gcd a b = Nat.gcd g m.natAbs) ⟨rfl, m.natAbs, g, rfl, rfl, Nat.gcd_comm ..⟩ fun k F2 ih2 ρ S2 ⟨z1, a, b, z2, z3, z4⟩ => ?_
      subst z1 z2 z3
      repeat get_elem_tactic_trivial
      refine br_b (fun e => ?_) fun e => ?_
      · have e : k ≠ 0 := by
          simp at e
          exact e
        repeat get_elem_tactic_trivial
        refine ih2 (a % k) (Nat.mod_lt _ (by omega)) _ _ ⟨rfl, k, a % k, rfl, rfl, ?_⟩
        rw [← z4, Nat.gcd_comm a k, Nat.gcd_rec k a, Nat.gcd_comm]
      · have eb : k = 0 := by
          simp at e
          exact e
        subst eb
        rw [Nat.gcd_zero_right] at z4
        repeat get_elem_tactic_trivial
        exact ih _ _ ⟨rfl, x0, _, _, _, a, ms, rfl, e4, by rw [← h2]; show gcds a ms = gcds (Nat.gcd g m.natAbs) ms; rw [z4]⟩
theorem sp_plain {k : Nat} {u : Int} {ws : List Int} {S : Sto} {K : KE} (hk : ws.length = k) (k1 : k ≤ 1000) (hu : 1 ≤ u) (hu2 : u < 2 ^ 150) (hw : ∀ w, w ∈ ws → 0 ≤ w ∧ w < 2 ^ 160) (h : ∀ u ws, FontOk k u ws → K (fontD u ws) S) : c_law_plain [.int u, .lst (ws.map D.int)] S K := by
  refine st_def rfl ?_
  unfold w_law_plain
  repeat get_elem_tactic_trivial
  refine st_addLL (a := [.int u]) (b := ws.map D.int) rfl rfl (by rw [List.length_map]; unfold sizeLine; simp; omega) ?_
  repeat get_elem_tactic_trivial
  have hg : gcds 0 (u :: ws) ∣ u.natAbs := by
    have e : gcds 0 (u :: ws) = gcds (Nat.gcd 0 u.natAbs) ws := rfl
    rw [e, Nat.gcd_zero_left]
    exact gcds_dvd ws _
  have hg2 : 0 < gcds 0 (u :: ws) := Nat.pos_of_dvd_of_pos hg (by omega)
  have hg3 : gcds 0 (u :: ws) ≤ u.natAbs := Nat.le_of_dvd (by omega) hg
  refine sp_divisor (ns := u :: ws) ?_
  generalize gcds 0 (u :: ws) = g at *
  repeat get_elem_tactic_trivial
  refine st_divS (by omega) (by omega) ?_
  repeat get_elem_tactic_trivial
  refine comp_map (f := fun d => match d with
    | .int w => .int (w / (g : Nat))
    | _ => .non) trivial (by show (ws.map D.int).length ≤ _; rw [List.length_map]; unfold sizeLine; omega) (fun d hd K F kk => ?_) ?_
  · obtain ⟨w, hw, e⟩ := List.mem_map.mp (show d ∈ ws.map D.int from hd)
    subst e
    repeat get_elem_tactic_trivial
    refine st_divS (by omega) (by omega) ?_
    exact kk
  · repeat get_elem_tactic_trivial
    refine st_tuple rfl ?_
    repeat get_elem_tactic_trivial
    have e : ((ws.map D.int).map fun d => match d with
      | .int w => .int (w / (g : Nat))
      | _ => .non) = (ws.map fun (w : Int) => w / ((g : Nat) : Int)).map D.int := by
      rw [List.map_map, List.map_map]
      rfl
    show fin K (.tup [.int (u / (g : Nat)), .tup ((ws.map D.int).map fun d => match d with
      | .int w => .int (w / (g : Nat))
      | _ => .non)]) _
    rw [e]
    have q1 : (1 : Int) ≤ u / (g : Nat) := by
      have := Int.le_ediv_of_mul_le (a := 1) (b := u) (c := (g : Nat)) (by omega) (by omega)
      exact this
    have q2 := Int.ediv_le_self (g : Nat) (show (0 : Int) ≤ u by omega)
    refine fin.of (h _ _ ⟨q1, by omega, by rw [List.length_map]; exact hk, fun w hm => ?_⟩)
    obtain ⟨x, hx, e⟩ := List.mem_map.mp hm
    have b := hw x hx
    subst e
    have d1 := Int.ediv_nonneg b.1 (show (0 : Int) ≤ (g : Nat) by omega)
    have d2 := Int.ediv_le_self (g : Nat) b.1
    omega
theorem sp_draw_font {n k : Nat} {p : Addr} {S : Sto} {K : KE} (hp : Pn n S p) (hn : n < 2 ^ 21) (h2 : k ≤ 100) (h : ∀ u ws S', FontOk k u ws → Pn (n + (3 * k + 1)) S' p → Oth p S S' → K (fontD u ws) S') : c_law_draw_font [.cell p, .int (k : Nat)] S K := by
  refine st_def rfl ?_
  unfold w_law_draw_font
  repeat get_elem_tactic_trivial
  refine sp_one_of hp (by omega) (by decide) (by decide) fun d S0 hd hp0 ho0 => ?_
  obtain ⟨u, rfl, u1, u2⟩ : ∃ b : Int, d = .int b ∧ 1 ≤ b ∧ b ≤ 7 := by
    simp only [List.mem_cons, List.not_mem_nil, or_false] at hd
    rcases hd with rfl | rfl | rfl | rfl | rfl <;> exact ⟨_, rfl, by decide, by decide⟩
  repeat get_elem_tactic_trivial
  refine ⟨_, rfl, by omega, by omega, ?_⟩
  refine comp_pen (p := p) (n := n + 1) 2 (fun d => ∃ z, d = .int z ∧ (0 ≤ z ∧ z ≤ 140)) (fun _ _ => trivial) hp0 (by rw [irange_length]; unfold sizeLine; omega) (fun d hd n1 S2 hb hp2 ho2 K1 F kk => ?_) fun rs S2 e1 e2 hp2 ho2 => ?_
  · rw [irange_length] at hb
    repeat get_elem_tactic_trivial
    refine sp_take hp2 (by omega) (by omega) (by omega) fun w S3 w1 w2 hp3 ho3 => ?_
    repeat get_elem_tactic_trivial
    refine sp_one_of hp3 (by omega) (Nat.le_of_ble_eq_true rfl) (Nat.le_of_ble_eq_true rfl) fun d S4 hd hp4 ho4 => ?_
    obtain ⟨z, rfl, z1, z2⟩ : ∃ b : Int, d = .int b ∧ 0 ≤ b ∧ b ≤ 140 := by
      simp only [List.mem_cons, List.not_mem_nil, or_false] at hd
      rcases hd with rfl | rfl | rfl | rfl <;> exact ⟨_, rfl, by omega, by omega⟩
    exact kk _ S4 ⟨_, rfl, z1, z2⟩ hp4 (ho3.trans ho4)
  · obtain ⟨ws, rfl, hw⟩ := ints_of e2
    rw [irange_length] at e1 hp2
    rw [List.length_map] at e1
    repeat get_elem_tactic_trivial
    refine comp_pen (p := p) (n := n + 1 + 2 * (k : Int).toNat) 1 (fun d => ∃ z, d = .int z ∧ (0 ≤ z ∧ z ≤ 140)) (fun _ _ => trivial) hp2 (by show (ws.map D.int).length ≤ _; rw [List.length_map]; unfold sizeLine; omega) (fun d hd n1 S3 hb hp3 ho3 K1 F kk => ?_) fun rs S3 f1 f2 hp3 ho3 => ?_
    · have hb : n1 + 1 ≤ n + 1 + 2 * (k : Int).toNat + 1 * (ws.map D.int).length := hb
      rw [List.length_map] at hb
      obtain ⟨w, hm, ed⟩ := List.mem_map.mp (show d ∈ ws.map D.int from hd)
      subst ed
      have bw := hw w hm
      repeat get_elem_tactic_trivial
      refine sp_one_of hp3 (by omega) (by decide) (by decide) fun d S4 hd hp4 ho4 => ?_
      obtain ⟨z, rfl, z1, z2⟩ : ∃ b : Int, d = .int b ∧ 6 ≤ b ∧ b ≤ 20 := by
        simp only [List.mem_cons, List.not_mem_nil, or_false] at hd
        rcases hd with rfl | rfl | rfl <;> exact ⟨_, rfl, by omega, by omega⟩
      repeat get_elem_tactic_trivial
      have bm := bnd_mul (x := z) (y := u) (X := 20) (Y := 7) (by omega) (by omega) (by omega) (by omega)
      exact kk _ S4 ⟨_, rfl, by split <;> omega, by split <;> omega⟩ hp4 ho4
    · have f1 : rs.length = (ws.map D.int).length := f1
      have hp3 : Pn (n + 1 + 2 * (k : Int).toNat + 1 * (ws.map D.int).length) S3 p := hp3
      obtain ⟨vs, rfl, hv⟩ := ints_of f2
      rw [List.length_map, List.length_map] at f1
      rw [List.length_map] at hp3
      repeat get_elem_tactic_trivial
      refine sp_plain (k := k) (by omega) (by omega) u1 (by omega) (fun w hm => by have := hv w hm; omega) fun u' ws' hf => ?_
      exact fin.of (h _ _ _ hf (hp3.mono (by omega)) ((ho0.trans ho2).trans ho3))
theorem sp_draw_condition {n k : Nat} {p : Addr} {u : Int} {ws : List Int} {S : Sto} {K : KE} (hp : Pn n S p) (hn : n < 2 ^ 21) (h2 : k ≤ 100) (hf : FontOk k u ws) (h : ∀ c S', CondOk k c → c.b.natAbs ≤ 9999 → (∀ f, f ∈ c.fs → f.natAbs ≤ 99) → Pn (n + (2 * k + 4)) S' p → Oth p S S' → K (condD c) S') : c_law_draw_condition [.cell p, fontD u ws] S K := by
  refine st_def rfl ?_
  unfold w_law_draw_condition
  have fu1 := hf.u1
  have fu2 := hf.u2
  have fl := hf.len
  repeat get_elem_tactic_trivial
  refine sp_one_of hp (by omega) (by decide) (by decide) fun d S0 hd hp0 ho0 => ?_
  obtain ⟨z, rfl, z1, z2⟩ : ∃ b : Int, d = .int b ∧ 1 ≤ b ∧ b ≤ 99 := by
    simp only [List.mem_cons, List.not_mem_nil, or_false] at hd
    rcases hd with rfl | rfl | rfl | rfl | rfl | rfl <;> exact ⟨_, rfl, by decide, by decide⟩
  repeat get_elem_tactic_trivial
  refine comp_pen (p := p) (n := n + 1) 2 (fun d => ∃ x, d = .int x ∧ x.natAbs ≤ 99) (fun _ _ => trivial) hp0 (by show (ws.map D.int).length ≤ _; rw [List.length_map]; unfold sizeLine; omega) (fun d hd n1 S2 hb hp2 ho2 K1 F kk => ?_) fun rs S2 e1 e2 hp2 ho2 => ?_
  · have hb : n1 + 2 ≤ n + 1 + 2 * (ws.map D.int).length := hb
    rw [List.length_map] at hb
    repeat get_elem_tactic_trivial
    refine sp_take hp2 (by omega) (by omega) (by omega) fun w S3 w1 w2 hp3 ho3 => ?_
    repeat get_elem_tactic_trivial
    refine sp_one_of hp3 (by omega) (Nat.le_of_ble_eq_true rfl) (Nat.le_of_ble_eq_true rfl) fun d S4 hd hp4 ho4 => ?_
    obtain ⟨y, rfl, y1⟩ : ∃ b : Int, d = .int b ∧ b.natAbs ≤ 99 := by
      simp only [List.mem_cons, List.not_mem_nil, or_false] at hd
      rcases hd with rfl | rfl | rfl | rfl <;> exact ⟨_, rfl, by omega⟩
    exact kk _ S4 ⟨_, rfl, y1⟩ hp4 (ho3.trans ho4)
  · have e1 : rs.length = (ws.map D.int).length := e1
    have hp2 : Pn (n + 1 + 2 * (ws.map D.int).length) S2 p := hp2
    obtain ⟨fs, rfl, hfs⟩ := ints_of e2
    rw [List.length_map, List.length_map] at e1
    rw [List.length_map] at hp2
    repeat get_elem_tactic_trivial
    refine st_tuple rfl ?_
    repeat get_elem_tactic_trivial
    refine sp_sumF (by omega) (fun x hx => by have := hfs x hx; omega) hf.bnd ?_
    repeat get_elem_tactic_trivial
    refine st_divS (by omega) (by omega) ?_
    repeat get_elem_tactic_trivial
    refine sp_take hp2 (by omega) (by omega) (by omega) fun w S3 w1 w2 hp3 ho3 => ?_
    repeat get_elem_tactic_trivial
    refine sp_one_of hp3 (by omega) (Nat.le_of_ble_eq_true rfl) (Nat.le_of_ble_eq_true rfl) fun d S4 hd hp4 ho4 => ?_
    obtain ⟨y, rfl⟩ := isInt_mem hd rfl
    repeat get_elem_tactic_trivial
    generalize dot fs ws / u + y = t
    obtain ⟨b, eb, b1⟩ : ∃ b : Int, b = (if (if t < 9999 then t else 9999) > -9999 then (if t < 9999 then t else 9999) else -9999) ∧ b.natAbs ≤ 9999 := ⟨_, rfl, by split <;> split <;> omega⟩
    rw [← eb]
    repeat get_elem_tactic_trivial
    refine sp_take hp4 (by omega) (by omega) (by omega) fun v S5 v1 v2 hp5 ho5 => ?_
    repeat get_elem_tactic_trivial
    exact fin.of (h ⟨fs, b, decide (v = 0)⟩ S5 ⟨by show fs.length = k; omega, fun f hm => by have := hfs f hm; omega, by show b.natAbs < _; omega⟩ b1 hfs (hp5.mono (by omega)) (((ho0.trans ho2).trans ho3).trans (ho4.trans ho5)))
/-! ### knowledge -/
def knowD (l : Str) (cs : List Cond) : D := .tup [.str l, .tup (cs.map condD)]
structure KnowOk (l : Str) (cs : List Cond) : Prop where
  let_ : LetOk l
  len : cs.length ≤ 8
  ok : ∀ c : Cond, c ∈ cs → CondOk (l.length + 1) c
  b : ∀ c : Cond, c ∈ cs → c.b.natAbs ≤ 9999
  fs : ∀ c : Cond, c ∈ cs → ∀ f, f ∈ c.fs → f.natAbs ≤ 99
def fitsB (cs : List Cond) (u : Int) (ws : List Int) : Bool := cs.all fun c => holdsB c u ws
/-! ### what repr shows -/
def condP (c : Cond) : PyData := .tuple [.tuple (c.fs.map PyData.int), .int c.b, .bool c.st]
def fontP (u : Int) (ws : List Int) : PyData := .tuple [.int u, .tuple (ws.map PyData.int)]
def knowP (l : Str) (cs : List Cond) : PyData := .tuple [.str l, .tuple (cs.map condP)]
theorem lt100 {x : Int} (h : x.natAbs < 2 ^ 200) : x.natAbs < 10 ^ 100 := Nat.lt_trans h (by decide)
/-! ### _law_same of equal trees -/
inductive Dat : Nat → D → Prop
  | non (n : Nat) : Dat n .non
  | bl (n : Nat) (b : Bool) : Dat n (.bl b)
  | int (n : Nat) (i : Int) : Dat n (.int i)
  | str (n : Nat) (s : Str) : Dat n (.str s)
  | tup {n : Nat} {l : List D} : l.length ≤ 100000 → (∀ d, d ∈ l → Dat n d) → Dat (n + 1) (.tup l)
  | lst {n : Nat} {l : List D} : l.length ≤ 100000 → (∀ d, d ∈ l → Dat n d) → Dat (n + 1) (.lst l)
theorem Dat.mono {n m : Nat} {d : D} (h : Dat n d) (l : n ≤ m) : Dat m d := by
  induction h generalizing m with
  | non => exact .non _
  | bl => exact .bl _ _
  | int => exact .int _ _
  | str => exact .str _ _
  | tup k _ ih =>
    cases m with
    | zero => omega
    | succ m => exact .tup k fun d hd => ih d hd (by omega)
  | lst k _ ih =>
    cases m with
    | zero => omega
    | succ m => exact .lst k fun d hd => ih d hd (by omega)
theorem zipD_self : ∀ l : List D, zipD l l = l.map fun d => .tup [d, d]
  | [] => rfl
  | d :: l => by
    show D.tup [d, d] :: zipD l l = _
    rw [zipD_self l]
    rfl
theorem same_rest {n : Nat} {l : List D} {ρ : Rho} {S : Sto} {K : KE} {keep : Sto → Prop} (hk : keep S) (hl : l.length ≤ 100000) (ih : ∀ d, d ∈ l → ∀ (S : Sto) (K : KE), K (.bl true) S → c_law_same n [d, d] S K) (hρ : ∃ a b x y, ρ = [a, b, x, y]) (h : K (.bl true) S) :
    compW keep (gT 2 (gsC (gN 2) (gsC (gN 3) gsN))) wYes (wCall (c_law_same n) (wCons (wVar 2) (wCons (wVar 3) wNil))) ρ (zipD l l) [] S fun ds S1 => oNotIn (.bl false) (.lst ds) S1 K := by
  obtain ⟨a, b, x, y, rfl⟩ := hρ
  rw [zipD_self]
  refine comp_mapL l (fun d => .tup [d, d]) (fun _ => .bl true) hk (by unfold sizeLine; omega) (fun d hd K1 F k => ?_) ?_
  · repeat get_elem_tactic_trivial
    exact ih d hd _ _ k
  · have e : (l.map fun _ => D.bl true) = (l.map fun _ => true).map D.bl := by rw [List.map_map]; rfl
    rw [e]
    refine st_notInB ?_
    have e2 : (l.map fun _ => true).all id = true := by rw [List.all_map]; exact List.all_eq_true.mpr fun _ _ => rfl
    rw [e2]
    exact h
theorem sp_sameT : ∀ (n : Nat) (d : D), Dat n d → ∀ (S : Sto) (K : KE), K (.bl true) S → c_law_same (n + 1) [d, d] S K := by
  intro n
  induction n with
  | zero =>
    intro d hd S K h
    refine st_def rfl ?_
    unfold w_law_same
    cases hd with
    | non =>
      repeat (first | get_elem_tactic_trivial | with_reducible refine st_seq ?_)
      exact fin.of h
    | bl b =>
      repeat (first | get_elem_tactic_trivial | with_reducible refine st_seq ?_)
      rw [beq_self_eq_true]
      exact fin.of h
    | int i =>
      repeat (first | get_elem_tactic_trivial | with_reducible refine st_seq ?_)
      rw [decide_eq_true rfl]
      exact fin.of h
    | str s =>
      repeat (first | get_elem_tactic_trivial | with_reducible refine st_seq ?_)
      rw [beq_self_eq_true]
      exact fin.of h
  | succ n ih =>
    intro d hd S K h
    refine st_def rfl ?_
    unfold w_law_same
    cases hd with
    | non =>
      repeat (first | get_elem_tactic_trivial | with_reducible refine st_seq ?_)
      exact fin.of h
    | bl b =>
      repeat (first | get_elem_tactic_trivial | with_reducible refine st_seq ?_)
      rw [beq_self_eq_true]
      exact fin.of h
    | int i =>
      repeat (first | get_elem_tactic_trivial | with_reducible refine st_seq ?_)
      rw [decide_eq_true rfl]
      exact fin.of h
    | str s =>
      repeat (first | get_elem_tactic_trivial | with_reducible refine st_seq ?_)
      rw [beq_self_eq_true]
      exact fin.of h
    | tup hl hd =>
      repeat (first | get_elem_tactic_trivial | with_reducible refine st_seq ?_)
      refine br_cf (by rw [decide_eq_true rfl]; rfl) ?_
      repeat (first | get_elem_tactic_trivial | with_reducible refine st_seq ?_)
      refine ⟨_, _, rfl, rfl, fun z => (nomatch z), ?_⟩
      exact same_rest ⟨trivial, trivial⟩ hl (fun d hm S K k => ih d (hd d hm) S K k) ⟨_, _, _, _, rfl⟩ (fin.of h)
    | lst hl hd =>
      repeat (first | get_elem_tactic_trivial | with_reducible refine st_seq ?_)
      refine br_cf (by rw [decide_eq_true rfl]; rfl) ?_
      repeat (first | get_elem_tactic_trivial | with_reducible refine st_seq ?_)
      refine ⟨_, _, rfl, rfl, fun z => (nomatch z), ?_⟩
      exact same_rest ⟨trivial, trivial⟩ hl (fun d hm S K k => ih d (hd d hm) S K k) ⟨_, _, _, _, rfl⟩ (fin.of h)
/-! ### texts -/
structure TxtOk (l : Str) (m sz : Nat) (ws : List Str) : Prop where
  n1 : 1 ≤ ws.length
  n : ws.length ≤ m
  w : ∀ w, w ∈ ws → 1 ≤ w.length ∧ w.length ≤ sz ∧ Sg (fun c => c ∈ TL.tl l) w
def txt (ws : List Str) : Str := Txt.join (Str.ofString " ") ws
theorem TxtOk.len {l : Str} {m sz : Nat} {ws : List Str} (h : TxtOk l m sz ws) : (txt ws).length ≤ m * sz + m ∧ (ws.map (·.length)).sum + ws.length * (Str.ofString " ").length ≤ m * sz + m := by
  have lb := lens_sum (ys := ws) (b := sz) fun y hm => (h.w y hm).2.1
  have l1 : (Str.ofString " ").length = 1 := rfl
  have jl := join_len (Str.ofString " ") ws
  have h2 : ws.length * sz ≤ m * sz := Nat.mul_le_mul_right _ h.n
  have := h.n
  rw [l1] at jl ⊢
  unfold txt
  omega
theorem TxtOk.sg {l : Str} {m sz : Nat} {ws : List Str} (h : TxtOk l m sz ws) : Sg (fun c => c ∈ 32 :: TL.tl l) (txt ws) :=
  Sg.join (fun c hc => by
    have hc : c ∈ [32] := hc
    rw [List.mem_singleton.mp hc]
    exact List.mem_cons_self ..) fun q hq => (h.w q hq).2.2.imp fun c hc => List.mem_cons_of_mem _ hc
theorem TxtOk.split {l : Str} {m sz : Nat} {ws : List Str} (h : TxtOk l m sz ws) (hl : 32 ∉ TL.tl l) : Txt.split (txt ws) (Str.ofString " ") = ws :=
  TL.split_join (s := 32) (S := []) rfl (by decide +kernel) (fun e => by have := h.n1; rw [e] at this; simp at this) fun p hp hc => hl ((h.w p hp).2.2 32 hc)
/-! ### counts -/
def cnt (l s : Str) : List Int := (32 :: TL.tl l).map fun c => Txt.count s ⟨#[c]⟩
theorem tl_space (l : Str) : TL.tl (Str.ofString " " ++ l) = 32 :: TL.tl l := by
  rw [TL.tl_append]
  rfl
/-- the width in parts of the unit -/
def un (l s : Str) (ws : List Int) : Int := dot (cnt l s) ws
theorem sp_common {a b : Nat} {S : Sto} {K : KE} (h : K (.int ((Nat.gcd a b : Nat) : Int)) S) : c_common_divisor [.int (a : Nat), .int (b : Nat)] S K := by
  refine st_def rfl ?_
  unfold w_common_divisor
  repeat get_elem_tactic_trivial
  refine while_ind (I := fun k ρ S1 => S1 = S ∧ ∃ x y : Nat, ρ = [some (.int (x : Nat)), some (.int (y : Nat))] ∧ k = y ∧ Nat.gcd x y = Nat.gcd a b) ⟨rfl, a, b, rfl, rfl, rfl⟩ fun k F ih ρ S1 ⟨e1, x, y, e2, e3, e4⟩ => ?_
  subst e1 e2 e3
  repeat get_elem_tactic_trivial
  refine br_b (fun e => ?_) fun e => ?_
  · have e : k ≠ 0 := by
      simp at e
      exact e
    repeat get_elem_tactic_trivial
    refine ih (x % k) (Nat.mod_lt _ (by omega)) _ _ ⟨rfl, k, x % k, rfl, rfl, ?_⟩
    rw [← e4, Nat.gcd_comm x k, Nat.gcd_rec k x, Nat.gcd_comm]
  · have eb : k = 0 := by
      simp at e
      exact e
    subst eb
    rw [Nat.gcd_zero_right] at e4
    repeat get_elem_tactic_trivial
    rw [← e4] at h
    exact fin.of h
/-- a fraction in lowest terms -/
def fracD (n d : Int) : D := .tup [.int (n / ((Nat.gcd n.natAbs d.natAbs : Nat) : Int)), .int (d / ((Nat.gcd n.natAbs d.natAbs : Nat) : Int))]
/-! ### lines -/
/-- the last line, longer by a word -/
def longer (ls : List Str) (w : Str) : Str := (ls.getLast?.getD (Str.ofString "")) ++ Str.ofString " " ++ w
/-- the lines, word by word -/
def stepL (l : Str) (lim : Int) (ws : List Int) (ls : List Str) (w : Str) : List Str := if ls ≠ [] ∧ un l (longer ls w) ws ≤ lim then ls.dropLast ++ [longer ls w] else ls ++ [w]
def linesOf (l : Str) (lim : Int) (ws : List Int) (t : List Str) : List Str := t.foldl (stepL l lim ws) []
/-- how long they may get -/
theorem stepL_len {l : Str} {lim : Int} {ws : List Int} {ls : List Str} {w : Str} {b : Nat} (h : ∀ x, x ∈ ls → x.length ≤ b) : (∀ x, x ∈ stepL l lim ws ls w → x.length ≤ b + w.length + 1) ∧ (stepL l lim ws ls w).length ≤ ls.length + 1 := by
  unfold stepL
  split
  · rename_i c
    refine ⟨fun x hx => ?_, by simp⟩
    rcases List.mem_append.mp hx with z | z
    · have := h x ((List.dropLast_sublist ls).subset z)
      omega
    · rw [List.mem_singleton.mp z]
      unfold longer
      rw [len_app, len_app]
      have l1 : (Str.ofString " ").length = 1 := rfl
      cases e : ls.getLast? with
      | none =>
        have := List.getLast?_eq_none_iff.mp e
        exact absurd this c.1
      | some y =>
        have hy := h y (List.mem_of_getLast? e)
        show y.length + _ + _ ≤ _
        omega
  · refine ⟨fun x hx => ?_, by simp⟩
    rcases List.mem_append.mp hx with z | z
    · have := h x z
      omega
    · rw [List.mem_singleton.mp z]
      omega
theorem stepL_sg {P : Nat → Prop} {l : Str} {lim : Int} {ws : List Int} {ls : List Str} {w : Str} (p32 : P 32) (h : ∀ x, x ∈ ls → Sg P x) (hw : Sg P w) : ∀ x, x ∈ stepL l lim ws ls w → Sg P x := by
  have hs : Sg P (Str.ofString " ") := fun c hc => by
    have hc : c ∈ [32] := hc
    rw [List.mem_singleton.mp hc]
    exact p32
  unfold stepL
  split
  · intro x hx
    rcases List.mem_append.mp hx with z | z
    · exact h x ((List.dropLast_sublist ls).subset z)
    · rw [List.mem_singleton.mp z]
      unfold longer
      refine Sg.app (Sg.app ?_ hs) hw
      cases e : ls.getLast? with
      | none => exact tl_empty
      | some y => exact h y (List.mem_of_getLast? e)
  · intro x hx
    rcases List.mem_append.mp hx with z | z
    · exact h x z
    · rw [List.mem_singleton.mp z]
      exact hw
/-- what is true of the lines so far: i words are in -/
structure LsOk (l : Str) (i : Nat) (ls : List Str) : Prop where
  n : ls.length ≤ i
  len : ∀ x, x ∈ ls → x.length ≤ 10 * i
  sg : ∀ x, x ∈ ls → Sg (fun c => c ∈ 32 :: TL.tl l) x
theorem LsOk.step {l : Str} {i : Nat} {ls : List Str} (h : LsOk l i ls) {lim : Int} {ws : List Int} {w : Str} (hw : w.length ≤ 9) (hs : Sg (fun c => c ∈ TL.tl l) w) : LsOk l (i + 1) (stepL l lim ws ls w) := by
  obtain ⟨a, b⟩ := stepL_len (l := l) (lim := lim) (ws := ws) (w := w) h.len
  have := h.n
  exact ⟨by omega, fun x hx => by have := a x hx; omega, stepL_sg (List.mem_cons_self ..) h.sg (hs.imp fun c hc => List.mem_cons_of_mem _ hc)⟩
theorem LsOk.lt {l : Str} (hl : LetOk l) {i : Nat} {ls : List Str} (h : LsOk l i ls) : ∀ x, x ∈ ls → Sg (fun c => c < 128) x := fun x hx => (h.sg x hx).imp fun c hc => by
  rcases List.mem_cons.mp hc with z | z
  · omega
  · exact (hl.sg c z).2
theorem LsOk.longer {l : Str} {i : Nat} {ls : List Str} (h : LsOk l i ls) {w : Str} (hw : w.length ≤ 9) : (G.longer ls w).length ≤ 10 * i + 10 := by
  unfold G.longer
  rw [len_app, len_app]
  have l1 : (Str.ofString " ").length = 1 := rfl
  cases e : ls.getLast? with
  | none =>
    show (Str.ofString "").length + _ + _ ≤ _
    have l0 : (Str.ofString "").length = 0 := rfl
    omega
  | some y =>
    have hy := h.len y (List.mem_of_getLast? e)
    show y.length + _ + _ ≤ _
    omega


end G

set_option Elab.async false
set_option linter.all false
set_option maxRecDepth 100000
set_option autoImplicit false
set_option maxHeartbeats 2000000
namespace G
open PySem PySem.Spec PyProof.Rows L2
local macro_rules
  | `(tactic| get_elem_tactic_trivial) => `(tactic| first
    | (with_reducible first
      | refine st_seqSet ?_ | refine st_seqAsg ?_ | refine st_seqDo ?_ | refine st_seqPar ?_ | refine st_seqPar3 ?_ | refine st_seqFor ?_ | refine st_seqWhile ?_ | refine st_seqAug ?_ | refine st_seqSkip ?_ | refine st_seqRet ?_
      | refine st_skip ?_ | refine st_ret ?_ | refine st_retN ?_ | refine st_do ?_ | refine st_if ?_ | refine st_set ?_ | refine st_asg ?_ | refine st_par ?_ | refine st_par3 ?_
      | refine st_c ?_ | refine st_op2 ?_ | refine st_op1 ?_ | refine st_test ?_ | refine st_tbl ?_ | refine st_and ?_ | refine st_or ?_ | refine st_not ?_ | refine st_andV ?_ | refine st_orV ?_ | refine st_notV ?_ | refine st_bl ?_
      | refine st_chain ?_ | refine st_ifE ?_ | refine st_nil ?_ | refine st_cons ?_ | refine st_call ?_ | refine st_fr ?_ | refine st_lv ?_ | refine st_one ?_ | refine st_two ?_
      | refine st_gN ?_ | refine st_lst ?_ | refine st_tup ?_ | refine st_slF ?_ | refine st_oNo ?_ | refine st_oS ?_ | refine st_enum ?_ | refine st_scr ?_ | refine st_list ?_ | refine st_it ?_ | refine st_comp ?_ | refine st_for ?_ | refine st_gIx ?_ | refine st_range1 ?_ | refine st_app ?_ | refine st_zip ?_ | refine st_rev1 ?_ | refine st_meth ?_ | refine st_isS ?_ | refine st_count ?_ | refine st_sl ?_ | refine st_slT ?_ | refine st_slL ?_ | refine st_max2 ?_ | refine st_min2 ?_
      | refine st_add ?_ | refine st_sub ?_ | refine st_int ?_ | refine st_neg ?_ | refine st_lt ?_ | refine st_le ?_ | refine st_gt ?_ | refine st_ge ?_ | refine st_eq ?_ | refine st_ne ?_ | refine st_eqB ?_ | refine st_neB ?_ | refine st_eqS ?_ | refine st_neS ?_ | refine st_isN ?_ | refine st_sorted ?_ | refine st_abs ?_ | refine st_isNotN ?_
      | refine br_t ?_ | refine br_f ?_)
    | ((with_reducible refine st_var (d := ?_) ?_ ?_); rotate_left; (exact rfl))
    | ((with_reducible refine st_isi2 (k := ?_) (b := true) ?_ ?_ ?_); rotate_left; (exact rfl); (exact rfl))
    | ((with_reducible refine st_isi2 (k := ?_) (b := false) ?_ ?_ ?_); rotate_left; (exact rfl); (exact rfl))
    | ((with_reducible refine st_ix (ds := ?_) (d := ?_) ?_ ?_ ?_); rotate_left 2; (first | exact rfl | exact seq_at (by assumption)); (exact rfl))
    | ((with_reducible refine st_len2 (ds := ?_) (n := ?_) ?_ ?_ ?_); rotate_left 2; (first | exact rfl | exact seq_at (by assumption)); (exact rfl))
    | ((with_reducible refine st_addLL (a := ?_) (b := ?_) ?_ ?_ ?_ ?_); rotate_left 2; (first | exact rfl | exact lst_at (by assumption)); (first | exact rfl | exact lst_at (by assumption)); (exact Nat.le_of_ble_eq_true rfl))
    | ((with_reducible refine st_pow ?_ ?_); (exact ⟨by decide, by decide, by decide⟩))
    | ((with_reducible refine st_mod ?_ ?_); (first | decide | omega))
    | ((with_reducible refine st_size ?_ ?_); (exact rfl))
    | ((with_reducible refine st_gT2 ?_ ?_); (exact rfl))
    | ((with_reducible refine st_gsC ?_))
    | ((with_reducible refine st_gsN ?_))
    | ((with_reducible refine st_mulS ?_ ?_ ?_); omega; omega)
    | ((with_reducible refine br_ct ?_ ?_); (exact rfl))
    | ((with_reducible refine br_cf ?_ ?_); (exact rfl))
    | (rw [list_tup])
    | (rw [list_lst])
    | (rw [items_tup])
    | (rw [items_lst])
    | ((refine st_listM (ds := ?_) ?_ ?_); rotate_left; (first | exact rfl | exact seq_at (by assumption)))
    | ((refine st_itM (it := ?_) ?_ ?_); rotate_left; (first | exact rfl | exact it_at (by assumption))))


/-! ### a text split at spaces -/
def sp1 : List Nat → List Nat → List (List Nat)
  | acc, [] => [acc]
  | acc, c :: r => if c = 32 then acc :: sp1 [] r else sp1 (acc ++ [c]) r
/-! ### is_text -/
def wordB (l w : Str) : Bool := decide (1 ≤ w.length) && decide (w.length ≤ 9) && (TL.tl w).all fun c => decide (c ∈ TL.tl l)
def textB (l x : Str) : Bool := decide ((Txt.split x (Str.ofString " ")).length ≤ 8) && (Txt.split x (Str.ofString " ")).all (wordB l)

end G

set_option Elab.async false
set_option linter.all false
set_option maxRecDepth 100000
set_option autoImplicit false
set_option maxHeartbeats 2000000
namespace G
open PySem PySem.Spec PyProof.Rows L2
local macro_rules
  | `(tactic| get_elem_tactic_trivial) => `(tactic| first
    | (with_reducible first
      | refine st_seqSet ?_ | refine st_seqAsg ?_ | refine st_seqDo ?_ | refine st_seqPar ?_ | refine st_seqPar3 ?_ | refine st_seqFor ?_ | refine st_seqWhile ?_ | refine st_seqAug ?_ | refine st_seqSkip ?_ | refine st_seqRet ?_
      | refine st_skip ?_ | refine st_ret ?_ | refine st_retN ?_ | refine st_do ?_ | refine st_if ?_ | refine st_set ?_ | refine st_asg ?_ | refine st_par ?_ | refine st_par3 ?_
      | refine st_c ?_ | refine st_op2 ?_ | refine st_op1 ?_ | refine st_test ?_ | refine st_tbl ?_ | refine st_and ?_ | refine st_or ?_ | refine st_not ?_ | refine st_andV ?_ | refine st_orV ?_ | refine st_notV ?_ | refine st_bl ?_
      | refine st_chain ?_ | refine st_ifE ?_ | refine st_nil ?_ | refine st_cons ?_ | refine st_call ?_ | refine st_fr ?_ | refine st_lv ?_ | refine st_one ?_ | refine st_two ?_
      | refine st_gN ?_ | refine st_lst ?_ | refine st_tup ?_ | refine st_slF ?_ | refine st_oNo ?_ | refine st_oS ?_ | refine st_enum ?_ | refine st_scr ?_ | refine st_list ?_ | refine st_it ?_ | refine st_comp ?_ | refine st_for ?_ | refine st_gIx ?_ | refine st_range1 ?_ | refine st_app ?_ | refine st_zip ?_ | refine st_rev1 ?_ | refine st_meth ?_ | refine st_isS ?_ | refine st_count ?_ | refine st_sl ?_ | refine st_slT ?_ | refine st_slL ?_ | refine st_max2 ?_ | refine st_min2 ?_
      | refine st_add ?_ | refine st_sub ?_ | refine st_int ?_ | refine st_neg ?_ | refine st_lt ?_ | refine st_le ?_ | refine st_gt ?_ | refine st_ge ?_ | refine st_eq ?_ | refine st_ne ?_ | refine st_eqB ?_ | refine st_neB ?_ | refine st_eqS ?_ | refine st_neS ?_ | refine st_isN ?_ | refine st_sorted ?_ | refine st_abs ?_ | refine st_isNotN ?_
      | refine br_t ?_ | refine br_f ?_)
    | ((with_reducible refine st_var (d := ?_) ?_ ?_); rotate_left; (exact rfl))
    | ((with_reducible refine st_isi2 (k := ?_) (b := true) ?_ ?_ ?_); rotate_left; (exact rfl); (exact rfl))
    | ((with_reducible refine st_isi2 (k := ?_) (b := false) ?_ ?_ ?_); rotate_left; (exact rfl); (exact rfl))
    | ((with_reducible refine st_ix (ds := ?_) (d := ?_) ?_ ?_ ?_); rotate_left 2; (first | exact rfl | exact seq_at (by assumption)); (exact rfl))
    | ((with_reducible refine st_len2 (ds := ?_) (n := ?_) ?_ ?_ ?_); rotate_left 2; (first | exact rfl | exact seq_at (by assumption)); (exact rfl))
    | ((with_reducible refine st_addLL (a := ?_) (b := ?_) ?_ ?_ ?_ ?_); rotate_left 2; (first | exact rfl | exact lst_at (by assumption)); (first | exact rfl | exact lst_at (by assumption)); (exact Nat.le_of_ble_eq_true rfl))
    | ((with_reducible refine st_pow ?_ ?_); (exact ⟨by decide, by decide, by decide⟩))
    | ((with_reducible refine st_mod ?_ ?_); (first | decide | omega))
    | ((with_reducible refine st_size ?_ ?_); (exact rfl))
    | ((with_reducible refine st_gT2 ?_ ?_); (exact rfl))
    | ((with_reducible refine st_gsC ?_))
    | ((with_reducible refine st_gsN ?_))
    | ((with_reducible refine st_mulS ?_ ?_ ?_); omega; omega)
    | ((with_reducible refine br_ct ?_ ?_); (exact rfl))
    | ((with_reducible refine br_cf ?_ ?_); (exact rfl))
    | (rw [list_tup])
    | (rw [list_lst])
    | (rw [items_tup])
    | (rw [items_lst])
    | ((refine st_listM (ds := ?_) ?_ ?_); rotate_left; (first | exact rfl | exact seq_at (by assumption)))
    | ((refine st_itM (it := ?_) ?_ ?_); rotate_left; (first | exact rfl | exact it_at (by assumption))))

/-! ### any letters -/
theorem nodup_len : ∀ (l D : List Str), l.Nodup → (∀ x, x ∈ l → x ∈ D) → l.length ≤ D.length
  | [], _, _, _ => Nat.zero_le _
  | x :: l, D, hn, hs => by
    obtain ⟨h1, h2⟩ := List.nodup_cons.mp hn
    have hx : x ∈ D := hs x List.mem_cons_self
    have ih := nodup_len l (D.erase x) h2 fun y hy => (List.mem_erase_of_ne (fun (e : y = x) => h1 (e ▸ hy))).2 (hs y (List.mem_cons_of_mem _ hy))
    have := List.length_erase_of_mem hx
    have := List.length_pos_of_mem hx
    rw [List.length_cons]
    omega
theorem tl_joinS (cs : List Nat) : TL.tl (Txt.join (Str.ofString "") (cs.map fun c => (⟨#[c]⟩ : Str))) = cs := by
  rw [tl_joinT]
  show TL.joinL [] _ = _
  rw [joinL_nil, List.map_map]
  show (cs.map fun c => [c]).flatten = cs
  induction cs with
  | nil => rfl
  | cons c cs ih => rw [List.map_cons, List.flatten_cons, ih]; rfl
theorem sings_of {P : Nat → Prop} : ∀ ks : List Str, (∀ k, k ∈ ks → k.length = 1 ∧ Sg P k) → ∃ cs : List Nat, ks = cs.map (fun c => (⟨#[c]⟩ : Str)) ∧ ∀ c, c ∈ cs → P c
  | [], _ => ⟨[], rfl, fun c hc => by cases hc⟩
  | k :: ks, h => by
    obtain ⟨cs, e, hc⟩ := sings_of ks fun x hx => h x (List.mem_cons_of_mem _ hx)
    obtain ⟨h1, h2⟩ := h k List.mem_cons_self
    have h1 : (TL.tl k).length = 1 := by rw [← TL.len_tl]; exact h1
    obtain ⟨c, ec⟩ := List.length_eq_one_iff.mp h1
    have ek : k = ⟨#[c]⟩ := TL.ext_tl (by rw [ec])
    refine ⟨c :: cs, by rw [e, ek]; rfl, fun x hx => ?_⟩
    rcases List.mem_cons.mp hx with z | z
    · rw [z]
      exact h2 c (by show c ∈ TL.tl k; rw [ec]; exact List.mem_cons_self)
    · exact hc x z
theorem letOk_set {ks ys : List Str} (hy : ∀ y, y ∈ ys → y.length = 1 ∧ Sg LetC y) (h1 : 1 ≤ ys.length) (h4 : ys.length ≤ 4) (nd : ks.Nodup) (hm : ∀ k, k ∈ ks ↔ k ∈ ys) : LetOk (Txt.join (Str.ofString "") ks) ∧ (ks.map (·.length)).sum + ks.length * (Str.ofString "").length ≤ 4 := by
  have hl := nodup_len ks ys nd fun x hx => (hm x).mp hx
  obtain ⟨cs, rfl, hc⟩ := sings_of ks fun k hk => hy k ((hm k).mp hk)
  have l0 : (Str.ofString "").length = 0 := rfl
  have ht := tl_joinS cs
  have ll : (Txt.join (Str.ofString "") (cs.map fun c => (⟨#[c]⟩ : Str))).length = cs.length := by rw [TL.len_tl, ht]
  rw [List.length_map] at hl
  refine ⟨⟨?_, by rw [ll]; omega, fun c h => ?_, ?_⟩, ?_⟩
  · rw [ll]
    cases ys with
    | nil => simp at h1
    | cons y ys =>
      have := (hm y).mpr List.mem_cons_self
      rw [List.mem_map] at this
      obtain ⟨c, h, _⟩ := this
      exact List.length_pos_of_mem h
  · exact hc c (by rw [← ht]; exact h)
  · rw [ht]
    refine List.nodup_cons.mpr ⟨fun z => ?_, List.Pairwise.of_map _ (fun a b hne e => hne (by rw [e])) nd⟩
    have := (hc 32 z).1
    omega
  · rw [l0, Nat.mul_zero, Nat.add_zero, single_sum fun y hy => ?_, List.length_map]
    · omega
    · obtain ⟨c, _, e⟩ := List.mem_map.mp hy
      rw [← e]
      rfl
end G

set_option Elab.async false
set_option linter.all false
set_option maxRecDepth 100000
set_option autoImplicit false
set_option maxHeartbeats 2000000
namespace G
open PySem PySem.Spec PyProof.Rows L2
local macro_rules
  | `(tactic| get_elem_tactic_trivial) => `(tactic| first
    | (with_reducible first
      | refine st_seqSet ?_ | refine st_seqAsg ?_ | refine st_seqDo ?_ | refine st_seqPar ?_ | refine st_seqPar3 ?_ | refine st_seqFor ?_ | refine st_seqWhile ?_ | refine st_seqAug ?_ | refine st_seqSkip ?_ | refine st_seqRet ?_
      | refine st_skip ?_ | refine st_ret ?_ | refine st_retN ?_ | refine st_do ?_ | refine st_if ?_ | refine st_set ?_ | refine st_asg ?_ | refine st_par ?_ | refine st_par3 ?_
      | refine st_c ?_ | refine st_op2 ?_ | refine st_op1 ?_ | refine st_test ?_ | refine st_tbl ?_ | refine st_and ?_ | refine st_or ?_ | refine st_not ?_ | refine st_andV ?_ | refine st_orV ?_ | refine st_notV ?_ | refine st_bl ?_
      | refine st_chain ?_ | refine st_ifE ?_ | refine st_nil ?_ | refine st_cons ?_ | refine st_call ?_ | refine st_fr ?_ | refine st_lv ?_ | refine st_one ?_ | refine st_two ?_
      | refine st_gN ?_ | refine st_lst ?_ | refine st_tup ?_ | refine st_slF ?_ | refine st_oNo ?_ | refine st_oS ?_ | refine st_enum ?_ | refine st_scr ?_ | refine st_list ?_ | refine st_it ?_ | refine st_comp ?_ | refine st_for ?_ | refine st_gIx ?_ | refine st_range1 ?_ | refine st_app ?_ | refine st_zip ?_ | refine st_rev1 ?_ | refine st_meth ?_ | refine st_isS ?_ | refine st_count ?_ | refine st_sl ?_ | refine st_slT ?_ | refine st_slL ?_ | refine st_max2 ?_ | refine st_min2 ?_
      | refine st_add ?_ | refine st_sub ?_ | refine st_int ?_ | refine st_neg ?_ | refine st_lt ?_ | refine st_le ?_ | refine st_gt ?_ | refine st_ge ?_ | refine st_eq ?_ | refine st_ne ?_ | refine st_eqB ?_ | refine st_neB ?_ | refine st_eqS ?_ | refine st_neS ?_ | refine st_isN ?_ | refine st_sorted ?_ | refine st_abs ?_ | refine st_isNotN ?_
      | refine br_t ?_ | refine br_f ?_)
    | ((with_reducible refine st_var (d := ?_) ?_ ?_); rotate_left; (exact rfl))
    | ((with_reducible refine st_isi2 (k := ?_) (b := true) ?_ ?_ ?_); rotate_left; (exact rfl); (exact rfl))
    | ((with_reducible refine st_isi2 (k := ?_) (b := false) ?_ ?_ ?_); rotate_left; (exact rfl); (exact rfl))
    | ((with_reducible refine st_ix (ds := ?_) (d := ?_) ?_ ?_ ?_); rotate_left 2; (first | exact rfl | exact seq_at (by assumption)); (exact rfl))
    | ((with_reducible refine st_len2 (ds := ?_) (n := ?_) ?_ ?_ ?_); rotate_left 2; (first | exact rfl | exact seq_at (by assumption)); (exact rfl))
    | ((with_reducible refine st_addLL (a := ?_) (b := ?_) ?_ ?_ ?_ ?_); rotate_left 2; (first | exact rfl | exact lst_at (by assumption)); (first | exact rfl | exact lst_at (by assumption)); (exact Nat.le_of_ble_eq_true rfl))
    | ((with_reducible refine st_pow ?_ ?_); (exact ⟨by decide, by decide, by decide⟩))
    | ((with_reducible refine st_mod ?_ ?_); (first | decide | omega))
    | ((with_reducible refine st_size ?_ ?_); (exact rfl))
    | ((with_reducible refine st_gT2 ?_ ?_); (exact rfl))
    | ((with_reducible refine st_gsC ?_))
    | ((with_reducible refine st_gsN ?_))
    | ((with_reducible refine st_mulS ?_ ?_ ?_); omega; omega)
    | ((with_reducible refine br_ct ?_ ?_); (exact rfl))
    | ((with_reducible refine br_cf ?_ ?_); (exact rfl))
    | (rw [list_tup])
    | (rw [list_lst])
    | (rw [items_tup])
    | (rw [items_lst])
    | ((refine st_listM (ds := ?_) ?_ ?_); rotate_left; (first | exact rfl | exact seq_at (by assumption)))
    | ((refine st_itM (it := ?_) ?_ ?_); rotate_left; (first | exact rfl | exact it_at (by assumption))))

theorem sp_divisor_of {ns : List Int} {S : Sto} {K : KE} (hn : ∀ x, x ∈ ns → 0 ≤ x) (h : K (.int ((gcds 0 ns : Nat) : Int)) S) : c_divisor_of [.lst (ns.map D.int)] S K := by
  refine st_def rfl ?_
  unfold w_divisor_of
  repeat get_elem_tactic_trivial
  try dsimp only [List.set_cons_succ, List.set_cons_zero]
  refine for_ind (I := fun ds ρ S1 => S1 = S ∧ ∃ (ms : List Int) (g : Nat) (x2 : Option D), ds = ms.map D.int ∧ ρ = [some (.lst (ns.map D.int)), some (.int (g : Nat)), x2] ∧ gcds g ms = gcds 0 ns ∧ ∀ x, x ∈ ms → 0 ≤ x) ⟨rfl, ns, 0, _, rfl, rfl, rfl, hn⟩ (fun ρ S1 ⟨e0, ms, g, x2, e1, e2, e3, e4⟩ => ⟨trivial, ?_⟩) fun d ds F ih ρ S1 ⟨e0, ms, g, x2, e1, e2, e3, e4⟩ => ⟨trivial, ?_⟩
  · subst e0 e2
    cases ms with
    | cons _ _ => cases e1
    | nil =>
      have e3 : g = gcds 0 ns := e3
      repeat get_elem_tactic_trivial
      try dsimp only [List.set_cons_succ, List.set_cons_zero]
      rw [e3]
      exact fin.of h
  · subst e0 e2
    cases ms with
    | nil => cases e1
    | cons x ms =>
      injection e1 with e1 e9
      subst e1
      have x0 := e4 x (List.mem_cons_self ..)
      obtain ⟨a, rfl⟩ : ∃ a : Nat, x = (a : Int) := ⟨x.toNat, by omega⟩
      repeat get_elem_tactic_trivial
      try dsimp only [List.set_cons_succ, List.set_cons_zero]
      refine sp_common ?_
      repeat get_elem_tactic_trivial
      try dsimp only [List.set_cons_succ, List.set_cons_zero]
      exact ih _ _ ⟨rfl, ms, Nat.gcd g a, _, e9, rfl, e3, fun y hy => e4 y (List.mem_cons_of_mem _ hy)⟩
theorem sp_divisorT {ns : List Int} {S : Sto} {K : KE} (h : K (.int ((gcds 0 ns : Nat) : Int)) S) : c_law_divisor [.tup (ns.map D.int)] S K := by
  refine st_def rfl ?_
  unfold w_law_divisor
  repeat get_elem_tactic_trivial
  refine for_ind (I := fun ds ρ S1 => S1 = S ∧ ∃ (x0 x2 x3 x4 : Option D) (g : Nat) (ms : List Int), ρ = [x0, some (.int (g : Nat)), x2, x3, x4] ∧ ds = ms.map D.int ∧ gcds g ms = gcds 0 ns) ⟨rfl, _, _, _, _, 0, ns, rfl, rfl, rfl⟩ (fun ρ S1 ⟨e1, x0, x2, x3, x4, g, ms, e2, e3, h2⟩ => ⟨trivial, ?_⟩) fun d ds F ih ρ S1 ⟨e1, x0, x2, x3, x4, g, ms, e2, e3, h2⟩ => ⟨trivial, ?_⟩
  · subst e1 e2
    cases ms with
    | cons m ms => cases e3
    | nil =>
      repeat get_elem_tactic_trivial
      have e : g = gcds 0 ns := h2
      rw [← e] at h
      exact fin.of h
  · subst e1 e2
    cases ms with
    | nil => cases e3
    | cons m ms =>
      injection e3 with e3 e4
      subst e3
      repeat get_elem_tactic_trivial
      refine while_ind (I := fun k ρ S2 => S2 = S1 ∧ ∃ a b : Nat, ρ = [x0, some (.int (g : Nat)), some (.int m), some (.int (a : Nat)), some (.int (b : Nat))] ∧ k = b ∧ Nat.gcd a b = Nat.gcd g m.natAbs) ⟨rfl, m.natAbs, g, rfl, rfl, Nat.gcd_comm ..⟩ fun k F2 ih2 ρ S2 ⟨z1, a, b, z2, z3, z4⟩ => ?_
      subst z1 z2 z3
      repeat get_elem_tactic_trivial
      refine br_b (fun e => ?_) fun e => ?_
      · have e : k ≠ 0 := by
          simp at e
          exact e
        repeat get_elem_tactic_trivial
        refine ih2 (a % k) (Nat.mod_lt _ (by omega)) _ _ ⟨rfl, k, a % k, rfl, rfl, ?_⟩
        rw [← z4, Nat.gcd_comm a k, Nat.gcd_rec k a, Nat.gcd_comm]
      · have eb : k = 0 := by
          simp at e
          exact e
        subst eb
        rw [Nat.gcd_zero_right] at z4
        repeat get_elem_tactic_trivial
        exact ih _ _ ⟨rfl, x0, _, _, _, a, ms, rfl, e4, by rw [← h2]; show gcds a ms = gcds (Nat.gcd g m.natAbs) ms; rw [z4]⟩
/-! ### any values -/
structure Lf (z : Str) : Prop where
  sg : Sg (fun c => c < 128) z
  len : z.length ≤ 20
/-- plain data that nothing changes any more -/
inductive Pl : D → Prop
  | non : Pl .non
  | bl (b : Bool) : Pl (.bl b)
  | int (i : Int) (h : i.natAbs < 2 ^ 200) : Pl (.int i)
  | str (z : Str) (h : Lf z) : Pl (.str z)
  | dic : Pl (.dic [])
  | tup (l : List D) (n : l.length ≤ 1000) (h : ∀ d, d ∈ l → Pl d) : Pl (.tup l)
  | lst (l : List D) (n : l.length ≤ 1000) (h : ∀ d, d ∈ l → Pl d) : Pl (.lst l)
def intB : D → Bool
  | .int _ => true
  | _ => false
def withinB (lo hi : Int) : D → Bool
  | .int i => decide (lo ≤ i) && decide (i ≤ hi)
  | _ => false
theorem sp_is_integer {d : D} {S : Sto} {K : KE} (v : Pl d) (h : K (.bl (intB d)) S) : c_is_integer [d] S K := by
  refine st_def rfl ?_
  unfold w_is_integer
  cases v <;> (repeat get_elem_tactic_trivial) <;> exact fin.of h
theorem sp_is_within {d : D} {lo hi : Int} {S : Sto} {K : KE} (v : Pl d) (h : K (.bl (withinB lo hi d)) S) : c_is_within [d, .int lo, .int hi] S K := by
  refine st_def rfl ?_
  unfold w_is_within
  repeat get_elem_tactic_trivial
  try dsimp only [List.set_cons_succ, List.set_cons_zero]
  refine sp_is_integer v ?_
  cases v with
  | int i hi =>
    repeat get_elem_tactic_trivial
    try dsimp only [List.set_cons_succ, List.set_cons_zero]
    have h : K (.bl (decide (lo ≤ i) && decide (i ≤ _))) S := h
    refine br_b (fun e => ?_) fun e => ?_
    · rw [e] at h
      repeat get_elem_tactic_trivial
      try dsimp only [List.set_cons_succ, List.set_cons_zero]
      exact fin.of h
    · rw [e] at h
      exact fin.of h
  | _ =>
    repeat get_elem_tactic_trivial
    try dsimp only [List.set_cons_succ, List.set_cons_zero]
    exact fin.of h
theorem sp_law_is_between {d : D} {lo hi : Int} {S : Sto} {K : KE} (v : Pl d) (h : K (.bl (withinB lo hi d)) S) : c_law_is_between [d, .int lo, .int hi] S K := by
  refine st_def rfl ?_
  unfold w_law_is_between
  cases v with
  | int i hi =>
    repeat get_elem_tactic_trivial
    try dsimp only [List.set_cons_succ, List.set_cons_zero]
    have h : K (.bl (decide (lo ≤ i) && decide (i ≤ _))) S := h
    refine br_b (fun e => ?_) fun e => ?_
    · rw [e] at h
      repeat get_elem_tactic_trivial
      try dsimp only [List.set_cons_succ, List.set_cons_zero]
      exact fin.of h
    · rw [e] at h
      exact fin.of h
  | _ =>
    repeat get_elem_tactic_trivial
    try dsimp only [List.set_cons_succ, List.set_cons_zero]
    exact fin.of h


end G

set_option Elab.async false
set_option linter.all false
set_option maxRecDepth 100000
set_option autoImplicit false
set_option maxHeartbeats 2000000
namespace G
open PySem PySem.Spec PyProof.Rows L2
local macro_rules
  | `(tactic| get_elem_tactic_trivial) => `(tactic| first
    | (with_reducible first
      | refine st_seqSet ?_ | refine st_seqAsg ?_ | refine st_seqDo ?_ | refine st_seqPar ?_ | refine st_seqPar3 ?_ | refine st_seqFor ?_ | refine st_seqWhile ?_ | refine st_seqAug ?_ | refine st_seqSkip ?_ | refine st_seqRet ?_
      | refine st_skip ?_ | refine st_ret ?_ | refine st_retN ?_ | refine st_do ?_ | refine st_if ?_ | refine st_set ?_ | refine st_asg ?_ | refine st_par ?_ | refine st_par3 ?_
      | refine st_c ?_ | refine st_op2 ?_ | refine st_op1 ?_ | refine st_test ?_ | refine st_tbl ?_ | refine st_and ?_ | refine st_or ?_ | refine st_not ?_ | refine st_andV ?_ | refine st_orV ?_ | refine st_notV ?_ | refine st_bl ?_
      | refine st_chain ?_ | refine st_ifE ?_ | refine st_nil ?_ | refine st_cons ?_ | refine st_call ?_ | refine st_fr ?_ | refine st_lv ?_ | refine st_one ?_ | refine st_two ?_
      | refine st_gN ?_ | refine st_lst ?_ | refine st_tup ?_ | refine st_slF ?_ | refine st_oNo ?_ | refine st_oS ?_ | refine st_enum ?_ | refine st_scr ?_ | refine st_list ?_ | refine st_it ?_ | refine st_comp ?_ | refine st_for ?_ | refine st_gIx ?_ | refine st_range1 ?_ | refine st_app ?_ | refine st_zip ?_ | refine st_rev1 ?_ | refine st_meth ?_ | refine st_isS ?_ | refine st_count ?_ | refine st_sl ?_ | refine st_slT ?_ | refine st_slL ?_ | refine st_max2 ?_ | refine st_min2 ?_
      | refine st_add ?_ | refine st_sub ?_ | refine st_int ?_ | refine st_neg ?_ | refine st_lt ?_ | refine st_le ?_ | refine st_gt ?_ | refine st_ge ?_ | refine st_eq ?_ | refine st_ne ?_ | refine st_eqB ?_ | refine st_neB ?_ | refine st_eqS ?_ | refine st_neS ?_ | refine st_isN ?_ | refine st_sorted ?_ | refine st_abs ?_ | refine st_isNotN ?_
      | refine br_t ?_ | refine br_f ?_)
    | ((with_reducible refine st_var (d := ?_) ?_ ?_); rotate_left; (exact rfl))
    | ((with_reducible refine st_isi2 (k := ?_) (b := true) ?_ ?_ ?_); rotate_left; (exact rfl); (exact rfl))
    | ((with_reducible refine st_isi2 (k := ?_) (b := false) ?_ ?_ ?_); rotate_left; (exact rfl); (exact rfl))
    | ((with_reducible refine st_ix (ds := ?_) (d := ?_) ?_ ?_ ?_); rotate_left 2; (first | exact rfl | exact seq_at (by assumption)); (exact rfl))
    | ((with_reducible refine st_len2 (ds := ?_) (n := ?_) ?_ ?_ ?_); rotate_left 2; (first | exact rfl | exact seq_at (by assumption)); (exact rfl))
    | ((with_reducible refine st_addLL (a := ?_) (b := ?_) ?_ ?_ ?_ ?_); rotate_left 2; (first | exact rfl | exact lst_at (by assumption)); (first | exact rfl | exact lst_at (by assumption)); (exact Nat.le_of_ble_eq_true rfl))
    | ((with_reducible refine st_pow ?_ ?_); (exact ⟨by decide, by decide, by decide⟩))
    | ((with_reducible refine st_mod ?_ ?_); (first | decide | omega))
    | ((with_reducible refine st_size ?_ ?_); (exact rfl))
    | ((with_reducible refine st_gT2 ?_ ?_); (exact rfl))
    | ((with_reducible refine st_gsC ?_))
    | ((with_reducible refine st_gsN ?_))
    | ((with_reducible refine st_mulS ?_ ?_ ?_); omega; omega)
    | ((with_reducible refine br_ct ?_ ?_); (exact rfl))
    | ((with_reducible refine br_cf ?_ ?_); (exact rfl))
    | (rw [list_tup])
    | (rw [list_lst])
    | (rw [items_tup])
    | (rw [items_lst])
    | ((refine st_listM (ds := ?_) ?_ ?_); rotate_left; (first | exact rfl | exact seq_at (by assumption)))
    | ((refine st_itM (it := ?_) ?_ ?_); rotate_left; (first | exact rfl | exact it_at (by assumption))))

/-! ### conditions -/
def boolB : D → Bool
  | .bl _ => true
  | _ => false
def facB (l : Str) : D → Bool
  | .tup fs => decide (fs.length = l.length + 1) && fs.all (withinB (-99) 99)
  | _ => false
def condB (l : Str) : D → Bool
  | .tup [a, b, c] => facB l a && (withinB (-9999) 9999 b && boolB c)
  | _ => false
theorem three_of {α : Type} {t : List α} (h : t.length = 3) : ∃ a b c, t = [a, b, c] := by
  match t, h with
  | [a, b, c], _ => exact ⟨a, b, c, rfl⟩
theorem two_of {α : Type} {t : List α} (h : t.length = 2) : ∃ a b, t = [a, b] := by
  match t, h with
  | [a, b], _ => exact ⟨a, b, rfl⟩
theorem condB_no {l : Str} {t : List D} (h : t.length ≠ 3) : condB l (.tup t) = false := by
  unfold condB
  split
  · rename_i e
    injection e with e
    rw [e] at h
    exact absurd rfl h
  · rfl
theorem sp_is_condition {l : Str} {d : D} {S : Sto} {K : KE} (hl : l.length ≤ 4) (v : Pl d) (h : K (.bl (condB l d)) S) : c_is_condition [.str l, d] S K := by
  refine st_def rfl ?_
  unfold w_is_condition
  cases v with
  | tup t nt ht =>
    by_cases h3 : t.length = 3
    · obtain ⟨a, b, c, rfl⟩ := three_of h3
      have va := ht a (by simp)
      have vb := ht b (by simp)
      have vc := ht c (by simp)
      clear ht h3 nt
      refine st_seq ?_
      repeat get_elem_tactic_trivial
      try dsimp only [List.set_cons_succ, List.set_cons_zero]
      refine st_seq ?_
      cases va with
      | tup fs nf hfs =>
        have h : K (.bl ((decide (fs.length = l.length + 1) && fs.all (withinB (-99) 99)) && (withinB (-9999) 9999 b && boolB c))) S := h
        repeat get_elem_tactic_trivial
        try dsimp only [List.set_cons_succ, List.set_cons_zero]
        refine st_lenS (by unfold sizeLine; omega) ?_
        repeat get_elem_tactic_trivial
        try dsimp only [List.set_cons_succ, List.set_cons_zero]
        by_cases hf : fs.length = l.length + 1
        · rw [decide_eq_true hf, Bool.true_and] at h
          refine br_cf (by rw [decide_eq_true (by omega)]; rfl) ?_
          refine st_seq ?_
          repeat get_elem_tactic_trivial
          try dsimp only [List.set_cons_succ, List.set_cons_zero]
          refine comp_map (fun f => .bl (withinB (-99) 99 f)) trivial (by unfold sizeLine; omega) (fun f hf K F k => ?_) ?_
          · repeat get_elem_tactic_trivial
            try dsimp only [List.set_cons_succ, List.set_cons_zero]
            exact sp_is_within (hfs f hf) k
          · repeat get_elem_tactic_trivial
            try dsimp only [List.set_cons_succ, List.set_cons_zero]
            rw [show (fs.map fun f => D.bl (withinB (-99) 99 f)) = (fs.map (withinB (-99) 99)).map D.bl by rw [List.map_map]; rfl]
            refine st_allL ?_
            rw [List.all_map]
            repeat get_elem_tactic_trivial
            try dsimp only [List.set_cons_succ, List.set_cons_zero]
            have ea : (fs.all (id ∘ withinB (-99) 99)) = fs.all (withinB (-99) 99) := rfl
            rw [ea]
            cases e : fs.all (withinB (-99) 99) with
            | false =>
              rw [e] at h
              repeat get_elem_tactic_trivial
              try dsimp only [List.set_cons_succ, List.set_cons_zero]
              exact fin.of h
            | true =>
              rw [e, Bool.true_and] at h
              repeat get_elem_tactic_trivial
              try dsimp only [List.set_cons_succ, List.set_cons_zero]
              refine sp_is_within (lo := -9999) (hi := 9999) vb ?_
              refine ⟨_, rfl, fun e2 => ?_, fun e2 => ?_⟩
              · rw [e2] at h
                cases vc <;> (repeat get_elem_tactic_trivial) <;> exact fin.of h
              · rw [e2] at h
                exact fin.of h
        · rw [decide_eq_false hf] at h
          refine br_ct (by rw [decide_eq_false (by omega)]; rfl) ?_
          repeat get_elem_tactic_trivial
          try dsimp only [List.set_cons_succ, List.set_cons_zero]
          exact fin.of h
      | _ =>
        repeat get_elem_tactic_trivial
        try dsimp only [List.set_cons_succ, List.set_cons_zero]
        exact fin.of h
    · rw [condB_no h3] at h
      refine st_seq ?_
      repeat get_elem_tactic_trivial
      try dsimp only [List.set_cons_succ, List.set_cons_zero]
      refine br_ct (by rw [decide_eq_false (by omega)]; rfl) ?_
      repeat get_elem_tactic_trivial
      try dsimp only [List.set_cons_succ, List.set_cons_zero]
      exact fin.of h
  | _ =>
    refine st_seq ?_
    repeat get_elem_tactic_trivial
    try dsimp only [List.set_cons_succ, List.set_cons_zero]
    exact fin.of h
theorem sp_law_is_condition {l : Str} {d : D} {S : Sto} {K : KE} (hl : l.length ≤ 4) (v : Pl d) (h : K (.bl (condB l d)) S) : c_law_is_condition [.str l, d] S K := by
  refine st_def rfl ?_
  unfold w_law_is_condition
  cases v with
  | tup t nt ht =>
    by_cases h3 : t.length = 3
    · obtain ⟨a, b, c, rfl⟩ := three_of h3
      have va := ht a (by simp)
      have vb := ht b (by simp)
      have vc := ht c (by simp)
      clear ht h3 nt
      refine st_seq ?_
      cases va with
      | tup fs nf hfs =>
        have h : K (.bl ((decide (fs.length = l.length + 1) && fs.all (withinB (-99) 99)) && (withinB (-9999) 9999 b && boolB c))) S := h
        repeat get_elem_tactic_trivial
        try dsimp only [List.set_cons_succ, List.set_cons_zero]
        refine st_seq ?_
        repeat get_elem_tactic_trivial
        try dsimp only [List.set_cons_succ, List.set_cons_zero]
        refine st_lenS (by unfold sizeLine; omega) ?_
        repeat get_elem_tactic_trivial
        try dsimp only [List.set_cons_succ, List.set_cons_zero]
        by_cases hf : fs.length = l.length + 1
        · rw [decide_eq_true hf, Bool.true_and] at h
          refine ⟨fun e => absurd e (by rw [decide_eq_true (by omega)]; simp), fun _ => ?_⟩
          repeat get_elem_tactic_trivial
          try dsimp only [List.set_cons_succ, List.set_cons_zero]
          refine comp_map (fun f => .bl (withinB (-99) 99 f)) trivial (by unfold sizeLine; omega) (fun f hf K F k => ?_) ?_
          · repeat get_elem_tactic_trivial
            try dsimp only [List.set_cons_succ, List.set_cons_zero]
            exact sp_law_is_between (hfs f hf) k
          · repeat get_elem_tactic_trivial
            try dsimp only [List.set_cons_succ, List.set_cons_zero]
            rw [show (fs.map fun f => D.bl (withinB (-99) 99 f)) = (fs.map (withinB (-99) 99)).map D.bl by rw [List.map_map]; rfl]
            refine st_inB ?_
            rw [List.all_map]
            repeat get_elem_tactic_trivial
            try dsimp only [List.set_cons_succ, List.set_cons_zero]
            have ea : (fs.all (id ∘ withinB (-99) 99)) = fs.all (withinB (-99) 99) := rfl
            rw [ea]
            cases e : fs.all (withinB (-99) 99) with
            | false =>
              rw [e] at h
              repeat get_elem_tactic_trivial
              try dsimp only [List.set_cons_succ, List.set_cons_zero]
              exact fin.of h
            | true =>
              rw [e, Bool.true_and] at h
              repeat get_elem_tactic_trivial
              try dsimp only [List.set_cons_succ, List.set_cons_zero]
              refine sp_law_is_between (lo := -9999) (hi := 9999) vb ?_
              refine ⟨_, rfl, fun e2 => ?_, fun e2 => ?_⟩
              · rw [e2] at h
                cases vc <;> (repeat get_elem_tactic_trivial) <;> exact fin.of h
              · rw [e2] at h
                exact fin.of h
        · rw [decide_eq_false hf] at h
          refine ⟨fun _ => ?_, fun e => absurd e (by rw [decide_eq_false (by omega)]; simp)⟩
          repeat get_elem_tactic_trivial
          try dsimp only [List.set_cons_succ, List.set_cons_zero]
          exact fin.of h
      | _ =>
        repeat get_elem_tactic_trivial
        try dsimp only [List.set_cons_succ, List.set_cons_zero]
        exact fin.of h
    · rw [condB_no h3] at h
      refine st_seq ?_
      repeat get_elem_tactic_trivial
      try dsimp only [List.set_cons_succ, List.set_cons_zero]
      refine br_ct (by rw [decide_eq_false (by omega)]; rfl) ?_
      repeat get_elem_tactic_trivial
      try dsimp only [List.set_cons_succ, List.set_cons_zero]
      exact fin.of h
  | _ =>
    refine st_seq ?_
    repeat get_elem_tactic_trivial
    try dsimp only [List.set_cons_succ, List.set_cons_zero]
    exact fin.of h


end G

set_option Elab.async false
set_option linter.all false
set_option maxRecDepth 100000
set_option autoImplicit false
set_option maxHeartbeats 2000000
namespace G
open PySem PySem.Spec PyProof.Rows L2
local macro_rules
  | `(tactic| get_elem_tactic_trivial) => `(tactic| first
    | (with_reducible first
      | refine st_seqSet ?_ | refine st_seqAsg ?_ | refine st_seqDo ?_ | refine st_seqPar ?_ | refine st_seqPar3 ?_ | refine st_seqFor ?_ | refine st_seqWhile ?_ | refine st_seqAug ?_ | refine st_seqSkip ?_ | refine st_seqRet ?_
      | refine st_skip ?_ | refine st_ret ?_ | refine st_retN ?_ | refine st_do ?_ | refine st_if ?_ | refine st_set ?_ | refine st_asg ?_ | refine st_par ?_ | refine st_par3 ?_
      | refine st_c ?_ | refine st_op2 ?_ | refine st_op1 ?_ | refine st_test ?_ | refine st_tbl ?_ | refine st_and ?_ | refine st_or ?_ | refine st_not ?_ | refine st_andV ?_ | refine st_orV ?_ | refine st_notV ?_ | refine st_bl ?_
      | refine st_chain ?_ | refine st_ifE ?_ | refine st_nil ?_ | refine st_cons ?_ | refine st_call ?_ | refine st_fr ?_ | refine st_lv ?_ | refine st_one ?_ | refine st_two ?_
      | refine st_gN ?_ | refine st_lst ?_ | refine st_tup ?_ | refine st_slF ?_ | refine st_oNo ?_ | refine st_oS ?_ | refine st_enum ?_ | refine st_scr ?_ | refine st_list ?_ | refine st_it ?_ | refine st_comp ?_ | refine st_for ?_ | refine st_gIx ?_ | refine st_range1 ?_ | refine st_app ?_ | refine st_zip ?_ | refine st_rev1 ?_ | refine st_meth ?_ | refine st_isS ?_ | refine st_count ?_ | refine st_sl ?_ | refine st_slT ?_ | refine st_slL ?_ | refine st_max2 ?_ | refine st_min2 ?_
      | refine st_add ?_ | refine st_sub ?_ | refine st_int ?_ | refine st_neg ?_ | refine st_lt ?_ | refine st_le ?_ | refine st_gt ?_ | refine st_ge ?_ | refine st_eq ?_ | refine st_ne ?_ | refine st_eqB ?_ | refine st_neB ?_ | refine st_eqS ?_ | refine st_neS ?_ | refine st_isN ?_ | refine st_sorted ?_ | refine st_abs ?_ | refine st_isNotN ?_
      | refine br_t ?_ | refine br_f ?_)
    | ((with_reducible refine st_var (d := ?_) ?_ ?_); rotate_left; (exact rfl))
    | ((with_reducible refine st_isi2 (k := ?_) (b := true) ?_ ?_ ?_); rotate_left; (exact rfl); (exact rfl))
    | ((with_reducible refine st_isi2 (k := ?_) (b := false) ?_ ?_ ?_); rotate_left; (exact rfl); (exact rfl))
    | ((with_reducible refine st_ix (ds := ?_) (d := ?_) ?_ ?_ ?_); rotate_left 2; (first | exact rfl | exact seq_at (by assumption)); (exact rfl))
    | ((with_reducible refine st_len2 (ds := ?_) (n := ?_) ?_ ?_ ?_); rotate_left 2; (first | exact rfl | exact seq_at (by assumption)); (exact rfl))
    | ((with_reducible refine st_addLL (a := ?_) (b := ?_) ?_ ?_ ?_ ?_); rotate_left 2; (first | exact rfl | exact lst_at (by assumption)); (first | exact rfl | exact lst_at (by assumption)); (exact Nat.le_of_ble_eq_true rfl))
    | ((with_reducible refine st_pow ?_ ?_); (exact ⟨by decide, by decide, by decide⟩))
    | ((with_reducible refine st_mod ?_ ?_); (first | decide | omega))
    | ((with_reducible refine st_size ?_ ?_); (exact rfl))
    | ((with_reducible refine st_gT2 ?_ ?_); (exact rfl))
    | ((with_reducible refine st_gsC ?_))
    | ((with_reducible refine st_gsN ?_))
    | ((with_reducible refine st_mulS ?_ ?_ ?_); omega; omega)
    | ((with_reducible refine br_ct ?_ ?_); (exact rfl))
    | ((with_reducible refine br_cf ?_ ?_); (exact rfl))
    | (rw [list_tup])
    | (rw [list_lst])
    | (rw [items_tup])
    | (rw [items_lst])
    | ((refine st_listM (ds := ?_) ?_ ?_); rotate_left; (first | exact rfl | exact seq_at (by assumption)))
    | ((refine st_itM (it := ?_) ?_ ?_); rotate_left; (first | exact rfl | exact it_at (by assumption))))

/-! ### fonts -/
def intsD : List D → List Int
  | .int i :: ds => i :: intsD ds
  | _ :: ds => intsD ds
  | [] => []
theorem intsD_map : ∀ ns : List Int, intsD (ns.map D.int) = ns
  | [] => rfl
  | n :: ns => by
    show n :: intsD (ns.map D.int) = n :: ns
    rw [intsD_map ns]
theorem ints_all {p : D → Bool} (hp : ∀ d, p d = true → intB d = true) : ∀ {ds : List D}, ds.all p = true → ds = (intsD ds).map D.int
  | [], _ => rfl
  | d :: ds, h => by
    rw [List.all_cons, Bool.and_eq_true] at h
    have h1 := hp d h.1
    have ih := ints_all hp h.2
    cases d with
    | int i =>
      show D.int i :: ds = D.int i :: (intsD ds).map D.int
      rw [← ih]
    | _ => cases h1
theorem within_int {lo hi : Int} (d : D) (h : withinB lo hi d = true) : intB d = true := by
  cases d with
  | int i => rfl
  | _ => cases h
theorem within_nn {lo hi : Int} {ws : List D} (h : ws.all (withinB lo hi) = true) : ∀ x, x ∈ intsD ws → lo ≤ x ∧ x ≤ hi := fun x hx => by
  have ew := ints_all within_int h
  have hm : D.int x ∈ ws := by
    rw [ew]
    exact List.mem_map.mpr ⟨x, hx, rfl⟩
  have q : (decide (lo ≤ x) && decide (x ≤ hi)) = true := List.all_eq_true.mp h _ hm
  rw [Bool.and_eq_true] at q
  exact ⟨of_decide_eq_true q.1, of_decide_eq_true q.2⟩
def fontB (l : Str) : D → Bool
  | .tup [.int u, .tup ws] => decide (1 ≤ u) && (decide (ws.length = l.length + 1) && (ws.all (withinB 0 (20 * u)) && decide (gcds 0 (u :: intsD ws) = 1)))
  | _ => false
theorem fontB_no {l : Str} {t : List D} (h : t.length ≠ 2) : fontB l (.tup t) = false := by
  unfold fontB
  split
  · rename_i e
    injection e with e
    rw [e] at h
    exact absurd rfl h
  · rfl
theorem sp_is_font {l : Str} {d : D} {S : Sto} {K : KE} (hl : l.length ≤ 4) (v : Pl d) (h : K (.bl (fontB l d)) S) : c_is_font [.str l, d] S K := by
  refine st_def rfl ?_
  unfold w_is_font
  cases v with
  | tup t nt ht =>
    by_cases h2 : t.length = 2
    · obtain ⟨a, b, rfl⟩ := two_of h2
      have va := ht a (by simp)
      have vb := ht b (by simp)
      clear ht h2 nt
      refine st_seq ?_
      repeat get_elem_tactic_trivial
      try dsimp only [List.set_cons_succ, List.set_cons_zero]
      refine sp_is_integer va ?_
      cases va with
      | int u hu =>
        repeat get_elem_tactic_trivial
        try dsimp only [List.set_cons_succ, List.set_cons_zero]
        by_cases u1 : 1 ≤ u
        · refine br_cf (decide_eq_false (by omega)) ?_
          refine st_seq ?_
          repeat get_elem_tactic_trivial
          try dsimp only [List.set_cons_succ, List.set_cons_zero]
          refine st_seq ?_
          cases vb with
          | tup ws nf hws =>
            have h : K (.bl (decide (1 ≤ u) && (decide (ws.length = l.length + 1) && (ws.all (withinB 0 (20 * u)) && decide (gcds 0 (u :: intsD ws) = 1))))) S := h
            rw [decide_eq_true u1, Bool.true_and] at h
            repeat get_elem_tactic_trivial
            try dsimp only [List.set_cons_succ, List.set_cons_zero]
            refine st_lenS (by unfold sizeLine; omega) ?_
            repeat get_elem_tactic_trivial
            try dsimp only [List.set_cons_succ, List.set_cons_zero]
            by_cases hf : ws.length = l.length + 1
            · rw [decide_eq_true hf, Bool.true_and] at h
              refine br_cf (by rw [decide_eq_true (by omega)]; rfl) ?_
              refine st_seq ?_
              repeat get_elem_tactic_trivial
              try dsimp only [List.set_cons_succ, List.set_cons_zero]
              refine comp_map (fun f => .bl (withinB 0 (20 * u) f)) trivial (by unfold sizeLine; omega) (fun f hf K F k => ?_) ?_
              · repeat get_elem_tactic_trivial
                try dsimp only [List.set_cons_succ, List.set_cons_zero]
                exact sp_is_within (hws f hf) k
              · repeat get_elem_tactic_trivial
                try dsimp only [List.set_cons_succ, List.set_cons_zero]
                rw [show (ws.map fun f => D.bl (withinB 0 (20 * u) f)) = (ws.map (withinB 0 (20 * u))).map D.bl by rw [List.map_map]; rfl]
                refine st_allL ?_
                rw [List.all_map]
                repeat get_elem_tactic_trivial
                try dsimp only [List.set_cons_succ, List.set_cons_zero]
                have ea : (ws.all (id ∘ withinB 0 (20 * u))) = ws.all (withinB 0 (20 * u)) := rfl
                rw [ea]
                cases e : ws.all (withinB 0 (20 * u)) with
                | false =>
                  rw [e] at h
                  repeat get_elem_tactic_trivial
                  try dsimp only [List.set_cons_succ, List.set_cons_zero]
                  exact fin.of h
                | true =>
                  rw [e, Bool.true_and] at h
                  have ew := ints_all within_int e
                  repeat get_elem_tactic_trivial
                  try dsimp only [List.set_cons_succ, List.set_cons_zero]
                  refine st_addLL (a := [D.int u]) (b := ws) rfl rfl (by simp only [List.length_singleton]; unfold sizeLine; omega) ?_
                  rw [show [D.int u] ++ ws = (u :: intsD ws).map D.int by rw [List.map_cons, ← ew]; rfl]
                  repeat get_elem_tactic_trivial
                  try dsimp only [List.set_cons_succ, List.set_cons_zero]
                  refine sp_divisor_of (fun x hx => ?_) ?_
                  · rcases List.mem_cons.mp hx with z | z
                    · omega
                    · exact (within_nn e x z).1
                  · repeat get_elem_tactic_trivial
                    try dsimp only [List.set_cons_succ, List.set_cons_zero]
                    rw [show decide ((gcds 0 (u :: intsD ws) : Int) = 1) = decide (gcds 0 (u :: intsD ws) = 1) from decide_eq_decide.mpr (by omega)]
                    exact fin.of h
            · rw [decide_eq_false hf] at h
              refine br_ct (by rw [decide_eq_false (by omega)]; rfl) ?_
              repeat get_elem_tactic_trivial
              try dsimp only [List.set_cons_succ, List.set_cons_zero]
              exact fin.of h
          | _ =>
            repeat get_elem_tactic_trivial
            try dsimp only [List.set_cons_succ, List.set_cons_zero]
            exact fin.of h
        · have e : fontB l (.tup [.int u, b]) = false := by
            unfold fontB
            split
            · rename_i e
              injection e with e
              injection e with e1 e2
              injection e1 with e1
              rw [← e1, decide_eq_false u1]
              rfl
            · rfl
          rw [e] at h
          refine br_ct (decide_eq_true (by omega)) ?_
          repeat get_elem_tactic_trivial
          try dsimp only [List.set_cons_succ, List.set_cons_zero]
          exact fin.of h
      | _ =>
        repeat get_elem_tactic_trivial
        try dsimp only [List.set_cons_succ, List.set_cons_zero]
        exact fin.of h
    · rw [fontB_no h2] at h
      refine st_seq ?_
      repeat get_elem_tactic_trivial
      try dsimp only [List.set_cons_succ, List.set_cons_zero]
      refine br_ct (by rw [decide_eq_false (by omega)]; rfl) ?_
      repeat get_elem_tactic_trivial
      try dsimp only [List.set_cons_succ, List.set_cons_zero]
      exact fin.of h
  | _ =>
    refine st_seq ?_
    repeat get_elem_tactic_trivial
    try dsimp only [List.set_cons_succ, List.set_cons_zero]
    exact fin.of h


end G

set_option Elab.async false
set_option linter.all false
set_option maxRecDepth 100000
set_option autoImplicit false
set_option maxHeartbeats 2000000
namespace G
open PySem PySem.Spec PyProof.Rows L2
local macro_rules
  | `(tactic| get_elem_tactic_trivial) => `(tactic| first
    | (with_reducible first
      | refine st_seqSet ?_ | refine st_seqAsg ?_ | refine st_seqDo ?_ | refine st_seqPar ?_ | refine st_seqPar3 ?_ | refine st_seqFor ?_ | refine st_seqWhile ?_ | refine st_seqAug ?_ | refine st_seqSkip ?_ | refine st_seqRet ?_
      | refine st_skip ?_ | refine st_ret ?_ | refine st_retN ?_ | refine st_do ?_ | refine st_if ?_ | refine st_set ?_ | refine st_asg ?_ | refine st_par ?_ | refine st_par3 ?_
      | refine st_c ?_ | refine st_op2 ?_ | refine st_op1 ?_ | refine st_test ?_ | refine st_tbl ?_ | refine st_and ?_ | refine st_or ?_ | refine st_not ?_ | refine st_andV ?_ | refine st_orV ?_ | refine st_notV ?_ | refine st_bl ?_
      | refine st_chain ?_ | refine st_ifE ?_ | refine st_nil ?_ | refine st_cons ?_ | refine st_call ?_ | refine st_fr ?_ | refine st_lv ?_ | refine st_one ?_ | refine st_two ?_
      | refine st_gN ?_ | refine st_lst ?_ | refine st_tup ?_ | refine st_slF ?_ | refine st_oNo ?_ | refine st_oS ?_ | refine st_enum ?_ | refine st_scr ?_ | refine st_list ?_ | refine st_it ?_ | refine st_comp ?_ | refine st_for ?_ | refine st_gIx ?_ | refine st_range1 ?_ | refine st_app ?_ | refine st_zip ?_ | refine st_rev1 ?_ | refine st_meth ?_ | refine st_isS ?_ | refine st_count ?_ | refine st_sl ?_ | refine st_slT ?_ | refine st_slL ?_ | refine st_max2 ?_ | refine st_min2 ?_
      | refine st_add ?_ | refine st_sub ?_ | refine st_int ?_ | refine st_neg ?_ | refine st_lt ?_ | refine st_le ?_ | refine st_gt ?_ | refine st_ge ?_ | refine st_eq ?_ | refine st_ne ?_ | refine st_eqB ?_ | refine st_neB ?_ | refine st_eqS ?_ | refine st_neS ?_ | refine st_isN ?_ | refine st_sorted ?_ | refine st_abs ?_ | refine st_isNotN ?_
      | refine br_t ?_ | refine br_f ?_)
    | ((with_reducible refine st_var (d := ?_) ?_ ?_); rotate_left; (exact rfl))
    | ((with_reducible refine st_isi2 (k := ?_) (b := true) ?_ ?_ ?_); rotate_left; (exact rfl); (exact rfl))
    | ((with_reducible refine st_isi2 (k := ?_) (b := false) ?_ ?_ ?_); rotate_left; (exact rfl); (exact rfl))
    | ((with_reducible refine st_ix (ds := ?_) (d := ?_) ?_ ?_ ?_); rotate_left 2; (first | exact rfl | exact seq_at (by assumption)); (exact rfl))
    | ((with_reducible refine st_len2 (ds := ?_) (n := ?_) ?_ ?_ ?_); rotate_left 2; (first | exact rfl | exact seq_at (by assumption)); (exact rfl))
    | ((with_reducible refine st_addLL (a := ?_) (b := ?_) ?_ ?_ ?_ ?_); rotate_left 2; (first | exact rfl | exact lst_at (by assumption)); (first | exact rfl | exact lst_at (by assumption)); (exact Nat.le_of_ble_eq_true rfl))
    | ((with_reducible refine st_pow ?_ ?_); (exact ⟨by decide, by decide, by decide⟩))
    | ((with_reducible refine st_mod ?_ ?_); (first | decide | omega))
    | ((with_reducible refine st_size ?_ ?_); (exact rfl))
    | ((with_reducible refine st_gT2 ?_ ?_); (exact rfl))
    | ((with_reducible refine st_gsC ?_))
    | ((with_reducible refine st_gsN ?_))
    | ((with_reducible refine st_mulS ?_ ?_ ?_); omega; omega)
    | ((with_reducible refine br_ct ?_ ?_); (exact rfl))
    | ((with_reducible refine br_cf ?_ ?_); (exact rfl))
    | (rw [list_tup])
    | (rw [list_lst])
    | (rw [items_tup])
    | (rw [items_lst])
    | ((refine st_listM (ds := ?_) ?_ ?_); rotate_left; (first | exact rfl | exact seq_at (by assumption)))
    | ((refine st_itM (it := ?_) ?_ ?_); rotate_left; (first | exact rfl | exact it_at (by assumption))))

theorem comp_filterD {keep : Sto → Prop} {g : WG} {t : WT} {e : WE} {ρ : Rho} {K : List D → Sto → Prop} {S : Sto} (l : List D) (f : D → Bool) (hk : keep S) (hl : l.length ≤ sizeLine)
    (hs : ∀ a, a ∈ l → ∀ (K1 : D → Sto → Prop) (F1 : Sto → Prop), (f a = true → K1 a S) → (f a = false → F1 S) → g a ρ S fun ρ1 S1 => t ρ1 S1 fun b S2 => (b = true → e ρ1 S2 K1) ∧ (b = false → F1 S2))
    (hK : K (l.filter f) S) : compW keep g t e ρ l [] S K := by
  have h := comp_filterL (keep := keep) (g := g) (t := t) (e := e) (ρ := ρ) (K := K) (S := S) l id id f hk hl hs (by rw [List.map_id]; exact hK)
  rw [List.map_id] at h
  exact h
theorem filter_empty {l : List D} {f : D → Bool} : (l.filter f).isEmpty = l.all fun d => !f d := by
  induction l with
  | nil => rfl
  | cons d l ih =>
    rw [List.filter_cons, List.all_cons]
    cases f d with
    | true => rfl
    | false => exact ih
theorem fontB_nb {l : Str} {a b : D} (h : ∀ ws, b ≠ .tup ws) : fontB l (.tup [a, b]) = false := by
  unfold fontB
  split
  · rename_i e
    injection e with e
    injection e with e1 e2
    injection e2 with e2 e3
    exact absurd e2 (h _)
  · rfl
theorem fontB_at {l : Str} {u : Int} {ws : List D} : fontB l (.tup [.int u, .tup ws]) = (decide (1 ≤ u) && (decide (ws.length = l.length + 1) && (ws.all (withinB 0 (20 * u)) && decide (gcds 0 (u :: intsD ws) = 1)))) := rfl
theorem fontB_ni {l : Str} {a : D} {ws : List D} (h : ([a] ++ ws).all intB = false) : fontB l (.tup [a, .tup ws]) = false := by
  cases a with
  | int u =>
    have h : ws.all intB = false := h
    rw [fontB_at]
    have e : ws.all (withinB 0 (20 * u)) = false := by
      cases q : ws.all (withinB 0 (20 * u)) with
      | false => rfl
      | true =>
        rw [List.all_eq_true.mpr fun d hd => within_int d (List.all_eq_true.mp q d hd)] at h
        cases h
    rw [e, Bool.false_and, Bool.and_false, Bool.and_false]
  | _ => rfl
theorem sp_law_is_font {l : Str} {d : D} {S : Sto} {K : KE} (hl : l.length ≤ 4) (v : Pl d) (h : K (.bl (fontB l d)) S) : c_law_is_font [.str l, d] S K := by
  refine st_def rfl ?_
  unfold w_law_is_font
  cases v with
  | tup t nt ht =>
    by_cases h2 : t.length = 2
    · obtain ⟨a, b, rfl⟩ := two_of h2
      have va := ht a (by simp)
      have vb := ht b (by simp)
      clear ht h2 nt
      refine st_seq ?_
      repeat get_elem_tactic_trivial
      try dsimp only [List.set_cons_succ, List.set_cons_zero]
      cases vb with
      | tup ws nf hws =>
        repeat get_elem_tactic_trivial
        try dsimp only [List.set_cons_succ, List.set_cons_zero]
        refine st_addT (by simp only [List.length_singleton]; unfold sizeLine; omega) ?_
        refine st_seq ?_
        repeat get_elem_tactic_trivial
        try dsimp only [List.set_cons_succ, List.set_cons_zero]
        refine comp_filterD ([a] ++ ws) (fun d => !intB d) trivial (by simp only [List.length_append, List.length_singleton]; unfold sizeLine; omega) (fun q hq K1 F1 k1 k2 => ?_) ?_
        · have vq : Pl q := by
            rcases List.mem_append.mp hq with z | z
            · rw [List.mem_singleton.mp z]; exact va
            · exact hws q z
          cases vq with
          | int i hi =>
            repeat get_elem_tactic_trivial
            try dsimp only [List.set_cons_succ, List.set_cons_zero]
            exact k2 rfl
          | _ =>
            repeat get_elem_tactic_trivial
            try dsimp only [List.set_cons_succ, List.set_cons_zero]
            exact k1 rfl
        · have ea : (([a] ++ ws).filter fun d => !intB d).isEmpty = ([a] ++ ws).all intB := by
            rw [filter_empty]
            congr 1
            funext d
            exact Bool.not_not _
          repeat get_elem_tactic_trivial
          try dsimp only [List.set_cons_succ, List.set_cons_zero]
          refine st_neNilL ?_
          rw [ea]
          repeat get_elem_tactic_trivial
          try dsimp only [List.set_cons_succ, List.set_cons_zero]
          cases e : ([a] ++ ws).all intB with
          | false =>
            rw [fontB_ni e] at h
            repeat get_elem_tactic_trivial
            try dsimp only [List.set_cons_succ, List.set_cons_zero]
            exact fin.of h
          | true =>
            have e2 : ws.all intB = true := by
              rw [List.all_append, Bool.and_eq_true] at e
              exact e.2
            have ew := ints_all (fun d h => h) e2
            cases va with
            | int u hu =>
              rw [fontB_at] at h
              repeat get_elem_tactic_trivial
              try dsimp only [List.set_cons_succ, List.set_cons_zero]
              refine st_seq ?_
              repeat get_elem_tactic_trivial
              try dsimp only [List.set_cons_succ, List.set_cons_zero]
              by_cases u1 : 1 ≤ u
              · rw [decide_eq_true u1, Bool.true_and] at h
                refine br_cf (decide_eq_false (by omega)) ?_
                repeat get_elem_tactic_trivial
                try dsimp only [List.set_cons_succ, List.set_cons_zero]
                refine st_lenS (by unfold sizeLine; omega) ?_
                repeat get_elem_tactic_trivial
                try dsimp only [List.set_cons_succ, List.set_cons_zero]
                by_cases hf : ws.length = l.length + 1
                · rw [decide_eq_true hf, Bool.true_and] at h
                  refine br_cf (by rw [decide_eq_true (by omega)]; rfl) ?_
                  repeat get_elem_tactic_trivial
                  try dsimp only [List.set_cons_succ, List.set_cons_zero]
                  rw [show [D.int u] ++ ws = (u :: intsD ws).map D.int by rw [List.map_cons, ← ew]; rfl]
                  refine sp_divisorT ?_
                  repeat get_elem_tactic_trivial
                  try dsimp only [List.set_cons_succ, List.set_cons_zero]
                  by_cases g1 : gcds 0 (u :: intsD ws) = 1
                  · rw [decide_eq_true g1, Bool.and_true] at h
                    refine br_cf (by rw [decide_eq_true (by omega)]; rfl) ?_
                    repeat get_elem_tactic_trivial
                    try dsimp only [List.set_cons_succ, List.set_cons_zero]
                    refine comp_filterD ws (fun d => !withinB 0 (20 * u) d) trivial (by unfold sizeLine; omega) (fun q hq K1 F1 k1 k2 => ?_) ?_
                    · cases q with
                      | int x =>
                        have k1 : (!(decide (0 ≤ x) && decide (x ≤ 20 * u))) = true → K1 (.int x) S := k1
                        have k2 : (!(decide (0 ≤ x) && decide (x ≤ 20 * u))) = false → F1 S := k2
                        repeat get_elem_tactic_trivial
                        try dsimp only [List.set_cons_succ, List.set_cons_zero]
                        by_cases x0 : 0 ≤ x
                        · rw [decide_eq_true x0, Bool.true_and] at k1 k2
                          refine br_ct (decide_eq_true (by omega)) ?_
                          repeat get_elem_tactic_trivial
                          try dsimp only [List.set_cons_succ, List.set_cons_zero]
                          refine ⟨fun e => ?_, fun e => k2 e⟩
                          repeat get_elem_tactic_trivial
                          try dsimp only [List.set_cons_succ, List.set_cons_zero]
                          exact k1 e
                        · rw [decide_eq_false x0, Bool.false_and] at k1
                          refine br_cf (decide_eq_false (by omega)) ?_
                          repeat get_elem_tactic_trivial
                          try dsimp only [List.set_cons_succ, List.set_cons_zero]
                          exact k1 rfl
                      | _ => cases (List.all_eq_true.mp e2 _ hq)
                    · have eb : (ws.filter fun d => !withinB 0 (20 * u) d).isEmpty = ws.all (withinB 0 (20 * u)) := by
                        rw [filter_empty]
                        congr 1
                        funext d
                        exact Bool.not_not _
                      repeat get_elem_tactic_trivial
                      try dsimp only [List.set_cons_succ, List.set_cons_zero]
                      refine st_eqNilL ?_
                      rw [eb]
                      exact fin.of h
                  · rw [decide_eq_false g1, Bool.and_false] at h
                    refine br_ct (by rw [decide_eq_false (by omega)]; rfl) ?_
                    repeat get_elem_tactic_trivial
                    try dsimp only [List.set_cons_succ, List.set_cons_zero]
                    exact fin.of h
                · rw [decide_eq_false hf] at h
                  refine br_ct (by rw [decide_eq_false (by omega)]; rfl) ?_
                  repeat get_elem_tactic_trivial
                  try dsimp only [List.set_cons_succ, List.set_cons_zero]
                  exact fin.of h
              · rw [decide_eq_false u1] at h
                refine br_ct (decide_eq_true (by omega)) ?_
                repeat get_elem_tactic_trivial
                try dsimp only [List.set_cons_succ, List.set_cons_zero]
                exact fin.of h
            | _ => cases e
      | _ =>
        rw [fontB_nb (fun ws z => by cases z)] at h
        repeat get_elem_tactic_trivial
        try dsimp only [List.set_cons_succ, List.set_cons_zero]
        exact fin.of h
    · rw [fontB_no h2] at h
      refine st_seq ?_
      repeat get_elem_tactic_trivial
      try dsimp only [List.set_cons_succ, List.set_cons_zero]
      refine br_ct (by rw [decide_eq_false (by omega)]; rfl) ?_
      repeat get_elem_tactic_trivial
      try dsimp only [List.set_cons_succ, List.set_cons_zero]
      exact fin.of h
  | _ =>
    refine st_seq ?_
    repeat get_elem_tactic_trivial
    try dsimp only [List.set_cons_succ, List.set_cons_zero]
    exact fin.of h


end G

set_option Elab.async false
set_option linter.all false
set_option maxRecDepth 100000
set_option autoImplicit false
set_option maxHeartbeats 2000000
namespace G
open PySem PySem.Spec PyProof.Rows L2
local macro_rules
  | `(tactic| get_elem_tactic_trivial) => `(tactic| first
    | (with_reducible first
      | refine st_seqSet ?_ | refine st_seqAsg ?_ | refine st_seqDo ?_ | refine st_seqPar ?_ | refine st_seqPar3 ?_ | refine st_seqFor ?_ | refine st_seqWhile ?_ | refine st_seqAug ?_ | refine st_seqSkip ?_ | refine st_seqRet ?_
      | refine st_skip ?_ | refine st_ret ?_ | refine st_retN ?_ | refine st_do ?_ | refine st_if ?_ | refine st_set ?_ | refine st_asg ?_ | refine st_par ?_ | refine st_par3 ?_
      | refine st_c ?_ | refine st_op2 ?_ | refine st_op1 ?_ | refine st_test ?_ | refine st_tbl ?_ | refine st_and ?_ | refine st_or ?_ | refine st_not ?_ | refine st_andV ?_ | refine st_orV ?_ | refine st_notV ?_ | refine st_bl ?_
      | refine st_chain ?_ | refine st_ifE ?_ | refine st_nil ?_ | refine st_cons ?_ | refine st_call ?_ | refine st_fr ?_ | refine st_lv ?_ | refine st_one ?_ | refine st_two ?_
      | refine st_gN ?_ | refine st_lst ?_ | refine st_tup ?_ | refine st_slF ?_ | refine st_oNo ?_ | refine st_oS ?_ | refine st_enum ?_ | refine st_scr ?_ | refine st_list ?_ | refine st_it ?_ | refine st_comp ?_ | refine st_for ?_ | refine st_gIx ?_ | refine st_range1 ?_ | refine st_app ?_ | refine st_zip ?_ | refine st_rev1 ?_ | refine st_meth ?_ | refine st_isS ?_ | refine st_count ?_ | refine st_sl ?_ | refine st_slT ?_ | refine st_slL ?_ | refine st_max2 ?_ | refine st_min2 ?_
      | refine st_add ?_ | refine st_sub ?_ | refine st_int ?_ | refine st_neg ?_ | refine st_lt ?_ | refine st_le ?_ | refine st_gt ?_ | refine st_ge ?_ | refine st_eq ?_ | refine st_ne ?_ | refine st_eqB ?_ | refine st_neB ?_ | refine st_eqS ?_ | refine st_neS ?_ | refine st_isN ?_ | refine st_sorted ?_ | refine st_abs ?_ | refine st_isNotN ?_
      | refine br_t ?_ | refine br_f ?_)
    | ((with_reducible refine st_var (d := ?_) ?_ ?_); rotate_left; (exact rfl))
    | ((with_reducible refine st_isi2 (k := ?_) (b := true) ?_ ?_ ?_); rotate_left; (exact rfl); (exact rfl))
    | ((with_reducible refine st_isi2 (k := ?_) (b := false) ?_ ?_ ?_); rotate_left; (exact rfl); (exact rfl))
    | ((with_reducible refine st_ix (ds := ?_) (d := ?_) ?_ ?_ ?_); rotate_left 2; (first | exact rfl | exact seq_at (by assumption)); (exact rfl))
    | ((with_reducible refine st_len2 (ds := ?_) (n := ?_) ?_ ?_ ?_); rotate_left 2; (first | exact rfl | exact seq_at (by assumption)); (exact rfl))
    | ((with_reducible refine st_addLL (a := ?_) (b := ?_) ?_ ?_ ?_ ?_); rotate_left 2; (first | exact rfl | exact lst_at (by assumption)); (first | exact rfl | exact lst_at (by assumption)); (exact Nat.le_of_ble_eq_true rfl))
    | ((with_reducible refine st_pow ?_ ?_); (exact ⟨by decide, by decide, by decide⟩))
    | ((with_reducible refine st_mod ?_ ?_); (first | decide | omega))
    | ((with_reducible refine st_size ?_ ?_); (exact rfl))
    | ((with_reducible refine st_gT2 ?_ ?_); (exact rfl))
    | ((with_reducible refine st_gsC ?_))
    | ((with_reducible refine st_gsN ?_))
    | ((with_reducible refine st_mulS ?_ ?_ ?_); omega; omega)
    | ((with_reducible refine br_ct ?_ ?_); (exact rfl))
    | ((with_reducible refine br_cf ?_ ?_); (exact rfl))
    | (rw [list_tup])
    | (rw [list_lst])
    | (rw [items_tup])
    | (rw [items_lst])
    | ((refine st_listM (ds := ?_) ?_ ?_); rotate_left; (first | exact rfl | exact seq_at (by assumption)))
    | ((refine st_itM (it := ?_) ?_ ?_); rotate_left; (first | exact rfl | exact it_at (by assumption))))

/-! ### signs in order -/
def upF : Nat → List Nat → Bool
  | _, [] => true
  | p, x :: r => decide (p < x) && upF x r
def upB : List Nat → Bool
  | [] => true
  | x :: r => upF x r
theorem upF_iff : ∀ (r : List Nat) (p : Nat), upF p r = true ↔ (p :: r).Pairwise (· < ·)
  | [], p => by simp [upF]
  | x :: r, p => by
    have ih := upF_iff r x
    unfold upF
    rw [Bool.and_eq_true, decide_eq_true_eq, ih]
    constructor
    · rintro ⟨h1, h2⟩
      refine List.pairwise_cons.mpr ⟨fun y hy => ?_, h2⟩
      rcases List.mem_cons.mp hy with z | z
      · omega
      · have := (List.pairwise_cons.mp h2).1 y z
        omega
    · intro h
      obtain ⟨h1, h2⟩ := List.pairwise_cons.mp h
      exact ⟨h1 x List.mem_cons_self, h2⟩
theorem upB_iff (l : List Nat) : upB l = true ↔ l.Pairwise (· < ·) := by
  cases l with
  | nil => simp [upB]
  | cons x r => exact upF_iff r x
theorem srt_uniq : ∀ a b : List Nat, a.Pairwise (· < ·) → b.Pairwise (· < ·) → (∀ x, x ∈ a ↔ x ∈ b) → a = b
  | [], [], _, _, _ => rfl
  | [], y :: b, _, _, h => by have := (h y).mpr List.mem_cons_self; cases this
  | x :: a, [], _, _, h => by have := (h x).mp List.mem_cons_self; cases this
  | x :: a, y :: b, ha, hb, h => by
    obtain ⟨a1, a2⟩ := List.pairwise_cons.mp ha
    obtain ⟨b1, b2⟩ := List.pairwise_cons.mp hb
    have e : x = y := by
      rcases List.mem_cons.mp ((h x).mp List.mem_cons_self) with z | z
      · exact z
      · rcases List.mem_cons.mp ((h y).mpr List.mem_cons_self) with z2 | z2
        · exact z2.symm
        · have := a1 y z2
          have := b1 x z
          omega
    subst e
    rw [srt_uniq a b a2 b2 fun z => ?_]
    constructor
    · intro hz
      rcases List.mem_cons.mp ((h z).mp (List.mem_cons_of_mem _ hz)) with q | q
      · have := a1 z hz
        omega
      · exact q
    · intro hz
      rcases List.mem_cons.mp ((h z).mpr (List.mem_cons_of_mem _ hz)) with q | q
      · have := b1 z hz
        omega
      · exact q
theorem rising_le : ∀ (r : List Nat) (p : Nat), risingS ⟨#[p]⟩ (r.map fun c => (⟨#[c]⟩ : Str)) = true → (p :: r).Nodup → upF p r = true
  | [], _, _, _ => rfl
  | x :: r, p, h, nd => by
    have h : (!(PySem.Spec.ltCps [x] [p]) && risingS ⟨#[x]⟩ (r.map fun c => (⟨#[c]⟩ : Str))) = true := h
    rw [Bool.and_eq_true] at h
    obtain ⟨n1, n2⟩ := List.nodup_cons.mp nd
    have ih := rising_le r x h.2 n2
    have lt : ¬ x < p := fun z => by
      have h1 := h.1
      have e : PySem.Spec.ltCps [x] [p] = true := by
        show (decide (x < p) || (x == p && false)) = true
        rw [decide_eq_true z]
        rfl
      rw [e] at h1
      cases h1
    have ne : p ≠ x := fun z => n1 (z ▸ List.mem_cons_self)
    show (decide (p < x) && upF x r) = true
    rw [ih, decide_eq_true (by omega)]
    rfl
theorem sing_inj {a b : Nat} (h : (⟨#[a]⟩ : Str) = ⟨#[b]⟩) : a = b := by
  have e := congrArg TL.tl h
  have e : [a] = [b] := e
  injection e
theorem sing_map_inj : ∀ {a b : List Nat}, a.map (fun c => (⟨#[c]⟩ : Str)) = b.map (fun c => (⟨#[c]⟩ : Str)) → a = b
  | [], [], _ => rfl
  | [], _ :: _, h => by cases h
  | _ :: _, [], h => by cases h
  | x :: a, y :: b, h => by
    rw [List.map_cons, List.map_cons] at h
    injection h with h1 h2
    rw [sing_inj h1, sing_map_inj h2]
theorem singles_tl (z : Str) : singles z = (TL.tl z).map fun c => (⟨#[c]⟩ : Str) := rfl
theorem srt_set {z : Str} {ks : List Str} (s : sortedS ks = true) (nd : ks.Nodup) (hm : ∀ k, k ∈ ks ↔ k ∈ singles z) : decide (singles z = ks) = upB (TL.tl z) := by
  obtain ⟨cs, rfl, -⟩ := sings_of (P := fun _ => True) ks fun k hk => by
    have := (hm k).mp hk
    rw [singles_tl, List.mem_map] at this
    obtain ⟨c, _, e⟩ := this
    rw [← e]
    exact ⟨rfl, fun _ _ => trivial⟩
  have ndc : cs.Nodup := List.Pairwise.of_map _ (fun a b hne e => hne (by rw [e])) nd
  have up : upB cs = true := by
    cases cs with
    | nil => rfl
    | cons c cs => exact rising_le cs c s ndc
  have mm : ∀ x, x ∈ TL.tl z ↔ x ∈ cs := fun x => by
    have := hm ⟨#[x]⟩
    rw [singles_tl, List.mem_map, List.mem_map] at this
    constructor
    · intro h
      obtain ⟨c, hc, e⟩ := this.mpr ⟨x, h, rfl⟩
      exact sing_inj e ▸ hc
    · intro h
      obtain ⟨c, hc, e⟩ := this.mp ⟨x, h, rfl⟩
      exact sing_inj e ▸ hc
  cases e : upB (TL.tl z) with
  | true =>
    exact decide_eq_true (by rw [singles_tl, srt_uniq _ _ ((upB_iff _).mp e) ((upB_iff _).mp up) mm])
  | false =>
    refine decide_eq_false fun h => ?_
    rw [singles_tl] at h
    rw [sing_map_inj h, up] at e
    cases e


end G

set_option Elab.async false
set_option linter.all false
set_option maxRecDepth 100000
set_option autoImplicit false
set_option maxHeartbeats 2000000
namespace G
open PySem PySem.Spec PyProof.Rows L2
local macro_rules
  | `(tactic| get_elem_tactic_trivial) => `(tactic| first
    | (with_reducible first
      | refine st_seqSet ?_ | refine st_seqAsg ?_ | refine st_seqDo ?_ | refine st_seqPar ?_ | refine st_seqPar3 ?_ | refine st_seqFor ?_ | refine st_seqWhile ?_ | refine st_seqAug ?_ | refine st_seqSkip ?_ | refine st_seqRet ?_
      | refine st_skip ?_ | refine st_ret ?_ | refine st_retN ?_ | refine st_do ?_ | refine st_if ?_ | refine st_set ?_ | refine st_asg ?_ | refine st_par ?_ | refine st_par3 ?_
      | refine st_c ?_ | refine st_op2 ?_ | refine st_op1 ?_ | refine st_test ?_ | refine st_tbl ?_ | refine st_and ?_ | refine st_or ?_ | refine st_not ?_ | refine st_andV ?_ | refine st_orV ?_ | refine st_notV ?_ | refine st_bl ?_
      | refine st_chain ?_ | refine st_ifE ?_ | refine st_nil ?_ | refine st_cons ?_ | refine st_call ?_ | refine st_fr ?_ | refine st_lv ?_ | refine st_one ?_ | refine st_two ?_
      | refine st_gN ?_ | refine st_lst ?_ | refine st_tup ?_ | refine st_slF ?_ | refine st_oNo ?_ | refine st_oS ?_ | refine st_enum ?_ | refine st_scr ?_ | refine st_list ?_ | refine st_it ?_ | refine st_comp ?_ | refine st_for ?_ | refine st_gIx ?_ | refine st_range1 ?_ | refine st_app ?_ | refine st_zip ?_ | refine st_rev1 ?_ | refine st_meth ?_ | refine st_isS ?_ | refine st_count ?_ | refine st_sl ?_ | refine st_slT ?_ | refine st_slL ?_ | refine st_max2 ?_ | refine st_min2 ?_
      | refine st_add ?_ | refine st_sub ?_ | refine st_int ?_ | refine st_neg ?_ | refine st_lt ?_ | refine st_le ?_ | refine st_gt ?_ | refine st_ge ?_ | refine st_eq ?_ | refine st_ne ?_ | refine st_eqB ?_ | refine st_neB ?_ | refine st_eqS ?_ | refine st_neS ?_ | refine st_isN ?_ | refine st_sorted ?_ | refine st_abs ?_ | refine st_isNotN ?_
      | refine br_t ?_ | refine br_f ?_)
    | ((with_reducible refine st_var (d := ?_) ?_ ?_); rotate_left; (exact rfl))
    | ((with_reducible refine st_isi2 (k := ?_) (b := true) ?_ ?_ ?_); rotate_left; (exact rfl); (exact rfl))
    | ((with_reducible refine st_isi2 (k := ?_) (b := false) ?_ ?_ ?_); rotate_left; (exact rfl); (exact rfl))
    | ((with_reducible refine st_ix (ds := ?_) (d := ?_) ?_ ?_ ?_); rotate_left 2; (first | exact rfl | exact seq_at (by assumption)); (exact rfl))
    | ((with_reducible refine st_len2 (ds := ?_) (n := ?_) ?_ ?_ ?_); rotate_left 2; (first | exact rfl | exact seq_at (by assumption)); (exact rfl))
    | ((with_reducible refine st_addLL (a := ?_) (b := ?_) ?_ ?_ ?_ ?_); rotate_left 2; (first | exact rfl | exact lst_at (by assumption)); (first | exact rfl | exact lst_at (by assumption)); (exact Nat.le_of_ble_eq_true rfl))
    | ((with_reducible refine st_pow ?_ ?_); (exact ⟨by decide, by decide, by decide⟩))
    | ((with_reducible refine st_mod ?_ ?_); (first | decide | omega))
    | ((with_reducible refine st_size ?_ ?_); (exact rfl))
    | ((with_reducible refine st_gT2 ?_ ?_); (exact rfl))
    | ((with_reducible refine st_gsC ?_))
    | ((with_reducible refine st_gsN ?_))
    | ((with_reducible refine st_mulS ?_ ?_ ?_); omega; omega)
    | ((with_reducible refine br_ct ?_ ?_); (exact rfl))
    | ((with_reducible refine br_cf ?_ ?_); (exact rfl))
    | (rw [list_tup])
    | (rw [list_lst])
    | (rw [items_tup])
    | (rw [items_lst])
    | ((refine st_listM (ds := ?_) ?_ ?_); rotate_left; (first | exact rfl | exact seq_at (by assumption)))
    | ((refine st_itM (it := ?_) ?_ ?_); rotate_left; (first | exact rfl | exact it_at (by assumption))))

/-! ### letters, knowledge -/
theorem eqv_strs1 : ∀ a b : List Str, PyData.eqvAll (a.map PyData.str) (b.map PyData.str) = decide (a = b)
  | [], [] => rfl
  | [], _ :: _ => rfl
  | _ :: _, [] => rfl
  | x :: a, y :: b => by
    show ((x == y) && PyData.eqvAll (a.map PyData.str) (b.map PyData.str)) = _
    rw [eqv_strs1 a b]
    apply Bool.eq_iff_iff.mpr
    simp
theorem pds_strs1 : ∀ ys : List Str, pds (ys.map D.str) = some (ys.map PyData.str)
  | [] => rfl
  | y :: ys => by
    show (match D.pd (.str y), pds (ys.map D.str) with
      | some p, some q => some (p :: q)
      | _, _ => none) = _
    rw [pds_strs1 ys]
    rfl
theorem shaped_strs1 {ls : List Str} (ok : ∀ y, y ∈ ls → Sg (fun c => c < 128) y) : SeqAt.shaped (PyData.list (ls.map PyData.str)) = true := (Sh.list (n := 0) fun p hp => by
  obtain ⟨i, hi, e⟩ := List.mem_map.mp hp
  rw [← e]
  exact .str (strOk_of (ok i hi)) 0).shaped (by decide)
theorem st_eqLS1 {f : Bool → Bool} {S : Sto} {as bs : List Str} {K : KE} (ok : ∀ y, y ∈ as → Sg (fun c => c < 128) y) (ok2 : ∀ y, y ∈ bs → Sg (fun c => c < 128) y) (h : K (.bl (f (decide (as = bs)))) S) : oEqB f (.lst (as.map D.str)) (.lst (bs.map D.str)) S K := by
  refine .inr ⟨.list (as.map PyData.str), .list (bs.map PyData.str), ?_, ?_, shaped_strs1 ok, shaped_strs1 ok2, ?_⟩
  · show (pds _).map _ = _
    rw [pds_strs1]
    rfl
  · show (pds _).map _ = _
    rw [pds_strs1]
    rfl
  · show K (.bl (f (PyData.eqvAll _ _))) S
    rw [eqv_strs1]
    exact h
theorem singles_ok {z : Str} (hz : Sg (fun c => c < 128) z) : ∀ y, y ∈ singles z → Sg (fun c => c < 128) y := fun y hy => by
  rw [singles_tl, List.mem_map] at hy
  obtain ⟨c, hc, e⟩ := hy
  rw [← e]
  exact Sg.one (hz c hc)
def signB (c : Nat) : Bool := decide (33 ≤ c) && decide (c ≤ 126)
def letsB : D → Bool
  | .str z => (decide (1 ≤ z.length) && decide (z.length ≤ 4)) && ((TL.tl z).all signB && upB (TL.tl z))
  | _ => false
theorem charsD_singles (z : Str) : charsD z = (singles z).map D.str := by
  unfold charsD singles
  rw [List.map_map]
  rfl
theorem st_leCh {a b : Nat} {S : Sto} {K : KE} (h : K (.bl (decide (a ≤ b))) S) : oLe (.str ⟨#[a]⟩) (.str ⟨#[b]⟩) S K := by
  show K (.bl (!decide ([b] < [a]))) S
  have e : (!decide ([b] < [a])) = decide (a ≤ b) := by
    rw [← ltCps_eq]
    show (!(decide (b < a) || (b == a && false))) = _
    rw [Bool.and_false, Bool.or_false]
    apply Bool.eq_iff_iff.mpr
    simp
  rw [e]
  exact h
theorem st_listS1 {z : Str} {S : Sto} {P : List D → Prop} (hz : z.length ≤ sizeLine) (h : P (charsD z)) : match listOf S (.str z) with
    | some ds => P ds
    | none => False := by
  rw [list_str hz]
  exact h
theorem sp_is_letters {d : D} {S : Sto} {K : KE} (v : Pl d) (h : K (.bl (letsB d)) S) : c_is_letters [d] S K := by
  refine st_def rfl ?_
  unfold w_is_letters
  cases v with
  | str z hz =>
    have hl := hz.len
    have h : K (.bl ((decide (1 ≤ z.length) && decide (z.length ≤ 4)) && ((TL.tl z).all signB && upB (TL.tl z)))) S := h
    refine st_seq ?_
    repeat get_elem_tactic_trivial
    try dsimp only [List.set_cons_succ, List.set_cons_zero]
    refine st_lenS (by unfold sizeLine; omega) ?_
    repeat get_elem_tactic_trivial
    try dsimp only [List.set_cons_succ, List.set_cons_zero]
    by_cases l1 : 1 ≤ z.length
    · rw [decide_eq_true l1, Bool.true_and] at h
      refine br_ct (decide_eq_true (by omega)) ?_
      repeat get_elem_tactic_trivial
      try dsimp only [List.set_cons_succ, List.set_cons_zero]
      by_cases l4 : z.length ≤ 4
      · rw [decide_eq_true l4, Bool.true_and] at h
        refine br_cf (by rw [decide_eq_true (by omega)]; rfl) ?_
        refine st_seq ?_
        repeat get_elem_tactic_trivial
        try dsimp only [List.set_cons_succ, List.set_cons_zero]
        show compW _ _ _ _ _ ((TL.tl z).map fun c => D.str ⟨#[c]⟩) [] S _
        refine comp_mapL (TL.tl z) (fun c => D.str ⟨#[c]⟩) (fun c => D.bl (signB c)) trivial (by rw [← TL.len_tl]; unfold sizeLine; omega) (fun c hc K F k => ?_) ?_
        · repeat get_elem_tactic_trivial
          try dsimp only [List.set_cons_succ, List.set_cons_zero]
          have h1 : Str.ofString "!" = ⟨#[33]⟩ := TL.ext_tl rfl
          have h2 : Str.ofString "~" = ⟨#[126]⟩ := TL.ext_tl rfl
          rw [h1, h2]
          have k : K (.bl (decide (33 ≤ c) && decide (c ≤ 126))) S := k
          refine st_leCh ?_
          refine ⟨_, rfl, fun e => ?_, fun e => ?_⟩
          · rw [e] at k
            repeat get_elem_tactic_trivial
            try dsimp only [List.set_cons_succ, List.set_cons_zero]
            exact st_leCh k
          · rw [e] at k
            exact k
        · repeat get_elem_tactic_trivial
          try dsimp only [List.set_cons_succ, List.set_cons_zero]
          rw [show ((TL.tl z).map fun c => D.bl (signB c)) = ((TL.tl z).map signB).map D.bl by rw [List.map_map]; rfl]
          refine st_allL ?_
          rw [List.all_map]
          have ea : ((TL.tl z).all (id ∘ signB)) = (TL.tl z).all signB := rfl
          rw [ea]
          repeat get_elem_tactic_trivial
          try dsimp only [List.set_cons_succ, List.set_cons_zero]
          cases e : (TL.tl z).all signB with
          | false =>
            rw [e] at h
            repeat get_elem_tactic_trivial
            try dsimp only [List.set_cons_succ, List.set_cons_zero]
            exact fin.of h
          | true =>
            rw [e, Bool.true_and] at h
            repeat get_elem_tactic_trivial
            try dsimp only [List.set_cons_succ, List.set_cons_zero]
            refine st_listS1 (by unfold sizeLine; omega) ?_
            repeat get_elem_tactic_trivial
            try dsimp only [List.set_cons_succ, List.set_cons_zero]
            refine st_srtSetT ?_
            repeat get_elem_tactic_trivial
            try dsimp only [List.set_cons_succ, List.set_cons_zero]
            refine ⟨singles z, .inr ⟨z, rfl, rfl⟩, by rw [singles_len]; omega, fun ks k1 k2 k3 => ?_⟩
            rw [charsD_singles]
            refine st_eqLS1 (f := id) (singles_ok hz.sg) (fun y hy => singles_ok hz.sg y ((k3 y).mp hy)) ?_
            rw [srt_set k1 k2 k3]
            exact fin.of h
      · rw [decide_eq_false l4] at h
        refine br_ct (by rw [decide_eq_false (by omega)]; rfl) ?_
        repeat get_elem_tactic_trivial
        try dsimp only [List.set_cons_succ, List.set_cons_zero]
        exact fin.of h
    · rw [decide_eq_false l1] at h
      refine br_cf (decide_eq_false (by omega)) ?_
      repeat get_elem_tactic_trivial
      try dsimp only [List.set_cons_succ, List.set_cons_zero]
      exact fin.of h
  | _ =>
    refine st_seq ?_
    repeat get_elem_tactic_trivial
    try dsimp only [List.set_cons_succ, List.set_cons_zero]
    exact fin.of h
/-! ### knowledge -/
def knowB : D → Bool
  | .tup [a, .tup fs] => letsB a && (decide (fs.length ≤ 8) && fs.all (condB (match a with | .str z => z | _ => Str.empty)))
  | _ => false
theorem knowB_no {t : List D} (h : t.length ≠ 2) : knowB (.tup t) = false := by
  unfold knowB
  split
  · rename_i e
    injection e with e
    rw [e] at h
    exact absurd rfl h
  · rfl
theorem knowB_nb {a b : D} (h : ∀ ws, b ≠ .tup ws) : knowB (.tup [a, b]) = false := by
  unfold knowB
  split
  · rename_i e
    injection e with e
    injection e with e1 e2
    injection e2 with e2 e3
    exact absurd e2 (h _)
  · rfl
theorem knowB_na {a b : D} (h : letsB a = false) : knowB (.tup [a, b]) = false := by
  unfold knowB
  split
  · rename_i e
    injection e with e
    injection e with e1 e2
    rw [← e1, h]
    rfl
  · rfl
theorem sp_is_knowledge {d : D} {S : Sto} {K : KE} (v : Pl d) (h : K (.bl (knowB d)) S) : c_is_knowledge [d] S K := by
  refine st_def rfl ?_
  unfold w_is_knowledge
  cases v with
  | tup t nt ht =>
    by_cases h2 : t.length = 2
    · obtain ⟨a, b, rfl⟩ := two_of h2
      have va := ht a (by simp)
      have vb := ht b (by simp)
      clear ht h2 nt
      refine st_seq ?_
      repeat get_elem_tactic_trivial
      try dsimp only [List.set_cons_succ, List.set_cons_zero]
      refine sp_is_letters va ?_
      cases e : letsB a with
      | false =>
        rw [knowB_na e] at h
        repeat get_elem_tactic_trivial
        try dsimp only [List.set_cons_succ, List.set_cons_zero]
        exact fin.of h
      | true =>
        cases va with
        | str z hz =>
          repeat get_elem_tactic_trivial
          try dsimp only [List.set_cons_succ, List.set_cons_zero]
          refine st_seq ?_
          repeat get_elem_tactic_trivial
          try dsimp only [List.set_cons_succ, List.set_cons_zero]
          cases vb with
          | tup fs nf hfs =>
            have h : K (.bl (letsB (.str z) && (decide (fs.length ≤ 8) && fs.all (condB z)))) S := h
            rw [e, Bool.true_and] at h
            have hl : z.length ≤ 4 := by
              have e : ((decide (1 ≤ z.length) && decide (z.length ≤ 4)) && ((TL.tl z).all signB && upB (TL.tl z))) = true := e
              rw [Bool.and_eq_true, Bool.and_eq_true] at e
              exact of_decide_eq_true e.1.2
            repeat get_elem_tactic_trivial
            try dsimp only [List.set_cons_succ, List.set_cons_zero]
            by_cases h8 : fs.length ≤ 8
            · rw [decide_eq_true h8, Bool.true_and] at h
              refine br_cf (decide_eq_false (by omega)) ?_
              repeat get_elem_tactic_trivial
              try dsimp only [List.set_cons_succ, List.set_cons_zero]
              refine comp_map (fun f => .bl (condB z f)) trivial (by unfold sizeLine; omega) (fun f hf K F k => ?_) ?_
              · repeat get_elem_tactic_trivial
                try dsimp only [List.set_cons_succ, List.set_cons_zero]
                exact sp_is_condition hl (hfs f hf) k
              · repeat get_elem_tactic_trivial
                try dsimp only [List.set_cons_succ, List.set_cons_zero]
                rw [show (fs.map fun f => D.bl (condB z f)) = (fs.map (condB z)).map D.bl by rw [List.map_map]; rfl]
                refine st_allL ?_
                rw [List.all_map]
                exact fin.of h
            · rw [decide_eq_false h8] at h
              refine br_ct (decide_eq_true (by omega)) ?_
              repeat get_elem_tactic_trivial
              try dsimp only [List.set_cons_succ, List.set_cons_zero]
              exact fin.of h
          | _ =>
            rw [knowB_nb (fun ws z => by cases z)] at h
            repeat get_elem_tactic_trivial
            try dsimp only [List.set_cons_succ, List.set_cons_zero]
            exact fin.of h
        | _ => cases e
    · rw [knowB_no h2] at h
      refine st_seq ?_
      repeat get_elem_tactic_trivial
      try dsimp only [List.set_cons_succ, List.set_cons_zero]
      refine br_ct (by rw [decide_eq_false (by omega)]; rfl) ?_
      repeat get_elem_tactic_trivial
      try dsimp only [List.set_cons_succ, List.set_cons_zero]
      exact fin.of h
  | _ =>
    refine st_seq ?_
    repeat get_elem_tactic_trivial
    try dsimp only [List.set_cons_succ, List.set_cons_zero]
    exact fin.of h


end G

set_option Elab.async false
set_option linter.all false
set_option maxRecDepth 100000
set_option autoImplicit false
set_option maxHeartbeats 2000000
namespace G
open PySem PySem.Spec PyProof.Rows L2
local macro_rules
  | `(tactic| get_elem_tactic_trivial) => `(tactic| first
    | (with_reducible first
      | refine st_seqSet ?_ | refine st_seqAsg ?_ | refine st_seqDo ?_ | refine st_seqPar ?_ | refine st_seqPar3 ?_ | refine st_seqFor ?_ | refine st_seqWhile ?_ | refine st_seqAug ?_ | refine st_seqSkip ?_ | refine st_seqRet ?_
      | refine st_skip ?_ | refine st_ret ?_ | refine st_retN ?_ | refine st_do ?_ | refine st_if ?_ | refine st_set ?_ | refine st_asg ?_ | refine st_par ?_ | refine st_par3 ?_
      | refine st_c ?_ | refine st_op2 ?_ | refine st_op1 ?_ | refine st_test ?_ | refine st_tbl ?_ | refine st_and ?_ | refine st_or ?_ | refine st_not ?_ | refine st_andV ?_ | refine st_orV ?_ | refine st_notV ?_ | refine st_bl ?_
      | refine st_chain ?_ | refine st_ifE ?_ | refine st_nil ?_ | refine st_cons ?_ | refine st_call ?_ | refine st_fr ?_ | refine st_lv ?_ | refine st_one ?_ | refine st_two ?_
      | refine st_gN ?_ | refine st_lst ?_ | refine st_tup ?_ | refine st_slF ?_ | refine st_oNo ?_ | refine st_oS ?_ | refine st_enum ?_ | refine st_scr ?_ | refine st_list ?_ | refine st_it ?_ | refine st_comp ?_ | refine st_for ?_ | refine st_gIx ?_ | refine st_range1 ?_ | refine st_app ?_ | refine st_zip ?_ | refine st_rev1 ?_ | refine st_meth ?_ | refine st_isS ?_ | refine st_count ?_ | refine st_sl ?_ | refine st_slT ?_ | refine st_slL ?_ | refine st_max2 ?_ | refine st_min2 ?_
      | refine st_add ?_ | refine st_sub ?_ | refine st_int ?_ | refine st_neg ?_ | refine st_lt ?_ | refine st_le ?_ | refine st_gt ?_ | refine st_ge ?_ | refine st_eq ?_ | refine st_ne ?_ | refine st_eqB ?_ | refine st_neB ?_ | refine st_eqS ?_ | refine st_neS ?_ | refine st_isN ?_ | refine st_sorted ?_ | refine st_abs ?_ | refine st_isNotN ?_
      | refine br_t ?_ | refine br_f ?_)
    | ((with_reducible refine st_var (d := ?_) ?_ ?_); rotate_left; (exact rfl))
    | ((with_reducible refine st_isi2 (k := ?_) (b := true) ?_ ?_ ?_); rotate_left; (exact rfl); (exact rfl))
    | ((with_reducible refine st_isi2 (k := ?_) (b := false) ?_ ?_ ?_); rotate_left; (exact rfl); (exact rfl))
    | ((with_reducible refine st_ix (ds := ?_) (d := ?_) ?_ ?_ ?_); rotate_left 2; (first | exact rfl | exact seq_at (by assumption)); (exact rfl))
    | ((with_reducible refine st_len2 (ds := ?_) (n := ?_) ?_ ?_ ?_); rotate_left 2; (first | exact rfl | exact seq_at (by assumption)); (exact rfl))
    | ((with_reducible refine st_addLL (a := ?_) (b := ?_) ?_ ?_ ?_ ?_); rotate_left 2; (first | exact rfl | exact lst_at (by assumption)); (first | exact rfl | exact lst_at (by assumption)); (exact Nat.le_of_ble_eq_true rfl))
    | ((with_reducible refine st_pow ?_ ?_); (exact ⟨by decide, by decide, by decide⟩))
    | ((with_reducible refine st_mod ?_ ?_); (first | decide | omega))
    | ((with_reducible refine st_size ?_ ?_); (exact rfl))
    | ((with_reducible refine st_gT2 ?_ ?_); (exact rfl))
    | ((with_reducible refine st_gsC ?_))
    | ((with_reducible refine st_gsN ?_))
    | ((with_reducible refine st_mulS ?_ ?_ ?_); omega; omega)
    | ((with_reducible refine br_ct ?_ ?_); (exact rfl))
    | ((with_reducible refine br_cf ?_ ?_); (exact rfl))
    | (rw [list_tup])
    | (rw [list_lst])
    | (rw [items_tup])
    | (rw [items_lst])
    | ((refine st_listM (ds := ?_) ?_ ?_); rotate_left; (first | exact rfl | exact seq_at (by assumption)))
    | ((refine st_itM (it := ?_) ?_ ?_); rotate_left; (first | exact rfl | exact it_at (by assumption))))

theorem st_neLS1 {S : Sto} {as bs : List Str} {K : KE} (ok : ∀ y, y ∈ as → Sg (fun c => c < 128) y) (ok2 : ∀ y, y ∈ bs → Sg (fun c => c < 128) y) (h : K (.bl (!decide (as = bs))) S) : oNe (.lst (as.map D.str)) (.lst (bs.map D.str)) S K := st_eqLS1 (f := not) ok ok2 h
theorem sp_law_is_knowledge {d : D} {S : Sto} {K : KE} (v : Pl d) (h : K (.bl (knowB d)) S) : c_law_is_knowledge [d] S K := by
  refine st_def rfl ?_
  unfold w_law_is_knowledge
  cases v with
  | tup t nt ht =>
    by_cases h2 : t.length = 2
    · obtain ⟨a, b, rfl⟩ := two_of h2
      have va := ht a (by simp)
      have vb := ht b (by simp)
      clear ht h2 nt
      refine st_seq ?_
      repeat get_elem_tactic_trivial
      try dsimp only [List.set_cons_succ, List.set_cons_zero]
      cases va with
      | str z hz =>
        have hzl := hz.len
        repeat get_elem_tactic_trivial
        try dsimp only [List.set_cons_succ, List.set_cons_zero]
        refine st_seq ?_
        repeat get_elem_tactic_trivial
        try dsimp only [List.set_cons_succ, List.set_cons_zero]
        refine st_lenS (by unfold sizeLine; omega) ?_
        repeat get_elem_tactic_trivial
        try dsimp only [List.set_cons_succ, List.set_cons_zero]
        by_cases l1 : 1 ≤ z.length
        · refine br_ct (decide_eq_true (by omega)) ?_
          repeat get_elem_tactic_trivial
          try dsimp only [List.set_cons_succ, List.set_cons_zero]
          by_cases l4 : z.length ≤ 4
          · refine br_cf (by rw [decide_eq_true (by omega)]; rfl) ?_
            repeat get_elem_tactic_trivial
            try dsimp only [List.set_cons_succ, List.set_cons_zero]
            refine st_listS1 (by unfold sizeLine; omega) ?_
            repeat get_elem_tactic_trivial
            try dsimp only [List.set_cons_succ, List.set_cons_zero]
            refine st_srtSetT ?_
            repeat get_elem_tactic_trivial
            try dsimp only [List.set_cons_succ, List.set_cons_zero]
            refine ⟨singles z, .inr ⟨z, rfl, rfl⟩, by rw [singles_len]; omega, fun ks k1 k2 k3 => ?_⟩
            rw [charsD_singles]
            refine st_neLS1 (singles_ok hz.sg) (fun y hy => singles_ok hz.sg y ((k3 y).mp hy)) ?_
            rw [srt_set k1 k2 k3]
            repeat get_elem_tactic_trivial
            try dsimp only [List.set_cons_succ, List.set_cons_zero]
            cases eu : upB (TL.tl z) with
            | false =>
              rw [knowB_na (by show ((decide (1 ≤ z.length) && decide (z.length ≤ 4)) && ((TL.tl z).all signB && upB (TL.tl z))) = false; rw [eu, Bool.and_false, Bool.and_false])] at h
              repeat get_elem_tactic_trivial
              try dsimp only [List.set_cons_succ, List.set_cons_zero]
              exact fin.of h
            | true =>
              repeat get_elem_tactic_trivial
              try dsimp only [List.set_cons_succ, List.set_cons_zero]
              refine st_seq ?_
              repeat get_elem_tactic_trivial
              try dsimp only [List.set_cons_succ, List.set_cons_zero]
              show compW _ _ _ _ _ ((TL.tl z).map fun c => D.str ⟨#[c]⟩) [] S _
              refine comp_filterL (TL.tl z) (fun c => D.str ⟨#[c]⟩) (fun c => D.str ⟨#[c]⟩) (fun c => !signB c) trivial (by rw [← TL.len_tl]; unfold sizeLine; omega) (fun c hc K1 F1 k1 k2 => ?_) ?_
              · repeat get_elem_tactic_trivial
                try dsimp only [List.set_cons_succ, List.set_cons_zero]
                have h1 : Str.ofString "!" = ⟨#[33]⟩ := TL.ext_tl rfl
                have h2 : Str.ofString "~" = ⟨#[126]⟩ := TL.ext_tl rfl
                rw [h1, h2]
                have k1 : (!(decide (33 ≤ c) && decide (c ≤ 126))) = true → K1 (.str ⟨#[c]⟩) S := k1
                have k2 : (!(decide (33 ≤ c) && decide (c ≤ 126))) = false → F1 S := k2
                refine st_leCh ?_
                repeat get_elem_tactic_trivial
                try dsimp only [List.set_cons_succ, List.set_cons_zero]
                cases e : decide (33 ≤ c) with
                | false =>
                  rw [e] at k1
                  repeat get_elem_tactic_trivial
                  try dsimp only [List.set_cons_succ, List.set_cons_zero]
                  exact k1 rfl
                | true =>
                  rw [e, Bool.true_and] at k1 k2
                  repeat get_elem_tactic_trivial
                  try dsimp only [List.set_cons_succ, List.set_cons_zero]
                  refine st_leCh ?_
                  repeat get_elem_tactic_trivial
                  try dsimp only [List.set_cons_succ, List.set_cons_zero]
                  refine ⟨fun e => ?_, fun e => k2 e⟩
                  repeat get_elem_tactic_trivial
                  try dsimp only [List.set_cons_succ, List.set_cons_zero]
                  exact k1 e
              · have ef : ((TL.tl z).filter fun c => !signB c).map (fun c => D.str ⟨#[c]⟩) = (((TL.tl z).filter fun c => !signB c).map fun c => (⟨#[c]⟩ : Str)).map D.str := by rw [List.map_map]; rfl
                have ok : ∀ y, y ∈ (((TL.tl z).filter fun c => !signB c).map fun c => (⟨#[c]⟩ : Str)) → Sg (fun c => c < 128) y := fun y hy => by
                  obtain ⟨c, hc, e⟩ := List.mem_map.mp hy
                  rw [← e]
                  exact Sg.one (hz.sg c (List.mem_filter.mp hc).1)
                rw [ef]
                repeat get_elem_tactic_trivial
                try dsimp only [List.set_cons_succ, List.set_cons_zero]
                refine st_neLS1 (bs := []) ok (fun y hy => by cases hy) ?_
                have eb : decide ((((TL.tl z).filter fun c => !signB c).map fun c => (⟨#[c]⟩ : Str)) = []) = (TL.tl z).all signB := by
                  apply Bool.eq_iff_iff.mpr
                  rw [decide_eq_true_eq, List.map_eq_nil_iff, List.filter_eq_nil_iff, List.all_eq_true]
                  simp
                rw [eb]
                cases e : (TL.tl z).all signB with
                | false =>
                  rw [knowB_na (by show ((decide (1 ≤ z.length) && decide (z.length ≤ 4)) && ((TL.tl z).all signB && upB (TL.tl z))) = false; rw [e, Bool.false_and, Bool.and_false])] at h
                  repeat get_elem_tactic_trivial
                  try dsimp only [List.set_cons_succ, List.set_cons_zero]
                  exact fin.of h
                | true =>
                  have el : letsB (.str z) = true := by
                    show ((decide (1 ≤ z.length) && decide (z.length ≤ 4)) && ((TL.tl z).all signB && upB (TL.tl z))) = true
                    rw [decide_eq_true l1, decide_eq_true l4, e, eu]
                    rfl
                  repeat get_elem_tactic_trivial
                  try dsimp only [List.set_cons_succ, List.set_cons_zero]
                  cases vb with
                  | tup fs nf hfs =>
                    have h : K (.bl (letsB (.str z) && (decide (fs.length ≤ 8) && fs.all (condB z)))) S := h
                    rw [el, Bool.true_and] at h
                    repeat get_elem_tactic_trivial
                    try dsimp only [List.set_cons_succ, List.set_cons_zero]
                    by_cases h8 : fs.length ≤ 8
                    · rw [decide_eq_true h8, Bool.true_and] at h
                      refine br_cf (decide_eq_false (by omega)) ?_
                      repeat get_elem_tactic_trivial
                      try dsimp only [List.set_cons_succ, List.set_cons_zero]
                      refine comp_map (fun f => .bl (condB z f)) trivial (by unfold sizeLine; omega) (fun f hf K F k => ?_) ?_
                      · repeat get_elem_tactic_trivial
                        try dsimp only [List.set_cons_succ, List.set_cons_zero]
                        exact sp_law_is_condition l4 (hfs f hf) k
                      · repeat get_elem_tactic_trivial
                        try dsimp only [List.set_cons_succ, List.set_cons_zero]
                        rw [show (fs.map fun f => D.bl (condB z f)) = (fs.map (condB z)).map D.bl by rw [List.map_map]; rfl]
                        refine st_notInB ?_
                        rw [List.all_map]
                        exact fin.of h
                    · rw [decide_eq_false h8] at h
                      refine br_ct (decide_eq_true (by omega)) ?_
                      repeat get_elem_tactic_trivial
                      try dsimp only [List.set_cons_succ, List.set_cons_zero]
                      exact fin.of h
                  | _ =>
                    rw [knowB_nb (fun ws z => by cases z)] at h
                    repeat get_elem_tactic_trivial
                    try dsimp only [List.set_cons_succ, List.set_cons_zero]
                    exact fin.of h
          · rw [knowB_na (by show ((decide (1 ≤ z.length) && decide (z.length ≤ 4)) && ((TL.tl z).all signB && upB (TL.tl z))) = false; rw [decide_eq_false l4, Bool.and_false, Bool.false_and])] at h
            refine br_ct (by rw [decide_eq_false (by omega)]; rfl) ?_
            repeat get_elem_tactic_trivial
            try dsimp only [List.set_cons_succ, List.set_cons_zero]
            exact fin.of h
        · rw [knowB_na (by show ((decide (1 ≤ z.length) && decide (z.length ≤ 4)) && ((TL.tl z).all signB && upB (TL.tl z))) = false; rw [decide_eq_false l1, Bool.false_and, Bool.false_and])] at h
          refine br_cf (decide_eq_false (by omega)) ?_
          repeat get_elem_tactic_trivial
          try dsimp only [List.set_cons_succ, List.set_cons_zero]
          exact fin.of h
      | _ =>
        rw [knowB_na rfl] at h
        repeat get_elem_tactic_trivial
        try dsimp only [List.set_cons_succ, List.set_cons_zero]
        exact fin.of h
    · rw [knowB_no h2] at h
      refine st_seq ?_
      repeat get_elem_tactic_trivial
      try dsimp only [List.set_cons_succ, List.set_cons_zero]
      refine br_ct (by rw [decide_eq_false (by omega)]; rfl) ?_
      repeat get_elem_tactic_trivial
      try dsimp only [List.set_cons_succ, List.set_cons_zero]
      exact fin.of h
  | _ =>
    refine st_seq ?_
    repeat get_elem_tactic_trivial
    try dsimp only [List.set_cons_succ, List.set_cons_zero]
    exact fin.of h


end G

set_option Elab.async false
set_option linter.all false
set_option maxRecDepth 100000
set_option autoImplicit false
set_option maxHeartbeats 2000000
namespace G
open PySem PySem.Spec PyProof.Rows L2
local macro_rules
  | `(tactic| get_elem_tactic_trivial) => `(tactic| first
    | (with_reducible first
      | refine st_seqSet ?_ | refine st_seqAsg ?_ | refine st_seqDo ?_ | refine st_seqPar ?_ | refine st_seqPar3 ?_ | refine st_seqFor ?_ | refine st_seqWhile ?_ | refine st_seqAug ?_ | refine st_seqSkip ?_ | refine st_seqRet ?_
      | refine st_skip ?_ | refine st_ret ?_ | refine st_retN ?_ | refine st_do ?_ | refine st_if ?_ | refine st_set ?_ | refine st_asg ?_ | refine st_par ?_ | refine st_par3 ?_
      | refine st_c ?_ | refine st_op2 ?_ | refine st_op1 ?_ | refine st_test ?_ | refine st_tbl ?_ | refine st_and ?_ | refine st_or ?_ | refine st_not ?_ | refine st_andV ?_ | refine st_orV ?_ | refine st_notV ?_ | refine st_bl ?_
      | refine st_chain ?_ | refine st_ifE ?_ | refine st_nil ?_ | refine st_cons ?_ | refine st_call ?_ | refine st_fr ?_ | refine st_lv ?_ | refine st_one ?_ | refine st_two ?_
      | refine st_gN ?_ | refine st_lst ?_ | refine st_tup ?_ | refine st_slF ?_ | refine st_oNo ?_ | refine st_oS ?_ | refine st_enum ?_ | refine st_scr ?_ | refine st_list ?_ | refine st_it ?_ | refine st_comp ?_ | refine st_for ?_ | refine st_gIx ?_ | refine st_range1 ?_ | refine st_app ?_ | refine st_zip ?_ | refine st_rev1 ?_ | refine st_meth ?_ | refine st_isS ?_ | refine st_count ?_ | refine st_sl ?_ | refine st_slT ?_ | refine st_slL ?_ | refine st_max2 ?_ | refine st_min2 ?_
      | refine st_add ?_ | refine st_sub ?_ | refine st_int ?_ | refine st_neg ?_ | refine st_lt ?_ | refine st_le ?_ | refine st_gt ?_ | refine st_ge ?_ | refine st_eq ?_ | refine st_ne ?_ | refine st_eqB ?_ | refine st_neB ?_ | refine st_eqS ?_ | refine st_neS ?_ | refine st_isN ?_ | refine st_sorted ?_ | refine st_abs ?_ | refine st_isNotN ?_
      | refine br_t ?_ | refine br_f ?_)
    | ((with_reducible refine st_var (d := ?_) ?_ ?_); rotate_left; (exact rfl))
    | ((with_reducible refine st_isi2 (k := ?_) (b := true) ?_ ?_ ?_); rotate_left; (exact rfl); (exact rfl))
    | ((with_reducible refine st_isi2 (k := ?_) (b := false) ?_ ?_ ?_); rotate_left; (exact rfl); (exact rfl))
    | ((with_reducible refine st_ix (ds := ?_) (d := ?_) ?_ ?_ ?_); rotate_left 2; (first | exact rfl | exact seq_at (by assumption)); (exact rfl))
    | ((with_reducible refine st_len2 (ds := ?_) (n := ?_) ?_ ?_ ?_); rotate_left 2; (first | exact rfl | exact seq_at (by assumption)); (exact rfl))
    | ((with_reducible refine st_addLL (a := ?_) (b := ?_) ?_ ?_ ?_ ?_); rotate_left 2; (first | exact rfl | exact lst_at (by assumption)); (first | exact rfl | exact lst_at (by assumption)); (exact Nat.le_of_ble_eq_true rfl))
    | ((with_reducible refine st_pow ?_ ?_); (exact ⟨by decide, by decide, by decide⟩))
    | ((with_reducible refine st_mod ?_ ?_); (first | decide | omega))
    | ((with_reducible refine st_size ?_ ?_); (exact rfl))
    | ((with_reducible refine st_gT2 ?_ ?_); (exact rfl))
    | ((with_reducible refine st_gsC ?_))
    | ((with_reducible refine st_gsN ?_))
    | ((with_reducible refine st_mulS ?_ ?_ ?_); omega; omega)
    | ((with_reducible refine br_ct ?_ ?_); (exact rfl))
    | ((with_reducible refine br_cf ?_ ?_); (exact rfl))
    | (rw [list_tup])
    | (rw [list_lst])
    | (rw [items_tup])
    | (rw [items_lst])
    | ((refine st_listM (ds := ?_) ?_ ?_); rotate_left; (first | exact rfl | exact seq_at (by assumption)))
    | ((refine st_itM (it := ?_) ?_ ?_); rotate_left; (first | exact rfl | exact it_at (by assumption))))

/-! ### _law_bend -/
mutual
def nod : D → Nat
  | .tup l => nodL l + 1
  | .lst l => nodL l + 1
  | _ => 1
def nodL : List D → Nat
  | [] => 0
  | d :: ds => nod d + nodL ds
end
mutual
def dep : D → Nat
  | .tup l => depL l + 1
  | .lst l => depL l + 1
  | .dic _ => 1
  | _ => 0
def depL : List D → Nat
  | [] => 0
  | d :: ds => Nat.max (dep d) (depL ds)
end
theorem nodL_app : ∀ a b : List D, nodL (a ++ b) = nodL a + nodL b
  | [], b => by
    show nodL b = nodL [] + nodL b
    unfold nodL
    rw [Nat.zero_add]
  | d :: a, b => by
    show nod d + nodL (a ++ b) = nodL (d :: a) + nodL b
    rw [nodL_app a b]
    show nod d + (nodL a + nodL b) = (nod d + nodL a) + nodL b
    omega
theorem nodL_cons (d : D) (l : List D) : nodL (d :: l) = nod d + nodL l := rfl
theorem nodL_one (d : D) : nodL [d] = nod d := rfl
theorem nodL_take (l : List D) (k : Nat) : nodL (l.take k) + nodL (l.drop k) = nodL l := by
  rw [← nodL_app, List.take_append_drop]
theorem nod_pos (d : D) : 1 ≤ nod d := by
  cases d <;> simp [nod]
theorem nodL_len : ∀ l : List D, l.length ≤ nodL l
  | [] => Nat.le_refl _
  | d :: l => by
    have := nodL_len l
    have := nod_pos d
    rw [nodL_cons, List.length_cons]
    omega
theorem nod_mem : ∀ {l : List D} {d : D}, d ∈ l → nod d ≤ nodL l
  | x :: l, d, h => by
    rw [nodL_cons]
    rcases List.mem_cons.mp h with rfl | h
    · omega
    · have := nod_mem h
      omega
theorem depL_le {n : Nat} : ∀ {l : List D}, (∀ d, d ∈ l → dep d ≤ n) → depL l ≤ n
  | [], _ => Nat.zero_le _
  | d :: l, h => Nat.max_le.mpr ⟨h d List.mem_cons_self, depL_le fun x hx => h x (List.mem_cons_of_mem _ hx)⟩
theorem dep_mem : ∀ {l : List D} {d : D}, d ∈ l → dep d ≤ depL l
  | x :: l, d, h => by
    have e : depL (x :: l) = Nat.max (dep x) (depL l) := rfl
    rw [e]
    rcases List.mem_cons.mp h with rfl | h
    · exact Nat.le_max_left ..
    · exact Nat.le_trans (dep_mem h) (Nat.le_max_right ..)
theorem nodL_le {n : Nat} : ∀ {l : List D}, (∀ d, d ∈ l → nod d ≤ n) → nodL l ≤ l.length * n
  | [], _ => Nat.zero_le _
  | d :: l, h => by
    have a := h d List.mem_cons_self
    have b := nodL_le (l := l) fun x hx => h x (List.mem_cons_of_mem _ hx)
    rw [nodL_cons, List.length_cons, Nat.add_mul, Nat.one_mul]
    omega
/-- what bending leaves -/
structure Bent (n : Nat) (d r : D) : Prop where
  pl : Pl r
  td : dep r ≤ n + 1
  nod : nod r ≤ 2 * nod d + 3
theorem lf_lit {s : String} (h : ((TL.tl (Str.ofString s)).all fun c => decide (c < 128)) = true ∧ (Str.ofString s).length ≤ 20) : Lf (Str.ofString s) := ⟨fun c hc => of_decide_eq_true (List.all_eq_true.mp h.1 c hc), h.2⟩
/-- a leaf drawn -/
theorem bent_leaf {n : Nat} {d r : D} (h : Pl r) (t : dep r ≤ 1) (k : nod r ≤ 3) : Bent n d r := ⟨h, by omega, by have := nod_pos d; omega⟩


end G

set_option Elab.async false
set_option linter.all false
set_option maxRecDepth 100000
set_option autoImplicit false
set_option maxHeartbeats 2000000
namespace G
open PySem PySem.Spec PyProof.Rows L2
local macro_rules
  | `(tactic| get_elem_tactic_trivial) => `(tactic| first
    | (with_reducible first
      | refine st_seqSet ?_ | refine st_seqAsg ?_ | refine st_seqDo ?_ | refine st_seqPar ?_ | refine st_seqPar3 ?_ | refine st_seqFor ?_ | refine st_seqWhile ?_ | refine st_seqAug ?_ | refine st_seqSkip ?_ | refine st_seqRet ?_
      | refine st_skip ?_ | refine st_ret ?_ | refine st_retN ?_ | refine st_do ?_ | refine st_if ?_ | refine st_set ?_ | refine st_asg ?_ | refine st_par ?_ | refine st_par3 ?_
      | refine st_c ?_ | refine st_op2 ?_ | refine st_op1 ?_ | refine st_test ?_ | refine st_tbl ?_ | refine st_and ?_ | refine st_or ?_ | refine st_not ?_ | refine st_andV ?_ | refine st_orV ?_ | refine st_notV ?_ | refine st_bl ?_
      | refine st_chain ?_ | refine st_ifE ?_ | refine st_nil ?_ | refine st_cons ?_ | refine st_call ?_ | refine st_fr ?_ | refine st_lv ?_ | refine st_one ?_ | refine st_two ?_
      | refine st_gN ?_ | refine st_lst ?_ | refine st_tup ?_ | refine st_slF ?_ | refine st_oNo ?_ | refine st_oS ?_ | refine st_enum ?_ | refine st_scr ?_ | refine st_list ?_ | refine st_it ?_ | refine st_comp ?_ | refine st_for ?_ | refine st_gIx ?_ | refine st_range1 ?_ | refine st_app ?_ | refine st_zip ?_ | refine st_rev1 ?_ | refine st_meth ?_ | refine st_isS ?_ | refine st_count ?_ | refine st_sl ?_ | refine st_slT ?_ | refine st_slL ?_ | refine st_max2 ?_ | refine st_min2 ?_
      | refine st_add ?_ | refine st_sub ?_ | refine st_int ?_ | refine st_neg ?_ | refine st_lt ?_ | refine st_le ?_ | refine st_gt ?_ | refine st_ge ?_ | refine st_eq ?_ | refine st_ne ?_ | refine st_eqB ?_ | refine st_neB ?_ | refine st_eqS ?_ | refine st_neS ?_ | refine st_isN ?_ | refine st_sorted ?_ | refine st_abs ?_ | refine st_isNotN ?_
      | refine br_t ?_ | refine br_f ?_)
    | ((with_reducible refine st_var (d := ?_) ?_ ?_); rotate_left; (exact rfl))
    | ((with_reducible refine st_isi2 (k := ?_) (b := true) ?_ ?_ ?_); rotate_left; (exact rfl); (exact rfl))
    | ((with_reducible refine st_isi2 (k := ?_) (b := false) ?_ ?_ ?_); rotate_left; (exact rfl); (exact rfl))
    | ((with_reducible refine st_ix (ds := ?_) (d := ?_) ?_ ?_ ?_); rotate_left 2; (first | exact rfl | exact seq_at (by assumption)); (exact rfl))
    | ((with_reducible refine st_len2 (ds := ?_) (n := ?_) ?_ ?_ ?_); rotate_left 2; (first | exact rfl | exact seq_at (by assumption)); (exact rfl))
    | ((with_reducible refine st_addLL (a := ?_) (b := ?_) ?_ ?_ ?_ ?_); rotate_left 2; (first | exact rfl | exact lst_at (by assumption)); (first | exact rfl | exact lst_at (by assumption)); (exact Nat.le_of_ble_eq_true rfl))
    | ((with_reducible refine st_pow ?_ ?_); (exact ⟨by decide, by decide, by decide⟩))
    | ((with_reducible refine st_mod ?_ ?_); (first | decide | omega))
    | ((with_reducible refine st_size ?_ ?_); (exact rfl))
    | ((with_reducible refine st_gT2 ?_ ?_); (exact rfl))
    | ((with_reducible refine st_gsC ?_))
    | ((with_reducible refine st_gsN ?_))
    | ((with_reducible refine st_mulS ?_ ?_ ?_); omega; omega)
    | ((with_reducible refine br_ct ?_ ?_); (exact rfl))
    | ((with_reducible refine br_cf ?_ ?_); (exact rfl))
    | (rw [list_tup])
    | (rw [list_lst])
    | (rw [items_tup])
    | (rw [items_lst])
    | ((refine st_listM (ds := ?_) ?_ ?_); rotate_left; (first | exact rfl | exact seq_at (by assumption)))
    | ((refine st_itM (it := ?_) ?_ ?_); rotate_left; (first | exact rfl | exact it_at (by assumption))))

theorem st_d01 {ρ : Rho} {S : Sto} {K : KE} (h : K (.dic []) S) : wD0 ρ S K := h
theorem pl_int {i : Int} (h : i.natAbs ≤ 10000) : Pl (.int i) := .int i (Nat.lt_of_le_of_lt h (by decide))
theorem bend_mem {d : D} (h : d ∈ [D.non, .bl true, .bl false, .int 0, .int 1, .int 2, .int (-1), .int 20, .int 21, .int 99, .int 100, .int (-99), .int (-100), .int 9999, .int 10000, .int (-9999), .int (-10000), .str (Str.ofString ""), .str (Str.ofString "a"), .str (Str.ofString "ba")] ++ [D.str (Str.ofString "aa"), .str (Str.ofString "abcde"), .str (Str.ofString " a"), .str (Str.ofString "a "), .str (Str.ofString "\n"), .tup [], .lst [], .dic [], .str (Str.ofString "0"), .tup [.int 0, .int 0]]) : Pl d ∧ dep d ≤ 1 ∧ nod d ≤ 3 := by
  simp only [List.cons_append, List.nil_append, List.mem_cons, List.not_mem_nil, or_false] at h
  rcases h with rfl | rfl | rfl | rfl | rfl | rfl | rfl | rfl | rfl | rfl | rfl | rfl | rfl | rfl | rfl | rfl | rfl | rfl | rfl | rfl | rfl | rfl | rfl | rfl | rfl | rfl | rfl | rfl | rfl | rfl
  · exact ⟨.non, by decide, by decide⟩
  · exact ⟨.bl _, by decide, by decide⟩
  · exact ⟨.bl _, by decide, by decide⟩
  iterate 14
    · exact ⟨pl_int (by decide), by decide, by decide⟩
  iterate 8
    · exact ⟨.str _ (lf_lit (by decide +kernel)), Nat.zero_le _, Nat.le_of_ble_eq_true rfl⟩
  · exact ⟨.tup _ (by decide) (fun d h => by cases h), by decide, by decide⟩
  · exact ⟨.lst _ (by decide) (fun d h => by cases h), by decide, by decide⟩
  · exact ⟨.dic, by decide, by decide⟩
  · exact ⟨.str _ (lf_lit (by decide +kernel)), Nat.zero_le _, Nat.le_of_ble_eq_true rfl⟩
  · refine ⟨.tup _ (by decide) (fun d h => ?_), by decide, by decide⟩
    simp only [List.mem_cons, List.not_mem_nil, or_false] at h
    rcases h with rfl | rfl <;> exact pl_int (by decide)
theorem bend_draw {n m : Nat} {p : Addr} {d : D} {S : Sto} {K : KE} (hp : Pn n S p) (hn : n < 2 ^ 23) (h : ∀ r S', Bent m d r → Pn (n + 1) S' p → Oth p S S' → K r S') : c_law_one_of [.cell p, .lst ([D.non, .bl true, .bl false, .int 0, .int 1, .int 2, .int (-1), .int 20, .int 21, .int 99, .int 100, .int (-99), .int (-100), .int 9999, .int 10000, .int (-9999), .int (-10000), .str (Str.ofString ""), .str (Str.ofString "a"), .str (Str.ofString "ba")] ++ [D.str (Str.ofString "aa"), .str (Str.ofString "abcde"), .str (Str.ofString " a"), .str (Str.ofString "a "), .str (Str.ofString "\n"), .tup [], .lst [], .dic [], .str (Str.ofString "0"), .tup [.int 0, .int 0]])] S K := by
  refine sp_one_of hp hn (Nat.le_of_ble_eq_true rfl) (Nat.le_of_ble_eq_true rfl) fun r S1 hr hp1 ho1 => ?_
  obtain ⟨a, b, c⟩ := bend_mem hr
  exact h r S1 (bent_leaf a b c) hp1 ho1
/-- no tuple, or an empty one -/
theorem bend_out {me : CS} {m n : Nat} {p : Addr} {d : D} {S : Sto} {K : KE} (v : Pl d) (hd : ∀ l, d = .tup l → l = []) (hp : Pn n S p) (hn : n < 2 ^ 23) (h : ∀ r S', Bent m d r → Pn (n + 1) S' p → Oth p S S' → K r S') : wDef 2 5 (w_law_bend me) [.cell p, d] S K := by
  refine st_def rfl ?_
  unfold w_law_bend
  refine st_seq ?_
  cases v with
  | tup l _ _ =>
    cases hd l rfl
    repeat get_elem_tactic_trivial
    try dsimp only [List.set_cons_succ, List.set_cons_zero]
    refine st_eqNilT ?_
    repeat get_elem_tactic_trivial
    try dsimp only [List.set_cons_succ, List.set_cons_zero]
    refine st_d01 ?_
    repeat get_elem_tactic_trivial
    try dsimp only [List.set_cons_succ, List.set_cons_zero]
    exact bend_draw hp hn fun r S1 hr hp1 ho1 => fin.of (h r S1 hr hp1 ho1)
  | _ =>
    repeat get_elem_tactic_trivial
    try dsimp only [List.set_cons_succ, List.set_cons_zero]
    refine st_d01 ?_
    repeat get_elem_tactic_trivial
    try dsimp only [List.set_cons_succ, List.set_cons_zero]
    exact bend_draw hp hn fun r S1 hr hp1 ho1 => fin.of (h r S1 hr hp1 ho1)
theorem bent_tup {m : Nat} {d : D} {r : List D} (h : ∀ x, x ∈ r → Pl x ∧ dep x ≤ m) (k : nodL r + 1 ≤ 2 * nod d + 3) (s : nod d ≤ 400) : Bent m d (.tup r) := by
  have e := nodL_len r
  refine ⟨.tup r (by omega) fun x hx => (h x hx).1, ?_, k⟩
  show depL r + 1 ≤ m + 1
  have := depL_le (n := m) fun x hx => (h x hx).2
  omega
theorem sp_law_bend : ∀ (m f : Nat) {n : Nat} {p : Addr} {d : D} {S : Sto} {K : KE}, m ≤ f → Pl d → dep d ≤ m → nod d ≤ 400 → Pn n S p → n + 5 * (m + 1) < 2 ^ 21 → (∀ r S', Bent m d r → Pn (n + 4 * (m + 1)) S' p → Oth p S S' → K r S') → c_law_bend (f + 1) [.cell p, d] S K := by
  intro m
  induction m with
  | zero =>
    intro f n p d S K _ v t s hp hn h
    refine bend_out v (fun l e => ?_) hp (by omega) fun r S1 hr hp1 ho1 => h r S1 hr (hp1.mono (by omega)) ho1
    rw [e] at t
    have t : depL l + 1 ≤ 0 := t
    omega
  | succ m ih =>
    intro f n p d S K mf v t s hp hn h
    obtain ⟨f, rfl⟩ : ∃ g, f = g + 1 := ⟨f - 1, by omega⟩
    by_cases hd : ∀ l, d = .tup l → l = []
    · exact bend_out v hd hp (by omega) fun r S1 hr hp1 ho1 => h r S1 hr (hp1.mono (by omega)) ho1
    · cases v with
      | tup l ln lp =>
        have hl : l ≠ [] := fun e => hd fun l2 e2 => by
          injection e2 with e2
          rw [← e2, e]
        have he : l.isEmpty = false := by
          cases l with
          | nil => exact absurd rfl hl
          | cons a b => rfl
        have hlen : 1 ≤ l.length := by
          cases l with
          | nil => exact absurd rfl hl
          | cons a b => simp
        have t : depL l + 1 ≤ m + 1 := t
        have s : nodL l + 1 ≤ 400 := s
        have hx : ∀ x, x ∈ l → Pl x ∧ dep x ≤ m + 1 := fun x hx => ⟨lp x hx, by have := dep_mem hx; omega⟩
        have en : nod (.tup l) = nodL l + 1 := rfl
        clear hd hl
        refine st_def rfl ?_
        unfold w_law_bend
        refine st_seq ?_
        repeat get_elem_tactic_trivial
        try dsimp only [List.set_cons_succ, List.set_cons_zero]
        refine st_eqNilT ?_
        rw [he]
        repeat get_elem_tactic_trivial
        try dsimp only [List.set_cons_succ, List.set_cons_zero]
        refine sp_take hp (by omega) (by omega) (by omega) fun q S1 q0 q1 hp1 ho1 => ?_
        repeat get_elem_tactic_trivial
        try dsimp only [List.set_cons_succ, List.set_cons_zero]
        by_cases qz : q = 0
        · refine br_ct (decide_eq_true qz) ?_
          repeat get_elem_tactic_trivial
          try dsimp only [List.set_cons_succ, List.set_cons_zero]
          refine st_d01 ?_
          repeat get_elem_tactic_trivial
          try dsimp only [List.set_cons_succ, List.set_cons_zero]
          exact bend_draw hp1 (by omega) fun r S2 hr hp2 ho2 => fin.of (h r S2 hr (hp2.mono (by omega)) (ho1.trans ho2))
        · refine br_cf (decide_eq_false qz) ?_
          repeat get_elem_tactic_trivial
          try dsimp only [List.set_cons_succ, List.set_cons_zero]
          refine sp_take hp1 (by omega) (by omega) (by omega) fun k S2 k0 k1 hp2 ho2 => ?_
          obtain ⟨k, rfl⟩ : ∃ j : Nat, k = (j : Int) := ⟨k.toNat, by omega⟩
          repeat get_elem_tactic_trivial
          try dsimp only [List.set_cons_succ, List.set_cons_zero]
          refine sp_take hp2 (by omega) (by decide) (by decide) fun w S3 w0 w1 hp3 ho3 => ?_
          have ho4 := (ho1.trans ho2).trans ho3
          have hk : k < l.length := by omega
          have n1 := nodL_take l k
          have n2 := nodL_take l (k + 1)
          have e3 : l.take (k + 1) = l.take k ++ [l[k]] := List.take_succ_eq_append_getElem hk
          have n3 : nodL (l.take (k + 1)) = nodL (l.take k) + nod l[k] := by rw [e3, nodL_app]; rfl
          repeat get_elem_tactic_trivial
          try dsimp only [List.set_cons_succ, List.set_cons_zero]
          refine st_seq ?_
          repeat get_elem_tactic_trivial
          try dsimp only [List.set_cons_succ, List.set_cons_zero]
          by_cases w9 : w < 9
          · refine br_ct (decide_eq_true w9) ?_
            repeat get_elem_tactic_trivial
            try dsimp only [List.set_cons_succ, List.set_cons_zero]
            refine st_ix (d := l[k]) rfl (by unfold atI; rw [ixN_in (by omega) (by omega)]; simp) ?_
            refine ih f (by omega) (lp _ (List.getElem_mem hk)) (by have := dep_mem (List.getElem_mem hk); omega) (by have := nod_mem (List.getElem_mem hk); omega) hp3 (by omega) fun r S4 hr hp4 ho5 => ?_
            repeat get_elem_tactic_trivial
            try dsimp only [List.set_cons_succ, List.set_cons_zero]
            rw [cut_lo]
            refine st_addT (by rw [List.length_take]; simp only [List.length_singleton]; unfold sizeLine; omega) ?_
            repeat get_elem_tactic_trivial
            try dsimp only [List.set_cons_succ, List.set_cons_zero]
            rw [show ((k : Nat) : Int) + 1 = ((k + 1 : Nat) : Int) by omega, cut_l]
            refine st_addT (by rw [List.length_append, List.length_take, List.length_drop]; simp only [List.length_singleton]; unfold sizeLine; omega) ?_
            refine fin.of (h _ S4 (bent_tup (fun x hx2 => ?_) ?_ s) (hp4.mono (by omega)) (ho4.trans ho5))
            · rcases List.mem_append.mp hx2 with z | z
              · rcases List.mem_append.mp z with z | z
                · exact hx x (List.mem_of_mem_take z)
                · rw [List.mem_singleton.mp z]
                  exact ⟨hr.pl, hr.td⟩
              · exact hx x (List.mem_of_mem_drop z)
            · have := hr.nod
              rw [nodL_app, nodL_app, nodL_one, en]
              omega
          · refine br_cf (decide_eq_false w9) ?_
            repeat get_elem_tactic_trivial
            try dsimp only [List.set_cons_succ, List.set_cons_zero]
            rw [cut_lo, show ((k : Nat) : Int) + 1 = ((k + 1 : Nat) : Int) by omega, cut_l]
            refine st_addT (by rw [List.length_take, List.length_drop]; unfold sizeLine; omega) ?_
            repeat get_elem_tactic_trivial
            try dsimp only [List.set_cons_succ, List.set_cons_zero]
            rw [cut_l]
            rw [show ((k : Nat) : Int) + 1 = ((k + 1 : Nat) : Int) by omega, cut_lo]
            refine st_addT (by rw [List.length_take, List.length_drop]; unfold sizeLine; omega) ?_
            repeat get_elem_tactic_trivial
            try dsimp only [List.set_cons_succ, List.set_cons_zero]
            refine st_ixAll rfl (by omega) (by simp only [List.length_cons, List.length_nil]; omega) fun r hr => ?_
            simp only [List.mem_cons, List.not_mem_nil, or_false] at hr
            have B : Bent (m + 1) (.tup l) r := by
              rcases hr with rfl | rfl | rfl
              · refine bent_tup (fun x hx2 => ?_) (by rw [nodL_app, en]; omega) s
                rcases List.mem_append.mp hx2 with z | z
                · exact hx x (List.mem_of_mem_take z)
                · exact hx x (List.mem_of_mem_drop z)
              · refine bent_tup (fun x hx2 => ?_) (by rw [nodL_app, en]; have := nod_mem (List.getElem_mem hk); omega) s
                rcases List.mem_append.mp hx2 with z | z
                · exact hx x (List.mem_of_mem_take z)
                · exact hx x (List.mem_of_mem_drop z)
              · refine ⟨.lst l ln lp, ?_, ?_⟩
                · show depL l + 1 ≤ _
                  omega
                · show nodL l + 1 ≤ 2 * nod (.tup l) + 3
                  omega
            exact fin.of (h r S3 B (hp3.mono (by omega)) ho4)
      | _ => exact absurd (fun l e => by cases e) hd


end G

set_option Elab.async false
set_option linter.all false
set_option maxRecDepth 100000
set_option autoImplicit false
set_option maxHeartbeats 2000000
namespace G
open PySem PySem.Spec PyProof.Rows L2
local macro_rules
  | `(tactic| get_elem_tactic_trivial) => `(tactic| first
    | (with_reducible first
      | refine st_seqSet ?_ | refine st_seqAsg ?_ | refine st_seqDo ?_ | refine st_seqPar ?_ | refine st_seqPar3 ?_ | refine st_seqFor ?_ | refine st_seqWhile ?_ | refine st_seqAug ?_ | refine st_seqSkip ?_ | refine st_seqRet ?_
      | refine st_skip ?_ | refine st_ret ?_ | refine st_retN ?_ | refine st_do ?_ | refine st_if ?_ | refine st_set ?_ | refine st_asg ?_ | refine st_par ?_ | refine st_par3 ?_
      | refine st_c ?_ | refine st_op2 ?_ | refine st_op1 ?_ | refine st_test ?_ | refine st_tbl ?_ | refine st_and ?_ | refine st_or ?_ | refine st_not ?_ | refine st_andV ?_ | refine st_orV ?_ | refine st_notV ?_ | refine st_bl ?_
      | refine st_chain ?_ | refine st_ifE ?_ | refine st_nil ?_ | refine st_cons ?_ | refine st_call ?_ | refine st_fr ?_ | refine st_lv ?_ | refine st_one ?_ | refine st_two ?_
      | refine st_gN ?_ | refine st_lst ?_ | refine st_tup ?_ | refine st_slF ?_ | refine st_oNo ?_ | refine st_oS ?_ | refine st_enum ?_ | refine st_scr ?_ | refine st_list ?_ | refine st_it ?_ | refine st_comp ?_ | refine st_for ?_ | refine st_gIx ?_ | refine st_range1 ?_ | refine st_app ?_ | refine st_zip ?_ | refine st_rev1 ?_ | refine st_meth ?_ | refine st_isS ?_ | refine st_count ?_ | refine st_sl ?_ | refine st_slT ?_ | refine st_slL ?_ | refine st_max2 ?_ | refine st_min2 ?_
      | refine st_add ?_ | refine st_sub ?_ | refine st_int ?_ | refine st_neg ?_ | refine st_lt ?_ | refine st_le ?_ | refine st_gt ?_ | refine st_ge ?_ | refine st_eq ?_ | refine st_ne ?_ | refine st_eqB ?_ | refine st_neB ?_ | refine st_eqS ?_ | refine st_neS ?_ | refine st_isN ?_ | refine st_sorted ?_ | refine st_abs ?_ | refine st_isNotN ?_
      | refine br_t ?_ | refine br_f ?_)
    | ((with_reducible refine st_var (d := ?_) ?_ ?_); rotate_left; (exact rfl))
    | ((with_reducible refine st_isi2 (k := ?_) (b := true) ?_ ?_ ?_); rotate_left; (exact rfl); (exact rfl))
    | ((with_reducible refine st_isi2 (k := ?_) (b := false) ?_ ?_ ?_); rotate_left; (exact rfl); (exact rfl))
    | ((with_reducible refine st_ix (ds := ?_) (d := ?_) ?_ ?_ ?_); rotate_left 2; (first | exact rfl | exact seq_at (by assumption)); (exact rfl))
    | ((with_reducible refine st_len2 (ds := ?_) (n := ?_) ?_ ?_ ?_); rotate_left 2; (first | exact rfl | exact seq_at (by assumption)); (exact rfl))
    | ((with_reducible refine st_addLL (a := ?_) (b := ?_) ?_ ?_ ?_ ?_); rotate_left 2; (first | exact rfl | exact lst_at (by assumption)); (first | exact rfl | exact lst_at (by assumption)); (exact Nat.le_of_ble_eq_true rfl))
    | ((with_reducible refine st_pow ?_ ?_); (exact ⟨by decide, by decide, by decide⟩))
    | ((with_reducible refine st_mod ?_ ?_); (first | decide | omega))
    | ((with_reducible refine st_size ?_ ?_); (exact rfl))
    | ((with_reducible refine st_gT2 ?_ ?_); (exact rfl))
    | ((with_reducible refine st_gsC ?_))
    | ((with_reducible refine st_gsN ?_))
    | ((with_reducible refine st_mulS ?_ ?_ ?_); omega; omega)
    | ((with_reducible refine br_ct ?_ ?_); (exact rfl))
    | ((with_reducible refine br_cf ?_ ?_); (exact rfl))
    | (rw [list_tup])
    | (rw [list_lst])
    | (rw [items_tup])
    | (rw [items_lst])
    | ((refine st_listM (ds := ?_) ?_ ?_); rotate_left; (first | exact rfl | exact seq_at (by assumption)))
    | ((refine st_itM (it := ?_) ?_ ?_); rotate_left; (first | exact rfl | exact it_at (by assumption))))

theorem gcds_mem : ∀ (ns : List Int) (g : Nat) (x : Int), x ∈ ns → gcds g ns ∣ x.natAbs
  | [], _, _, h => by cases h
  | n :: ns, g, x, h => by
    rcases List.mem_cons.mp h with z | z
    · subst z
      exact Nat.dvd_trans (gcds_dvd ns (Nat.gcd g x.natAbs)) (Nat.gcd_dvd_right g x.natAbs)
    · exact gcds_mem ns (Nat.gcd g n.natAbs) x z
theorem gcds_scale (g : Nat) : ∀ (ns : List Int) (a : Nat), gcds (g * a) (ns.map fun x => (g : Int) * x) = g * gcds a ns
  | [], _ => rfl
  | n :: ns, a => by
    show gcds (Nat.gcd (g * a) ((g : Int) * n).natAbs) (ns.map _) = g * gcds (Nat.gcd a n.natAbs) ns
    rw [Int.natAbs_mul, Int.natAbs_natCast, Nat.gcd_mul_left, gcds_scale g ns]
theorem div_back {g : Nat} {x : Int} (h : g ∣ x.natAbs) : (g : Int) * (x / (g : Int)) = x := Int.mul_ediv_cancel' (Int.natAbs_dvd_natAbs.mp (by rw [Int.natAbs_natCast]; exact h))

/-! ### drawn things that are as they ought to be -/
abbrev SgnC (c : Nat) : Prop := 33 ≤ c ∧ c ≤ 126
structure LetU (l : Str) : Prop where
  ok : LetOk l
  lb : letsB (.str l) = true
theorem letU_of {ys : List Str} (hs : ∀ y, y ∈ ys → y.length = 1 ∧ Sg SgnC y) (so : sortedS ys = true) (nd : ys.Nodup) (h1 : 1 ≤ ys.length) (h4 : ys.length ≤ 4) : LetU (Txt.join (Str.ofString "") ys) := by
  obtain ⟨cs, rfl, hc⟩ := sings_of ys hs
  have ht := tl_joinS cs
  have ll : (Txt.join (Str.ofString "") (cs.map fun c => (⟨#[c]⟩ : Str))).length = cs.length := by rw [TL.len_tl, ht]
  rw [List.length_map] at h1 h4
  have ndc : cs.Nodup := List.Pairwise.of_map _ (fun a b hne e => hne (by rw [e])) nd
  have up : upB cs = true := by
    cases cs with
    | nil => rfl
    | cons c cs => exact rising_le cs c so ndc
  refine ⟨⟨by rw [ll]; exact h1, by rw [ll]; exact h4, fun c h => ?_, ?_⟩, ?_⟩
  · have := hc c (by rw [← ht]; exact h)
    exact ⟨this.1, by omega⟩
  · rw [ht]
    refine List.nodup_cons.mpr ⟨fun z => ?_, ndc⟩
    have := (hc 32 z).1
    omega
  · show ((decide (1 ≤ _) && decide (_ ≤ 4)) && ((TL.tl _).all signB && upB (TL.tl _))) = true
    rw [ll, ht, up, decide_eq_true h1, decide_eq_true h4, List.all_eq_true.mpr fun c h => ?_]
    · rfl
    · have := hc c h
      show (decide (33 ≤ c) && decide (c ≤ 126)) = true
      rw [decide_eq_true this.1, decide_eq_true this.2]
      rfl
theorem letU_perm {z : Str} {ys : List Str} (hz : LetOk z) (ha : (TL.tl z).all (fun c => decide (c ≤ 126)) = true) (hp : ys.Perm (singles z)) (so : sortedS ys = true) : LetU (Txt.join (Str.ofString "") ys) := by
  have hl : ys.length = z.length := by rw [hp.length_eq, singles_len]
  refine letU_of (fun y hy => ?_) so ?_ (by rw [hl]; exact hz.l1) (by rw [hl]; exact hz.l4)
  · have := hp.mem_iff.mp hy
    rw [singles_tl, List.mem_map] at this
    obtain ⟨c, hc, e⟩ := this
    rw [← e]
    exact ⟨rfl, Sg.one ⟨(hz.sg c hc).1, of_decide_eq_true (List.all_eq_true.mp ha c hc)⟩⟩
  · rw [hp.nodup_iff, singles_tl]
    exact List.pairwise_map.mpr ((List.nodup_cons.mp hz.nd).2.imp fun {a b} ne z => ne (sing_inj z))
theorem sp_draw_letters2 {n : Nat} {p : Addr} {S : Sto} {K : KE} (hp : Pn n S p) (hn : n < 2 ^ 22) (h : ∀ l S', LetOk l → (TL.tl l).all (fun c => decide (c ≤ 126)) = true → Pn (n + 1) S' p → Oth p S S' → K (.str l) S') : c_law_draw_letters [.cell p] S K := by
  refine st_def rfl ?_
  unfold w_law_draw_letters
  repeat get_elem_tactic_trivial
  refine sp_one_of hp (by omega) (by decide) (by decide) fun d S' hd hp' ho => ?_
  obtain ⟨l, rfl, hl, ha⟩ : ∃ l, d = .str l ∧ LetOk l ∧ (TL.tl l).all (fun c => decide (c ≤ 126)) = true := by
    simp only [List.mem_cons, List.not_mem_nil, or_false] at hd
    rcases hd with rfl | rfl | rfl | rfl | rfl | rfl | rfl | rfl | rfl | rfl | rfl | rfl | rfl <;> exact ⟨_, rfl, LetOk.of (by decide +kernel), by decide +kernel⟩
  exact fin.of (h l S' hl ha hp' ho)
theorem sp_draw_knowledgeU {n : Nat} {p : Addr} {m : Int} {S : Sto} {K : KE} (hp : Pn n S p) (hn : n < 2 ^ 20) (m0 : 0 ≤ m) (m8 : m ≤ 8) (h : ∀ l cs S', KnowOk l cs → LetU l → Pn (n + 140) S' p → Oth p S S' → K (knowD l cs) S') : c_law_draw_knowledge [.cell p, .int m] S K := by
  refine st_def rfl ?_
  unfold w_law_draw_knowledge
  repeat get_elem_tactic_trivial
  refine sp_draw_letters2 hp (by omega) fun l0 S1 hl0 ha0 hp1 ho1 => ?_
  have a1 := hl0.l1
  have a4 := hl0.l4
  repeat get_elem_tactic_trivial
  refine st_srtS (by omega) fun ys hys so => ?_
  obtain ⟨j1, j2, j3⟩ := sorted_join hys
  repeat get_elem_tactic_trivial
  refine st_join (ys := ys) rfl rfl (by omega) ?_
  have hu := letU_perm hl0 ha0 hys so
  obtain ⟨l, el⟩ : ∃ l, l = Txt.join (Str.ofString "") ys := ⟨_, rfl⟩
  rw [← el] at j1 j2 hu ⊢
  have hl : LetOk l := ⟨by omega, by omega, j2 _ hl0.sg, by rw [el]; exact ((sorted_perm hys).cons 32).nodup_iff.mpr hl0.nd⟩
  have b4 := hl.l4
  clear el
  repeat get_elem_tactic_trivial
  refine st_lenS (by unfold sizeLine; omega) ?_
  repeat get_elem_tactic_trivial
  refine sp_draw_font (k := l.length + 1) hp1 (by omega) (by omega) fun u ws S2 hf hp2 ho2 => ?_
  repeat get_elem_tactic_trivial
  intro q nq
  have hqp := hp2.ne nq
  have hp3 := hp2.setO (c := .lst []) hqp
  have hq3 : (S2.set q (.lst [])) q = some (.lst ([].map condD)) := Sto.set_same
  have ho3 : ∀ b, b ≠ p → b ≠ q → (S2.set q (.lst [])) b = S b := fun b n1 n2 => (Sto.set_ne n2).trans ((ho1.trans ho2) b n1)
  have nq0 : S q = none := ((ho1.trans ho2) q hqp).symm.trans nq
  generalize S2.set q (.lst []) = S3 at *
  repeat get_elem_tactic_trivial
  refine sp_take hp3 (by omega) (by omega) (by omega) fun v S4 v1 v2 hp4 ho4 => ?_
  repeat get_elem_tactic_trivial
  refine sp_take hp4 (by omega) (by omega) (by omega) fun r S5 r1 r2 hp5 ho5 => ?_
  repeat get_elem_tactic_trivial
  refine ⟨r, rfl, by omega, by omega, ?_⟩
  have hq5 := ((ho4.trans ho5) q hqp).trans hq3
  have ho6 : ∀ b, b ≠ p → b ≠ q → S5 b = S b := fun b n1 n2 => ((ho4.trans ho5) b n1).trans (ho3 b n1 n2)
  refine for_ind (I := fun ds ρ S1 => ∃ (n1 : Nat) (cs : List Cond) (x0 x1 x6 x7 : Option D), ρ = [some (.cell p), x1, some (.str l), some (fontD u ws), some (.cell q), some (.bl (decide (0 < v))), x6, x7] ∧ Pn n1 S1 p ∧ S1 q = some (.lst (cs.map condD)) ∧ (∀ b, b ≠ p → b ≠ q → S1 b = S b) ∧ cs.length + ds.length ≤ 8 ∧ n1 + 14 * ds.length ≤ n + 140 ∧ (∀ c, c ∈ cs → CondOk (l.length + 1) c ∧ c.b.natAbs ≤ 9999 ∧ ∀ f, f ∈ c.fs → f.natAbs ≤ 99)) ⟨_, [], some (.cell p), _, _, _, rfl, hp5, hq5, ho6, by rw [irange_length]; simp; omega, by rw [irange_length]; omega, fun c hc => by cases hc⟩ (fun ρ S6 ⟨n1, cs, x0, x1, x6, x7, e1, e2, e3, e4, e5, e6, e7⟩ => ⟨trivial, ?_⟩) fun d ds F ih ρ S6 ⟨n1, cs, x0, x1, x6, x7, e1, e2, e3, e4, e5, e6, e7⟩ => ⟨trivial, ?_⟩
  · subst e1
    repeat get_elem_tactic_trivial
    refine st_tuple (seq_at e3) ?_
    repeat get_elem_tactic_trivial
    rw [List.length_nil] at e5 e6
    exact ⟨S6.del q, Sub.del, h l cs _ ⟨hl, by omega, fun c hc => (e7 c hc).1, fun c hc => (e7 c hc).2.1, fun c hc => (e7 c hc).2.2⟩ hu ((e2.delO hqp).mono (by omega)) (Oth.of2 e4 nq0)⟩
  · subst e1
    rw [List.length_cons] at e5 e6
    repeat get_elem_tactic_trivial
    refine sp_draw_condition (k := l.length + 1) e2 (by omega) (by omega) hf fun c S7 hc hcb hcf hp7 ho7 => ?_
    have hq7 := (ho7 q hqp).trans e3
    have ho8 : ∀ b, b ≠ p → b ≠ q → S7 b = S b := fun b n1 n2 => (ho7 b n1).trans (e4 b n1 n2)
    repeat get_elem_tactic_trivial
    have add : F [some (.cell p), x1, some (.str l), some (fontD u ws), some (.cell q), some (.bl (decide (0 < v))), some d, some (condD c)] (S7.set q (.lst (cs.map condD ++ [condD c]))) := by
      refine ih _ _ ⟨_, cs ++ [c], some (.cell p), _, _, _, rfl, hp7.setO hqp, by rw [List.map_append]; exact Sto.set_same, fun b n1 n2 => (Sto.set_ne n2).trans (ho8 b n1 n2), by simp; omega, by omega, fun x hx => ?_⟩
      rcases List.mem_append.mp hx with z | z
      · exact e7 x z
      · rw [List.mem_singleton.mp z]
        exact ⟨hc, hcb, hcf⟩
    refine br_b (fun e => ?_) fun e => ?_
    · repeat get_elem_tactic_trivial
      refine ⟨q, rfl, ⟨_, hq7⟩, ?_⟩
      repeat get_elem_tactic_trivial
      exact ⟨_, hq7, by rw [List.length_map]; unfold sizeLine; omega, add⟩
    · repeat get_elem_tactic_trivial
      refine sp_law_holds (n := l.length + 1) (by omega) hc hf ?_
      repeat get_elem_tactic_trivial
      refine br_b (fun e => ?_) fun e => ?_
      · repeat get_elem_tactic_trivial
        refine ⟨q, rfl, ⟨_, hq7⟩, ?_⟩
        repeat get_elem_tactic_trivial
        exact ⟨_, hq7, by rw [List.length_map]; unfold sizeLine; omega, add⟩
      · repeat get_elem_tactic_trivial
        exact ih _ _ ⟨_, cs, some (.cell p), _, _, _, rfl, hp7, hq7, ho8, by omega, by omega, e7⟩
theorem sp_any_lettersU {n : Nat} {p : Addr} {S : Sto} {K : KE} (hp : Pn n S p) (hn : n < 2 ^ 21) (h : ∀ l S', LetU l → Pn (n + 5) S' p → Oth p S S' → K (.str l) S') : c_law_any_letters [.cell p] S K := by
  refine st_def rfl ?_
  unfold w_law_any_letters
  generalize ez : Str.ofString "!\"#$&'()*+,-./0123456789:;<=>?@ABCDEFGHIJKLMNOPQRSTUVWXYZ[\\]^_`abcdefghijklmnopqrstuvwxyz{|}~" = z
  have hz : Sg SgnC z := by
    rw [← ez]
    exact fun c hc => by
      have h : (TL.tl (Str.ofString "!\"#$&'()*+,-./0123456789:;<=>?@ABCDEFGHIJKLMNOPQRSTUVWXYZ[\\]^_`abcdefghijklmnopqrstuvwxyz{|}~")).all (fun c => decide (33 ≤ c ∧ c ≤ 126)) = true := by decide +kernel
      exact of_decide_eq_true (List.all_eq_true.mp h c hc)
  have z0 : 0 < z.length ∧ z.length < 200 := by
    rw [← ez]
    decide +kernel
  clear ez
  repeat get_elem_tactic_trivial
  try dsimp only [List.set_cons_succ, List.set_cons_zero]
  refine st_srtSetT ?_
  repeat get_elem_tactic_trivial
  try dsimp only [List.set_cons_succ, List.set_cons_zero]
  refine sp_take hp (by omega) (by omega) (by omega) fun r S1 r0 r1 hp1 ho1 => ?_
  repeat get_elem_tactic_trivial
  try dsimp only [List.set_cons_succ, List.set_cons_zero]
  refine ⟨_, rfl, by omega, by omega, ?_⟩
  refine comp_pen (p := p) (n := n + 1) 1 (fun d => ∃ z, d = .str z ∧ (z.length = 1 ∧ Sg SgnC z)) (fun _ _ => trivial) hp1 (by rw [irange_length]; unfold sizeLine; omega) (fun d hd n2 S8 hb hp8 ho8 K1 F k => ?_) fun rs S8 f1 f2 hp8 ho8 => ?_
  · rw [irange_length] at hb
    repeat get_elem_tactic_trivial
    try dsimp only [List.set_cons_succ, List.set_cons_zero]
    refine sp_one_ofS hp8 (by omega) z0.1 (by omega) fun c S9 hc hp9 ho9 => ?_
    exact k _ S9 ⟨_, rfl, rfl, Sg.one (hz c hc)⟩ hp9 ho9
  · obtain ⟨ys, rfl, hy⟩ := strs_of f2
    rw [irange_length] at f1 hp8
    rw [List.length_map] at f1
    repeat get_elem_tactic_trivial
    try dsimp only [List.set_cons_succ, List.set_cons_zero]
    refine ⟨ys, .inl rfl, by omega, fun ks k1 k2 k3 => ?_⟩
    obtain ⟨ok, sm⟩ := letOk_set (fun y h => ⟨(hy y h).1, fun c hc => ⟨((hy y h).2 c hc).1, Nat.lt_of_le_of_lt ((hy y h).2 c hc).2 (by omega)⟩⟩) (by omega) (by omega) k2 k3
    have hks := nodup_len ks ys k2 fun x hx => (k3 x).mp hx
    have hu := letU_of (fun y h => hy y ((k3 y).mp h)) k1 k2 (by
      cases ys with
      | nil => simp at f1; omega
      | cons y ys => exact List.length_pos_of_mem ((k3 y).mpr List.mem_cons_self)) (by omega)
    repeat get_elem_tactic_trivial
    try dsimp only [List.set_cons_succ, List.set_cons_zero]
    refine st_join (ys := ks) rfl rfl (by omega) ?_
    exact fin.of (h _ S8 hu (hp8.mono (by omega)) (ho1.trans ho8))
/-- a font as it ought to be -/
structure FontT (n : Nat) (u : Int) (ws : List Int) : Prop where
  ok : FontOk n u ws
  hi : ∀ w, w ∈ ws → w ≤ 20 * u
  gcd : gcds 0 (u :: ws) = 1
theorem sp_plainU {k : Nat} {u : Int} {ws : List Int} {S : Sto} {K : KE} (hk : ws.length = k) (k1 : k ≤ 1000) (hu : 1 ≤ u) (hu2 : u < 2 ^ 150) (hw0 : ∀ w, w ∈ ws → 0 ≤ w ∧ w ≤ 20 * u) (h : ∀ u ws, FontT k u ws → K (fontD u ws) S) : c_law_plain [.int u, .lst (ws.map D.int)] S K := by
  have hw : ∀ w, w ∈ ws → 0 ≤ w ∧ w < 2 ^ 160 := fun w h => by have := hw0 w h; omega
  have dw : ∀ w, w ∈ ws → gcds 0 (u :: ws) ∣ w.natAbs := fun w hw => gcds_mem _ 0 w (List.mem_cons_of_mem _ hw)
  have sc := gcds_scale (gcds 0 (u :: ws)) ((u :: ws).map fun w => w / (gcds 0 (u :: ws) : Nat)) 0
  obtain ⟨g0, eg⟩ : ∃ g0, gcds 0 (u :: ws) = g0 := ⟨_, rfl⟩
  refine st_def rfl ?_
  unfold w_law_plain
  repeat get_elem_tactic_trivial
  refine st_addLL (a := [.int u]) (b := ws.map D.int) rfl rfl (by rw [List.length_map]; unfold sizeLine; simp; omega) ?_
  repeat get_elem_tactic_trivial
  have hg : gcds 0 (u :: ws) ∣ u.natAbs := by
    have e : gcds 0 (u :: ws) = gcds (Nat.gcd 0 u.natAbs) ws := rfl
    rw [e, Nat.gcd_zero_left]
    exact gcds_dvd ws _
  have hg2 : 0 < gcds 0 (u :: ws) := Nat.pos_of_dvd_of_pos hg (by omega)
  have hg3 : gcds 0 (u :: ws) ≤ u.natAbs := Nat.le_of_dvd (by omega) hg
  refine sp_divisor (ns := u :: ws) ?_
  have eg0 : gcds 0 (u :: ws) = g0 := eg
  rw [eg] at dw sc hg hg2 hg3 ⊢
  generalize g0 = g at *
  repeat get_elem_tactic_trivial
  refine st_divS (by omega) (by omega) ?_
  repeat get_elem_tactic_trivial
  refine comp_map (f := fun d => match d with
    | .int w => .int (w / (g : Nat))
    | _ => .non) trivial (by show (ws.map D.int).length ≤ _; rw [List.length_map]; unfold sizeLine; omega) (fun d hd K F kk => ?_) ?_
  · obtain ⟨w, hw, e⟩ := List.mem_map.mp (show d ∈ ws.map D.int from hd)
    subst e
    repeat get_elem_tactic_trivial
    refine st_divS (by omega) (by omega) ?_
    exact kk
  · repeat get_elem_tactic_trivial
    refine st_tuple rfl ?_
    repeat get_elem_tactic_trivial
    have e : ((ws.map D.int).map fun d => match d with
      | .int w => .int (w / (g : Nat))
      | _ => .non) = (ws.map fun (w : Int) => w / ((g : Nat) : Int)).map D.int := by
      rw [List.map_map, List.map_map]
      rfl
    show fin K (.tup [.int (u / (g : Nat)), .tup ((ws.map D.int).map fun d => match d with
      | .int w => .int (w / (g : Nat))
      | _ => .non)]) _
    rw [e]
    have q1 : (1 : Int) ≤ u / (g : Nat) := by
      have := Int.le_ediv_of_mul_le (a := 1) (b := u) (c := (g : Nat)) (by omega) (by omega)
      exact this
    have q2 := Int.ediv_le_self (g : Nat) (show (0 : Int) ≤ u by omega)
    have bu := div_back hg
    have bw : (ws.map fun w => w / (g : Int)).map (fun w => (g : Int) * w) = ws := by
      rw [List.map_map]
      conv => rhs; rw [← List.map_id ws]
      exact List.map_congr_left fun w hw => div_back (dw w hw)
    refine fin.of (h _ _ ⟨⟨q1, by omega, by rw [List.length_map]; exact hk, fun w hm => ?_⟩, fun w hm => ?_, ?_⟩)
    rotate_left
    · obtain ⟨x, hx, e⟩ := List.mem_map.mp hm
      have b := hw0 x hx
      subst e
      have b1 := div_back (dw x hx)
      refine Int.le_of_mul_le_mul_left (a := (g : Int)) ?_ (by omega)
      rw [b1, Int.mul_left_comm, bu]
      exact b.2
    · rw [Nat.mul_zero] at sc
      have e : ((u :: ws).map fun w => w / (g : Int)).map (fun x => (g : Int) * x) = u :: ws := by
        rw [List.map_cons, List.map_cons, bw, bu]
      rw [e, eg0] at sc
      have : g * 1 = g * gcds 0 ((u :: ws).map fun w => w / (g : Int)) := by omega
      exact (Nat.eq_of_mul_eq_mul_left hg2 this).symm
    obtain ⟨x, hx, e⟩ := List.mem_map.mp hm
    have b := hw x hx
    subst e
    have d1 := Int.ediv_nonneg b.1 (show (0 : Int) ≤ (g : Nat) by omega)
    have d2 := Int.ediv_le_self (g : Nat) b.1
    omega
theorem sp_draw_fontU {n k : Nat} {p : Addr} {S : Sto} {K : KE} (hp : Pn n S p) (hn : n < 2 ^ 21) (h2 : k ≤ 100) (h : ∀ u ws S', FontT k u ws → Pn (n + (3 * k + 1)) S' p → Oth p S S' → K (fontD u ws) S') : c_law_draw_font [.cell p, .int (k : Nat)] S K := by
  refine st_def rfl ?_
  unfold w_law_draw_font
  repeat get_elem_tactic_trivial
  refine sp_one_of hp (by omega) (by decide) (by decide) fun d S0 hd hp0 ho0 => ?_
  obtain ⟨u, rfl, u1, u2⟩ : ∃ b : Int, d = .int b ∧ 1 ≤ b ∧ b ≤ 7 := by
    simp only [List.mem_cons, List.not_mem_nil, or_false] at hd
    rcases hd with rfl | rfl | rfl | rfl | rfl <;> exact ⟨_, rfl, by decide, by decide⟩
  repeat get_elem_tactic_trivial
  refine ⟨_, rfl, by omega, by omega, ?_⟩
  refine comp_pen (p := p) (n := n + 1) 2 (fun d => ∃ z, d = .int z ∧ (0 ≤ z ∧ z ≤ 140)) (fun _ _ => trivial) hp0 (by rw [irange_length]; unfold sizeLine; omega) (fun d hd n1 S2 hb hp2 ho2 K1 F kk => ?_) fun rs S2 e1 e2 hp2 ho2 => ?_
  · rw [irange_length] at hb
    repeat get_elem_tactic_trivial
    refine sp_take hp2 (by omega) (by omega) (by omega) fun w S3 w1 w2 hp3 ho3 => ?_
    repeat get_elem_tactic_trivial
    refine sp_one_of hp3 (by omega) (Nat.le_of_ble_eq_true rfl) (Nat.le_of_ble_eq_true rfl) fun d S4 hd hp4 ho4 => ?_
    obtain ⟨z, rfl, z1, z2⟩ : ∃ b : Int, d = .int b ∧ 0 ≤ b ∧ b ≤ 140 := by
      simp only [List.mem_cons, List.not_mem_nil, or_false] at hd
      rcases hd with rfl | rfl | rfl | rfl <;> exact ⟨_, rfl, by omega, by omega⟩
    exact kk _ S4 ⟨_, rfl, z1, z2⟩ hp4 (ho3.trans ho4)
  · obtain ⟨ws, rfl, hw⟩ := ints_of e2
    rw [irange_length] at e1 hp2
    rw [List.length_map] at e1
    repeat get_elem_tactic_trivial
    refine comp_pen (p := p) (n := n + 1 + 2 * (k : Int).toNat) 1 (fun d => ∃ z, d = .int z ∧ (0 ≤ z ∧ z ≤ 20 * u)) (fun _ _ => trivial) hp2 (by show (ws.map D.int).length ≤ _; rw [List.length_map]; unfold sizeLine; omega) (fun d hd n1 S3 hb hp3 ho3 K1 F kk => ?_) fun rs S3 f1 f2 hp3 ho3 => ?_
    · have hb : n1 + 1 ≤ n + 1 + 2 * (k : Int).toNat + 1 * (ws.map D.int).length := hb
      rw [List.length_map] at hb
      obtain ⟨w, hm, ed⟩ := List.mem_map.mp (show d ∈ ws.map D.int from hd)
      subst ed
      have bw := hw w hm
      repeat get_elem_tactic_trivial
      refine sp_one_of hp3 (by omega) (by decide) (by decide) fun d S4 hd hp4 ho4 => ?_
      obtain ⟨z, rfl, z1, z2⟩ : ∃ b : Int, d = .int b ∧ 6 ≤ b ∧ b ≤ 20 := by
        simp only [List.mem_cons, List.not_mem_nil, or_false] at hd
        rcases hd with rfl | rfl | rfl <;> exact ⟨_, rfl, by omega, by omega⟩
      repeat get_elem_tactic_trivial
      have bm := bnd_mul (x := z) (y := u) (X := 20) (Y := 7) (by omega) (by omega) (by omega) (by omega)
      have bz : z * u ≤ 20 * u := Int.mul_le_mul_of_nonneg_right z2 (by omega)
      exact kk _ S4 ⟨_, rfl, by split <;> omega, by split <;> omega⟩ hp4 ho4
    · have f1 : rs.length = (ws.map D.int).length := f1
      have hp3 : Pn (n + 1 + 2 * (k : Int).toNat + 1 * (ws.map D.int).length) S3 p := hp3
      obtain ⟨vs, rfl, hv⟩ := ints_of f2
      rw [List.length_map, List.length_map] at f1
      rw [List.length_map] at hp3
      repeat get_elem_tactic_trivial
      refine sp_plainU (k := k) (by omega) (by omega) u1 (by omega) (fun w hm => hv w hm) fun u' ws' hf => ?_
      exact fin.of (h _ _ _ hf (hp3.mono (by omega)) ((ho0.trans ho2).trans ho3))


end G

set_option Elab.async false
set_option linter.all false
set_option maxRecDepth 100000
set_option autoImplicit false
set_option maxHeartbeats 2000000
namespace G
open PySem PySem.Spec PyProof.Rows L2
local macro_rules
  | `(tactic| get_elem_tactic_trivial) => `(tactic| first
    | (with_reducible first
      | refine st_seqSet ?_ | refine st_seqAsg ?_ | refine st_seqDo ?_ | refine st_seqPar ?_ | refine st_seqPar3 ?_ | refine st_seqFor ?_ | refine st_seqWhile ?_ | refine st_seqAug ?_ | refine st_seqSkip ?_ | refine st_seqRet ?_
      | refine st_skip ?_ | refine st_ret ?_ | refine st_retN ?_ | refine st_do ?_ | refine st_if ?_ | refine st_set ?_ | refine st_asg ?_ | refine st_par ?_ | refine st_par3 ?_
      | refine st_c ?_ | refine st_op2 ?_ | refine st_op1 ?_ | refine st_test ?_ | refine st_tbl ?_ | refine st_and ?_ | refine st_or ?_ | refine st_not ?_ | refine st_andV ?_ | refine st_orV ?_ | refine st_notV ?_ | refine st_bl ?_
      | refine st_chain ?_ | refine st_ifE ?_ | refine st_nil ?_ | refine st_cons ?_ | refine st_call ?_ | refine st_fr ?_ | refine st_lv ?_ | refine st_one ?_ | refine st_two ?_
      | refine st_gN ?_ | refine st_lst ?_ | refine st_tup ?_ | refine st_slF ?_ | refine st_oNo ?_ | refine st_oS ?_ | refine st_enum ?_ | refine st_scr ?_ | refine st_list ?_ | refine st_it ?_ | refine st_comp ?_ | refine st_for ?_ | refine st_gIx ?_ | refine st_range1 ?_ | refine st_app ?_ | refine st_zip ?_ | refine st_rev1 ?_ | refine st_meth ?_ | refine st_isS ?_ | refine st_count ?_ | refine st_sl ?_ | refine st_slT ?_ | refine st_slL ?_ | refine st_max2 ?_ | refine st_min2 ?_
      | refine st_add ?_ | refine st_sub ?_ | refine st_int ?_ | refine st_neg ?_ | refine st_lt ?_ | refine st_le ?_ | refine st_gt ?_ | refine st_ge ?_ | refine st_eq ?_ | refine st_ne ?_ | refine st_eqB ?_ | refine st_neB ?_ | refine st_eqS ?_ | refine st_neS ?_ | refine st_isN ?_ | refine st_sorted ?_ | refine st_abs ?_ | refine st_isNotN ?_
      | refine br_t ?_ | refine br_f ?_)
    | ((with_reducible refine st_var (d := ?_) ?_ ?_); rotate_left; (exact rfl))
    | ((with_reducible refine st_isi2 (k := ?_) (b := true) ?_ ?_ ?_); rotate_left; (exact rfl); (exact rfl))
    | ((with_reducible refine st_isi2 (k := ?_) (b := false) ?_ ?_ ?_); rotate_left; (exact rfl); (exact rfl))
    | ((with_reducible refine st_ix (ds := ?_) (d := ?_) ?_ ?_ ?_); rotate_left 2; (first | exact rfl | exact seq_at (by assumption)); (exact rfl))
    | ((with_reducible refine st_len2 (ds := ?_) (n := ?_) ?_ ?_ ?_); rotate_left 2; (first | exact rfl | exact seq_at (by assumption)); (exact rfl))
    | ((with_reducible refine st_addLL (a := ?_) (b := ?_) ?_ ?_ ?_ ?_); rotate_left 2; (first | exact rfl | exact lst_at (by assumption)); (first | exact rfl | exact lst_at (by assumption)); (exact Nat.le_of_ble_eq_true rfl))
    | ((with_reducible refine st_pow ?_ ?_); (exact ⟨by decide, by decide, by decide⟩))
    | ((with_reducible refine st_mod ?_ ?_); (first | decide | omega))
    | ((with_reducible refine st_size ?_ ?_); (exact rfl))
    | ((with_reducible refine st_gT2 ?_ ?_); (exact rfl))
    | ((with_reducible refine st_gsC ?_))
    | ((with_reducible refine st_gsN ?_))
    | ((with_reducible refine st_mulS ?_ ?_ ?_); omega; omega)
    | ((with_reducible refine br_ct ?_ ?_); (exact rfl))
    | ((with_reducible refine br_cf ?_ ?_); (exact rfl))
    | (rw [list_tup])
    | (rw [list_lst])
    | (rw [items_tup])
    | (rw [items_lst])
    | ((refine st_listM (ds := ?_) ?_ ?_); rotate_left; (first | exact rfl | exact seq_at (by assumption)))
    | ((refine st_itM (it := ?_) ?_ ?_); rotate_left; (first | exact rfl | exact it_at (by assumption))))

theorem st_mulRep {ds : List D} {k : Int} {S : Sto} {K : KE} (h1 : -(2 ^ 63) ≤ k) (h2 : k < 2 ^ 63) (l : ds.length * k.toNat ≤ sizeLine) (h : K (.lst (List.replicate k.toNat ds).flatten) S) : oMul (.lst ds) (.int k) S K := ⟨h1, h2, l, h⟩
/-! ### values near fonts and knowledges -/
theorem cutS_len (z : Str) (lo hi : Option Int) : (cutS z lo hi).length ≤ z.length := by
  rw [TL.len_tl, tl_cut, List.length_take, List.length_drop, TL.len_tl]
  omega
theorem lenA (x y : Str) : (x ++ y).length = x.length + y.length := by rw [TL.len_tl, TL.tl_append, List.length_append, ← TL.len_tl, ← TL.len_tl]
theorem lenR (x : Str) : (revS x).length = x.length := by rw [TL.len_tl, tl_rev, List.length_reverse, ← TL.len_tl]
theorem cutD_sub {α : Type} {l : List α} {lo hi : Option Int} {x : α} (h : x ∈ cutD l lo hi) : x ∈ l := by
  unfold cutD at h
  exact List.mem_of_mem_drop (List.mem_of_mem_take h)
theorem cutD_len {α : Type} (l : List α) (lo hi : Option Int) : (cutD l lo hi).length ≤ l.length := by
  unfold cutD
  rw [List.length_take, List.length_drop]
  omega
structure Va (k : Nat) (d : D) : Prop where
  pl : Pl d
  dp : dep d ≤ 6
  nd : nod d ≤ k
theorem nod_ints (ns : List Int) : nodL (ns.map D.int) = ns.length := by
  induction ns with
  | nil => rfl
  | cons n ns ih =>
    rw [List.map_cons, nodL_cons, ih, List.length_cons]
    show 1 + ns.length = _
    omega
theorem dep_ints (ns : List Int) : depL (ns.map D.int) ≤ 0 := depL_le fun d hd => by
  obtain ⟨x, _, e⟩ := List.mem_map.mp hd
  rw [← e]
  exact Nat.le_refl _
theorem pl_ints {ns : List Int} (n : ns.length ≤ 1000) (h : ∀ x, x ∈ ns → x.natAbs < 2 ^ 200) : ∀ d, d ∈ ns.map D.int → Pl d := fun d hd => by
  obtain ⟨x, hx, e⟩ := List.mem_map.mp hd
  rw [← e]
  exact .int x (h x hx)
structure Fo (u : Int) (ws : List Int) : Prop where
  u : u.natAbs < 2 ^ 200
  len : ws.length ≤ 12
  ws : ∀ w, w ∈ ws → w.natAbs < 2 ^ 200
theorem fo_pl {u : Int} {ws : List Int} (h : Fo u ws) : Pl (.tup [.int u, .tup (ws.map D.int)]) ∧ dep (.tup [.int u, .tup (ws.map D.int)]) ≤ 2 ∧ nod (.tup [.int u, .tup (ws.map D.int)]) ≤ 15 := by
  have l := h.len
  refine ⟨.tup _ (by simp only [List.length_cons, List.length_nil]; omega) fun d hd => ?_, ?_, ?_⟩
  · simp only [List.mem_cons, List.not_mem_nil, or_false] at hd
    rcases hd with rfl | rfl
    · exact .int _ h.u
    · exact .tup _ (by rw [List.length_map]; omega) (pl_ints (by omega) h.ws)
  · show Nat.max 0 (Nat.max (depL (ws.map D.int) + 1) 0) + 1 ≤ 2
    have := dep_ints ws
    have e : Nat.max 0 (Nat.max (depL (ws.map D.int) + 1) 0) ≤ 1 := Nat.max_le.mpr ⟨by omega, Nat.max_le.mpr ⟨by omega, by omega⟩⟩
    omega
  · show 1 + ((nodL (ws.map D.int) + 1) + 0) + 1 ≤ 15
    rw [nod_ints]
    omega
theorem Fo.va {u : Int} {ws : List Int} (h : Fo u ws) : Va 100 (.tup [.int u, .tup (ws.map D.int)]) := by
  obtain ⟨a, b, c⟩ := fo_pl h
  exact ⟨a, by omega, by omega⟩
theorem FontT.fo {n : Nat} {u : Int} {ws : List Int} (h : FontT n u ws) (hn : n ≤ 6) : Fo u ws := by
  have a := h.ok.u1
  have b := h.ok.u2
  have c := h.ok.len
  exact ⟨by omega, by omega, fun w hw => by have := h.ok.ws w hw; omega⟩
theorem va_font {u : Int} {l : List D} (hu : u.natAbs < 2 ^ 200) (ln : l.length ≤ 12) (h : ∀ d, d ∈ l → ∃ w, d = .int w ∧ w.natAbs < 2 ^ 200) : Va 100 (.tup [.int u, .tup l]) := by
  obtain ⟨ys, rfl, hy⟩ := ints_of h
  rw [List.length_map] at ln
  exact Fo.va ⟨hu, ln, hy⟩
theorem mulB {x y : Int} {X Y Z : Nat} (hx : x.natAbs ≤ X) (hy : y.natAbs ≤ Y) (h : X * Y < Z) : (x * y).natAbs < Z := by
  rw [Int.natAbs_mul]
  exact Nat.lt_of_le_of_lt (Nat.mul_le_mul hx hy) h
theorem rep_one {α : Type} (k : Nat) (x : α) : (List.replicate k [x]).flatten = List.replicate k x := by
  induction k with
  | zero => rfl
  | succ k ih =>
    rw [List.replicate_succ, List.flatten_cons, ih]
    rfl

theorem sp_law_fonts_near {n : Nat} {p : Addr} {l : Str} {u : Int} {ws : List Int} {S : Sto} {K : KE} (hp : Pn n S p) (hn : n < 2 ^ 20) (hl : LetOk l) (hf : FontT (l.length + 1) u ws) (h : ∀ ds S', ds.length = 17 → (∀ d, d ∈ ds → Va 100 d) → Pn (n + 400) S' p → Oth p S S' → K (.lst ds) S') : c_law_fonts_near [.cell p, .str l, .tup [.int u, .tup (ws.map D.int)]] S K := by
  refine st_def rfl ?_
  unfold w_law_fonts_near
  have u1 := hf.ok.u1
  have u2 := hf.ok.u2
  have wl := hf.ok.len
  have l1 := hl.l1
  have l4 := hl.l4
  have hw : ∀ w, w ∈ ws → 0 ≤ w ∧ w < 2 ^ 160 := hf.ok.ws
  have fo := hf.fo (by omega)
  repeat get_elem_tactic_trivial
  try dsimp only [List.set_cons_succ, List.set_cons_zero]
  refine sp_one_of hp (by omega) (by decide) (by decide) fun d S0 hd hp0 ho0 => ?_
  obtain ⟨a, rfl, a1, a2⟩ : ∃ b : Int, d = .int b ∧ 1 ≤ b ∧ b ≤ 10007 := by
    simp only [List.mem_cons, List.not_mem_nil, or_false] at hd
    rcases hd with rfl | rfl | rfl | rfl | rfl | rfl | rfl | rfl | rfl <;> exact ⟨_, rfl, by decide, by decide⟩
  repeat get_elem_tactic_trivial
  try dsimp only [List.set_cons_succ, List.set_cons_zero]
  refine comp_mapL ws D.int (fun w => .int (a * w)) trivial (by unfold sizeLine; omega) (fun w hm K F k => ?_) ?_
  · have bw := hw w hm
    repeat get_elem_tactic_trivial
    try dsimp only [List.set_cons_succ, List.set_cons_zero]
    exact k
  · repeat get_elem_tactic_trivial
    try dsimp only [List.set_cons_succ, List.set_cons_zero]
    refine st_tuple rfl ?_
    repeat get_elem_tactic_trivial
    try dsimp only [List.set_cons_succ, List.set_cons_zero]
    refine st_revT ?_
    repeat get_elem_tactic_trivial
    try dsimp only [List.set_cons_succ, List.set_cons_zero]
    refine ⟨6, rfl, by decide, by decide, ?_⟩
    obtain ⟨F1, e1⟩ : ∃ F1 : D, F1 = .tup [.int u, .tup (ws.map D.int)] := ⟨_, rfl⟩
    obtain ⟨pl1, dp1, nd1⟩ := fo_pl fo
    rw [← e1] at pl1 dp1 nd1 ⊢
    refine comp_pen (p := p) (n := n + 1) 12 (fun d => Pl d ∧ dep d ≤ 3 ∧ nod d ≤ 40) (fun _ _ => trivial) hp0 (by rw [irange_length]; unfold sizeLine; omega) (fun d hd n1 S2 hb hp2 ho2 K1 F kk => ?_) fun rs S2 f1 f2 hp2 ho2 => ?_
    · rw [irange_length] at hb
      repeat get_elem_tactic_trivial
      try dsimp only [List.set_cons_succ, List.set_cons_zero]
      refine sp_law_bend 2 11 (by decide) pl1 dp1 (by omega) hp2 (by omega) fun r S3 hr hp3 ho3 => ?_
      exact kk r S3 ⟨hr.pl, hr.td, by have := hr.nod; omega⟩ hp3 ho3
    · rw [irange_length] at f1 hp2
      obtain ⟨r0, r1, r2, r3, r4, r5, rfl⟩ : ∃ r0 r1 r2 r3 r4 r5, rs = [r0, r1, r2, r3, r4, r5] := by
        match rs, f1 with
        | [a, b, c, d, e, f], _ => exact ⟨a, b, c, d, e, f, rfl⟩
      repeat get_elem_tactic_trivial
      try dsimp only [List.set_cons_succ, List.set_cons_zero]
      have wm : (ws.map D.int).length = l.length + 1 := by rw [List.length_map]; exact wl
      refine st_mulRep (by omega) (by omega) (by simp only [List.length_singleton]; unfold sizeLine; omega) ?_
      rw [rep_one]
      repeat get_elem_tactic_trivial
      try dsimp only [List.set_cons_succ, List.set_cons_zero]
      refine st_tuple rfl ?_
      repeat get_elem_tactic_trivial
      try dsimp only [List.set_cons_succ, List.set_cons_zero]
      have e12 : (10 : Int) ^ (12 : Int).toNat = 1000000000000 := rfl
      have e9 : (10 : Int) ^ (9 : Int).toNat = 1000000000 := rfl
      rw [e12]
      have t6 : n + 1 + 12 * (6 : Int).toNat = n + 73 := rfl
      rw [t6] at hp2
      refine sp_take hp2 (by omega) (by decide) (by decide) fun v S3 v0 v1 hp3 ho3 => ?_
      obtain ⟨far, ef⟩ : ∃ far : Int, far = 1000000000000 + v := ⟨_, rfl⟩
      repeat get_elem_tactic_trivial
      try dsimp only [List.set_cons_succ, List.set_cons_zero]
      rw [← ef]
      repeat get_elem_tactic_trivial
      try dsimp only [List.set_cons_succ, List.set_cons_zero]
      refine st_addS (by show 1 + l.length ≤ _; unfold sizeLine; omega) ?_
      repeat get_elem_tactic_trivial
      try dsimp only [List.set_cons_succ, List.set_cons_zero]
      show compW _ _ _ _ _ ((TL.tl (Str.ofString " " ++ l)).map fun c => D.str ⟨#[c]⟩) [] S3 _
      rw [tl_space]
      have tll : (TL.tl l).length = l.length := (TL.len_tl l).symm
      refine comp_pen (p := p) (n := n + 74) 1 (fun d => ∃ z, d = .int z ∧ (0 ≤ z ∧ z ≤ 20 * far)) (fun _ _ => trivial) hp3 (by rw [List.length_map, List.length_cons]; unfold sizeLine; omega) (fun d hd n1 S4 hb hp4 ho4 K1 F kk => ?_) fun rs S4 f3 f4 hp4 ho4 => ?_
      · rw [List.length_map, List.length_cons] at hb
        repeat get_elem_tactic_trivial
        try dsimp only [List.set_cons_succ, List.set_cons_zero]
        refine sp_take hp4 (by omega) (by omega) (by omega) fun y S5 y0 y1 hp5 ho5 => ?_
        exact kk _ S5 ⟨y, rfl, y0, by omega⟩ hp5 ho5
      · obtain ⟨ys, rfl, hy⟩ := ints_of f4
        rw [List.length_map, List.length_map, List.length_cons] at f3
        rw [List.length_map, List.length_cons] at hp4
        repeat get_elem_tactic_trivial
        try dsimp only [List.set_cons_succ, List.set_cons_zero]
        refine sp_plainU (k := l.length + 1) (by omega) (by omega) (by omega) (by omega) hy fun u' ws' hf' => ?_
        have fo' := hf'.fo (by omega)
        have u1' := hf'.ok.u1
        have u2' := hf'.ok.u2
        have wl' := hf'.ok.len
        have hw' := hf'.ok.ws
        unfold fontD
        repeat get_elem_tactic_trivial
        try dsimp only [List.set_cons_succ, List.set_cons_zero]
        rw [e9]
        repeat get_elem_tactic_trivial
        try dsimp only [List.set_cons_succ, List.set_cons_zero]
        refine comp_mapL ws' D.int (fun w => .int (w * (1000000000 + 7))) trivial (by unfold sizeLine; omega) (fun w hm K F k => ?_) ?_
        · have bw := hw' w hm
          repeat get_elem_tactic_trivial
          try dsimp only [List.set_cons_succ, List.set_cons_zero]
          rw [e9]
          repeat get_elem_tactic_trivial
          try dsimp only [List.set_cons_succ, List.set_cons_zero]
          exact k
        · repeat get_elem_tactic_trivial
          try dsimp only [List.set_cons_succ, List.set_cons_zero]
          refine st_tuple rfl ?_
          repeat get_elem_tactic_trivial
          try dsimp only [List.set_cons_succ, List.set_cons_zero]
          refine st_addT (by simp only [List.length_singleton]; unfold sizeLine; omega) ?_
          repeat get_elem_tactic_trivial
          try dsimp only [List.set_cons_succ, List.set_cons_zero]
          rw [cutD_map]
          refine st_addT (by rw [List.length_map]; have := cutD_len ws (some 1) (some (-1)); simp only [List.length_singleton]; unfold sizeLine; omega) ?_
          repeat get_elem_tactic_trivial
          try dsimp only [List.set_cons_succ, List.set_cons_zero]
          obtain ⟨p0, d0, m0⟩ := f2 r0 List.mem_cons_self
          refine sp_law_bend 3 11 (by decide) p0 d0 (by omega) hp4 (by omega) fun rl S5 hr hp5 ho5 => ?_
          repeat get_elem_tactic_trivial
          try dsimp only [List.set_cons_succ, List.set_cons_zero]
          refine fin.of (h _ S5 rfl (fun d hd => ?_) (hp5.mono (by omega)) ((((ho0.trans ho2).trans ho3).trans ho4).trans ho5))
          have va : ∀ r, r ∈ [r0, r1, r2, r3, r4, r5] → Va 100 r := fun r hr => by
            obtain ⟨x1, x2, x3⟩ := f2 r hr
            exact ⟨x1, by omega, by omega⟩
          have wi : ∀ d, d ∈ ws.map D.int → ∃ w, d = D.int w ∧ w.natAbs < 2 ^ 200 := fun d hd => by
            obtain ⟨w, hw2, e⟩ := List.mem_map.mp hd
            exact ⟨w, e.symm, by have := hw w hw2; omega⟩
          simp only [List.cons_append, List.nil_append, List.mem_cons, List.not_mem_nil, or_false] at hd
          rcases hd with rfl | rfl | rfl | rfl | rfl | rfl | rfl | rfl | rfl | rfl | rfl | rfl | rfl | rfl | rfl | rfl | rfl
          · exact ⟨pl1, by omega, by omega⟩
          · refine va_font (mulB (X := 2 ^ 150) (Y := 10007) (by omega) (by omega) (by decide)) (by rw [List.length_map]; omega) fun d hd => ?_
            obtain ⟨w, hw2, e⟩ := List.mem_map.mp hd
            have := hw w hw2
            exact ⟨_, e.symm, mulB (X := 10007) (Y := 2 ^ 160) (by omega) (by omega) (by decide)⟩
          · exact va_font (by omega) (by rw [List.length_reverse, List.length_map]; omega) fun d hd => wi d (List.mem_reverse.mp hd)
          · exact va_font (by decide) (by rw [List.length_map]; omega) wi
          · exact va_font (by decide) (by rw [List.length_map]; omega) wi
          · exact va _ (by simp)
          · exact va _ (by simp)
          · exact va _ (by simp)
          · exact va _ (by simp)
          · exact va _ (by simp)
          · exact va _ (by simp)
          · refine va_font (by omega) (by rw [List.length_replicate]; omega) fun d hd => ⟨_, List.eq_of_mem_replicate hd, by omega⟩
          · exact fo'.va
          · refine va_font (mulB (X := 2 ^ 150) (Y := 2 ^ 30) (by omega) (by decide) (by decide)) (by rw [List.length_map]; omega) fun d hd => ?_
            obtain ⟨w, hw2, e⟩ := List.mem_map.mp hd
            have := hw' w hw2
            exact ⟨_, e.symm, mulB (X := 2 ^ 160) (Y := 2 ^ 30) (by omega) (by decide) (by decide)⟩
          · refine va_font (by omega) (by rw [List.length_append, List.length_map]; simp only [List.length_singleton]; omega) fun d hd => ?_
            rcases List.mem_append.mp hd with z | z
            · exact wi d z
            · rw [List.mem_singleton.mp z]
              exact ⟨_, rfl, by omega⟩
          · refine va_font (by omega) (by rw [List.length_append, List.length_map]; have := cutD_len ws (some 1) (some (-1)); simp only [List.length_singleton]; omega) fun d hd => ?_
            rcases List.mem_append.mp hd with z | z
            · obtain ⟨w, hw2, e⟩ := List.mem_map.mp z
              exact wi d (by rw [← e]; exact List.mem_map_of_mem (cutD_sub hw2))
            · rw [List.mem_singleton.mp z]
              exact ⟨_, rfl, by decide⟩
          · exact ⟨hr.pl, by have := hr.td; omega, by have := hr.nod; omega⟩


end G

set_option Elab.async false
set_option linter.all false
set_option maxRecDepth 100000
set_option autoImplicit false
set_option maxHeartbeats 2000000
namespace G
open PySem PySem.Spec PyProof.Rows L2
local macro_rules
  | `(tactic| get_elem_tactic_trivial) => `(tactic| first
    | (with_reducible first
      | refine st_seqSet ?_ | refine st_seqAsg ?_ | refine st_seqDo ?_ | refine st_seqPar ?_ | refine st_seqPar3 ?_ | refine st_seqFor ?_ | refine st_seqWhile ?_ | refine st_seqAug ?_ | refine st_seqSkip ?_ | refine st_seqRet ?_
      | refine st_skip ?_ | refine st_ret ?_ | refine st_retN ?_ | refine st_do ?_ | refine st_if ?_ | refine st_set ?_ | refine st_asg ?_ | refine st_par ?_ | refine st_par3 ?_
      | refine st_c ?_ | refine st_op2 ?_ | refine st_op1 ?_ | refine st_test ?_ | refine st_tbl ?_ | refine st_and ?_ | refine st_or ?_ | refine st_not ?_ | refine st_andV ?_ | refine st_orV ?_ | refine st_notV ?_ | refine st_bl ?_
      | refine st_chain ?_ | refine st_ifE ?_ | refine st_nil ?_ | refine st_cons ?_ | refine st_call ?_ | refine st_fr ?_ | refine st_lv ?_ | refine st_one ?_ | refine st_two ?_
      | refine st_gN ?_ | refine st_lst ?_ | refine st_tup ?_ | refine st_slF ?_ | refine st_oNo ?_ | refine st_oS ?_ | refine st_enum ?_ | refine st_scr ?_ | refine st_list ?_ | refine st_it ?_ | refine st_comp ?_ | refine st_for ?_ | refine st_gIx ?_ | refine st_range1 ?_ | refine st_app ?_ | refine st_zip ?_ | refine st_rev1 ?_ | refine st_meth ?_ | refine st_isS ?_ | refine st_count ?_ | refine st_sl ?_ | refine st_slT ?_ | refine st_slL ?_ | refine st_max2 ?_ | refine st_min2 ?_
      | refine st_add ?_ | refine st_sub ?_ | refine st_int ?_ | refine st_neg ?_ | refine st_lt ?_ | refine st_le ?_ | refine st_gt ?_ | refine st_ge ?_ | refine st_eq ?_ | refine st_ne ?_ | refine st_eqB ?_ | refine st_neB ?_ | refine st_eqS ?_ | refine st_neS ?_ | refine st_isN ?_ | refine st_sorted ?_ | refine st_abs ?_ | refine st_isNotN ?_
      | refine br_t ?_ | refine br_f ?_)
    | ((with_reducible refine st_var (d := ?_) ?_ ?_); rotate_left; (exact rfl))
    | ((with_reducible refine st_isi2 (k := ?_) (b := true) ?_ ?_ ?_); rotate_left; (exact rfl); (exact rfl))
    | ((with_reducible refine st_isi2 (k := ?_) (b := false) ?_ ?_ ?_); rotate_left; (exact rfl); (exact rfl))
    | ((with_reducible refine st_ix (ds := ?_) (d := ?_) ?_ ?_ ?_); rotate_left 2; (first | exact rfl | exact seq_at (by assumption)); (exact rfl))
    | ((with_reducible refine st_len2 (ds := ?_) (n := ?_) ?_ ?_ ?_); rotate_left 2; (first | exact rfl | exact seq_at (by assumption)); (exact rfl))
    | ((with_reducible refine st_addLL (a := ?_) (b := ?_) ?_ ?_ ?_ ?_); rotate_left 2; (first | exact rfl | exact lst_at (by assumption)); (first | exact rfl | exact lst_at (by assumption)); (exact Nat.le_of_ble_eq_true rfl))
    | ((with_reducible refine st_pow ?_ ?_); (exact ⟨by decide, by decide, by decide⟩))
    | ((with_reducible refine st_mod ?_ ?_); (first | decide | omega))
    | ((with_reducible refine st_size ?_ ?_); (exact rfl))
    | ((with_reducible refine st_gT2 ?_ ?_); (exact rfl))
    | ((with_reducible refine st_gsC ?_))
    | ((with_reducible refine st_gsN ?_))
    | ((with_reducible refine st_mulS ?_ ?_ ?_); omega; omega)
    | ((with_reducible refine br_ct ?_ ?_); (exact rfl))
    | ((with_reducible refine br_cf ?_ ?_); (exact rfl))
    | (rw [list_tup])
    | (rw [list_lst])
    | (rw [items_tup])
    | (rw [items_lst])
    | ((refine st_listM (ds := ?_) ?_ ?_); rotate_left; (first | exact rfl | exact seq_at (by assumption)))
    | ((refine st_itM (it := ?_) ?_ ?_); rotate_left; (first | exact rfl | exact it_at (by assumption))))

theorem va_cond {k : Nat} {c : Cond} (h : CondOk k c) (hk : k ≤ 6) : Pl (condD c) ∧ dep (condD c) ≤ 2 ∧ nod (condD c) ≤ 10 := by
  have l := h.len
  have hb := h.b
  unfold condD
  refine ⟨.tup _ (by simp only [List.length_cons, List.length_nil]; omega) fun d hd => ?_, ?_, ?_⟩
  · simp only [List.mem_cons, List.not_mem_nil, or_false] at hd
    rcases hd with rfl | rfl | rfl
    · exact .tup _ (by rw [List.length_map]; omega) (pl_ints (by omega) fun x hx => Nat.lt_of_le_of_lt (h.fs x hx) (by decide))
    · exact .int _ (by omega)
    · exact .bl _
  · show Nat.max (depL (c.fs.map D.int) + 1) (Nat.max 0 (Nat.max 0 0)) + 1 ≤ 2
    have := dep_ints c.fs
    have e : Nat.max (depL (c.fs.map D.int) + 1) (Nat.max 0 (Nat.max 0 0)) ≤ 1 := Nat.max_le.mpr ⟨by omega, by decide⟩
    omega
  · show (nodL (c.fs.map D.int) + 1) + (1 + (1 + 0)) + 1 ≤ 10
    rw [nod_ints]
    omega
theorem va_pair {z : Str} {fs : List D} {k : Nat} (hz : Lf z) (n : fs.length ≤ 72) (h : ∀ d, d ∈ fs → Pl d ∧ dep d ≤ 2 ∧ nod d ≤ 10) : Va (10 * fs.length + 5 + k) (.tup [.str z, .tup fs]) ∧ dep (.tup [.str z, .tup fs]) ≤ 4 := by
  have e1 := depL_le (n := 2) fun d hd => (h d hd).2.1
  have e2 := nodL_le (n := 10) fun d hd => (h d hd).2.2
  have ed : dep (.tup [.str z, .tup fs]) ≤ 4 := by
    show Nat.max 0 (Nat.max (depL fs + 1) 0) + 1 ≤ 4
    have e : Nat.max 0 (Nat.max (depL fs + 1) 0) ≤ 3 := Nat.max_le.mpr ⟨by omega, Nat.max_le.mpr ⟨by omega, by omega⟩⟩
    omega
  refine ⟨⟨.tup _ (by simp only [List.length_cons, List.length_nil]; omega) fun d hd => ?_, by omega, ?_⟩, ed⟩
  · simp only [List.mem_cons, List.not_mem_nil, or_false] at hd
    rcases hd with rfl | rfl
    · exact .str _ hz
    · exact .tup _ (by omega) fun d hd => (h d hd).1
  · show 1 + ((nodL fs + 1) + 0) + 1 ≤ _
    omega
theorem va_chars {z : Str} {fs : List D} {a : D} (hz : z.length ≤ 4) (hs : Sg (fun c => c < 128) z) (n : fs.length ≤ 8) (h : ∀ d, d ∈ fs → Pl d ∧ dep d ≤ 2 ∧ nod d ≤ 10) (ha : a = .tup (charsD z) ∨ a = .lst (charsD z)) : Va 700 (.tup [a, .tup fs]) := by
  have e1 := depL_le (n := 2) fun d hd => (h d hd).2.1
  have e2 := nodL_le (n := 10) fun d hd => (h d hd).2.2
  have cl : (charsD z).length = z.length := by
    unfold charsD
    rw [List.length_map, Array.length_toList]
    rfl
  have cm : ∀ d, d ∈ charsD z → ∃ c, c ∈ TL.tl z ∧ d = .str ⟨#[c]⟩ := fun d hd => by
    obtain ⟨c, hc, e⟩ := List.mem_map.mp hd
    exact ⟨c, hc, e.symm⟩
  have c1 : depL (charsD z) ≤ 0 := depL_le fun d hd => by
    obtain ⟨c, _, rfl⟩ := cm d hd
    exact Nat.le_refl _
  have c2 : nodL (charsD z) ≤ (charsD z).length * 1 := nodL_le fun d hd => by
    obtain ⟨c, _, rfl⟩ := cm d hd
    exact Nat.le_refl _
  have c3 : ∀ d, d ∈ charsD z → Pl d := fun d hd => by
    obtain ⟨c, hc, rfl⟩ := cm d hd
    exact .str _ ⟨Sg.one (hs c hc), by show 1 ≤ 20; decide⟩
  have pa : Pl a ∧ dep a ≤ 1 ∧ nod a ≤ 5 := by
    rcases ha with rfl | rfl
    · refine ⟨.tup _ (by omega) c3, ?_, ?_⟩
      · show depL (charsD z) + 1 ≤ 1
        omega
      · show nodL (charsD z) + 1 ≤ 5
        omega
    · refine ⟨.lst _ (by omega) c3, ?_, ?_⟩
      · show depL (charsD z) + 1 ≤ 1
        omega
      · show nodL (charsD z) + 1 ≤ 5
        omega
  refine ⟨.tup _ (by simp only [List.length_cons, List.length_nil]; omega) fun d hd => ?_, ?_, ?_⟩
  · simp only [List.mem_cons, List.not_mem_nil, or_false] at hd
    rcases hd with rfl | rfl
    · exact pa.1
    · exact .tup _ (by omega) fun d hd => (h d hd).1
  · show Nat.max (dep a) (Nat.max (depL fs + 1) 0) + 1 ≤ 6
    have e : Nat.max (dep a) (Nat.max (depL fs + 1) 0) ≤ 3 := Nat.max_le.mpr ⟨by omega, Nat.max_le.mpr ⟨by omega, by omega⟩⟩
    omega
  · show nod a + ((nodL fs + 1) + 0) + 1 ≤ 700
    omega
theorem Va.mono {j k : Nat} {d : D} (h : Va j d) (l : j ≤ k) : Va k d := ⟨h.pl, h.dp, Nat.le_trans h.nd l⟩
theorem rep_mem {α : Type} {n : Nat} {l : List α} {x : α} (h : x ∈ (List.replicate n l).flatten) : x ∈ l := by
  obtain ⟨m, hm, hx⟩ := List.mem_flatten.mp h
  rw [List.eq_of_mem_replicate hm] at hx
  exact hx
theorem rep_lenE {α : Type} (n : Nat) (l : List α) : (List.replicate n l).flatten.length = n * l.length := by
  induction n with
  | zero => simp
  | succ n ih =>
    rw [List.replicate_succ, List.flatten_cons, List.length_append, ih, Nat.add_mul]
    omega
theorem st_addSE {x y : Str} {S : Sto} {K : KE} (hx : x.length ≤ 100) (hy : y.length ≤ 100) (h : K (.str (x ++ y)) S) : oAdd (.str x) (.str y) S K := st_addS (by unfold sizeLine; omega) h
theorem st_revSE {x : Str} {S : Sto} {K : KE} (hx : x.length ≤ 100) (h : K (.str (revS x)) S) : oRevS (.str x) S K := ⟨by unfold sizeLine; omega, h⟩
theorem st_mulT9 {fs : List D} {S : Sto} {K : KE} (n : fs.length ≤ 8) (h : K (.tup (List.replicate 9 fs).flatten) S) : oMulZ (.tup fs) (.int 9) S K := by
  cases fs with
  | nil => exact st_mulZ0 (by decide) (by decide) (by simpa using h)
  | cons d fs => exact st_mulZ ⟨by simp, by decide, by decide, by omega, h⟩
theorem sp_law_values_near {n : Nat} {p : Addr} {l : Str} {fs : List D} {S : Sto} {K : KE} (hp : Pn n S p) (hn : n < 2 ^ 20) (hl : LetOk l) (nf : fs.length ≤ 8) (hf : ∀ d, d ∈ fs → Pl d ∧ dep d ≤ 2 ∧ nod d ≤ 10) (h : ∀ ds S', ds.length = 19 → (∀ d, d ∈ ds → Va 725 d) → Pn (n + 400) S' p → Oth p S S' → K (.lst ds) S') : c_law_values_near [.cell p, .tup [.str l, .tup fs]] S K := by
  refine st_def rfl ?_
  unfold w_law_values_near
  have l1 := hl.l1
  have l4 := hl.l4
  have sg : Sg (fun c => c < 128) l := hl.sg.imp fun c hc => hc.2
  have lit : ∀ s : String, ((TL.tl (Str.ofString s)).all fun c => decide (c < 128)) = true ∧ (Str.ofString s).length ≤ 20 → Lf (Str.ofString s) := fun s => lf_lit
  repeat get_elem_tactic_trivial
  try dsimp only [List.set_cons_succ, List.set_cons_zero]
  refine st_mulT9 nf ?_
  repeat get_elem_tactic_trivial
  try dsimp only [List.set_cons_succ, List.set_cons_zero]
  have c100 : ∀ lo hi, (cutS l lo hi).length ≤ 100 := fun lo hi => by have := cutS_len l lo hi; omega
  have r100 : ∀ lo hi, (revS (cutS l lo hi)).length ≤ 100 := fun lo hi => by rw [lenR]; exact c100 lo hi
  have l100 : l.length ≤ 100 := by omega
  refine st_revSE l100 ?_
  repeat get_elem_tactic_trivial
  try dsimp only [List.set_cons_succ, List.set_cons_zero]
  refine st_lenS (by unfold sizeLine; omega) ?_
  repeat get_elem_tactic_trivial
  try dsimp only [List.set_cons_succ, List.set_cons_zero]
  refine sp_take hp (by omega) (by omega) (by omega) fun sp S1 s0 s1 hp1 ho1 => ?_
  repeat (first | get_elem_tactic_trivial | refine st_slS (by unfold sizeLine; omega) ?_ | refine st_addSE (c100 _ _) (c100 _ _) ?_ | refine st_addSE (c100 _ _) (r100 _ _) ?_ | refine st_revSE (c100 _ _) ?_)
  try dsimp only [List.set_cons_succ, List.set_cons_zero]
  refine st_tupSs (by unfold sizeLine; omega) ?_
  repeat get_elem_tactic_trivial
  try dsimp only [List.set_cons_succ, List.set_cons_zero]
  refine st_listS1 (by unfold sizeLine; omega) ?_
  repeat get_elem_tactic_trivial
  try dsimp only [List.set_cons_succ, List.set_cons_zero]
  refine ⟨8, rfl, by decide, by decide, ?_⟩
  have zl : Lf l := ⟨sg, by omega⟩
  obtain ⟨v1, d1⟩ := va_pair (k := 0) zl (by omega) hf
  refine comp_pen (p := p) (n := n + 1) 20 (fun d => Pl d ∧ dep d ≤ 5 ∧ nod d ≤ 200) (fun _ _ => trivial) hp1 (by rw [irange_length]; unfold sizeLine; omega) (fun d hd n1 S2 hb hp2 ho2 K1 F kk => ?_) fun rs S2 f1 f2 hp2 ho2 => ?_
  · rw [irange_length] at hb
    repeat get_elem_tactic_trivial
    try dsimp only [List.set_cons_succ, List.set_cons_zero]
    refine sp_law_bend 4 11 (by decide) v1.pl d1 (by have := v1.nd; omega) hp2 (by omega) fun r S3 hr hp3 ho3 => ?_
    exact kk r S3 ⟨hr.pl, hr.td, by have := hr.nod; have := v1.nd; omega⟩ hp3 ho3
  · rw [irange_length] at f1 hp2
    obtain ⟨r0, r1, r2, r3, r4, r5, r6, r7, rfl⟩ : ∃ r0 r1 r2 r3 r4 r5 r6 r7, rs = [r0, r1, r2, r3, r4, r5, r6, r7] := by
      match rs, f1 with
      | [a, b, c, d, e, f, g, h], _ => exact ⟨a, b, c, d, e, f, g, h, rfl⟩
    repeat get_elem_tactic_trivial
    try dsimp only [List.set_cons_succ, List.set_cons_zero]
    obtain ⟨p7, d7, m7⟩ := f2 r7 (by simp)
    refine sp_law_bend 5 11 (by decide) p7 d7 (by omega) hp2 (by omega) fun rl S3 hr hp3 ho3 => ?_
    repeat get_elem_tactic_trivial
    try dsimp only [List.set_cons_succ, List.set_cons_zero]
    refine fin.of (h _ S3 rfl (fun d hd => ?_) (hp3.mono (by omega)) ((ho1.trans ho2).trans ho3))
    have va : ∀ r, r ∈ [r0, r1, r2, r3, r4, r5, r6, r7] → Va 725 r := fun r hr => by
      obtain ⟨x1, x2, x3⟩ := f2 r hr
      exact ⟨x1, by omega, by omega⟩
    have vs : ∀ z : Str, Lf z → Va 725 (.tup [.str z, .tup []]) := fun z hz => ((va_pair (k := 0) (fs := []) hz (by decide) (fun d hd => by cases hd)).1).mono (by decide)
    have ap : ∀ x y : Str, Sg (fun c => c < 128) x → Sg (fun c => c < 128) y → x.length ≤ 4 → y.length ≤ 4 → Lf (x ++ y) := fun x y a b c d => ⟨Sg.app a b, by rw [lenA]; omega⟩
    have c4 : ∀ lo hi, (cutS l lo hi).length ≤ 4 := fun lo hi => by have := cutS_len l lo hi; omega
    simp only [List.cons_append, List.nil_append, List.mem_cons, List.not_mem_nil, or_false] at hd
    rcases hd with rfl | rfl | rfl | rfl | rfl | rfl | rfl | rfl | rfl | rfl | rfl | rfl | rfl | rfl | rfl | rfl | rfl | rfl | rfl
    · exact v1.mono (by omega)
    · have e9 := rep_lenE 9 fs
      refine (va_pair (k := 0) zl (by omega) fun d hd => hf d (rep_mem hd)).1.mono (by omega)
    · exact (va_pair (k := 0) ⟨Sg.rev sg, by rw [lenR]; omega⟩ (by omega) hf).1.mono (by omega)
    · exact vs _ (ap _ _ (Sg.cut sg _ _) (Sg.cut sg _ _) (c4 _ _) (c4 _ _))
    · exact vs _ (ap _ _ (Sg.cut sg _ _) (Sg.rev (Sg.cut sg _ _)) (c4 _ _) (by rw [lenR]; exact c4 _ _))
    · exact vs _ (lit "edcba" (by decide +kernel))
    · exact vs _ (lit "aabbc" (by decide +kernel))
    · exact vs _ (lit " abcd" (by decide +kernel))
    · exact (va_chars l4 sg nf hf (.inl rfl)).mono (by decide)
    · exact (va_chars l4 sg nf hf (.inr rfl)).mono (by decide)
    · exact va _ (by simp)
    · exact va _ (by simp)
    · exact va _ (by simp)
    · exact va _ (by simp)
    · exact va _ (by simp)
    · exact va _ (by simp)
    · exact va _ (by simp)
    · exact va _ (by simp)
    · exact ⟨hr.pl, hr.td, by have := hr.nod; omega⟩


end G

set_option Elab.async false
set_option linter.all false
set_option maxRecDepth 100000
set_option autoImplicit false
set_option maxHeartbeats 2000000
namespace G
open PySem PySem.Spec PyProof.Rows L2
local macro_rules
  | `(tactic| get_elem_tactic_trivial) => `(tactic| first
    | (with_reducible first
      | refine st_seqSet ?_ | refine st_seqAsg ?_ | refine st_seqDo ?_ | refine st_seqPar ?_ | refine st_seqPar3 ?_ | refine st_seqFor ?_ | refine st_seqWhile ?_ | refine st_seqAug ?_ | refine st_seqSkip ?_ | refine st_seqRet ?_
      | refine st_skip ?_ | refine st_ret ?_ | refine st_retN ?_ | refine st_do ?_ | refine st_if ?_ | refine st_set ?_ | refine st_asg ?_ | refine st_par ?_ | refine st_par3 ?_
      | refine st_c ?_ | refine st_op2 ?_ | refine st_op1 ?_ | refine st_test ?_ | refine st_tbl ?_ | refine st_and ?_ | refine st_or ?_ | refine st_not ?_ | refine st_andV ?_ | refine st_orV ?_ | refine st_notV ?_ | refine st_bl ?_
      | refine st_chain ?_ | refine st_ifE ?_ | refine st_nil ?_ | refine st_cons ?_ | refine st_call ?_ | refine st_fr ?_ | refine st_lv ?_ | refine st_one ?_ | refine st_two ?_
      | refine st_gN ?_ | refine st_lst ?_ | refine st_tup ?_ | refine st_slF ?_ | refine st_oNo ?_ | refine st_oS ?_ | refine st_enum ?_ | refine st_scr ?_ | refine st_list ?_ | refine st_it ?_ | refine st_comp ?_ | refine st_for ?_ | refine st_gIx ?_ | refine st_range1 ?_ | refine st_app ?_ | refine st_zip ?_ | refine st_rev1 ?_ | refine st_meth ?_ | refine st_isS ?_ | refine st_count ?_ | refine st_sl ?_ | refine st_slT ?_ | refine st_slL ?_ | refine st_max2 ?_ | refine st_min2 ?_
      | refine st_add ?_ | refine st_sub ?_ | refine st_int ?_ | refine st_neg ?_ | refine st_lt ?_ | refine st_le ?_ | refine st_gt ?_ | refine st_ge ?_ | refine st_eq ?_ | refine st_ne ?_ | refine st_eqB ?_ | refine st_neB ?_ | refine st_eqS ?_ | refine st_neS ?_ | refine st_isN ?_ | refine st_sorted ?_ | refine st_abs ?_ | refine st_isNotN ?_
      | refine br_t ?_ | refine br_f ?_)
    | ((with_reducible refine st_var (d := ?_) ?_ ?_); rotate_left; (exact rfl))
    | ((with_reducible refine st_isi2 (k := ?_) (b := true) ?_ ?_ ?_); rotate_left; (exact rfl); (exact rfl))
    | ((with_reducible refine st_isi2 (k := ?_) (b := false) ?_ ?_ ?_); rotate_left; (exact rfl); (exact rfl))
    | ((with_reducible refine st_ix (ds := ?_) (d := ?_) ?_ ?_ ?_); rotate_left 2; (first | exact rfl | exact seq_at (by assumption)); (exact rfl))
    | ((with_reducible refine st_len2 (ds := ?_) (n := ?_) ?_ ?_ ?_); rotate_left 2; (first | exact rfl | exact seq_at (by assumption)); (exact rfl))
    | ((with_reducible refine st_addLL (a := ?_) (b := ?_) ?_ ?_ ?_ ?_); rotate_left 2; (first | exact rfl | exact lst_at (by assumption)); (first | exact rfl | exact lst_at (by assumption)); (exact Nat.le_of_ble_eq_true rfl))
    | ((with_reducible refine st_pow ?_ ?_); (exact ⟨by decide, by decide, by decide⟩))
    | ((with_reducible refine st_mod ?_ ?_); (first | decide | omega))
    | ((with_reducible refine st_size ?_ ?_); (exact rfl))
    | ((with_reducible refine st_gT2 ?_ ?_); (exact rfl))
    | ((with_reducible refine st_gsC ?_))
    | ((with_reducible refine st_gsN ?_))
    | ((with_reducible refine st_mulS ?_ ?_ ?_); omega; omega)
    | ((with_reducible refine br_ct ?_ ?_); (exact rfl))
    | ((with_reducible refine br_cf ?_ ?_); (exact rfl))
    | (rw [list_tup])
    | (rw [list_lst])
    | (rw [items_tup])
    | (rw [items_lst])
    | ((refine st_listM (ds := ?_) ?_ ?_); rotate_left; (first | exact rfl | exact seq_at (by assumption)))
    | ((refine st_itM (it := ?_) ?_ ?_); rotate_left; (first | exact rfl | exact it_at (by assumption))))

/-! ### repr of plain data, the law -/
def Sz (d : D) (p : PyData) : Prop := PdE d p ∧ p.showable = true ∧ p.shown.length + 2 ≤ 300 * nod d ∧ p.depth ≤ dep d
theorem pdes_of {l : List D} (h : ∀ d, d ∈ l → ∃ p, Sz d p) : ∃ ps, PdEs l ps ∧ PyData.showableAll ps = true ∧ ((PyData.shownAll ps).map (·.length)).sum + 2 * ps.length ≤ 300 * nodL l ∧ (PyData.shownAll ps).length = ps.length ∧ PyData.depthAll ps ≤ depL l := by
  induction l with
  | nil => exact ⟨[], .nil, by simp [PyData.showableAll], by simp [PyData.shownAll], by simp [PyData.shownAll], by simp [PyData.depthAll]⟩
  | cons d l ih =>
    obtain ⟨p, a, b, c, e⟩ := h d List.mem_cons_self
    obtain ⟨ps, f1, f2, f3, f4, f5⟩ := ih fun x hx => h x (List.mem_cons_of_mem _ hx)
    refine ⟨p :: ps, .cons a f1, by simp [PyData.showableAll, b, f2], ?_, by simp only [PyData.shownAll, List.length_cons, f4], ?_⟩
    · simp only [PyData.shownAll, List.map_cons, List.sum_cons, List.length_cons]
      rw [nodL_cons]
      omega
    · simp only [PyData.depthAll]
      exact Nat.max_le.mpr ⟨Nat.le_trans e (Nat.le_max_left (dep d) (depL l)), Nat.le_trans f5 (Nat.le_max_right (dep d) (depL l))⟩
theorem pl_sz {d : D} (h : Pl d) : ∃ p, Sz d p := by
  induction h with
  | non => exact ⟨.none, .non, Shw.non.sh, by have := Shw.non.len; show _ ≤ 300 * 1; omega, Shw.non.dp⟩
  | bl b => exact ⟨.bool b, .bl b, (Shw.bl b).sh, by have := (Shw.bl b).len; show _ ≤ 300 * 1; omega, (Shw.bl b).dp⟩
  | int i h =>
    have w := Shw.int (lt100 h)
    exact ⟨.int i, .int i, w.sh, by have := w.len; show _ ≤ 300 * 1; omega, w.dp⟩
  | str z h =>
    have w := Shw.str h.sg h.len
    exact ⟨.str z, .str z, w.sh, by have := w.len; show _ ≤ 300 * 1; omega, w.dp⟩
  | dic => exact ⟨.dict [], .dic, ShX.dic.sh, by have := ShX.dic.len; show _ ≤ 300 * 1; omega, ShX.dic.dp⟩
  | tup l n _ ih =>
    obtain ⟨ps, f1, f2, f3, f4, f5⟩ := pdes_of ih
    refine ⟨.tuple ps, .tup f1, by simp [PyData.showable, f2], ?_, ?_⟩
    · simp only [PyData.shown]
      have h1 := tupleText_len_le (PyData.shownAll ps)
      rw [f4] at h1
      show _ ≤ 300 * (nodL l + 1)
      omega
    · simp only [PyData.depth]
      show _ ≤ depL l + 1
      omega
  | lst l n _ ih =>
    obtain ⟨ps, f1, f2, f3, f4, f5⟩ := pdes_of ih
    refine ⟨.list ps, .lst f1, by simp [PyData.showable, f2], ?_, ?_⟩
    · simp only [PyData.shown]
      have h1 := listText_len_le (PyData.shownAll ps)
      rw [f4] at h1
      show _ ≤ 300 * (nodL l + 1)
      omega
    · simp only [PyData.depth]
      show _ ≤ depL l + 1
      omega
theorem withinB_ok {lo hi i : Int} (h1 : lo ≤ i) (h2 : i ≤ hi) : withinB lo hi (.int i) = true := by
  show (decide (lo ≤ i) && decide (i ≤ hi)) = true
  rw [decide_eq_true h1, decide_eq_true h2]
  rfl
theorem condB_ok {l : Str} {c : Cond} (h : CondOk (l.length + 1) c) (hb : c.b.natAbs ≤ 9999) (hf : ∀ f, f ∈ c.fs → f.natAbs ≤ 99) : condB l (condD c) = true := by
  have hl := h.len
  show ((decide ((c.fs.map D.int).length = l.length + 1) && (c.fs.map D.int).all (withinB (-99) 99)) && (withinB (-9999) 9999 (.int c.b) && true)) = true
  rw [List.length_map, decide_eq_true hl, withinB_ok (by omega) (by omega), List.all_eq_true.mpr]
  · rfl
  · intro d hd
    obtain ⟨f, hm, e⟩ := List.mem_map.mp hd
    rw [← e]
    have := hf f hm
    exact withinB_ok (by omega) (by omega)
theorem fontB_ok {l : Str} {u : Int} {ws : List Int} (h : FontT (l.length + 1) u ws) : fontB l (.tup [.int u, .tup (ws.map D.int)]) = true := by
  rw [fontB_at, List.length_map, decide_eq_true h.ok.u1, decide_eq_true h.ok.len, intsD_map, decide_eq_true h.gcd, List.all_eq_true.mpr]
  · rfl
  · intro d hd
    obtain ⟨w, hm, e⟩ := List.mem_map.mp hd
    rw [← e]
    exact withinB_ok (h.ok.ws w hm).1 (h.hi w hm)
theorem knowB_ok {l : Str} {cs : List Cond} (hl : letsB (.str l) = true) (hk : KnowOk l cs) : knowB (.tup [.str l, .tup (cs.map condD)]) = true := by
  show (letsB (.str l) && (decide ((cs.map condD).length ≤ 8) && (cs.map condD).all (condB l))) = true
  rw [hl, List.length_map, decide_eq_true hk.len, List.all_eq_true.mpr]
  · rfl
  · intro d hd
    obtain ⟨c, hm, e⟩ := List.mem_map.mp hd
    rw [← e]
    exact condB_ok (hk.ok c hm) (hk.b c hm) (hk.fs c hm)
theorem st_isNot6 {a b k : Bool} {S : Sto} {K : KE} (e : (!decide (a = b)) = k) (h : K (.bl k) S) : oIsNot (.bl a) (.bl b) S K := ⟨a, rfl, by rw [e]; exact h⟩
theorem dat_bools {n : Nat} {l : List D} (f : D → Bool) (h : l.length ≤ 1000) : Dat (n + 1) (.lst (l.map fun d => .bl (f d))) := .lst (by rw [List.length_map]; omega) fun d hd => by
  obtain ⟨x, _, e⟩ := List.mem_map.mp hd
  rw [← e]
  exact .bl _ _
theorem pl_va {k : Nat} {l : List D} (h : ∀ d, d ∈ l → Va k d) (n : l.length ≤ 20) : Pl (.lst l) ∧ dep (.lst l) ≤ 7 ∧ nod (.lst l) ≤ 20 * k + 1 := by
  refine ⟨.lst l (by omega) fun d hd => (h d hd).pl, ?_, ?_⟩
  · show depL l + 1 ≤ 7
    have := depL_le (n := 6) fun d hd => (h d hd).dp
    omega
  · show nodL l + 1 ≤ _
    have := nodL_le (n := k) fun d hd => (h d hd).nd
    have := Nat.mul_le_mul_right k n
    omega
theorem law_main (Fr : PySem.W.Frag) : ∀ ns : List Int, ns.length ≤ 63 → c_law Fr [.scr Fr ns] Sto.nil fun d _ => d = .bl true := by
  intro ns _
  refine st_def rfl ?_
  unfold w_law
  repeat get_elem_tactic_trivial
  try dsimp only [List.set_cons_succ, List.set_cons_zero]
  refine sp_open fun p S hp => ?_
  repeat get_elem_tactic_trivial
  try dsimp only [List.set_cons_succ, List.set_cons_zero]
  refine ⟨5, rfl, by decide, by decide, ?_⟩
  refine for_ind (I := fun ds ρ S1 => ∃ (n1 : Nat) (x2 x3 x4 x5 x6 x7 x8 x9 x10 x11 x12 x13 : Option D), ρ = [some (.scr Fr ns), some (.cell p), x2, x3, x4, x5, x6, x7, x8, x9, x10, x11, x12, x13] ∧ Pn n1 S1 p ∧ n1 + 2000 * ds.length ≤ 10000) ⟨0, _, _, _, _, _, _, _, _, _, _, _, _, rfl, hp, by rw [irange_length]; decide⟩ (fun ρ S1 ⟨n1, x2, x3, x4, x5, x6, x7, x8, x9, x10, x11, x12, x13, e1, e2, e3⟩ => ⟨trivial, ?_⟩) fun d ds F ih ρ S1 ⟨n1, x2, x3, x4, x5, x6, x7, x8, x9, x10, x11, x12, x13, e1, e2, e3⟩ => ⟨trivial, ?_⟩
  · subst e1
    repeat get_elem_tactic_trivial
    try dsimp only [List.set_cons_succ, List.set_cons_zero]
    exact fin.of rfl
  · subst e1
    rw [List.length_cons] at e3
    repeat get_elem_tactic_trivial
    try dsimp only [List.set_cons_succ, List.set_cons_zero]
    refine sp_draw_knowledgeU e2 (by omega) (by decide) (by decide) fun l cs S1 hk hu hp1 ho1 => ?_
    have l4 := hk.let_.l4
    have l1 := hk.let_.l1
    have l8 := hk.len
    have kb := knowB_ok hu.lb hk
    have hfs : ∀ d, d ∈ cs.map condD → Pl d ∧ dep d ≤ 2 ∧ nod d ≤ 10 := fun d hd => by
      obtain ⟨c, hm, e⟩ := List.mem_map.mp hd
      rw [← e]
      exact va_cond (hk.ok c hm) (by omega)
    have nfs : (cs.map condD).length ≤ 8 := by rw [List.length_map]; exact l8
    unfold knowD
    generalize cs.map condD = fs at *
    have zl : Lf l := ⟨hk.let_.sg.imp fun c hc => hc.2, by omega⟩
    obtain ⟨vk, dk⟩ := va_pair (k := 0) zl (by omega) hfs
    repeat get_elem_tactic_trivial
    try dsimp only [List.set_cons_succ, List.set_cons_zero]
    refine st_lenS (by unfold sizeLine; omega) ?_
    repeat get_elem_tactic_trivial
    try dsimp only [List.set_cons_succ, List.set_cons_zero]
    refine sp_draw_fontU (k := l.length + 1) hp1 (by omega) (by omega) fun u ws S2 hf hp2 ho2 => ?_
    have fb := fontB_ok hf
    have pf := (fo_pl (hf.fo (by omega))).1
    repeat get_elem_tactic_trivial
    try dsimp only [List.set_cons_succ, List.set_cons_zero]
    refine sp_draw_condition (k := l.length + 1) hp2 (by omega) (by omega) hf.ok fun c S3 hc hcb hcf hp3 ho3 => ?_
    have cb := condB_ok hc hcb hcf
    obtain ⟨cp, cd, cn⟩ := va_cond hc (by omega)
    unfold fontD
    generalize condD c = C at *
    repeat get_elem_tactic_trivial
    try dsimp only [List.set_cons_succ, List.set_cons_zero]
    refine st_seq ?_
    repeat get_elem_tactic_trivial
    try dsimp only [List.set_cons_succ, List.set_cons_zero]
    refine sp_is_knowledge vk.pl ?_
    rw [kb]
    repeat get_elem_tactic_trivial
    try dsimp only [List.set_cons_succ, List.set_cons_zero]
    refine sp_is_font l4 pf ?_
    rw [fb]
    repeat get_elem_tactic_trivial
    try dsimp only [List.set_cons_succ, List.set_cons_zero]
    refine sp_is_condition l4 cp ?_
    rw [cb]
    repeat get_elem_tactic_trivial
    try dsimp only [List.set_cons_succ, List.set_cons_zero]
    refine st_mulRep (by decide) (by decide) (by decide) ?_
    repeat get_elem_tactic_trivial
    try dsimp only [List.set_cons_succ, List.set_cons_zero]
    refine st_neSame (n := 1) (d := .lst [.bl true, .bl true, .bl true]) rfl rfl (.lst fun d hd => ?_) (by decide) ?_
    · simp only [List.mem_cons, List.not_mem_nil, or_false] at hd
      rcases hd with rfl | rfl | rfl <;> exact .bl _ _
    repeat get_elem_tactic_trivial
    try dsimp only [List.set_cons_succ, List.set_cons_zero]
    refine sp_law_fonts_near hp3 (by omega) hk.let_ hf fun fonts S4 f1 f2 hp4 ho4 => ?_
    repeat get_elem_tactic_trivial
    try dsimp only [List.set_cons_succ, List.set_cons_zero]
    refine ⟨8, rfl, by decide, by decide, ?_⟩
    refine comp_pen (p := p) (n := n1 + 2000 - 1200) 12 (fun d => Pl d ∧ dep d ≤ 3 ∧ nod d ≤ 30) (fun _ _ => trivial) (hp4.mono (by omega)) (by rw [irange_length]; unfold sizeLine; omega) (fun d hd n2 S5 hb hp5 ho5 K1 F kk => ?_) fun rs S5 g1 g2 hp5 ho5 => ?_
    · rw [irange_length] at hb
      repeat get_elem_tactic_trivial
      try dsimp only [List.set_cons_succ, List.set_cons_zero]
      refine sp_law_bend 2 11 (by decide) cp cd (by omega) hp5 (by omega) fun r S6 hr hp6 ho6 => ?_
      exact kk r S6 ⟨hr.pl, hr.td, by have := hr.nod; omega⟩ hp6 ho6
    · rw [irange_length] at g1 hp5
      repeat get_elem_tactic_trivial
      try dsimp only [List.set_cons_succ, List.set_cons_zero]
      refine st_addLL (a := [C]) (b := rs) rfl rfl (by rw [g1]; exact Nat.le_of_ble_eq_true rfl) ?_
      obtain ⟨conds, ec⟩ : ∃ L, L = [C] ++ rs := ⟨_, rfl⟩
      have cl : conds.length = 9 := by rw [ec, List.length_append, g1]; rfl
      have cv : ∀ d, d ∈ conds → Va 725 d := fun d hd => by
        rw [ec] at hd
        rcases List.mem_append.mp hd with z | z
        · rw [List.mem_singleton.mp z]
          exact ⟨cp, by omega, by omega⟩
        · obtain ⟨a, b, c⟩ := g2 d z
          exact ⟨a, by omega, by omega⟩
      rw [← ec]
      repeat get_elem_tactic_trivial
      try dsimp only [List.set_cons_succ, List.set_cons_zero]
      refine st_seq ?_
      repeat get_elem_tactic_trivial
      try dsimp only [List.set_cons_succ, List.set_cons_zero]
      refine sp_any_lettersU hp5 (by omega) fun l2 S6 hl2 hp6 ho6 => ?_
      have z2 : Lf l2 := ⟨hl2.ok.sg.imp fun c hc => hc.2, by have := hl2.ok.l4; omega⟩
      have k2 : knowB (.tup [.str l2, .tup []]) = true := by
        show (letsB (.str l2) && (true && true)) = true
        rw [hl2.lb]
        rfl
      repeat get_elem_tactic_trivial
      try dsimp only [List.set_cons_succ, List.set_cons_zero]
      refine sp_is_knowledge (va_pair (k := 0) (fs := []) z2 (by decide) (fun d hd => by cases hd)).1.pl ?_
      rw [k2]
      repeat get_elem_tactic_trivial
      try dsimp only [List.set_cons_succ, List.set_cons_zero]
      refine st_isNot6 (k := false) rfl ?_
      repeat get_elem_tactic_trivial
      try dsimp only [List.set_cons_succ, List.set_cons_zero]
      refine sp_law_values_near hp6 (by omega) hk.let_ nfs hfs fun vals S7 h1 h2 hp7 ho7 => ?_
      obtain ⟨pa, da, na⟩ := pl_va f2 (by omega)
      obtain ⟨pb, db, nb⟩ := pl_va cv (by omega)
      obtain ⟨pc, dc, nc⟩ := pl_va h2 (by omega)
      have pt : Pl (.tup [.lst fonts, .lst conds, .lst vals])   := .tup _ (Nat.le_of_ble_eq_true rfl) fun d hd => by
        simp only [List.mem_cons, List.not_mem_nil, or_false] at hd
        rcases hd with rfl | rfl | rfl
        · exact pa
        · exact pb
        · exact pc
      obtain ⟨P, q1, q2, q3, q4⟩ := pl_sz pt
      have nt : nod (.tup [.lst fonts, .lst conds, .lst vals]) ≤ 40000 := by
        show nod (.lst fonts) + (nod (.lst conds) + (nod (.lst vals) + 0)) + 1 ≤ 40000
        omega
      have dt : dep (.tup [.lst fonts, .lst conds, .lst vals]) ≤ 8 := by
        have e := depL_le (n := 7) (l := [.lst fonts, .lst conds, .lst vals]) fun d hd => by
          simp only [List.mem_cons, List.not_mem_nil, or_false] at hd
          rcases hd with rfl | rfl | rfl
          · exact da
          · exact db
          · exact dc
        show depL _ + 1 ≤ 8
        omega
      have rep : ∀ (S : Sto) (K : KE), K (.str P.shown) S → oReprX (.tup [.lst fonts, .lst conds, .lst vals]) S K := fun S K k => ⟨P, q1, ⟨_, .inr rfl⟩, ⟨q2, by unfold sizeLine; omega, by omega⟩, k⟩
      clear q1 q2 q3 q4
      repeat get_elem_tactic_trivial
      try dsimp only [List.set_cons_succ, List.set_cons_zero]
      refine rep _ _ ?_
      generalize P.shown = text at *
      repeat get_elem_tactic_trivial
      try dsimp only [List.set_cons_succ, List.set_cons_zero]
      refine st_seq ?_
      repeat get_elem_tactic_trivial
      try dsimp only [List.set_cons_succ, List.set_cons_zero]
      refine comp_map (fun f => .bl (fontB l f)) trivial (by unfold sizeLine; omega) (fun f hf K F k => ?_) ?_
      · repeat get_elem_tactic_trivial
        try dsimp only [List.set_cons_succ, List.set_cons_zero]
        exact sp_is_font l4 (f2 f hf).pl k
      repeat get_elem_tactic_trivial
      try dsimp only [List.set_cons_succ, List.set_cons_zero]
      refine comp_map (fun f => .bl (fontB l f)) trivial (by unfold sizeLine; omega) (fun f hf K F k => ?_) ?_
      · repeat get_elem_tactic_trivial
        try dsimp only [List.set_cons_succ, List.set_cons_zero]
        exact sp_law_is_font l4 (f2 f hf).pl k
      repeat get_elem_tactic_trivial
      try dsimp only [List.set_cons_succ, List.set_cons_zero]
      refine sp_sameT 11 _ ((dat_bools (n := 0) (fontB l) (by omega)).mono (by decide)) _ _ ?_
      repeat get_elem_tactic_trivial
      try dsimp only [List.set_cons_succ, List.set_cons_zero]
      refine for_ind (I := fun ds ρ S1 => S1 = S7 ∧ (∀ d, d ∈ ds → Pl d) ∧ ∃ x12 x13 : Option D, ρ = [some (.scr Fr ns), some (.cell p), some d, some (.tup [.str l, .tup fs]), some (.str l), some (.tup fs), some (.tup [.int u, .tup (ws.map D.int)]), some C, some (.lst fonts), some (.lst conds), some (.lst vals), some (.str text), x12, x13]) ⟨rfl, fun d hd => (cv d hd).pl, _, _, rfl⟩ (fun ρ S1 ⟨y1, y2, x12, x13, y3⟩ => ⟨trivial, ?_⟩) fun d2 ds2 F2 ih2 ρ S1 ⟨y1, y2, x12, x13, y3⟩ => ⟨trivial, ?_⟩
      · subst y1 y3
        repeat get_elem_tactic_trivial
        try dsimp only [List.set_cons_succ, List.set_cons_zero]
        refine for_ind (I := fun ds ρ Sx => Sx = S1 ∧ (∀ d, d ∈ ds → Pl d) ∧ ∃ x12 x13 : Option D, ρ = [some (.scr Fr ns), some (.cell p), some d, some (.tup [.str l, .tup fs]), some (.str l), some (.tup fs), some (.tup [.int u, .tup (ws.map D.int)]), some C, some (.lst fonts), some (.lst conds), some (.lst vals), some (.str text), x12, x13]) ⟨rfl, fun d hd => (h2 d hd).pl, _, _, rfl⟩ (fun ρ S1 ⟨y1, y2, x12, x13, y3⟩ => ⟨trivial, ?_⟩) fun d2 ds2 F2 ih2 ρ S1 ⟨y1, y2, x12, x13, y3⟩ => ⟨trivial, ?_⟩
        · subst y1 y3
          repeat get_elem_tactic_trivial
          try dsimp only [List.set_cons_succ, List.set_cons_zero]
          refine rep _ _ ?_
          repeat get_elem_tactic_trivial
          try dsimp only [List.set_cons_succ, List.set_cons_zero]
          rw [beq_self_eq_true]
          repeat get_elem_tactic_trivial
          try dsimp only [List.set_cons_succ, List.set_cons_zero]
          exact ih _ _ ⟨n1 + 2000, _, _, _, _, _, _, _, _, _, _, _, _, rfl, hp7.mono (by omega), by omega⟩
        · subst y1 y3
          have pd := y2 d2 List.mem_cons_self
          repeat get_elem_tactic_trivial
          try dsimp only [List.set_cons_succ, List.set_cons_zero]
          refine sp_is_knowledge pd ?_
          repeat get_elem_tactic_trivial
          try dsimp only [List.set_cons_succ, List.set_cons_zero]
          refine sp_law_is_knowledge pd ?_
          repeat get_elem_tactic_trivial
          try dsimp only [List.set_cons_succ, List.set_cons_zero]
          refine sp_same ?_
          rw [beq_self_eq_true]
          repeat get_elem_tactic_trivial
          try dsimp only [List.set_cons_succ, List.set_cons_zero]
          exact ih2 _ _ ⟨rfl, fun x hx => y2 x (List.mem_cons_of_mem _ hx), _, _, rfl⟩
      · subst y1 y3
        have pd := y2 d2 List.mem_cons_self
        repeat get_elem_tactic_trivial
        try dsimp only [List.set_cons_succ, List.set_cons_zero]
        refine sp_is_condition l4 pd ?_
        repeat get_elem_tactic_trivial
        try dsimp only [List.set_cons_succ, List.set_cons_zero]
        refine sp_law_is_condition l4 pd ?_
        repeat get_elem_tactic_trivial
        try dsimp only [List.set_cons_succ, List.set_cons_zero]
        refine sp_same ?_
        rw [beq_self_eq_true]
        repeat get_elem_tactic_trivial
        try dsimp only [List.set_cons_succ, List.set_cons_zero]
        exact ih2 _ _ ⟨rfl, fun x hx => y2 x (List.mem_cons_of_mem _ hx), _, _, rfl⟩


end G


set_option Elab.async false
set_option linter.all false
set_option autoImplicit false
set_option maxRecDepth 100000
set_option maxHeartbeats 4000000
namespace G
open PySem PySem.Spec PyProof.Rows L2
theorem room65 {k : Nat} {A : Around} (r : RoomG k A) : A.units + 65 < cLine := by have := r.un; omega
def N_is_integer : List Str := ["value"]
theorem sc_is_integer : FnScope N_is_integer ["value"] (defScope s_is_integer) := ⟨rfl, rfl, rfl, by decide +kernel, rfl, by decide +kernel, by decide +kernel⟩
def N_is_within : List Str := ["value", "low", "high"]
theorem sc_is_within : FnScope N_is_within ["value", "low", "high"] (defScope s_is_within) := ⟨rfl, rfl, rfl, by decide +kernel, rfl, by decide +kernel, by decide +kernel⟩
def N_is_letters : List Str := ["value", "letter"]
theorem sc_is_letters : FnScope N_is_letters ["value"] (defScope s_is_letters) := ⟨rfl, rfl, rfl, by decide +kernel, rfl, by decide +kernel, by decide +kernel⟩
def N_common_divisor : List Str := ["one", "other"]
theorem sc_common_divisor : FnScope N_common_divisor ["one", "other"] (defScope s_common_divisor) := ⟨rfl, rfl, rfl, by decide +kernel, rfl, by decide +kernel, by decide +kernel⟩
def N_divisor_of : List Str := ["numbers", "found", "number"]
theorem sc_divisor_of : FnScope N_divisor_of ["numbers"] (defScope s_divisor_of) := ⟨rfl, rfl, rfl, by decide +kernel, rfl, by decide +kernel, by decide +kernel⟩
def N_is_condition : List Str := ["letters", "value", "factors", "bound", "strict", "factor"]
theorem sc_is_condition : FnScope N_is_condition ["letters", "value"] (defScope s_is_condition) := ⟨rfl, rfl, rfl, by decide +kernel, rfl, by decide +kernel, by decide +kernel⟩
def N_is_font : List Str := ["letters", "value", "unit", "widths", "width"]
theorem sc_is_font : FnScope N_is_font ["letters", "value"] (defScope s_is_font) := ⟨rfl, rfl, rfl, by decide +kernel, rfl, by decide +kernel, by decide +kernel⟩
def N_is_knowledge : List Str := ["value", "letters", "facts", "fact"]
theorem sc_is_knowledge : FnScope N_is_knowledge ["value"] (defScope s_is_knowledge) := ⟨rfl, rfl, rfl, by decide +kernel, rfl, by decide +kernel, by decide +kernel⟩
def N_law_open : List Str := ["script", "cells", "k", "cell"]
theorem sc_law_open : FnScope N_law_open ["script"] (defScope s_law_open) := ⟨rfl, rfl, rfl, by decide +kernel, rfl, by decide +kernel, by decide +kernel⟩
def N_law_spread : List Str := ["cell", "at", "primes", "one", "two", "three"]
theorem sc_law_spread : FnScope N_law_spread ["cell", "at"] (defScope s_law_spread) := ⟨rfl, rfl, rfl, by decide +kernel, rfl, by decide +kernel, by decide +kernel⟩
def N_law_take : List Str := ["pen", "amount", "at", "cell", "found"]
theorem sc_law_take : FnScope N_law_take ["pen", "amount"] (defScope s_law_take) := ⟨rfl, rfl, rfl, by decide +kernel, rfl, by decide +kernel, by decide +kernel⟩
def N_law_same : List Str := ["found", "due", "one", "other"]
theorem sc_law_same : FnScope N_law_same ["found", "due"] (defScope s_law_same) := ⟨rfl, rfl, rfl, by decide +kernel, rfl, by decide +kernel, by decide +kernel⟩
def N_law_one_of : List Str := ["pen", "some"]
theorem sc_law_one_of : FnScope N_law_one_of ["pen", "some"] (defScope s_law_one_of) := ⟨rfl, rfl, rfl, by decide +kernel, rfl, by decide +kernel, by decide +kernel⟩
def N_law_divisor : List Str := ["numbers", "found", "number", "one", "other"]
theorem sc_law_divisor : FnScope N_law_divisor ["numbers"] (defScope s_law_divisor) := ⟨rfl, rfl, rfl, by decide +kernel, rfl, by decide +kernel, by decide +kernel⟩
def N_law_plain : List Str := ["unit", "widths", "divisor", "wide"]
theorem sc_law_plain : FnScope N_law_plain ["unit", "widths"] (defScope s_law_plain) := ⟨rfl, rfl, rfl, by decide +kernel, rfl, by decide +kernel, by decide +kernel⟩
def N_law_draw_font : List Str := ["pen", "size", "unit", "widths", "sign", "wide"]
theorem sc_law_draw_font : FnScope N_law_draw_font ["pen", "size"] (defScope s_law_draw_font) := ⟨rfl, rfl, rfl, by decide +kernel, rfl, by decide +kernel, by decide +kernel⟩
def N_law_sum : List Str := ["factors", "font", "factor", "wide"]
theorem sc_law_sum : FnScope N_law_sum ["factors", "font"] (defScope s_law_sum) := ⟨rfl, rfl, rfl, by decide +kernel, rfl, by decide +kernel, by decide +kernel⟩
def N_law_holds : List Str := ["condition", "font", "total", "bound"]
theorem sc_law_holds : FnScope N_law_holds ["condition", "font"] (defScope s_law_holds) := ⟨rfl, rfl, rfl, by decide +kernel, rfl, by decide +kernel, by decide +kernel⟩
def N_law_draw_condition : List Str := ["pen", "font", "size", "factors", "total", "bound", "wide"]
theorem sc_law_draw_condition : FnScope N_law_draw_condition ["pen", "font"] (defScope s_law_draw_condition) := ⟨rfl, rfl, rfl, by decide +kernel, rfl, by decide +kernel, by decide +kernel⟩
def N_law_draw_letters : List Str := ["pen"]
theorem sc_law_draw_letters : FnScope N_law_draw_letters ["pen"] (defScope s_law_draw_letters) := ⟨rfl, rfl, rfl, by decide +kernel, rfl, by decide +kernel, by decide +kernel⟩
def N_law_draw_knowledge : List Str := ["pen", "facts", "letters", "font", "found", "is_fitting", "again", "fact"]
theorem sc_law_draw_knowledge : FnScope N_law_draw_knowledge ["pen", "facts"] (defScope s_law_draw_knowledge) := ⟨rfl, rfl, rfl, by decide +kernel, rfl, by decide +kernel, by decide +kernel⟩
def N_law_draw_text : List Str := ["pen", "letters", "words", "size", "found", "again", "k"]
def N_law_counts : List Str := ["letters", "string", "sign", "one"]
def N_law_fits : List Str := ["knowledge", "font", "fact"]
def N_law_is_font : List Str := ["letters", "value", "numbers", "one"]
theorem sc_law_is_font : FnScope N_law_is_font ["letters", "value"] (defScope s_law_is_font) := ⟨rfl, rfl, rfl, by decide +kernel, rfl, by decide +kernel, by decide +kernel⟩
def N_law_rows : List Str := ["knowledge", "conditions", "size", "low", "high", "place", "k"]
def N_law_refutes : List Str := ["knowledge", "conditions", "value", "rows", "one", "place", "total", "strict", "row"]
def N_law_is_between : List Str := ["value", "low", "high"]
theorem sc_law_is_between : FnScope N_law_is_between ["value", "low", "high"] (defScope s_law_is_between) := ⟨rfl, rfl, rfl, by decide +kernel, rfl, by decide +kernel, by decide +kernel⟩
def N_law_is_condition : List Str := ["letters", "value", "one"]
theorem sc_law_is_condition : FnScope N_law_is_condition ["letters", "value"] (defScope s_law_is_condition) := ⟨rfl, rfl, rfl, by decide +kernel, rfl, by decide +kernel, by decide +kernel⟩
def N_law_is_knowledge : List Str := ["value", "letters", "facts", "one", "fact"]
theorem sc_law_is_knowledge : FnScope N_law_is_knowledge ["value"] (defScope s_law_is_knowledge) := ⟨rfl, rfl, rfl, by decide +kernel, rfl, by decide +kernel, by decide +kernel⟩
def N_law_bend : List Str := ["pen", "value", "some", "k", "way"]
theorem sc_law_bend : FnScope N_law_bend ["pen", "value"] (defScope s_law_bend) := ⟨rfl, rfl, rfl, by decide +kernel, rfl, by decide +kernel, by decide +kernel⟩
def N_law_any_letters : List Str := ["pen", "signs", "again"]
theorem sc_law_any_letters : FnScope N_law_any_letters ["pen"] (defScope s_law_any_letters) := ⟨rfl, rfl, rfl, by decide +kernel, rfl, by decide +kernel, by decide +kernel⟩
def N_law_fonts_near : List Str := ["pen", "letters", "font", "unit", "widths", "a", "fonts", "far", "large", "one", "again", "sign"]
theorem sc_law_fonts_near : FnScope N_law_fonts_near ["pen", "letters", "font"] (defScope s_law_fonts_near) := ⟨rfl, rfl, rfl, by decide +kernel, rfl, by decide +kernel, by decide +kernel⟩
def N_law_values_near : List Str := ["pen", "knowledge", "letters", "facts", "values", "spot", "again"]
theorem sc_law_values_near : FnScope N_law_values_near ["pen", "knowledge"] (defScope s_law_values_near) := ⟨rfl, rfl, rfl, by decide +kernel, rfl, by decide +kernel, by decide +kernel⟩
def N_law : List Str := ["script", "pen", "turn", "knowledge", "letters", "facts", "font", "condition", "fonts", "conditions", "values", "seen", "one", "again"]
theorem sc_law : FnScope N_law ["script"] (defScope s_law) := ⟨rfl, rfl, rfl, by decide +kernel, rfl, by decide +kernel, by decide +kernel⟩
structure Fx (K : PySem.W.Frag) (mg : Str → Option Value) : Prop where
  d_is_integer : DefAt K mg "is_integer" s_is_integer
  d_is_within : DefAt K mg "is_within" s_is_within
  d_is_letters : DefAt K mg "is_letters" s_is_letters
  d_common_divisor : DefAt K mg "common_divisor" s_common_divisor
  d_divisor_of : DefAt K mg "divisor_of" s_divisor_of
  d_is_condition : DefAt K mg "is_condition" s_is_condition
  d_is_font : DefAt K mg "is_font" s_is_font
  d_is_knowledge : DefAt K mg "is_knowledge" s_is_knowledge
  d_law_open : DefAt K mg "_law_open" s_law_open
  d_law_spread : DefAt K mg "_law_spread" s_law_spread
  d_law_take : DefAt K mg "_law_take" s_law_take
  d_law_same : DefAt K mg "_law_same" s_law_same
  d_law_one_of : DefAt K mg "_law_one_of" s_law_one_of
  d_law_divisor : DefAt K mg "_law_divisor" s_law_divisor
  d_law_plain : DefAt K mg "_law_plain" s_law_plain
  d_law_draw_font : DefAt K mg "_law_draw_font" s_law_draw_font
  d_law_sum : DefAt K mg "_law_sum" s_law_sum
  d_law_holds : DefAt K mg "_law_holds" s_law_holds
  d_law_draw_condition : DefAt K mg "_law_draw_condition" s_law_draw_condition
  d_law_draw_letters : DefAt K mg "_law_draw_letters" s_law_draw_letters
  d_law_draw_knowledge : DefAt K mg "_law_draw_knowledge" s_law_draw_knowledge
  d_law_draw_text : DefAt K mg "_law_draw_text" s_law_draw_text
  d_law_counts : DefAt K mg "_law_counts" s_law_counts
  d_law_fits : DefAt K mg "_law_fits" s_law_fits
  d_law_is_font : DefAt K mg "_law_is_font" s_law_is_font
  d_law_rows : DefAt K mg "_law_rows" s_law_rows
  d_law_refutes : DefAt K mg "_law_refutes" s_law_refutes
  d_law_is_between : DefAt K mg "_law_is_between" s_law_is_between
  d_law_is_condition : DefAt K mg "_law_is_condition" s_law_is_condition
  d_law_is_knowledge : DefAt K mg "_law_is_knowledge" s_law_is_knowledge
  d_law_bend : DefAt K mg "_law_bend" s_law_bend
  d_law_any_letters : DefAt K mg "_law_any_letters" s_law_any_letters
  d_law_fonts_near : DefAt K mg "_law_fonts_near" s_law_fonts_near
  d_law_values_near : DefAt K mg "_law_values_near" s_law_values_near
  d_law : DefAt K mg "law" s_law
  f_isinstance : mg "isinstance" = none
  f_int : mg "int" = none
  f_bool : mg "bool" = none
  f_str : mg "str" = none
  f_len : mg "len" = none
  f_all : mg "all" = none
  f_list : mg "list" = none
  f_sorted : mg "sorted" = none
  f_set : mg "set" = none
  f_tuple : mg "tuple" = none
  f_enumerate : mg "enumerate" = none
  f_zip : mg "zip" = none
  f_abs : mg "abs" = none
  f_range : mg "range" = none
  f_min : mg "min" = none
  f_sum : mg "sum" = none
  f_max : mg "max" = none
  f_repr : mg "repr" = none
  k_MAX_LETTERS : ∃ t, mg "MAX_LETTERS" = some (.int 4 t)
  k_FIRST_CHARACTER : ∃ t, mg "FIRST_CHARACTER" = some (.str "!" t)
  k_LAST_CHARACTER : ∃ t, mg "LAST_CHARACTER" = some (.str "~" t)
  k_MAX_FACTOR : ∃ t, mg "MAX_FACTOR" = some (.int 99 t)
  k_MAX_BOUND : ∃ t, mg "MAX_BOUND" = some (.int 9999 t)
  k_MAX_WIDTH : ∃ t, mg "MAX_WIDTH" = some (.int 20 t)
  k_MAX_FACTS : ∃ t, mg "MAX_FACTS" = some (.int 8 t)
section
variable {P : Program} {w : World} {Fr : PySem.W.Frag} {mg : Str → Option Value} {base : Heap}
theorem ok_is_integer (F : Fx Fr mg) : Callee P w Fr mg base "is_integer" 1 (c_is_integer) :=
  callee_of (ps := ["value"]) F.d_is_integer sc_is_integer (fun _ _ _ _ _ _ us hl => match us, hl with | [_], _ => rfl) (fun f cdv A outer s H E hr =>
    (gss_one (gs_ret (ge_and (ge_isi .int (ge_var 0) F.f_isinstance F.f_int (by decide +kernel)) (ge_one (ge_not (ge_isi .bl (ge_var 0) F.f_isinstance F.f_bool (by decide +kernel))))))))
theorem ok_is_within (F : Fx Fr mg) : Callee P w Fr mg base "is_within" 2 (c_is_within) :=
  callee_of (ps := ["value", "low", "high"]) F.d_is_within sc_is_within (fun _ _ _ _ _ _ us hl => match us, hl with | [_, _, _], _ => rfl) (fun f cdv A outer s H E hr =>
    (gss_one (gs_ret (ge_and (ge_callee (ok_is_integer F) hr (ga_cons (ge_var 0) ga_nil)) (ge_one (ge_chain (go_le) (go_le) (ge_var 1) (ge_var 0) (ge_var 2)))))))
theorem ok_is_letters (F : Fx Fr mg) : Callee P w Fr mg base "is_letters" 1 (c_is_letters) :=
  callee_of (ps := ["value"]) F.d_is_letters sc_is_letters (fun _ _ _ _ _ _ us hl => match us, hl with | [_], _ => rfl) (fun f cdv A outer s H E hr =>
    (gss_cons (gs_if (gt_w (gw_or (gt_not (gt_val (ge_isi .str (ge_var 0) F.f_isinstance F.f_str (by decide +kernel)))) (gw_or1 (gt_not (gt_chain (go_le) (go_le) ge_int (ge_callB gc_len F.f_len (by decide +kernel) (ga_cons (ge_var 0) ga_nil)) (ge_gint F.k_MAX_LETTERS)))))) (gss_one (gs_ret ge_bl)) gss_nil)
    (gss_cons (gs_if (gt_not (gt_val (ge_callB (gc_all rfl) F.f_all (by decide +kernel) (ga_cons (ge_fr (gf_comp (own := [("letter", 1)]) sc_is_letters.nd (gi_val (ge_var 0)) (blkOk_by (N := N_is_letters) (sc := defScope s_is_letters) (by decide +kernel)) (fun _ _ _ _ _ => (gc_name 1 sc_is_letters.nd)) (fun _ _ _ _ _ => gif_nil) (fun _ _ _ _ _ => (ge_chain (go_le) (go_le) (ge_gstr F.k_FIRST_CHARACTER) (ge_var 1) (ge_gstr F.k_LAST_CHARACTER))))) ga_nil)))) (gss_one (gs_ret ge_bl)) gss_nil)
    (gss_one (gs_ret (ge_cmp (go_eq hr.units) (ge_fr (gf_list (ge_var 0) F.f_list)) (ge_fr (gf_srtSetT (ge_var 0) F.f_sorted F.f_set))))))))
theorem ok_common_divisor (F : Fx Fr mg) : Callee P w Fr mg base "common_divisor" 1 (c_common_divisor) :=
  callee_of (ps := ["one", "other"]) F.d_common_divisor sc_common_divisor (fun _ _ _ _ _ _ us hl => match us, hl with | [_, _], _ => rfl) (fun f cdv A outer s H E hr =>
    (gss_cons (gs_while PassesOwn.never (gt_cmp (go_ne hr.units) (ge_var 1) ge_int) (gss_one (gs_par 0 1 sc_common_divisor.nd (ge_var 1) (ge_bin go_mod (ge_var 0) (ge_var 1)))))
    (gss_one (gs_ret (ge_var 0)))))
theorem ok_divisor_of (F : Fx Fr mg) : Callee P w Fr mg base "divisor_of" 2 (c_divisor_of) :=
  callee_of (ps := ["numbers"]) F.d_divisor_of sc_divisor_of (fun _ _ _ _ _ _ us hl => match us, hl with | [_], _ => rfl) (fun f cdv A outer s H E hr =>
    (gss_cons (gs_set 1 sc_divisor_of.nd ge_int)
    (gss_cons (gs_for PassesOwn.never (gi_val (ge_var 0)) (gg_name 2 sc_divisor_of.nd) (gss_one (gs_set 1 sc_divisor_of.nd (ge_callee (ok_common_divisor F) hr (ga_cons (ge_var 1) (ga_cons (ge_var 2) ga_nil))))))
    (gss_one (gs_ret (ge_var 1))))))
theorem ok_is_condition (F : Fx Fr mg) : Callee P w Fr mg base "is_condition" 3 (c_is_condition) :=
  callee_of (ps := ["letters", "value"]) F.d_is_condition sc_is_condition (fun _ _ _ _ _ _ us hl => match us, hl with | [_, _], _ => rfl) (fun f cdv A outer s H E hr =>
    (gss_cons (gs_if (gt_w (gw_or (gt_not (gt_val (ge_isi .tup (ge_var 1) F.f_isinstance F.f_tuple (by decide +kernel)))) (gw_or1 (gt_cmp (go_ne hr.units) (ge_callB gc_len F.f_len (by decide +kernel) (ga_cons (ge_var 1) ga_nil)) ge_int)))) (gss_one (gs_ret ge_bl)) gss_nil)
    (gss_cons (gs_asg (ge_var 1) (gg_tup rfl (ggs_cons (gg_name 2 sc_is_condition.nd) (ggs_cons (gg_name 3 sc_is_condition.nd) (ggs_cons (gg_name 4 sc_is_condition.nd) ggs_nil)))))
    (gss_cons (gs_if (gt_w (gw_or (gt_not (gt_val (ge_isi .tup (ge_var 2) F.f_isinstance F.f_tuple (by decide +kernel)))) (gw_or1 (gt_cmp (go_ne hr.units) (ge_callB gc_len F.f_len (by decide +kernel) (ga_cons (ge_var 2) ga_nil)) (ge_bin go_add (ge_callB gc_len F.f_len (by decide +kernel) (ga_cons (ge_var 0) ga_nil)) ge_int))))) (gss_one (gs_ret ge_bl)) gss_nil)
    (gss_cons (gs_if (gt_not (gt_val (ge_callB (gc_all rfl) F.f_all (by decide +kernel) (ga_cons (ge_fr (gf_comp (own := [("factor", 5)]) sc_is_condition.nd (gi_val (ge_var 2)) (blkOk_by (N := N_is_condition) (sc := defScope s_is_condition) (by decide +kernel)) (fun _ _ _ _ _ => (gc_name 5 sc_is_condition.nd)) (fun _ _ _ _ _ => gif_nil) (fun _ _ _ _ _ => (ge_callee (ok_is_within F) hr (ga_cons (ge_var 5) (ga_cons (ge_bin go_sub ge_int (ge_gint F.k_MAX_FACTOR)) (ga_cons (ge_gint F.k_MAX_FACTOR) ga_nil))))))) ga_nil)))) (gss_one (gs_ret ge_bl)) gss_nil)
    (gss_one (gs_ret (ge_and (ge_callee (ok_is_within F) hr (ga_cons (ge_var 3) (ga_cons (ge_bin go_sub ge_int (ge_gint F.k_MAX_BOUND)) (ga_cons (ge_gint F.k_MAX_BOUND) ga_nil)))) (ge_one (ge_isi .bl (ge_var 4) F.f_isinstance F.f_bool (by decide +kernel)))))))))))
theorem ok_is_font (F : Fx Fr mg) : Callee P w Fr mg base "is_font" 3 (c_is_font) :=
  callee_of (ps := ["letters", "value"]) F.d_is_font sc_is_font (fun _ _ _ _ _ _ us hl => match us, hl with | [_, _], _ => rfl) (fun f cdv A outer s H E hr =>
    (gss_cons (gs_if (gt_w (gw_or (gt_not (gt_val (ge_isi .tup (ge_var 1) F.f_isinstance F.f_tuple (by decide +kernel)))) (gw_or (gt_cmp (go_ne hr.units) (ge_callB gc_len F.f_len (by decide +kernel) (ga_cons (ge_var 1) ga_nil)) ge_int) (gw_or (gt_not (gt_val (ge_callee (ok_is_integer F) hr (ga_cons (ge_ix (ge_var 1) ge_int) ga_nil)))) (gw_or1 (gt_cmp (go_lt) (ge_ix (ge_var 1) ge_int) ge_int)))))) (gss_one (gs_ret ge_bl)) gss_nil)
    (gss_cons (gs_asg (ge_var 1) (gg_tup rfl (ggs_cons (gg_name 2 sc_is_font.nd) (ggs_cons (gg_name 3 sc_is_font.nd) ggs_nil))))
    (gss_cons (gs_if (gt_w (gw_or (gt_not (gt_val (ge_isi .tup (ge_var 3) F.f_isinstance F.f_tuple (by decide +kernel)))) (gw_or1 (gt_cmp (go_ne hr.units) (ge_callB gc_len F.f_len (by decide +kernel) (ga_cons (ge_var 3) ga_nil)) (ge_bin go_add (ge_callB gc_len F.f_len (by decide +kernel) (ga_cons (ge_var 0) ga_nil)) ge_int))))) (gss_one (gs_ret ge_bl)) gss_nil)
    (gss_cons (gs_if (gt_not (gt_val (ge_callB (gc_all rfl) F.f_all (by decide +kernel) (ga_cons (ge_fr (gf_comp (own := [("width", 4)]) sc_is_font.nd (gi_val (ge_var 3)) (blkOk_by (N := N_is_font) (sc := defScope s_is_font) (by decide +kernel)) (fun _ _ _ _ _ => (gc_name 4 sc_is_font.nd)) (fun _ _ _ _ _ => gif_nil) (fun _ _ _ _ _ => (ge_callee (ok_is_within F) hr (ga_cons (ge_var 4) (ga_cons ge_int (ga_cons (ge_bin go_mul (ge_gint F.k_MAX_WIDTH) (ge_var 2)) ga_nil))))))) ga_nil)))) (gss_one (gs_ret ge_bl)) gss_nil)
    (gss_one (gs_ret (ge_cmp (go_eq hr.units) (ge_callee (ok_divisor_of F) hr (ga_cons (ge_bin go_add (ge_fr (gf_lst (ga_cons (ge_var 2) ga_nil))) (ge_fr (gf_list (ge_var 3) F.f_list))) ga_nil)) ge_int))))))))
theorem ok_is_knowledge (F : Fx Fr mg) : Callee P w Fr mg base "is_knowledge" 4 (c_is_knowledge) :=
  callee_of (ps := ["value"]) F.d_is_knowledge sc_is_knowledge (fun _ _ _ _ _ _ us hl => match us, hl with | [_], _ => rfl) (fun f cdv A outer s H E hr =>
    (gss_cons (gs_if (gt_w (gw_or (gt_not (gt_val (ge_isi .tup (ge_var 0) F.f_isinstance F.f_tuple (by decide +kernel)))) (gw_or (gt_cmp (go_ne hr.units) (ge_callB gc_len F.f_len (by decide +kernel) (ga_cons (ge_var 0) ga_nil)) ge_int) (gw_or1 (gt_not (gt_val (ge_callee (ok_is_letters F) hr (ga_cons (ge_ix (ge_var 0) ge_int) ga_nil)))))))) (gss_one (gs_ret ge_bl)) gss_nil)
    (gss_cons (gs_asg (ge_var 0) (gg_tup rfl (ggs_cons (gg_name 1 sc_is_knowledge.nd) (ggs_cons (gg_name 2 sc_is_knowledge.nd) ggs_nil))))
    (gss_cons (gs_if (gt_w (gw_or (gt_not (gt_val (ge_isi .tup (ge_var 2) F.f_isinstance F.f_tuple (by decide +kernel)))) (gw_or1 (gt_cmp (go_gt) (ge_callB gc_len F.f_len (by decide +kernel) (ga_cons (ge_var 2) ga_nil)) (ge_gint F.k_MAX_FACTS))))) (gss_one (gs_ret ge_bl)) gss_nil)
    (gss_one (gs_ret (ge_callB (gc_all rfl) F.f_all (by decide +kernel) (ga_cons (ge_fr (gf_comp (own := [("fact", 3)]) sc_is_knowledge.nd (gi_val (ge_var 2)) (blkOk_by (N := N_is_knowledge) (sc := defScope s_is_knowledge) (by decide +kernel)) (fun _ _ _ _ _ => (gc_name 3 sc_is_knowledge.nd)) (fun _ _ _ _ _ => gif_nil) (fun _ _ _ _ _ => (ge_callee (ok_is_condition F) hr (ga_cons (ge_var 1) (ga_cons (ge_var 3) ga_nil)))))) ga_nil))))))))
theorem ok_law_open (F : Fx Fr mg) : Callee P w Fr mg base "_law_open" 1 (c_law_open Fr) :=
  callee_of (ps := ["script"]) F.d_law_open sc_law_open (fun _ _ _ _ _ _ us hl => match us, hl with | [_], _ => rfl) (fun f cdv A outer s H E hr =>
    (gss_cons (gs_set 1 sc_law_open.nd (ge_lv (gf_list (ge_fr (gf_sl (ge_var 0) gp_no (gp_so ge_int))) F.f_list)))
    (gss_cons (gs_for PassesOwn.never (gi_enum (ge_fr (gf_sl (ge_var 0) (gp_so ge_int) (gp_so ge_int))) F.f_enumerate) (gg_tup rfl (ggs_cons (gg_name 2 sc_law_open.nd) (ggs_cons (gg_name 3 sc_law_open.nd) ggs_nil))) (gss_one (gs_asg (ge_bin go_add (ge_ix (ge_var 1) (ge_bin go_mod (ge_var 2) ge_int)) (ge_var 3)) (gg_ix (ge_var 1) (ge_bin go_mod (ge_var 2) ge_int)))))
    (gss_one (gs_ret (ge_lv (gf_lst (ga_cons (ge_frz (ge_var 1)) (ga_cons ge_int (ga_cons ge_int ga_nil))))))))))
theorem ok_law_spread (F : Fx Fr mg) : Callee P w Fr mg base "_law_spread" 1 (c_law_spread) :=
  callee_of (ps := ["cell", "at"]) F.d_law_spread sc_law_spread (fun _ _ _ _ _ _ us hl => match us, hl with | [_, _], _ => rfl) (fun f cdv A outer s H E hr =>
    (gss_cons (gs_if (gt_cmp (go_ge) (ge_var 0) (ge_bin go_pow ge_int ge_int)) (gss_one (gs_ret (ge_var 0))) gss_nil)
    (gss_cons (gs_set 2 sc_law_spread.nd (ge_fr (gf_lst (ga_cons ge_int (ga_cons ge_int (ga_cons ge_int (ga_cons ge_int (ga_cons ge_int (ga_cons ge_int (ga_cons ge_int (ga_cons ge_int ga_nil)))))))))))
    (gss_cons (gs_set 2 sc_law_spread.nd (ge_bin go_add (ge_var 2) (ge_fr (gf_lst (ga_cons ge_int (ga_cons ge_int (ga_cons ge_int (ga_cons ge_int (ga_cons ge_int ga_nil)))))))))
    (gss_cons (gs_set 3 sc_law_spread.nd (ge_bin go_mod (ge_bin go_pow (ge_bin go_add (ge_bin go_add (ge_bin go_mul (ge_bin go_mod (ge_var 0) ge_int) (ge_bin go_add (ge_bin go_mul ge_int (ge_var 1)) ge_int)) (ge_bin go_mul (ge_var 1) ge_int)) ge_int) ge_int) (ge_ix (ge_var 2) (ge_bin go_mod (ge_var 1) ge_int))))
    (gss_cons (gs_set 4 sc_law_spread.nd (ge_bin go_mod (ge_bin go_pow (ge_bin go_add (ge_bin go_add (ge_bin go_mul (ge_var 3) (ge_bin go_add (ge_var 1) ge_int)) (ge_bin go_mod (ge_var 0) ge_int)) ge_int) ge_int) (ge_ix (ge_var 2) (ge_bin go_mod (ge_bin go_add (ge_var 1) ge_int) ge_int))))
    (gss_cons (gs_set 5 sc_law_spread.nd (ge_bin go_mod (ge_bin go_pow (ge_bin go_add (ge_bin go_add (ge_var 4) (ge_bin go_mod (ge_var 3) ge_int)) (ge_var 1)) ge_int) (ge_ix (ge_var 2) (ge_bin go_mod (ge_bin go_add (ge_var 1) ge_int) ge_int))))
    (gss_one (gs_ret (ge_bin go_add (ge_bin go_mul (ge_bin go_add (ge_bin go_mul (ge_var 3) ge_int) (ge_var 4)) ge_int) (ge_var 5)))))))))))
theorem ok_law_take (F : Fx Fr mg) : Callee P w Fr mg base "_law_take" 2 (c_law_take) :=
  callee_of (ps := ["pen", "amount"]) F.d_law_take sc_law_take (fun _ _ _ _ _ _ us hl => match us, hl with | [_, _], _ => rfl) (fun f cdv A outer s H E hr =>
    (gss_cons (gs_if (gt_cmp (go_lt) (ge_ix (ge_var 0) ge_int) (ge_var 1)) (gss_cons (gs_set 2 sc_law_take.nd (ge_ix (ge_var 0) ge_int))
    (gss_cons (gs_set 3 sc_law_take.nd ge_int)
    (gss_cons (gs_if (gt_cmp (go_lt) (ge_var 2) (ge_callB gc_len F.f_len (by decide +kernel) (ga_cons (ge_ix (ge_var 0) ge_int) ga_nil))) (gss_one (gs_set 3 sc_law_take.nd (ge_ix (ge_ix (ge_var 0) ge_int) (ge_var 2)))) (gss_one (gs_if (gt_cmp (go_gt) (ge_callB gc_len F.f_len (by decide +kernel) (ga_cons (ge_ix (ge_var 0) ge_int) ga_nil)) ge_int) (gss_one (gs_set 3 sc_law_take.nd (ge_bin go_mod (ge_ix (ge_ix (ge_var 0) ge_int) (ge_bin go_mod (ge_bin go_add (ge_bin go_mul (ge_var 2) ge_int) ge_int) (ge_callB gc_len F.f_len (by decide +kernel) (ga_cons (ge_ix (ge_var 0) ge_int) ga_nil)))) (ge_bin go_add (ge_bin go_pow ge_int ge_int) (ge_var 2))))) gss_nil)))
    (gss_cons (gs_asg (ge_bin go_add (ge_var 2) ge_int) (gg_ix (ge_var 0) ge_int))
    (gss_one (gs_asg (ge_callee (ok_law_spread F) hr (ga_cons (ge_var 3) (ga_cons (ge_var 2) ga_nil))) (gg_ix (ge_var 0) ge_int))))))) gss_nil)
    (gss_cons (gs_set 4 sc_law_take.nd (ge_bin go_mod (ge_ix (ge_var 0) ge_int) (ge_var 1)))
    (gss_cons (gs_asg (ge_bin go_div (ge_ix (ge_var 0) ge_int) (ge_var 1)) (gg_ix (ge_var 0) ge_int))
    (gss_one (gs_ret (ge_var 4)))))))
theorem ok_law_same (F : Fx Fr mg) : ∀ n, Callee P w Fr mg base "_law_same" (0 + n) (c_law_same n)
  | 0 => callee_no F.d_law_same ⟨["found", "due"], fun _ _ _ _ _ _ us hl => match us, hl with | [_, _], _ => rfl⟩
  | n + 1 => by
    have ih := ok_law_same F n
    exact callee_of (ps := ["found", "due"]) F.d_law_same sc_law_same (fun _ _ _ _ _ _ us hl => match us, hl with | [_, _], _ => rfl) (fun f cdv A outer s H E hr =>
    (gss_cons (gs_if (gt_w (gw_or (gt_cmp (go_is) (ge_var 1) ge_non) (gw_or1 (gt_cmp (go_is) (ge_var 0) ge_non)))) (gss_one (gs_ret (ge_and (ge_cmp (go_is) (ge_var 1) ge_non) (ge_one (ge_cmp (go_is) (ge_var 0) ge_non))))) gss_nil)
    (gss_cons (gs_if (gt_w (gw_or (gt_val (ge_isi .bl (ge_var 1) F.f_isinstance F.f_bool (by decide +kernel))) (gw_or1 (gt_val (ge_isi .bl (ge_var 0) F.f_isinstance F.f_bool (by decide +kernel)))))) (gss_one (gs_ret (ge_and (ge_isi .bl (ge_var 1) F.f_isinstance F.f_bool (by decide +kernel)) (ge_and (ge_isi .bl (ge_var 0) F.f_isinstance F.f_bool (by decide +kernel)) (ge_one (ge_cmp (go_eq hr.units) (ge_var 0) (ge_var 1))))))) gss_nil)
    (gss_cons (gs_if (gt_val (ge_isi2 .int .str (ge_var 1) F.f_isinstance F.f_int (by decide +kernel) F.f_str (by decide +kernel))) (gss_cons (gs_if (gt_cmp (go_ne hr.units) (ge_isi .int (ge_var 0) F.f_isinstance F.f_int (by decide +kernel)) (ge_isi .int (ge_var 1) F.f_isinstance F.f_int (by decide +kernel))) (gss_one (gs_ret ge_bl)) gss_nil)
    (gss_one (gs_ret (ge_and (ge_isi2 .int .str (ge_var 0) F.f_isinstance F.f_int (by decide +kernel) F.f_str (by decide +kernel)) (ge_one (ge_cmp (go_eq hr.units) (ge_var 0) (ge_var 1))))))) gss_nil)
    (gss_cons (gs_if (gt_w (gw_or (gt_cmp (go_ne hr.units) (ge_isi .tup (ge_var 1) F.f_isinstance F.f_tuple (by decide +kernel)) (ge_isi .tup (ge_var 0) F.f_isinstance F.f_tuple (by decide +kernel))) (gw_or1 (gt_cmp (go_ne hr.units) (ge_isi .lst (ge_var 1) F.f_isinstance F.f_list (by decide +kernel)) (ge_isi .lst (ge_var 0) F.f_isinstance F.f_list (by decide +kernel)))))) (gss_one (gs_ret ge_bl)) gss_nil)
    (gss_cons (gs_if (gt_cmp (go_ne hr.units) (ge_callB gc_len F.f_len (by decide +kernel) (ga_cons (ge_var 0) ga_nil)) (ge_callB gc_len F.f_len (by decide +kernel) (ga_cons (ge_var 1) ga_nil))) (gss_one (gs_ret ge_bl)) gss_nil)
    (gss_one (gs_ret (ge_cmp (go_notIn (room65 hr)) ge_bl (ge_fr (gf_comp (own := [("one", 2), ("other", 3)]) sc_law_same.nd (gi_zip (ge_var 0) (ge_var 1) F.f_zip) (blkOk_by (N := N_law_same) (sc := defScope s_law_same) (by decide +kernel)) (fun _ _ _ _ _ => (gc_tup rfl (gcs_cons (gc_name 2 sc_law_same.nd) (gcs_cons (gc_name 3 sc_law_same.nd) gcs_nil)))) (fun _ _ _ _ _ => gif_nil) (fun _ _ _ _ _ => (ge_callee ih hr (ga_cons (ge_var 2) (ga_cons (ge_var 3) ga_nil)) (Nat.le_refl _))))))))))))))
theorem ok_law_one_of (F : Fx Fr mg) : Callee P w Fr mg base "_law_one_of" 3 (c_law_one_of) :=
  callee_of (ps := ["pen", "some"]) F.d_law_one_of sc_law_one_of (fun _ _ _ _ _ _ us hl => match us, hl with | [_, _], _ => rfl) (fun f cdv A outer s H E hr =>
    (gss_one (gs_ret (ge_ix (ge_var 1) (ge_callee (ok_law_take F) hr (ga_cons (ge_var 0) (ga_cons (ge_callB gc_len F.f_len (by decide +kernel) (ga_cons (ge_var 1) ga_nil)) ga_nil)))))))
theorem ok_law_divisor (F : Fx Fr mg) : Callee P w Fr mg base "_law_divisor" 1 (c_law_divisor) :=
  callee_of (ps := ["numbers"]) F.d_law_divisor sc_law_divisor (fun _ _ _ _ _ _ us hl => match us, hl with | [_], _ => rfl) (fun f cdv A outer s H E hr =>
    (gss_cons (gs_set 1 sc_law_divisor.nd ge_int)
    (gss_cons (gs_for PassesOwn.never (gi_val (ge_var 0)) (gg_name 2 sc_law_divisor.nd) (gss_cons (gs_par 3 4 sc_law_divisor.nd (ge_callB gc_abs F.f_abs (by decide +kernel) (ga_cons (ge_var 2) ga_nil)) (ge_var 1))
    (gss_cons (gs_while PassesOwn.never (gt_cmp (go_ne hr.units) (ge_var 4) ge_int) (gss_one (gs_par 3 4 sc_law_divisor.nd (ge_var 4) (ge_bin go_mod (ge_var 3) (ge_var 4)))))
    (gss_one (gs_set 1 sc_law_divisor.nd (ge_var 3))))))
    (gss_one (gs_ret (ge_var 1))))))
theorem ok_law_plain (F : Fx Fr mg) : Callee P w Fr mg base "_law_plain" 2 (c_law_plain) :=
  callee_of (ps := ["unit", "widths"]) F.d_law_plain sc_law_plain (fun _ _ _ _ _ _ us hl => match us, hl with | [_, _], _ => rfl) (fun f cdv A outer s H E hr =>
    (gss_cons (gs_set 2 sc_law_plain.nd (ge_callee (ok_law_divisor F) hr (ga_cons (ge_bin go_add (ge_fr (gf_lst (ga_cons (ge_var 0) ga_nil))) (ge_fr (gf_list (ge_var 1) F.f_list))) ga_nil)))
    (gss_one (gs_ret (ge_tup (ga_cons (ge_bin go_div (ge_var 0) (ge_var 2)) (ga_cons (ge_callT gc_tuple F.f_tuple (by decide +kernel) (ga_cons (ge_fr (gf_comp (own := [("wide", 3)]) sc_law_plain.nd (gi_val (ge_var 1)) (blkOk_by (N := N_law_plain) (sc := defScope s_law_plain) (by decide +kernel)) (fun _ _ _ _ _ => (gc_name 3 sc_law_plain.nd)) (fun _ _ _ _ _ => gif_nil) (fun _ _ _ _ _ => (ge_bin go_div (ge_var 3) (ge_var 2))))) ga_nil)) ga_nil)))))))
theorem ok_law_draw_font (F : Fx Fr mg) : Callee P w Fr mg base "_law_draw_font" 4 (c_law_draw_font) :=
  callee_of (ps := ["pen", "size"]) F.d_law_draw_font sc_law_draw_font (fun _ _ _ _ _ _ us hl => match us, hl with | [_, _], _ => rfl) (fun f cdv A outer s H E hr =>
    (gss_cons (gs_set 2 sc_law_draw_font.nd (ge_callee (ok_law_one_of F) hr (ga_cons (ge_var 0) (ga_cons (ge_fr (gf_lst (ga_cons ge_int (ga_cons ge_int (ga_cons ge_int (ga_cons ge_int (ga_cons ge_int ga_nil))))))) ga_nil))))
    (gss_cons (gs_setLc 3 (own := [("sign", 4)]) sc_law_draw_font.nd (gi_range1 (ge_var 1) F.f_range) (blkOk_by (N := N_law_draw_font) (sc := defScope s_law_draw_font) (by decide +kernel)) (fun _ _ _ _ _ => (gc_name 4 sc_law_draw_font.nd)) (fun _ _ _ _ _ => gif_nil) (fun _ _ _ _ _ => (ge_callee (ok_law_one_of F) hr (ga_cons (ge_var 0) (ga_cons (ge_fr (gf_lst (ga_cons ge_int (ga_cons (ge_var 2) (ga_cons (ge_bin go_mul ge_int (ge_var 2)) (ga_cons (ge_callee (ok_law_take F) hr (ga_cons (ge_var 0) (ga_cons (ge_bin go_add (ge_bin go_mul ge_int (ge_var 2)) ge_int) ga_nil))) ga_nil)))))) ga_nil)))) (sw_true rfl rfl rfl (by decide +kernel)))
    (gss_one (gs_ret (ge_callee (ok_law_plain F) hr (ga_cons (ge_var 2) (ga_cons (ge_fr (gf_comp (own := [("wide", 5)]) sc_law_draw_font.nd (gi_val (ge_var 3)) (blkOk_by (N := N_law_draw_font) (sc := defScope s_law_draw_font) (by decide +kernel)) (fun _ _ _ _ _ => (gc_name 5 sc_law_draw_font.nd)) (fun _ _ _ _ _ => gif_nil) (fun _ _ _ _ _ => (ge_callB (gc_min2 rfl) F.f_min (by decide +kernel) (ga_cons (ge_var 5) (ga_cons (ge_bin go_mul (ge_callee (ok_law_one_of F) hr (ga_cons (ge_var 0) (ga_cons (ge_fr (gf_lst (ga_cons ge_int (ga_cons ge_int (ga_cons ge_int ga_nil))))) ga_nil))) (ge_var 2)) ga_nil)))))) ga_nil))))))))
theorem ok_law_sum (F : Fx Fr mg) : Callee P w Fr mg base "_law_sum" 1 (c_law_sum) :=
  callee_of (ps := ["factors", "font"]) F.d_law_sum sc_law_sum (fun _ _ _ _ _ _ us hl => match us, hl with | [_, _], _ => rfl) (fun f cdv A outer s H E hr =>
    (gss_one (gs_ret (ge_callB (gc_sum rfl) F.f_sum (by decide +kernel) (ga_cons (ge_fr (gf_comp (own := [("factor", 2), ("wide", 3)]) sc_law_sum.nd (gi_zip (ge_var 0) (ge_ix (ge_var 1) ge_int) F.f_zip) (blkOk_by (N := N_law_sum) (sc := defScope s_law_sum) (by decide +kernel)) (fun _ _ _ _ _ => (gc_tup rfl (gcs_cons (gc_name 2 sc_law_sum.nd) (gcs_cons (gc_name 3 sc_law_sum.nd) gcs_nil)))) (fun _ _ _ _ _ => gif_nil) (fun _ _ _ _ _ => (ge_bin go_mul (ge_var 2) (ge_var 3))))) ga_nil)))))
theorem ok_law_holds (F : Fx Fr mg) : Callee P w Fr mg base "_law_holds" 2 (c_law_holds) :=
  callee_of (ps := ["condition", "font"]) F.d_law_holds sc_law_holds (fun _ _ _ _ _ _ us hl => match us, hl with | [_, _], _ => rfl) (fun f cdv A outer s H E hr =>
    (gss_cons (gs_par 2 3 sc_law_holds.nd (ge_callee (ok_law_sum F) hr (ga_cons (ge_ix (ge_var 0) ge_int) (ga_cons (ge_var 1) ga_nil))) (ge_bin go_mul (ge_ix (ge_var 0) ge_int) (ge_ix (ge_var 1) ge_int)))
    (gss_one (gs_ret (ge_if (gt_val (ge_ix (ge_var 0) ge_int)) (ge_cmp (go_lt) (ge_var 2) (ge_var 3)) (ge_cmp (go_le) (ge_var 2) (ge_var 3)))))))
theorem ok_law_draw_condition (F : Fx Fr mg) : Callee P w Fr mg base "_law_draw_condition" 4 (c_law_draw_condition) :=
  callee_of (ps := ["pen", "font"]) F.d_law_draw_condition sc_law_draw_condition (fun _ _ _ _ _ _ us hl => match us, hl with | [_, _], _ => rfl) (fun f cdv A outer s H E hr =>
    (gss_cons (gs_set 2 sc_law_draw_condition.nd (ge_callee (ok_law_one_of F) hr (ga_cons (ge_var 0) (ga_cons (ge_fr (gf_lst (ga_cons ge_int (ga_cons ge_int (ga_cons ge_int (ga_cons ge_int (ga_cons ge_int (ga_cons ge_int ga_nil)))))))) ga_nil))))
    (gss_cons (gs_set 3 sc_law_draw_condition.nd (ge_callT gc_tuple F.f_tuple (by decide +kernel) (ga_cons (ge_fr (gf_comp (own := [("wide", 6)]) sc_law_draw_condition.nd (gi_val (ge_ix (ge_var 1) ge_int)) (blkOk_by (N := N_law_draw_condition) (sc := defScope s_law_draw_condition) (by decide +kernel)) (fun _ _ _ _ _ => (gc_name 6 sc_law_draw_condition.nd)) (fun _ _ _ _ _ => gif_nil) (fun _ _ _ _ _ => (ge_callee (ok_law_one_of F) hr (ga_cons (ge_var 0) (ga_cons (ge_fr (gf_lst (ga_cons ge_int (ga_cons ge_int (ga_cons ge_negi (ga_cons (ge_bin go_sub (ge_callee (ok_law_take F) hr (ga_cons (ge_var 0) (ga_cons (ge_bin go_add (ge_bin go_mul ge_int (ge_var 2)) ge_int) ga_nil))) (ge_var 2)) ga_nil)))))) ga_nil)))))) ga_nil)))
    (gss_cons (gs_set 4 sc_law_draw_condition.nd (ge_bin go_div (ge_callee (ok_law_sum F) hr (ga_cons (ge_var 3) (ga_cons (ge_var 1) ga_nil))) (ge_ix (ge_var 1) ge_int)))
    (gss_cons (gs_set 5 sc_law_draw_condition.nd (ge_callB (gc_max2 rfl) F.f_max (by decide +kernel) (ga_cons ge_negi (ga_cons (ge_callB (gc_min2 rfl) F.f_min (by decide +kernel) (ga_cons ge_int (ga_cons (ge_bin go_add (ge_var 4) (ge_callee (ok_law_one_of F) hr (ga_cons (ge_var 0) (ga_cons (ge_fr (gf_lst (ga_cons ge_int (ga_cons ge_int (ga_cons ge_int (ga_cons ge_int (ga_cons ge_int (ga_cons (ge_callee (ok_law_take F) hr (ga_cons (ge_var 0) (ga_cons ge_int ga_nil))) (ga_cons ge_negi ga_nil))))))))) ga_nil)))) ga_nil))) ga_nil))))
    (gss_one (gs_ret (ge_tup (ga_cons (ge_var 3) (ga_cons (ge_var 5) (ga_cons (ge_cmp (go_eq hr.units) (ge_callee (ok_law_take F) hr (ga_cons (ge_var 0) (ga_cons ge_int ga_nil))) ge_int) ga_nil)))))))))))
theorem ok_law_draw_letters (F : Fx Fr mg) : Callee P w Fr mg base "_law_draw_letters" 4 (c_law_draw_letters) :=
  callee_of (ps := ["pen"]) F.d_law_draw_letters sc_law_draw_letters (fun _ _ _ _ _ _ us hl => match us, hl with | [_], _ => rfl) (fun f cdv A outer s H E hr =>
    (gss_one (gs_ret (ge_callee (ok_law_one_of F) hr (ga_cons (ge_var 0) (ga_cons (ge_fr (gf_lst (ga_cons ge_str (ga_cons ge_str (ga_cons ge_str (ga_cons ge_str (ga_cons ge_str (ga_cons ge_str (ga_cons ge_str (ga_cons ge_str (ga_cons ge_str (ga_cons ge_str (ga_cons ge_str (ga_cons ge_str (ga_cons ge_str ga_nil))))))))))))))) ga_nil))))))
theorem ok_law_draw_knowledge (F : Fx Fr mg) : Callee P w Fr mg base "_law_draw_knowledge" 5 (c_law_draw_knowledge) :=
  callee_of (ps := ["pen", "facts"]) F.d_law_draw_knowledge sc_law_draw_knowledge (fun _ _ _ _ _ _ us hl => match us, hl with | [_, _], _ => rfl) (fun f cdv A outer s H E hr =>
    (gss_cons (gs_set 2 sc_law_draw_knowledge.nd (ge_join ge_str (ga_cons (ge_fr (gf_sorted (ge_callee (ok_law_draw_letters F) hr (ga_cons (ge_var 0) ga_nil)) F.f_sorted)) ga_nil)))
    (gss_cons (gs_par 3 4 sc_law_draw_knowledge.nd (ge_callee (ok_law_draw_font F) hr (ga_cons (ge_var 0) (ga_cons (ge_bin go_add (ge_callB gc_len F.f_len (by decide +kernel) (ga_cons (ge_var 2) ga_nil)) ge_int) ga_nil))) (ge_lv (gf_lst ga_nil)))
    (gss_cons (gs_set 5 sc_law_draw_knowledge.nd (ge_cmp (go_gt) (ge_callee (ok_law_take F) hr (ga_cons (ge_var 0) (ga_cons ge_int ga_nil))) ge_int))
    (gss_cons (gs_for PassesOwn.never (gi_range1 (ge_callee (ok_law_take F) hr (ga_cons (ge_var 0) (ga_cons (ge_bin go_add (ge_var 1) ge_int) ga_nil))) F.f_range) (gg_name 6 sc_law_draw_knowledge.nd) (gss_cons (gs_set 7 sc_law_draw_knowledge.nd (ge_callee (ok_law_draw_condition F) hr (ga_cons (ge_var 0) (ga_cons (ge_var 3) ga_nil))))
    (gss_one (gs_if (gt_w (gw_or (gt_not (gt_val (ge_var 5))) (gw_or1 (gt_val (ge_callee (ok_law_holds F) hr (ga_cons (ge_var 7) (ga_cons (ge_var 3) ga_nil))))))) (gss_one (gs_expr (ge_app (ge_var 4) (ge_var 7)))) gss_nil))))
    (gss_one (gs_ret (ge_tup (ga_cons (ge_var 2) (ga_cons (ge_callT gc_tuple F.f_tuple (by decide +kernel) (ga_cons (ge_var 4) ga_nil)) ga_nil))))))))))
theorem ok_law_is_font (F : Fx Fr mg) : Callee P w Fr mg base "_law_is_font" 2 (c_law_is_font) :=
  callee_of (ps := ["letters", "value"]) F.d_law_is_font sc_law_is_font (fun _ _ _ _ _ _ us hl => match us, hl with | [_, _], _ => rfl) (fun f cdv A outer s H E hr =>
    (gss_cons (gs_if (gt_w (gw_or (gt_not (gt_val (ge_isi .tup (ge_var 1) F.f_isinstance F.f_tuple (by decide +kernel)))) (gw_or (gt_cmp (go_ne hr.units) (ge_callB gc_len F.f_len (by decide +kernel) (ga_cons (ge_var 1) ga_nil)) ge_int) (gw_or1 (gt_not (gt_val (ge_isi .tup (ge_ix (ge_var 1) ge_int) F.f_isinstance F.f_tuple (by decide +kernel)))))))) (gss_one (gs_ret ge_bl)) gss_nil)
    (gss_cons (gs_set 2 sc_law_is_font.nd (ge_bin go_add (ge_tup (ga_cons (ge_ix (ge_var 1) ge_int) ga_nil)) (ge_ix (ge_var 1) ge_int)))
    (gss_cons (gs_if (gt_cmp (go_neN hr.units) (ge_fr (gf_comp (own := [("one", 3)]) sc_law_is_font.nd (gi_val (ge_var 2)) (blkOk_by (N := N_law_is_font) (sc := defScope s_law_is_font) (by decide +kernel)) (fun _ _ _ _ _ => (gc_name 3 sc_law_is_font.nd)) (fun _ _ _ _ _ => (gif_one (gt_w (gw_or (gt_not (gt_val (ge_isi .int (ge_var 3) F.f_isinstance F.f_int (by decide +kernel)))) (gw_or1 (gt_val (ge_isi .bl (ge_var 3) F.f_isinstance F.f_bool (by decide +kernel)))))))) (fun _ _ _ _ _ => (ge_var 3)))) (ge_fr (gf_lst ga_nil))) (gss_one (gs_ret ge_bl)) gss_nil)
    (gss_cons (gs_if (gt_w (gw_or (gt_cmp (go_lt) (ge_ix (ge_var 1) ge_int) ge_int) (gw_or (gt_cmp (go_ne hr.units) (ge_callB gc_len F.f_len (by decide +kernel) (ga_cons (ge_ix (ge_var 1) ge_int) ga_nil)) (ge_bin go_add (ge_callB gc_len F.f_len (by decide +kernel) (ga_cons (ge_var 0) ga_nil)) ge_int)) (gw_or1 (gt_cmp (go_ne hr.units) (ge_callee (ok_law_divisor F) hr (ga_cons (ge_var 2) ga_nil)) ge_int))))) (gss_one (gs_ret ge_bl)) gss_nil)
    (gss_one (gs_ret (ge_cmp (go_eqN hr.units) (ge_fr (gf_comp (own := [("one", 3)]) sc_law_is_font.nd (gi_val (ge_ix (ge_var 1) ge_int)) (blkOk_by (N := N_law_is_font) (sc := defScope s_law_is_font) (by decide +kernel)) (fun _ _ _ _ _ => (gc_name 3 sc_law_is_font.nd)) (fun _ _ _ _ _ => (gif_one (gt_not (gt_chain (go_le) (go_le) ge_int (ge_var 3) (ge_bin go_mul ge_int (ge_ix (ge_var 1) ge_int)))))) (fun _ _ _ _ _ => (ge_var 3)))) (ge_fr (gf_lst ga_nil))))))))))
theorem ok_law_is_between (F : Fx Fr mg) : Callee P w Fr mg base "_law_is_between" 1 (c_law_is_between) :=
  callee_of (ps := ["value", "low", "high"]) F.d_law_is_between sc_law_is_between (fun _ _ _ _ _ _ us hl => match us, hl with | [_, _, _], _ => rfl) (fun f cdv A outer s H E hr =>
    (gss_one (gs_ret (ge_and (ge_isi .int (ge_var 0) F.f_isinstance F.f_int (by decide +kernel)) (ge_and (ge_not (ge_isi .bl (ge_var 0) F.f_isinstance F.f_bool (by decide +kernel))) (ge_one (ge_chain (go_le) (go_le) (ge_var 1) (ge_var 0) (ge_var 2))))))))
theorem ok_law_is_condition (F : Fx Fr mg) : Callee P w Fr mg base "_law_is_condition" 2 (c_law_is_condition) :=
  callee_of (ps := ["letters", "value"]) F.d_law_is_condition sc_law_is_condition (fun _ _ _ _ _ _ us hl => match us, hl with | [_, _], _ => rfl) (fun f cdv A outer s H E hr =>
    (gss_cons (gs_if (gt_w (gw_or (gt_not (gt_val (ge_isi .tup (ge_var 1) F.f_isinstance F.f_tuple (by decide +kernel)))) (gw_or (gt_cmp (go_ne hr.units) (ge_callB gc_len F.f_len (by decide +kernel) (ga_cons (ge_var 1) ga_nil)) ge_int) (gw_or1 (gt_not (gt_val (ge_isi .tup (ge_ix (ge_var 1) ge_int) F.f_isinstance F.f_tuple (by decide +kernel)))))))) (gss_one (gs_ret ge_bl)) gss_nil)
    (gss_cons (gs_if (gt_w (gw_or (gt_cmp (go_ne hr.units) (ge_callB gc_len F.f_len (by decide +kernel) (ga_cons (ge_ix (ge_var 1) ge_int) ga_nil)) (ge_bin go_add (ge_callB gc_len F.f_len (by decide +kernel) (ga_cons (ge_var 0) ga_nil)) ge_int)) (gw_or1 (gt_cmp (go_in (room65 hr)) ge_bl (ge_fr (gf_comp (own := [("one", 2)]) sc_law_is_condition.nd (gi_val (ge_ix (ge_var 1) ge_int)) (blkOk_by (N := N_law_is_condition) (sc := defScope s_law_is_condition) (by decide +kernel)) (fun _ _ _ _ _ => (gc_name 2 sc_law_is_condition.nd)) (fun _ _ _ _ _ => gif_nil) (fun _ _ _ _ _ => (ge_callee (ok_law_is_between F) hr (ga_cons (ge_var 2) (ga_cons ge_negi (ga_cons ge_int ga_nil))))))))))) (gss_one (gs_ret ge_bl)) gss_nil)
    (gss_one (gs_ret (ge_and (ge_callee (ok_law_is_between F) hr (ga_cons (ge_ix (ge_var 1) ge_int) (ga_cons ge_negi (ga_cons ge_int ga_nil)))) (ge_one (ge_isi .bl (ge_ix (ge_var 1) ge_int) F.f_isinstance F.f_bool (by decide +kernel)))))))))
theorem ok_law_is_knowledge (F : Fx Fr mg) : Callee P w Fr mg base "_law_is_knowledge" 3 (c_law_is_knowledge) :=
  callee_of (ps := ["value"]) F.d_law_is_knowledge sc_law_is_knowledge (fun _ _ _ _ _ _ us hl => match us, hl with | [_], _ => rfl) (fun f cdv A outer s H E hr =>
    (gss_cons (gs_if (gt_w (gw_or (gt_not (gt_val (ge_isi .tup (ge_var 0) F.f_isinstance F.f_tuple (by decide +kernel)))) (gw_or (gt_cmp (go_ne hr.units) (ge_callB gc_len F.f_len (by decide +kernel) (ga_cons (ge_var 0) ga_nil)) ge_int) (gw_or1 (gt_not (gt_val (ge_isi .str (ge_ix (ge_var 0) ge_int) F.f_isinstance F.f_str (by decide +kernel)))))))) (gss_one (gs_ret ge_bl)) gss_nil)
    (gss_cons (gs_asg (ge_var 0) (gg_tup rfl (ggs_cons (gg_name 1 sc_law_is_knowledge.nd) (ggs_cons (gg_name 2 sc_law_is_knowledge.nd) ggs_nil))))
    (gss_cons (gs_if (gt_w (gw_or (gt_not (gt_chain (go_le) (go_le) ge_int (ge_callB gc_len F.f_len (by decide +kernel) (ga_cons (ge_var 1) ga_nil)) ge_int)) (gw_or1 (gt_cmp (go_ne hr.units) (ge_fr (gf_list (ge_var 1) F.f_list)) (ge_fr (gf_srtSetT (ge_var 1) F.f_sorted F.f_set)))))) (gss_one (gs_ret ge_bl)) gss_nil)
    (gss_cons (gs_if (gt_w (gw_or (gt_cmp (go_ne hr.units) (ge_fr (gf_comp (own := [("one", 3)]) sc_law_is_knowledge.nd (gi_val (ge_var 1)) (blkOk_by (N := N_law_is_knowledge) (sc := defScope s_law_is_knowledge) (by decide +kernel)) (fun _ _ _ _ _ => (gc_name 3 sc_law_is_knowledge.nd)) (fun _ _ _ _ _ => (gif_one (gt_not (gt_chain (go_le) (go_le) ge_str (ge_var 3) ge_str)))) (fun _ _ _ _ _ => (ge_var 3)))) (ge_fr (gf_lst ga_nil))) (gw_or (gt_not (gt_val (ge_isi .tup (ge_var 2) F.f_isinstance F.f_tuple (by decide +kernel)))) (gw_or1 (gt_cmp (go_gt) (ge_callB gc_len F.f_len (by decide +kernel) (ga_cons (ge_var 2) ga_nil)) ge_int))))) (gss_one (gs_ret ge_bl)) gss_nil)
    (gss_one (gs_ret (ge_cmp (go_notIn (room65 hr)) ge_bl (ge_fr (gf_comp (own := [("fact", 4)]) sc_law_is_knowledge.nd (gi_val (ge_var 2)) (blkOk_by (N := N_law_is_knowledge) (sc := defScope s_law_is_knowledge) (by decide +kernel)) (fun _ _ _ _ _ => (gc_name 4 sc_law_is_knowledge.nd)) (fun _ _ _ _ _ => gif_nil) (fun _ _ _ _ _ => (ge_callee (ok_law_is_condition F) hr (ga_cons (ge_var 1) (ga_cons (ge_var 4) ga_nil))))))))))))))
theorem ok_law_bend (F : Fx Fr mg) : ∀ n, Callee P w Fr mg base "_law_bend" (3 + n) (c_law_bend n)
  | 0 => callee_no F.d_law_bend ⟨["pen", "value"], fun _ _ _ _ _ _ us hl => match us, hl with | [_, _], _ => rfl⟩
  | n + 1 => by
    have ih := ok_law_bend F n
    exact callee_of (ps := ["pen", "value"]) F.d_law_bend sc_law_bend (fun _ _ _ _ _ _ us hl => match us, hl with | [_, _], _ => rfl) (fun f cdv A outer s H E hr =>
    (gss_cons (gs_if (gt_w (gw_or (gt_not (gt_val (ge_isi .tup (ge_var 1) F.f_isinstance F.f_tuple (by decide +kernel)))) (gw_or (gt_cmp (go_eqN hr.units) (ge_var 1) (ge_tup ga_nil)) (gw_or1 (gt_cmp (go_eq hr.units) (ge_callee (ok_law_take F) hr (ga_cons (ge_var 0) (ga_cons ge_int ga_nil)) (by first | omega | exact Nat.le_trans (by decide) (Nat.le_add_right _ _))) ge_int))))) (gss_cons (gs_set 2 sc_law_bend.nd (ge_fr (gf_lst (ga_cons ge_non (ga_cons ge_bl (ga_cons ge_bl (ga_cons ge_int (ga_cons ge_int (ga_cons ge_int (ga_cons ge_negi (ga_cons ge_int (ga_cons ge_int (ga_cons ge_int (ga_cons ge_int (ga_cons ge_negi (ga_cons ge_negi (ga_cons ge_int (ga_cons ge_int (ga_cons ge_negi (ga_cons ge_negi (ga_cons ge_str (ga_cons ge_str (ga_cons ge_str ga_nil)))))))))))))))))))))))
    (gss_one (gs_ret (ge_callee (ok_law_one_of F) hr (ga_cons (ge_var 0) (ga_cons (ge_bin go_add (ge_var 2) (ge_fr (gf_lst (ga_cons ge_str (ga_cons ge_str (ga_cons ge_str (ga_cons ge_str (ga_cons ge_str (ga_cons (ge_tup ga_nil) (ga_cons (ge_fr (gf_lst ga_nil)) (ga_cons ge_d0 (ga_cons ge_str (ga_cons (ge_tup (ga_cons ge_int (ga_cons ge_int ga_nil))) ga_nil))))))))))))) ga_nil)) (by first | omega | exact Nat.le_trans (by decide) (Nat.le_add_right _ _)))))) gss_nil)
    (gss_cons (gs_par 3 4 sc_law_bend.nd (ge_callee (ok_law_take F) hr (ga_cons (ge_var 0) (ga_cons (ge_callB gc_len F.f_len (by decide +kernel) (ga_cons (ge_var 1) ga_nil)) ga_nil)) (by first | omega | exact Nat.le_trans (by decide) (Nat.le_add_right _ _))) (ge_callee (ok_law_take F) hr (ga_cons (ge_var 0) (ga_cons ge_int ga_nil)) (by first | omega | exact Nat.le_trans (by decide) (Nat.le_add_right _ _))))
    (gss_cons (gs_if (gt_cmp (go_lt) (ge_var 4) ge_int) (gss_one (gs_ret (ge_bin go_add (ge_bin go_add (ge_sl (ge_var 1) gp_no (gp_so (ge_var 3))) (ge_tup (ga_cons (ge_callee ih hr (ga_cons (ge_var 0) (ga_cons (ge_ix (ge_var 1) (ge_var 3)) ga_nil)) (Nat.le_refl _)) ga_nil))) (ge_sl (ge_var 1) (gp_so (ge_bin go_add (ge_var 3) ge_int)) gp_no)))) gss_nil)
    (gss_one (gs_ret (ge_ix (ge_fr (gf_lst (ga_cons (ge_bin go_add (ge_sl (ge_var 1) gp_no (gp_so (ge_var 3))) (ge_sl (ge_var 1) (gp_so (ge_bin go_add (ge_var 3) ge_int)) gp_no)) (ga_cons (ge_bin go_add (ge_sl (ge_var 1) gp_no (gp_so (ge_bin go_add (ge_var 3) ge_int))) (ge_sl (ge_var 1) (gp_so (ge_var 3)) gp_no)) (ga_cons (ge_fr (gf_list (ge_var 1) F.f_list)) ga_nil))))) (ge_bin go_sub (ge_var 4) ge_int))))))))
theorem ok_law_any_letters (F : Fx Fr mg) : Callee P w Fr mg base "_law_any_letters" 4 (c_law_any_letters) :=
  callee_of (ps := ["pen"]) F.d_law_any_letters sc_law_any_letters (fun _ _ _ _ _ _ us hl => match us, hl with | [_], _ => rfl) (fun f cdv A outer s H E hr =>
    (gss_cons (gs_set 1 sc_law_any_letters.nd ge_str)
    (gss_one (gs_ret (ge_join ge_str (ga_cons (ge_fr (gf_srtSetT (ge_fr (gf_comp (own := [("again", 2)]) sc_law_any_letters.nd (gi_range1 (ge_bin go_add ge_int (ge_callee (ok_law_take F) hr (ga_cons (ge_var 0) (ga_cons ge_int ga_nil)))) F.f_range) (blkOk_by (N := N_law_any_letters) (sc := defScope s_law_any_letters) (by decide +kernel)) (fun _ _ _ _ _ => (gc_name 2 sc_law_any_letters.nd)) (fun _ _ _ _ _ => gif_nil) (fun _ _ _ _ _ => (ge_callee (ok_law_one_of F) hr (ga_cons (ge_var 0) (ga_cons (ge_var 1) ga_nil)))))) F.f_sorted F.f_set)) ga_nil))))))
theorem ok_law_fonts_near (F : Fx Fr mg) : Callee P w Fr mg base "_law_fonts_near" 16 (c_law_fonts_near) :=
  callee_of (ps := ["pen", "letters", "font"]) F.d_law_fonts_near sc_law_fonts_near (fun _ _ _ _ _ _ us hl => match us, hl with | [_, _, _], _ => rfl) (fun f cdv A outer s H E hr =>
    (gss_cons (gs_asg (ge_var 2) (gg_tup rfl (ggs_cons (gg_name 3 sc_law_fonts_near.nd) (ggs_cons (gg_name 4 sc_law_fonts_near.nd) ggs_nil))))
    (gss_cons (gs_set 5 sc_law_fonts_near.nd (ge_callee (ok_law_one_of F) hr (ga_cons (ge_var 0) (ga_cons (ge_fr (gf_lst (ga_cons ge_int (ga_cons ge_int (ga_cons ge_int (ga_cons ge_int (ga_cons ge_int (ga_cons ge_int (ga_cons ge_int (ga_cons ge_int (ga_cons ge_int ga_nil))))))))))) ga_nil))))
    (gss_cons (gs_set 6 sc_law_fonts_near.nd (ge_fr (gf_lst (ga_cons (ge_var 2) (ga_cons (ge_tup (ga_cons (ge_bin go_mul (ge_var 3) (ge_var 5)) (ga_cons (ge_callT gc_tuple F.f_tuple (by decide +kernel) (ga_cons (ge_fr (gf_comp (own := [("one", 9)]) sc_law_fonts_near.nd (gi_val (ge_var 4)) (blkOk_by (N := N_law_fonts_near) (sc := defScope s_law_fonts_near) (by decide +kernel)) (fun _ _ _ _ _ => (gc_name 9 sc_law_fonts_near.nd)) (fun _ _ _ _ _ => gif_nil) (fun _ _ _ _ _ => (ge_bin go_mul (ge_var 5) (ge_var 9))))) ga_nil)) ga_nil))) (ga_cons (ge_tup (ga_cons (ge_var 3) (ga_cons (ge_revT (ge_var 4)) ga_nil))) (ga_cons (ge_tup (ga_cons ge_int (ga_cons (ge_var 4) ga_nil))) (ga_cons (ge_tup (ga_cons ge_negi (ga_cons (ge_var 4) ga_nil))) ga_nil))))))))
    (gss_cons (gs_set 6 sc_law_fonts_near.nd (ge_bin go_add (ge_bin go_add (ge_var 6) (ge_fr (gf_comp (own := [("again", 10)]) sc_law_fonts_near.nd (gi_range1 ge_int F.f_range) (blkOk_by (N := N_law_fonts_near) (sc := defScope s_law_fonts_near) (by decide +kernel)) (fun _ _ _ _ _ => (gc_name 10 sc_law_fonts_near.nd)) (fun _ _ _ _ _ => gif_nil) (fun _ _ _ _ _ => (ge_callee (ok_law_bend F 12) hr (ga_cons (ge_var 0) (ga_cons (ge_var 2) ga_nil))))))) (ge_fr (gf_lst (ga_cons (ge_tup (ga_cons (ge_var 3) (ga_cons (ge_callT gc_tuple F.f_tuple (by decide +kernel) (ga_cons (ge_bin go_mul (ge_fr (gf_lst (ga_cons (ge_bin go_add (ge_bin go_mul ge_int (ge_var 3)) ge_int) ga_nil))) (ge_callB gc_len F.f_len (by decide +kernel) (ga_cons (ge_var 4) ga_nil))) ga_nil)) ga_nil))) ga_nil)))))
    (gss_cons (gs_set 7 sc_law_fonts_near.nd (ge_bin go_add (ge_bin go_pow ge_int ge_int) (ge_callee (ok_law_take F) hr (ga_cons (ge_var 0) (ga_cons (ge_bin go_pow ge_int ge_int) ga_nil)))))
    (gss_cons (gs_set 8 sc_law_fonts_near.nd (ge_callee (ok_law_plain F) hr (ga_cons (ge_var 7) (ga_cons (ge_fr (gf_comp (own := [("sign", 11)]) sc_law_fonts_near.nd (gi_val (ge_bin go_add ge_str (ge_var 1))) (blkOk_by (N := N_law_fonts_near) (sc := defScope s_law_fonts_near) (by decide +kernel)) (fun _ _ _ _ _ => (gc_name 11 sc_law_fonts_near.nd)) (fun _ _ _ _ _ => gif_nil) (fun _ _ _ _ _ => (ge_callee (ok_law_take F) hr (ga_cons (ge_var 0) (ga_cons (ge_bin go_add (ge_bin go_mul ge_int (ge_var 7)) ge_int) ga_nil)))))) ga_nil))))
    (gss_cons (gs_set 6 sc_law_fonts_near.nd (ge_bin go_add (ge_var 6) (ge_fr (gf_lst (ga_cons (ge_var 8) (ga_cons (ge_tup (ga_cons (ge_bin go_mul (ge_ix (ge_var 8) ge_int) (ge_bin go_add (ge_bin go_pow ge_int ge_int) ge_int)) (ga_cons (ge_callT gc_tuple F.f_tuple (by decide +kernel) (ga_cons (ge_fr (gf_comp (own := [("one", 9)]) sc_law_fonts_near.nd (gi_val (ge_ix (ge_var 8) ge_int)) (blkOk_by (N := N_law_fonts_near) (sc := defScope s_law_fonts_near) (by decide +kernel)) (fun _ _ _ _ _ => (gc_name 9 sc_law_fonts_near.nd)) (fun _ _ _ _ _ => gif_nil) (fun _ _ _ _ _ => (ge_bin go_mul (ge_var 9) (ge_bin go_add (ge_bin go_pow ge_int ge_int) ge_int))))) ga_nil)) ga_nil))) ga_nil))))))
    (gss_one (gs_ret (ge_bin go_add (ge_var 6) (ge_fr (gf_lst (ga_cons (ge_tup (ga_cons (ge_var 3) (ga_cons (ge_bin go_add (ge_var 4) (ge_tup (ga_cons (ge_bin go_add (ge_bin go_mul ge_int (ge_var 3)) ge_int) ga_nil))) ga_nil))) (ga_cons (ge_tup (ga_cons (ge_var 3) (ga_cons (ge_bin go_add (ge_sl (ge_var 4) (gp_so ge_int) (gp_so ge_negi)) (ge_tup (ga_cons ge_negi ga_nil))) ga_nil))) (ga_cons (ge_callee (ok_law_bend F 12) hr (ga_cons (ge_var 0) (ga_cons (ge_ix (ge_var 6) ge_int) ga_nil))) ga_nil))))))))))))))))
theorem ok_law_values_near (F : Fx Fr mg) : Callee P w Fr mg base "_law_values_near" 16 (c_law_values_near) :=
  callee_of (ps := ["pen", "knowledge"]) F.d_law_values_near sc_law_values_near (fun _ _ _ _ _ _ us hl => match us, hl with | [_, _], _ => rfl) (fun f cdv A outer s H E hr =>
    (gss_cons (gs_asg (ge_var 1) (gg_tup rfl (ggs_cons (gg_name 2 sc_law_values_near.nd) (ggs_cons (gg_name 3 sc_law_values_near.nd) ggs_nil))))
    (gss_cons (gs_par 4 5 sc_law_values_near.nd (ge_fr (gf_lst (ga_cons (ge_var 1) (ga_cons (ge_tup (ga_cons (ge_var 2) (ga_cons (ge_bin go_mulZ (ge_var 3) ge_int) ga_nil))) (ga_cons (ge_tup (ga_cons (ge_revS (ge_var 2)) (ga_cons (ge_var 3) ga_nil))) ga_nil))))) (ge_callee (ok_law_take F) hr (ga_cons (ge_var 0) (ga_cons (ge_callB gc_len F.f_len (by decide +kernel) (ga_cons (ge_var 2) ga_nil)) ga_nil))))
    (gss_cons (gs_set 4 sc_law_values_near.nd (ge_bin go_add (ge_var 4) (ge_fr (gf_lst (ga_cons (ge_tup (ga_cons (ge_bin go_add (ge_sl (ge_var 2) gp_no (gp_so (ge_bin go_add (ge_var 5) ge_int))) (ge_sl (ge_var 2) (gp_so (ge_var 5)) gp_no)) (ga_cons (ge_tup ga_nil) ga_nil))) (ga_cons (ge_tup (ga_cons (ge_bin go_add (ge_sl (ge_var 2) gp_no (gp_so (ge_var 5))) (ge_revS (ge_sl (ge_var 2) (gp_so (ge_var 5)) gp_no))) (ga_cons (ge_tup ga_nil) ga_nil))) ga_nil))))))
    (gss_cons (gs_set 4 sc_law_values_near.nd (ge_bin go_add (ge_var 4) (ge_fr (gf_lst (ga_cons (ge_tup (ga_cons ge_str (ga_cons (ge_tup ga_nil) ga_nil))) (ga_cons (ge_tup (ga_cons ge_str (ga_cons (ge_tup ga_nil) ga_nil))) (ga_cons (ge_tup (ga_cons ge_str (ga_cons (ge_tup ga_nil) ga_nil))) (ga_cons (ge_tup (ga_cons (ge_callT (gc_tupS rfl) F.f_tuple (by decide +kernel) (ga_cons (ge_var 2) ga_nil)) (ga_cons (ge_var 3) ga_nil))) (ga_cons (ge_tup (ga_cons (ge_fr (gf_list (ge_var 2) F.f_list)) (ga_cons (ge_var 3) ga_nil))) ga_nil)))))))))
    (gss_cons (gs_set 4 sc_law_values_near.nd (ge_bin go_add (ge_var 4) (ge_fr (gf_comp (own := [("again", 6)]) sc_law_values_near.nd (gi_range1 ge_int F.f_range) (blkOk_by (N := N_law_values_near) (sc := defScope s_law_values_near) (by decide +kernel)) (fun _ _ _ _ _ => (gc_name 6 sc_law_values_near.nd)) (fun _ _ _ _ _ => gif_nil) (fun _ _ _ _ _ => (ge_callee (ok_law_bend F 12) hr (ga_cons (ge_var 0) (ga_cons (ge_var 1) ga_nil))))))))
    (gss_one (gs_ret (ge_bin go_add (ge_var 4) (ge_fr (gf_lst (ga_cons (ge_callee (ok_law_bend F 12) hr (ga_cons (ge_var 0) (ga_cons (ge_ix (ge_var 4) ge_negi) ga_nil))) ga_nil))))))))))))
theorem lawBody {f : Addr} {cdv : Value} {A : Around} {outer : List Env} {s : Shared} {H : Hp} {E : XK} (F : Fx Fr mg) (hr : RoomG 16 (A.deeper (envOfC "law" (defScope s_law) s.heap.objs.size f cdv))) : GSs (cxOf CX0 P w Fr mg base N_law "law" (defScope s_law) f cdv A outer s H E).nox (defBody s_law) (w_law Fr) :=
    (gss_cons (gs_set 1 sc_law.nd (ge_callee (ok_law_open F) hr (ga_cons (ge_var 0) ga_nil)))
    (gss_cons (gs_for PassesOwn.never (gi_range1 ge_int F.f_range) (gg_name 2 sc_law.nd) (gss_cons (gs_set 3 sc_law.nd (ge_callee (ok_law_draw_knowledge F) hr (ga_cons (ge_var 1) (ga_cons ge_int ga_nil))))
    (gss_cons (gs_asg (ge_var 3) (gg_tup rfl (ggs_cons (gg_name 4 sc_law.nd) (ggs_cons (gg_name 5 sc_law.nd) ggs_nil))))
    (gss_cons (gs_set 6 sc_law.nd (ge_callee (ok_law_draw_font F) hr (ga_cons (ge_var 1) (ga_cons (ge_bin go_add (ge_callB gc_len F.f_len (by decide +kernel) (ga_cons (ge_var 4) ga_nil)) ge_int) ga_nil))))
    (gss_cons (gs_set 7 sc_law.nd (ge_callee (ok_law_draw_condition F) hr (ga_cons (ge_var 1) (ga_cons (ge_var 6) ga_nil))))
    (gss_cons (gs_if (gt_cmp (go_ne hr.units) (ge_fr (gf_lst (ga_cons (ge_callee (ok_is_knowledge F) hr (ga_cons (ge_var 3) ga_nil)) (ga_cons (ge_callee (ok_is_font F) hr (ga_cons (ge_var 4) (ga_cons (ge_var 6) ga_nil))) (ga_cons (ge_callee (ok_is_condition F) hr (ga_cons (ge_var 4) (ga_cons (ge_var 7) ga_nil))) ga_nil))))) (ge_bin go_mul (ge_fr (gf_lst (ga_cons ge_bl ga_nil))) ge_int)) (gss_one (gs_ret ge_bl)) gss_nil)
    (gss_cons (gs_set 8 sc_law.nd (ge_callee (ok_law_fonts_near F) hr (ga_cons (ge_var 1) (ga_cons (ge_var 4) (ga_cons (ge_var 6) ga_nil)))))
    (gss_cons (gs_set 9 sc_law.nd (ge_bin go_add (ge_fr (gf_lst (ga_cons (ge_var 7) ga_nil))) (ge_fr (gf_comp (own := [("again", 13)]) sc_law.nd (gi_range1 ge_int F.f_range) (blkOk_by (N := N_law) (sc := defScope s_law) (by decide +kernel)) (fun _ _ _ _ _ => (gc_name 13 sc_law.nd)) (fun _ _ _ _ _ => gif_nil) (fun _ _ _ _ _ => (ge_callee (ok_law_bend F 12) hr (ga_cons (ge_var 1) (ga_cons (ge_var 7) ga_nil))))))))
    (gss_cons (gs_if (gt_cmp (go_isNot) (ge_callee (ok_is_knowledge F) hr (ga_cons (ge_tup (ga_cons (ge_callee (ok_law_any_letters F) hr (ga_cons (ge_var 1) ga_nil)) (ga_cons (ge_tup ga_nil) ga_nil))) ga_nil)) ge_bl) (gss_one (gs_ret ge_bl)) gss_nil)
    (gss_cons (gs_set 10 sc_law.nd (ge_callee (ok_law_values_near F) hr (ga_cons (ge_var 1) (ga_cons (ge_var 3) ga_nil))))
    (gss_cons (gs_set 11 sc_law.nd (ge_callB (gc_reprX hr.gd (room65 hr)) F.f_repr (by decide +kernel) (ga_cons (ge_tup (ga_cons (ge_var 8) (ga_cons (ge_var 9) (ga_cons (ge_var 10) ga_nil)))) ga_nil)))
    (gss_cons (gs_if (gt_not (gt_val (ge_callee (ok_law_same F 12) hr (ga_cons (ge_fr (gf_comp (own := [("one", 12)]) sc_law.nd (gi_val (ge_var 8)) (blkOk_by (N := N_law) (sc := defScope s_law) (by decide +kernel)) (fun _ _ _ _ _ => (gc_name 12 sc_law.nd)) (fun _ _ _ _ _ => gif_nil) (fun _ _ _ _ _ => (ge_callee (ok_is_font F) hr (ga_cons (ge_var 4) (ga_cons (ge_var 12) ga_nil)))))) (ga_cons (ge_fr (gf_comp (own := [("one", 12)]) sc_law.nd (gi_val (ge_var 8)) (blkOk_by (N := N_law) (sc := defScope s_law) (by decide +kernel)) (fun _ _ _ _ _ => (gc_name 12 sc_law.nd)) (fun _ _ _ _ _ => gif_nil) (fun _ _ _ _ _ => (ge_callee (ok_law_is_font F) hr (ga_cons (ge_var 4) (ga_cons (ge_var 12) ga_nil)))))) ga_nil))))) (gss_one (gs_ret ge_bl)) gss_nil)
    (gss_cons (gs_for PassesOwn.never (gi_val (ge_var 9)) (gg_name 12 sc_law.nd) (gss_one (gs_if (gt_not (gt_val (ge_callee (ok_law_same F 12) hr (ga_cons (ge_callee (ok_is_condition F) hr (ga_cons (ge_var 4) (ga_cons (ge_var 12) ga_nil))) (ga_cons (ge_callee (ok_law_is_condition F) hr (ga_cons (ge_var 4) (ga_cons (ge_var 12) ga_nil))) ga_nil))))) (gss_one (gs_ret ge_bl)) gss_nil)))
    (gss_cons (gs_for PassesOwn.never (gi_val (ge_var 10)) (gg_name 12 sc_law.nd) (gss_one (gs_if (gt_not (gt_val (ge_callee (ok_law_same F 12) hr (ga_cons (ge_callee (ok_is_knowledge F) hr (ga_cons (ge_var 12) ga_nil)) (ga_cons (ge_callee (ok_law_is_knowledge F) hr (ga_cons (ge_var 12) ga_nil)) ga_nil))))) (gss_one (gs_ret ge_bl)) gss_nil)))
    (gss_one (gs_if (gt_cmp (go_ne hr.units) (ge_callB (gc_reprX hr.gd (room65 hr)) F.f_repr (by decide +kernel) (ga_cons (ge_tup (ga_cons (ge_var 8) (ga_cons (ge_var 9) (ga_cons (ge_var 10) ga_nil)))) ga_nil)) (ge_var 11)) (gss_one (gs_ret ge_bl)) gss_nil))))))))))))))))
    (gss_one (gs_ret ge_bl))))
end
end G

set_option Elab.async false
set_option linter.all false
set_option maxRecDepth 100000
set_option maxHeartbeats 0
namespace G
open PySem PySem.Spec PyProof.Rows L2
theorem factsL {K : PySem.W.Frag} {h : Heap} {mg : Str → Option Value} (X : K.In h) (G : h.Ns mainGlobals mg) (c : He.SaysD faL fnL K) : Fx K mg where
  d_is_integer := by
    obtain ⟨fd, q⟩ := c.def_ 0 (d := dd_is_integer) rfl
    exact ⟨fd, He.glo_ok X G (c.fact 0 (f := .glo "is_integer") rfl), q⟩
  d_is_within := by
    obtain ⟨fd, q⟩ := c.def_ 1 (d := dd_is_within) rfl
    exact ⟨fd, He.glo_ok X G (c.fact 1 (f := .glo "is_within") rfl), q⟩
  d_is_letters := by
    obtain ⟨fd, q⟩ := c.def_ 2 (d := dd_is_letters) rfl
    exact ⟨fd, He.glo_ok X G (c.fact 2 (f := .glo "is_letters") rfl), q⟩
  d_common_divisor := by
    obtain ⟨fd, q⟩ := c.def_ 3 (d := dd_common_divisor) rfl
    exact ⟨fd, He.glo_ok X G (c.fact 3 (f := .glo "common_divisor") rfl), q⟩
  d_divisor_of := by
    obtain ⟨fd, q⟩ := c.def_ 4 (d := dd_divisor_of) rfl
    exact ⟨fd, He.glo_ok X G (c.fact 4 (f := .glo "divisor_of") rfl), q⟩
  d_is_condition := by
    obtain ⟨fd, q⟩ := c.def_ 5 (d := dd_is_condition) rfl
    exact ⟨fd, He.glo_ok X G (c.fact 5 (f := .glo "is_condition") rfl), q⟩
  d_is_font := by
    obtain ⟨fd, q⟩ := c.def_ 6 (d := dd_is_font) rfl
    exact ⟨fd, He.glo_ok X G (c.fact 6 (f := .glo "is_font") rfl), q⟩
  d_is_knowledge := by
    obtain ⟨fd, q⟩ := c.def_ 7 (d := dd_is_knowledge) rfl
    exact ⟨fd, He.glo_ok X G (c.fact 7 (f := .glo "is_knowledge") rfl), q⟩
  d_law_open := by
    obtain ⟨fd, q⟩ := c.def_ 8 (d := dd_law_open) rfl
    exact ⟨fd, He.glo_ok X G (c.fact 8 (f := .glo "_law_open") rfl), q⟩
  d_law_spread := by
    obtain ⟨fd, q⟩ := c.def_ 9 (d := dd_law_spread) rfl
    exact ⟨fd, He.glo_ok X G (c.fact 9 (f := .glo "_law_spread") rfl), q⟩
  d_law_take := by
    obtain ⟨fd, q⟩ := c.def_ 10 (d := dd_law_take) rfl
    exact ⟨fd, He.glo_ok X G (c.fact 10 (f := .glo "_law_take") rfl), q⟩
  d_law_same := by
    obtain ⟨fd, q⟩ := c.def_ 11 (d := dd_law_same) rfl
    exact ⟨fd, He.glo_ok X G (c.fact 11 (f := .glo "_law_same") rfl), q⟩
  d_law_one_of := by
    obtain ⟨fd, q⟩ := c.def_ 12 (d := dd_law_one_of) rfl
    exact ⟨fd, He.glo_ok X G (c.fact 12 (f := .glo "_law_one_of") rfl), q⟩
  d_law_divisor := by
    obtain ⟨fd, q⟩ := c.def_ 13 (d := dd_law_divisor) rfl
    exact ⟨fd, He.glo_ok X G (c.fact 13 (f := .glo "_law_divisor") rfl), q⟩
  d_law_plain := by
    obtain ⟨fd, q⟩ := c.def_ 14 (d := dd_law_plain) rfl
    exact ⟨fd, He.glo_ok X G (c.fact 14 (f := .glo "_law_plain") rfl), q⟩
  d_law_draw_font := by
    obtain ⟨fd, q⟩ := c.def_ 15 (d := dd_law_draw_font) rfl
    exact ⟨fd, He.glo_ok X G (c.fact 15 (f := .glo "_law_draw_font") rfl), q⟩
  d_law_sum := by
    obtain ⟨fd, q⟩ := c.def_ 16 (d := dd_law_sum) rfl
    exact ⟨fd, He.glo_ok X G (c.fact 16 (f := .glo "_law_sum") rfl), q⟩
  d_law_holds := by
    obtain ⟨fd, q⟩ := c.def_ 17 (d := dd_law_holds) rfl
    exact ⟨fd, He.glo_ok X G (c.fact 17 (f := .glo "_law_holds") rfl), q⟩
  d_law_draw_condition := by
    obtain ⟨fd, q⟩ := c.def_ 18 (d := dd_law_draw_condition) rfl
    exact ⟨fd, He.glo_ok X G (c.fact 18 (f := .glo "_law_draw_condition") rfl), q⟩
  d_law_draw_letters := by
    obtain ⟨fd, q⟩ := c.def_ 19 (d := dd_law_draw_letters) rfl
    exact ⟨fd, He.glo_ok X G (c.fact 19 (f := .glo "_law_draw_letters") rfl), q⟩
  d_law_draw_knowledge := by
    obtain ⟨fd, q⟩ := c.def_ 20 (d := dd_law_draw_knowledge) rfl
    exact ⟨fd, He.glo_ok X G (c.fact 20 (f := .glo "_law_draw_knowledge") rfl), q⟩
  d_law_draw_text := by
    obtain ⟨fd, q⟩ := c.def_ 21 (d := dd_law_draw_text) rfl
    exact ⟨fd, He.glo_ok X G (c.fact 21 (f := .glo "_law_draw_text") rfl), q⟩
  d_law_counts := by
    obtain ⟨fd, q⟩ := c.def_ 22 (d := dd_law_counts) rfl
    exact ⟨fd, He.glo_ok X G (c.fact 22 (f := .glo "_law_counts") rfl), q⟩
  d_law_fits := by
    obtain ⟨fd, q⟩ := c.def_ 23 (d := dd_law_fits) rfl
    exact ⟨fd, He.glo_ok X G (c.fact 23 (f := .glo "_law_fits") rfl), q⟩
  d_law_is_font := by
    obtain ⟨fd, q⟩ := c.def_ 24 (d := dd_law_is_font) rfl
    exact ⟨fd, He.glo_ok X G (c.fact 24 (f := .glo "_law_is_font") rfl), q⟩
  d_law_rows := by
    obtain ⟨fd, q⟩ := c.def_ 25 (d := dd_law_rows) rfl
    exact ⟨fd, He.glo_ok X G (c.fact 25 (f := .glo "_law_rows") rfl), q⟩
  d_law_refutes := by
    obtain ⟨fd, q⟩ := c.def_ 26 (d := dd_law_refutes) rfl
    exact ⟨fd, He.glo_ok X G (c.fact 26 (f := .glo "_law_refutes") rfl), q⟩
  d_law_is_between := by
    obtain ⟨fd, q⟩ := c.def_ 27 (d := dd_law_is_between) rfl
    exact ⟨fd, He.glo_ok X G (c.fact 27 (f := .glo "_law_is_between") rfl), q⟩
  d_law_is_condition := by
    obtain ⟨fd, q⟩ := c.def_ 28 (d := dd_law_is_condition) rfl
    exact ⟨fd, He.glo_ok X G (c.fact 28 (f := .glo "_law_is_condition") rfl), q⟩
  d_law_is_knowledge := by
    obtain ⟨fd, q⟩ := c.def_ 29 (d := dd_law_is_knowledge) rfl
    exact ⟨fd, He.glo_ok X G (c.fact 29 (f := .glo "_law_is_knowledge") rfl), q⟩
  d_law_bend := by
    obtain ⟨fd, q⟩ := c.def_ 30 (d := dd_law_bend) rfl
    exact ⟨fd, He.glo_ok X G (c.fact 30 (f := .glo "_law_bend") rfl), q⟩
  d_law_any_letters := by
    obtain ⟨fd, q⟩ := c.def_ 31 (d := dd_law_any_letters) rfl
    exact ⟨fd, He.glo_ok X G (c.fact 31 (f := .glo "_law_any_letters") rfl), q⟩
  d_law_fonts_near := by
    obtain ⟨fd, q⟩ := c.def_ 32 (d := dd_law_fonts_near) rfl
    exact ⟨fd, He.glo_ok X G (c.fact 32 (f := .glo "_law_fonts_near") rfl), q⟩
  d_law_values_near := by
    obtain ⟨fd, q⟩ := c.def_ 33 (d := dd_law_values_near) rfl
    exact ⟨fd, He.glo_ok X G (c.fact 33 (f := .glo "_law_values_near") rfl), q⟩
  d_law := by
    obtain ⟨fd, q⟩ := c.def_ 34 (d := dd_law) rfl
    exact ⟨fd, He.glo_ok X G (c.fact 34 (f := .glo "law") rfl), q⟩
  f_isinstance := He.free_ok X G (c.fact 35 (f := .free "isinstance") rfl)
  f_int := He.free_ok X G (c.fact 36 (f := .free "int") rfl)
  f_bool := He.free_ok X G (c.fact 37 (f := .free "bool") rfl)
  f_str := He.free_ok X G (c.fact 38 (f := .free "str") rfl)
  f_len := He.free_ok X G (c.fact 39 (f := .free "len") rfl)
  f_all := He.free_ok X G (c.fact 40 (f := .free "all") rfl)
  f_list := He.free_ok X G (c.fact 41 (f := .free "list") rfl)
  f_sorted := He.free_ok X G (c.fact 42 (f := .free "sorted") rfl)
  f_set := He.free_ok X G (c.fact 43 (f := .free "set") rfl)
  f_tuple := He.free_ok X G (c.fact 44 (f := .free "tuple") rfl)
  f_enumerate := He.free_ok X G (c.fact 45 (f := .free "enumerate") rfl)
  f_zip := He.free_ok X G (c.fact 46 (f := .free "zip") rfl)
  f_abs := He.free_ok X G (c.fact 47 (f := .free "abs") rfl)
  f_range := He.free_ok X G (c.fact 48 (f := .free "range") rfl)
  f_min := He.free_ok X G (c.fact 49 (f := .free "min") rfl)
  f_sum := He.free_ok X G (c.fact 50 (f := .free "sum") rfl)
  f_max := He.free_ok X G (c.fact 51 (f := .free "max") rfl)
  f_repr := He.free_ok X G (c.fact 52 (f := .free "repr") rfl)
  k_MAX_LETTERS := He.int_ok X G (c.fact 53 (f := .int "MAX_LETTERS" 4) rfl)
  k_FIRST_CHARACTER := He.str_ok X G (c.fact 54 (f := .str "FIRST_CHARACTER" "!") rfl)
  k_LAST_CHARACTER := He.str_ok X G (c.fact 55 (f := .str "LAST_CHARACTER" "~") rfl)
  k_MAX_FACTOR := He.int_ok X G (c.fact 56 (f := .int "MAX_FACTOR" 99) rfl)
  k_MAX_BOUND := He.int_ok X G (c.fact 57 (f := .int "MAX_BOUND" 9999) rfl)
  k_MAX_WIDTH := He.int_ok X G (c.fact 58 (f := .int "MAX_WIDTH" 20) rfl)
  k_MAX_FACTS := He.int_ok X G (c.fact 59 (f := .int "MAX_FACTS" 8) rfl)
theorem lawL {P : Program} {w : World} {K : PySem.W.Frag} {h : Heap} {mg : Str → Option Value} {f : Addr} (X : K.In h) (G : h.Ns mainGlobals mg) (hfa : mg ("law" : Str) = some (.ref f)) (c : He.SaysD faL fnL K) :
    ∃ fd : FuncData, (∀ (s : Shared) (v : Value), BindsTo s fd ⟨[v], []⟩ [("script", v)]) ∧ ∀ base : Heap, K.In base → base.Ns mainGlobals mg → FnG P w K mg base 17 f fd ["script"] (spLaw K) := by
  obtain ⟨fd, F⟩ := c.def_ 34 (d := dd_law) rfl
  have hgl := He.glo_ok X G (c.fact 34 (f := .glo "law") rfl)
  have e := hfa.symm.trans hgl
  cases e
  have b := FunD.bindsA (ps := ["script"]) F fun _ _ _ _ _ _ us hl => match us, hl with | [_], _ => rfl
  refine ⟨fd, fun s v => b s [v] rfl, fun base _ _ => ?_⟩
  have FF := factsL X G c
  refine law_fn (c := c_law K) (fn_ok F sc_law fun cdv A outer s H E hr => ?_) (law_main K)
  exact lawBody FF hr
end G
open PySem PySem.W PySem.Calls PyProof.Rows

theorem PySem.Challenge.cw_anyfont_k01_conditions_and_fonts_recogni_holds : PySem.Challenge.rw_anyfont_k01_conditions_and_fonts_recogni.Holds := by
  refine G.frontL ?_
  refine G.walk_ofG (l := PySem.Challenge.rw_anyfont_k01_conditions_and_fonts_recogni) (n := 63) (k := 17) (x := "script") rfl (by decide) (by kernel_rfl) ⟨rfl, by decide, by decide⟩ ?F
  intro w mg fa h Y G0 hmg0
  obtain ⟨K, KX, c⟩ := Y
  have hmg : mg ("law" : PySem.Str) = some (.ref fa) := by
    have e : (HandSHeadRun.topDef (OpenLaw.row PySem.Challenge.rw_anyfont_k01_conditions_and_fonts_recogni).prog 43).name = ("law" : PySem.Str) := by kernel_rfl
    rw [← e]
    exact hmg0
  obtain ⟨fd, hb, hF⟩ := G.lawL (P := (PySem.Challenge.rw_anyfont_k01_conditions_and_fonts_recogni).prog) (w := w) KX G0 hmg c
  exact ⟨K, fd, G.spLaw K, KX, hb, fun H a ns hl _ hS => ⟨a, ns, rfl, hS, hl, fun _ => rfl⟩, hF⟩

