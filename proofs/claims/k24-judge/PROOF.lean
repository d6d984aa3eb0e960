import PyProof.Rows.All
import Wide.All
import OpenK.AllK
import Wide.FinOn
import KE.KStateDown
import Lean
import HandS.ForMost
import HandS.Defaults
import HandS.Head0
import HandS.Head1
import HandS.Head2
import HandS.HeadEnd
import HandS.HeadHook1
import HandS.HeadHook2
import HandS.Conv
import HandS.TupLen
import HandS.Deep
import HandS.DictComp
import KE.KeyNested
import KE.KDictDisplayH
import HandS.Walk
import HandS.Zip
import KE.GoesNew
import HandS.Codes
import HandS.Style
import HandS.TupAny
import HandS.IsInst
import HandS.Steps
import KE.KDictPairs
import HandS.Exc
import PySem.Challenge.RW_nestcall_k24_whole_the_judge_is_right
set_option Elab.async false
set_option linter.all false
set_option maxRecDepth 100000
set_option maxHeartbeats 0

namespace NC
open PySem PySem.Spec PyProof.Rows L2
/-! ### the text by places -/
def topS (i : Nat) : Stmt := PySem.Challenge.pw_nestcall_k24_whole_the_judge_is_right.main.body.getD i (.Pass ⟨0, 0, 0, 0⟩)
abbrev s_first_state : Stmt := topS 4
abbrev s_put : Stmt := topS 5
abbrev s_moved : Stmt := topS 6
abbrev s_worth : Stmt := topS 7
abbrev s_combine : Stmt := topS 10
abbrev s_Pause_init : Stmt := inClass (topS 12) 0
abbrev s_Engine_init : Stmt := inClass (topS 13) 0
abbrev s_Engine_numbered : Stmt := inClass (topS 13) 1
abbrev s_Engine_entries : Stmt := inClass (topS 13) 2
abbrev s_Engine_value : Stmt := inClass (topS 13) 3
abbrev s_Engine_stored : Stmt := inClass (topS 13) 4
abbrev s_Engine_paid : Stmt := inClass (topS 13) 5
abbrev s_Engine_begun : Stmt := inClass (topS 13) 6
abbrev s_Engine_block : Stmt := inClass (topS 13) 7
abbrev s_Engine_answered : Stmt := inClass (topS 13) 8
abbrev s_Engine_go : Stmt := inClass (topS 13) 9
abbrev s_Engine_done : Stmt := inClass (topS 13) 10
abbrev s_Ways_init : Stmt := inClass (topS 16) 0
abbrev s_Ways_forget : Stmt := inClass (topS 16) 1
abbrev s_Ways_of : Stmt := inClass (topS 16) 2
abbrev s_Ways_after : Stmt := inClass (topS 16) 3
abbrev s_Rows_init : Stmt := inClass (topS 18) 0
abbrev s_Rows_row_of : Stmt := inClass (topS 18) 1
abbrev s_is_closed : Stmt := topS 19
abbrev s_bound : Stmt := topS 20
abbrev s_House_init : Stmt := inClass (topS 22) 0
abbrev s_Search_init : Stmt := inClass (topS 25) 0
abbrev s_Search_row_of : Stmt := inClass (topS 25) 1
abbrev s_Search_meet : Stmt := inClass (topS 25) 2
abbrev s_Search_grow : Stmt := inClass (topS 25) 3
abbrev s_Search_closed : Stmt := inClass (topS 25) 4
abbrev s_least_rows : Stmt := topS 26
abbrev s_reachable : Stmt := topS 27
abbrev s_most : Stmt := topS 29
abbrev s_law_cell : Stmt := topS 31
abbrev s_law_is_integer : Stmt := topS 32
abbrev s_law_row : Stmt := topS 33
abbrev s_law_expression : Stmt := topS 34
abbrev s_law_statement : Stmt := topS 35
abbrev s_law_body : Stmt := topS 36
abbrev s_law_contract : Stmt := topS 37
abbrev s_law_house : Stmt := topS 38
abbrev s_law_start : Stmt := topS 39
abbrev s_law_copy : Stmt := topS 40
abbrev s_law_told : Stmt := topS 41
abbrev s_law_index : Stmt := topS 42
abbrev s_law_combine : Stmt := topS 43
abbrev s_law_value : Stmt := topS 44
abbrev s_law_store : Stmt := topS 45
abbrev s_law_pay : Stmt := topS 46
abbrev s_law_do : Stmt := topS 47
abbrev s_law_go : Stmt := topS 48
abbrev s_law_possible : Stmt := topS 49
abbrev s_law_act : Stmt := topS 50
abbrev s_law_walk : Stmt := topS 51
abbrev s_law_drawn : Stmt := topS 52
abbrev s_law_made : Stmt := topS 53
abbrev s_law_changed : Stmt := topS 54
abbrev s_law_stays : Stmt := topS 55
abbrev s_law : Stmt := topS 56
end NC
set_option Elab.async false
set_option linter.all false
set_option maxRecDepth 100000
set_option maxHeartbeats 0

namespace NC
open PySem PySem.Spec PyProof.Rows L2
def d0 : He.DefD := ⟨("first_state", none), "first_state", "first_state", defArgs s_first_state, defBody s_first_state, defScope s_first_state, [], []⟩
def d1 : He.DefD := ⟨("put", none), "put", "put", defArgs s_put, defBody s_put, defScope s_put, [], []⟩
def d2 : He.DefD := ⟨("moved", none), "moved", "moved", defArgs s_moved, defBody s_moved, defScope s_moved, [], []⟩
def d3 : He.DefD := ⟨("worth", none), "worth", "worth", defArgs s_worth, defBody s_worth, defScope s_worth, [], []⟩
def d4 : He.DefD := ⟨("combine", none), "combine", "combine", defArgs s_combine, defBody s_combine, defScope s_combine, [], []⟩
def d5 : He.DefD := ⟨("Pause", some "__init__"), "__init__", "Pause.__init__", defArgs s_Pause_init, defBody s_Pause_init, defScope s_Pause_init, [], []⟩
def d6 : He.DefD := ⟨("Engine", some "__init__"), "__init__", "Engine.__init__", defArgs s_Engine_init, defBody s_Engine_init, defScope s_Engine_init, [], []⟩
def d7 : He.DefD := ⟨("Engine", some "numbered"), "numbered", "Engine.numbered", defArgs s_Engine_numbered, defBody s_Engine_numbered, defScope s_Engine_numbered, [], []⟩
def d8 : He.DefD := ⟨("Engine", some "entries"), "entries", "Engine.entries", defArgs s_Engine_entries, defBody s_Engine_entries, defScope s_Engine_entries, [], []⟩
def d9 : He.DefD := ⟨("Engine", some "value"), "value", "Engine.value", defArgs s_Engine_value, defBody s_Engine_value, defScope s_Engine_value, [], []⟩
def d10 : He.DefD := ⟨("Engine", some "stored"), "stored", "Engine.stored", defArgs s_Engine_stored, defBody s_Engine_stored, defScope s_Engine_stored, [], []⟩
def d11 : He.DefD := ⟨("Engine", some "paid"), "paid", "Engine.paid", defArgs s_Engine_paid, defBody s_Engine_paid, defScope s_Engine_paid, [], []⟩
def d12 : He.DefD := ⟨("Engine", some "begun"), "begun", "Engine.begun", defArgs s_Engine_begun, defBody s_Engine_begun, defScope s_Engine_begun, [], []⟩
def d13 : He.DefD := ⟨("Engine", some "block"), "block", "Engine.block", defArgs s_Engine_block, defBody s_Engine_block, defScope s_Engine_block, [], []⟩
def d14 : He.DefD := ⟨("Engine", some "answered"), "answered", "Engine.answered", defArgs s_Engine_answered, defBody s_Engine_answered, defScope s_Engine_answered, [], []⟩
def d15 : He.DefD := ⟨("Engine", some "go"), "go", "Engine.go", defArgs s_Engine_go, defBody s_Engine_go, defScope s_Engine_go, [], []⟩
def d16 : He.DefD := ⟨("Engine", some "done"), "done", "Engine.done", defArgs s_Engine_done, defBody s_Engine_done, defScope s_Engine_done, [], []⟩
def d17 : He.DefD := ⟨("Ways", some "__init__"), "__init__", "Ways.__init__", defArgs s_Ways_init, defBody s_Ways_init, defScope s_Ways_init, [], []⟩
def d18 : He.DefD := ⟨("Ways", some "forget"), "forget", "Ways.forget", defArgs s_Ways_forget, defBody s_Ways_forget, defScope s_Ways_forget, [], []⟩
def d19 : He.DefD := ⟨("Ways", some "of"), "of", "Ways.of", defArgs s_Ways_of, defBody s_Ways_of, defScope s_Ways_of, [], []⟩
def d20 : He.DefD := ⟨("Ways", some "after"), "after", "Ways.after", defArgs s_Ways_after, defBody s_Ways_after, defScope s_Ways_after, [], []⟩
def d21 : He.DefD := ⟨("Rows", some "__init__"), "__init__", "Rows.__init__", defArgs s_Rows_init, defBody s_Rows_init, defScope s_Rows_init, [], []⟩
def d22 : He.DefD := ⟨("Rows", some "row_of"), "row_of", "Rows.row_of", defArgs s_Rows_row_of, defBody s_Rows_row_of, defScope s_Rows_row_of, [], []⟩
def d23 : He.DefD := ⟨("is_closed", none), "is_closed", "is_closed", defArgs s_is_closed, defBody s_is_closed, defScope s_is_closed, [], []⟩
def d24 : He.DefD := ⟨("bound", none), "bound", "bound", defArgs s_bound, defBody s_bound, defScope s_bound, [], []⟩
def d25 : He.DefD := ⟨("House", some "__init__"), "__init__", "House.__init__", defArgs s_House_init, defBody s_House_init, defScope s_House_init, [], []⟩
def d26 : He.DefD := ⟨("Search", some "__init__"), "__init__", "Search.__init__", defArgs s_Search_init, defBody s_Search_init, defScope s_Search_init, [.non], []⟩
def d27 : He.DefD := ⟨("Search", some "row_of"), "row_of", "Search.row_of", defArgs s_Search_row_of, defBody s_Search_row_of, defScope s_Search_row_of, [], []⟩
def d28 : He.DefD := ⟨("Search", some "meet"), "meet", "Search.meet", defArgs s_Search_meet, defBody s_Search_meet, defScope s_Search_meet, [], []⟩
def d29 : He.DefD := ⟨("Search", some "grow"), "grow", "Search.grow", defArgs s_Search_grow, defBody s_Search_grow, defScope s_Search_grow, [], []⟩
def d30 : He.DefD := ⟨("Search", some "closed"), "closed", "Search.closed", defArgs s_Search_closed, defBody s_Search_closed, defScope s_Search_closed, [], []⟩
def d31 : He.DefD := ⟨("least_rows", none), "least_rows", "least_rows", defArgs s_least_rows, defBody s_least_rows, defScope s_least_rows, [], []⟩
def d32 : He.DefD := ⟨("reachable", none), "reachable", "reachable", defArgs s_reachable, defBody s_reachable, defScope s_reachable, [], []⟩
def d33 : He.DefD := ⟨("most", none), "most", "most", defArgs s_most, defBody s_most, defScope s_most, [], []⟩
def d34 : He.DefD := ⟨("_law_cell", none), "_law_cell", "_law_cell", defArgs s_law_cell, defBody s_law_cell, defScope s_law_cell, [], []⟩
def d35 : He.DefD := ⟨("_law_is_integer", none), "_law_is_integer", "_law_is_integer", defArgs s_law_is_integer, defBody s_law_is_integer, defScope s_law_is_integer, [], []⟩
def d36 : He.DefD := ⟨("_law_row", none), "_law_row", "_law_row", defArgs s_law_row, defBody s_law_row, defScope s_law_row, [], []⟩
def d37 : He.DefD := ⟨("_law_expression", none), "_law_expression", "_law_expression", defArgs s_law_expression, defBody s_law_expression, defScope s_law_expression, [], []⟩
def d38 : He.DefD := ⟨("_law_statement", none), "_law_statement", "_law_statement", defArgs s_law_statement, defBody s_law_statement, defScope s_law_statement, [], []⟩
def d39 : He.DefD := ⟨("_law_body", none), "_law_body", "_law_body", defArgs s_law_body, defBody s_law_body, defScope s_law_body, [], []⟩
def d40 : He.DefD := ⟨("_law_contract", none), "_law_contract", "_law_contract", defArgs s_law_contract, defBody s_law_contract, defScope s_law_contract, [], []⟩
def d41 : He.DefD := ⟨("_law_house", none), "_law_house", "_law_house", defArgs s_law_house, defBody s_law_house, defScope s_law_house, [], []⟩
def d42 : He.DefD := ⟨("_law_start", none), "_law_start", "_law_start", defArgs s_law_start, defBody s_law_start, defScope s_law_start, [], []⟩
def d43 : He.DefD := ⟨("_law_copy", none), "_law_copy", "_law_copy", defArgs s_law_copy, defBody s_law_copy, defScope s_law_copy, [], []⟩
def d44 : He.DefD := ⟨("_law_told", none), "_law_told", "_law_told", defArgs s_law_told, defBody s_law_told, defScope s_law_told, [], []⟩
def d45 : He.DefD := ⟨("_law_index", none), "_law_index", "_law_index", defArgs s_law_index, defBody s_law_index, defScope s_law_index, [], []⟩
def d46 : He.DefD := ⟨("_law_combine", none), "_law_combine", "_law_combine", defArgs s_law_combine, defBody s_law_combine, defScope s_law_combine, [], []⟩
def d47 : He.DefD := ⟨("_law_value", none), "_law_value", "_law_value", defArgs s_law_value, defBody s_law_value, defScope s_law_value, [], []⟩
def d48 : He.DefD := ⟨("_law_store", none), "_law_store", "_law_store", defArgs s_law_store, defBody s_law_store, defScope s_law_store, [], []⟩
def d49 : He.DefD := ⟨("_law_pay", none), "_law_pay", "_law_pay", defArgs s_law_pay, defBody s_law_pay, defScope s_law_pay, [], []⟩
def d50 : He.DefD := ⟨("_law_do", none), "_law_do", "_law_do", defArgs s_law_do, defBody s_law_do, defScope s_law_do, [], []⟩
def d51 : He.DefD := ⟨("_law_go", none), "_law_go", "_law_go", defArgs s_law_go, defBody s_law_go, defScope s_law_go, [], []⟩
def d52 : He.DefD := ⟨("_law_possible", none), "_law_possible", "_law_possible", defArgs s_law_possible, defBody s_law_possible, defScope s_law_possible, [], []⟩
def d53 : He.DefD := ⟨("_law_act", none), "_law_act", "_law_act", defArgs s_law_act, defBody s_law_act, defScope s_law_act, [], []⟩
def d54 : He.DefD := ⟨("_law_walk", none), "_law_walk", "_law_walk", defArgs s_law_walk, defBody s_law_walk, defScope s_law_walk, [], []⟩
def d55 : He.DefD := ⟨("_law_drawn", none), "_law_drawn", "_law_drawn", defArgs s_law_drawn, defBody s_law_drawn, defScope s_law_drawn, [], []⟩
def d56 : He.DefD := ⟨("_law_made", none), "_law_made", "_law_made", defArgs s_law_made, defBody s_law_made, defScope s_law_made, [], []⟩
def d57 : He.DefD := ⟨("_law_changed", none), "_law_changed", "_law_changed", defArgs s_law_changed, defBody s_law_changed, defScope s_law_changed, [], []⟩
def d58 : He.DefD := ⟨("_law_stays", none), "_law_stays", "_law_stays", defArgs s_law_stays, defBody s_law_stays, defScope s_law_stays, [], []⟩
def d59 : He.DefD := ⟨("law", none), "law", "law", defArgs s_law, defBody s_law, defScope s_law, [], []⟩
def fn : List He.DefD := [d0, d1, d2, d3, d4, d5, d6, d7, d8, d9, d10, d11, d12, d13, d14, d15, d16, d17, d18, d19, d20, d21, d22, d23, d24, d25, d26, d27, d28, d29, d30, d31, d32, d33, d34, d35, d36, d37, d38, d39, d40, d41, d42, d43, d44, d45, d46, d47, d48, d49, d50, d51, d52, d53, d54, d55, d56, d57, d58, d59]
def fa0 : List He.Fa := [.glo "first_state", .glo "put", .glo "moved", .glo "worth", .glo "combine", .glo "is_closed", .glo "bound", .glo "least_rows", .glo "reachable", .glo "most", .glo "_law_cell", .glo "_law_is_integer", .glo "_law_row", .glo "_law_expression", .glo "_law_statement", .glo "_law_body", .glo "_law_contract", .glo "_law_house", .glo "_law_start", .glo "_law_copy", .glo "_law_told", .glo "_law_index", .glo "_law_combine", .glo "_law_value", .glo "_law_store", .glo "_law_pay", .glo "_law_do", .glo "_law_go", .glo "_law_possible", .glo "_law_act"]
def fa1 : List He.Fa := [.glo "_law_walk", .glo "_law_drawn", .glo "_law_made", .glo "_law_changed", .glo "_law_stays", .glo "law", .glo "Pause", .cls "Pause", .mkr "Pause", .noat "Pause" "kind", .noat "Pause" "state", .noat "Pause" "pending", .noat "Pause" "count", .glo "Engine", .cls "Engine", .mkr "Engine", .noat "Engine" "house", .noat "Engine" "assets", .noat "Engine" "contracts", .noat "Engine" "procs", .noat "Engine" "places", .noat "Engine" "sizes", .noat "Engine" "lines", .noat "Engine" "parts", .noat "Engine" "bodies", .meth "Engine" "numbered", .meth "Engine" "entries", .meth "Engine" "value", .meth "Engine" "stored", .meth "Engine" "paid"]
def fa2 : List He.Fa := [.meth "Engine" "begun", .meth "Engine" "block", .meth "Engine" "answered", .meth "Engine" "go", .meth "Engine" "done", .glo "Ways", .cls "Ways", .mkr "Ways", .noat "Ways" "engine", .noat "Ways" "entries", .noat "Ways" "rows", .noat "Ways" "kept", .meth "Ways" "forget", .meth "Ways" "of", .meth "Ways" "after", .glo "Rows", .cls "Rows", .mkr "Rows", .noat "Rows" "table", .noat "Rows" "complete", .meth "Rows" "row_of", .glo "House", .cls "House", .mkr "House", .noat "House" "assets", .noat "House" "contracts", .glo "Search", .cls "Search", .mkr "Search", .noat "Search" "ways"]
def fa3 : List He.Fa := [.noat "Search" "start", .noat "Search" "ends", .noat "Search" "rows", .noat "Search" "asked", .meth "Search" "row_of", .meth "Search" "meet", .meth "Search" "grow", .meth "Search" "closed", .free "abs", .free "all", .free "bool", .free "dict", .free "enumerate", .free "int", .free "isinstance", .free "len", .free "list", .free "max", .free "min", .free "range", .free "sum", .free "tuple", .free "zip", .int "GREATEST" 65535, .int "MOST_WAYS" 2000, .int "MOST_STATES" 200]
def fa : List He.Fa := fa0 ++ fa1 ++ fa2 ++ fa3
def nm0 : List PySem.Str := ["HouseError", "TooLarge", "first_state", "put", "moved", "worth", "GREATEST", "combine", "Pause", "Engine", "MOST_WAYS", "Ways", "Rows", "is_closed", "bound", "House", "MOST_STATES", "Search", "least_rows", "reachable", "most", "_law_cell", "_law_is_integer", "_law_row", "_law_expression", "_law_statement", "_law_body", "_law_contract", "_law_house", "_law_start"]
def nm1 : List PySem.Str := ["_law_copy", "_law_told", "_law_index", "_law_combine", "_law_value", "_law_store", "_law_pay", "_law_do", "_law_go", "_law_possible", "_law_act", "_law_walk", "_law_drawn", "_law_made", "_law_changed", "_law_stays"]
def nms : List PySem.Str := nm0 ++ nm1
abbrev R : PySem.W.OpenRow := PySem.W.OpenLaw.row PySem.Challenge.rw_nestcall_k24_whole_the_judge_is_right
abbrev hk : PySem.W.Hook := He.hookD 5 fa fn
def ob (s : PySem.W.SharedT) : He.AlD := He.obsDG 5 fa fn (HandSHeadRun.getT s)
theorem ob_eq (s : PySem.W.SharedT) : ob s = hk.obs s.abs := He.obsDG_eq (HandSHeadRun.getT_eq s)
theorem run (w : World) : HandSHeadRun.RunEq R (PySem.W.view R.prog [56]) hk ob 4000 nms w := by
  intro os
  kernel_rfl
end NC
set_option Elab.async false
set_option linter.all false
set_option maxRecDepth 100000
set_option maxHeartbeats 4000000
/-! Dicts whose keys are nested tuples of ints and texts, over the hand layer. -/
namespace NC
open PySem PySem.Spec PyProof.Rows L2

/-! ### nested tuples as data -/
mutual
/-- v is, by the tuples of H, the nested datum k -/
inductive NK (H : Hp) : NestedKey → V → Prop
  | num (i : Int) : NK H (.num i) (.int i)
  | text (x : Str) : NK H (.text x) (.str x)
  | tup {a : Addr} {vs : List V} {ks : List NestedKey} : H a = some (.tup vs) → NKs H ks vs → NK H (.tup ks) (.ref a)
inductive NKs (H : Hp) : List NestedKey → List V → Prop
  | nil : NKs H [] []
  | cons {k : NestedKey} {v : V} {ks : List NestedKey} {vs : List V} : NK H k v → NKs H ks vs → NKs H (k :: ks) (v :: vs)
end
/-- tuples stay -/
def TX (H H' : Hp) : Prop := ∀ b xs, H b = some (.tup xs) → H' b = some (.tup xs)
theorem TX.refl (H : Hp) : TX H H := fun _ _ h => h
theorem TX.trans {H H1 H2 : Hp} (a : TX H H1) (b : TX H1 H2) : TX H H2 := fun p xs h => b p xs (a p xs h)
theorem TX.same {H H' : Hp} (e : Same H H') : TX H H' := fun b xs h => e b _ h
theorem TX.new {H : Hp} {p : Addr} {o : HO} (h : H p = none) : TX H (upd H p o) := fun b xs e => by rw [upd_ne (ne_of_none e h)]; exact e
theorem TX.put {H : Hp} {p : Addr} {o u : HO} (h : H p = some u) (hu : ∀ xs, u ≠ .tup xs) : TX H (upd H p o) := fun b xs e => by
  rw [upd_ne]
  · exact e
  · rintro rfl
    rw [h] at e
    exact hu xs (Option.some.inj e)
mutual
theorem NK.tx {H H' : Hp} (t : TX H H') : ∀ (k : NestedKey) (v : V), NK H k v → NK H' k v
  | .none, _, h => nomatch h
  | .num _, _, h => by cases h; exact .num _
  | .text _, _, h => by cases h; exact .text _
  | .tup ks, _, h => by
    cases h with
    | tup h1 h2 => exact .tup (t _ _ h1) (NKs.tx t ks _ h2)
theorem NKs.tx {H H' : Hp} (t : TX H H') : ∀ (ks : List NestedKey) (vs : List V), NKs H ks vs → NKs H' ks vs
  | [], _, h => by cases h; exact .nil
  | k :: ks, _, h => by
    cases h with
    | cons h1 h2 => exact .cons (NK.tx t k _ h1) (NKs.tx t ks _ h2)
end
mutual
theorem NK.inj {H : Hp} : ∀ (k j : NestedKey) (v : V), NK H k v → NK H j v → k = j
  | .none, _, _, h, _ => nomatch h
  | .num _, _, _, h, g => by cases h; cases g; rfl
  | .text _, _, _, h, g => by cases h; cases g; rfl
  | .tup ks, _, _, h, g => by
    cases h with
    | tup h1 h2 =>
      cases g with
      | tup g1 g2 =>
        rw [h1] at g1
        cases g1
        rw [NKs.inj ks _ _ h2 g2]
theorem NKs.inj {H : Hp} : ∀ (ks js : List NestedKey) (vs : List V), NKs H ks vs → NKs H js vs → ks = js
  | [], _, _, h, g => by cases h; cases g; rfl
  | k :: ks, _, _, h, g => by
    cases h with
    | cons h1 h2 =>
      cases g with
      | cons g1 g2 => rw [NK.inj k _ _ h1 g1, NKs.inj ks _ _ h2 g2]
end
section
variable {P : Program} {w : World} {H : Hp} {h : Heap}
mutual
theorem NK.is (ok : HOk P w H h) : ∀ (k : NestedKey) (v : V) (u : Value), NK H k v → RelV v u → NestedIs h k u
  | .none, _, _, x, _ => nomatch x
  | .num i, _, _, x, r => by
    cases x
    obtain ⟨t, rfl⟩ := r
    exact .int i t
  | .text y, _, _, x, r => by
    cases x
    obtain ⟨t, rfl⟩ := r
    exact .text y t
  | .tup ks, _, _, x, r => by
    cases x with
    | @tup a vs _ h1 h2 =>
      cases (show _ = Value.ref a from r)
      obtain ⟨_, its, rv, o, g1, g2, n, g3⟩ := (show ObjOk P w H h a (.tup vs) from ok a _ h1)
      exact .tup g1 g2 g3 (by simpa using NKs.is ok ks vs its h2 rv)
theorem NKs.is (ok : HOk P w H h) : ∀ (ks : List NestedKey) (vs : List V) (us : List Value), NKs H ks vs → Vals vs us → NestedAll h ks us
  | [], _, _, x, r => by cases x; cases r; exact .nil
  | k :: ks, _, _, x, r => by
    cases x with
    | cons x1 x2 =>
      cases r with
      | cons r1 r2 => exact .cons (NK.is ok k _ _ x1 r1) (NKs.is ok ks _ _ x2 r2)
end
end
theorem NKs.length {H : Hp} : ∀ {ks : List NestedKey} {vs : List V}, NKs H ks vs → ks.length = vs.length
  | [], _, h => by cases h; rfl
  | _ :: ks, _, h => by
    cases h with
    | cons _ h2 => rw [List.length_cons, List.length_cons, NKs.length h2]
theorem NKs.get {H : Hp} : ∀ {ks : List NestedKey} {vs : List V} {i : Nat} {k : NestedKey}, NKs H ks vs → ks[i]? = some k → ∃ v, vs[i]? = some v ∧ NK H k v
  | [], _, i, k, _, e => by simp at e
  | k0 :: ks, _, i, k, h, e => by
    cases h with
    | @cons _ v0 _ vs h1 h2 =>
      cases i with
      | zero =>
        have e' : k0 = k := by simpa using e
        subst e'
        exact ⟨v0, rfl, h1⟩
      | succ i =>
        obtain ⟨v, e1, e2⟩ := NKs.get (i := i) (k := k) h2 (by simpa using e)
        exact ⟨v, by simpa using e1, e2⟩
theorem NKs.append {H : Hp} : ∀ {ks js : List NestedKey} {vs us : List V}, NKs H ks vs → NKs H js us → NKs H (ks ++ js) (vs ++ us)
  | [], _, _, _, h, g => by cases h; exact g
  | _ :: ks, _, _, _, h, g => by
    cases h with
    | cons h1 h2 => exact .cons h1 (NKs.append h2 g)

/-! ### equality of such data -/
mutual
theorem NK.dp {K : PySem.W.Frag} {H : Hp} : ∀ (k : NestedKey) (v : V), NK H k v → Dp K H v k.data
  | .none, _, x => nomatch x
  | .num i, _, x => by cases x; exact .int i
  | .text y, _, x => by cases x; exact .str y
  | .tup ks, _, x => by
    cases x with
    | tup h1 h2 => exact .tup (SqT.of h1) (NKs.dp ks _ h2)
theorem NKs.dp {K : PySem.W.Frag} {H : Hp} : ∀ (ks : List NestedKey) (vs : List V), NKs H ks vs → DpAll K H vs (NestedKey.datas ks)
  | [], _, x => by cases x; exact .nil
  | k :: ks, _, x => by
    cases x with
    | cons x1 x2 => exact .cons (NK.dp k _ x1) (NKs.dp ks _ x2)
end
mutual
theorem data_eqv : ∀ a b : NestedKey, PyData.eqv a.data b.data = NestedKey.beq a b
  | .none, .none => by simp [NestedKey.data, PyData.eqv, NestedKey.beq]
  | .none, .num _ => by simp [NestedKey.data, PyData.eqv, NestedKey.beq]
  | .none, .text _ => by simp [NestedKey.data, PyData.eqv, NestedKey.beq]
  | .none, .tup _ => by simp [NestedKey.data, PyData.eqv, NestedKey.beq]
  | .num _, .none => by simp [NestedKey.data, PyData.eqv, NestedKey.beq]
  | .num a, .num b => by simp [NestedKey.data, PyData.eqv, NestedKey.beq, Bool.beq_eq_decide_eq]
  | .num _, .text _ => by simp [NestedKey.data, PyData.eqv, NestedKey.beq]
  | .num _, .tup _ => by simp [NestedKey.data, PyData.eqv, NestedKey.beq]
  | .text _, .none => by simp [NestedKey.data, PyData.eqv, NestedKey.beq]
  | .text _, .num _ => by simp [NestedKey.data, PyData.eqv, NestedKey.beq]
  | .text a, .text b => by
    simp only [NestedKey.data, PyData.eqv, NestedKey.beq]
    rw [Bool.eq_iff_iff]
    simp
  | .text _, .tup _ => by simp [NestedKey.data, PyData.eqv, NestedKey.beq]
  | .tup _, .none => by simp [NestedKey.data, PyData.eqv, NestedKey.beq]
  | .tup _, .num _ => by simp [NestedKey.data, PyData.eqv, NestedKey.beq]
  | .tup _, .text _ => by simp [NestedKey.data, PyData.eqv, NestedKey.beq]
  | .tup a, .tup b => by
    simp only [NestedKey.data, PyData.eqv, NestedKey.beq]
    exact datas_eqv a b
theorem datas_eqv : ∀ a b : List NestedKey, PyData.eqvAll (NestedKey.datas a) (NestedKey.datas b) = NestedKey.beqAll a b
  | [], [] => by simp [NestedKey.datas, PyData.eqvAll, NestedKey.beqAll]
  | [], _ :: _ => by simp [NestedKey.datas, PyData.eqvAll, NestedKey.beqAll]
  | _ :: _, [] => by simp [NestedKey.datas, PyData.eqvAll, NestedKey.beqAll]
  | a :: as, b :: bs => by
    simp only [NestedKey.datas, PyData.eqvAll, NestedKey.beqAll]
    rw [data_eqv a b, datas_eqv as bs]
end
theorem data_eq (a b : NestedKey) : PyData.eqv a.data b.data = decide (a = b) := by rw [data_eqv, NestedKey.decide_eq]
mutual
/-- no text in it -/
def nums : NestedKey → Bool
  | .none => true
  | .num _ => true
  | .text _ => false
  | .tup ks => numsAll ks
def numsAll : List NestedKey → Bool
  | [] => true
  | k :: ks => nums k && numsAll ks
end
mutual
theorem data_lay : ∀ k : NestedKey, nums k = true → k.data.canLay0 = true
  | .none, _ => by simp [NestedKey.data, PyData.canLay0]
  | .num _, _ => by simp [NestedKey.data, PyData.canLay0]
  | .text _, h => by simp [nums] at h
  | .tup ks, h => by simp only [NestedKey.data, PyData.canLay0]; exact datas_lay ks (by simpa [nums] using h)
theorem datas_lay : ∀ ks : List NestedKey, numsAll ks = true → PyData.canLayAll0 (NestedKey.datas ks) = true
  | [], _ => by simp [NestedKey.datas, PyData.canLayAll0]
  | k :: ks, h => by
    simp only [numsAll, Bool.and_eq_true] at h
    simp only [NestedKey.datas, PyData.canLayAll0]; rw [data_lay k h.1, datas_lay ks h.2]; rfl
end
mutual
theorem data_depth : ∀ k : NestedKey, k.data.depth = k.depth
  | .none => by simp [NestedKey.data, PyData.depth, NestedKey.depth]
  | .num _ => by simp [NestedKey.data, PyData.depth, NestedKey.depth]
  | .text _ => by simp [NestedKey.data, PyData.depth, NestedKey.depth]
  | .tup ks => by simp only [NestedKey.data, PyData.depth, NestedKey.depth]; rw [datas_depth ks]
theorem datas_depth : ∀ ks : List NestedKey, PyData.depthAll (NestedKey.datas ks) = NestedKey.depthAll ks
  | [] => by simp [NestedKey.datas, PyData.depthAll, NestedKey.depthAll]
  | k :: ks => by simp only [NestedKey.datas, PyData.depthAll, NestedKey.depthAll]; rw [data_depth k, datas_depth ks]
end
theorem data_shaped {k : NestedKey} (hn : nums k = true) (h : k.depth ≤ 64) : SeqAt.shaped k.data = true := by
  show (k.data.canLay0 && decide (k.data.depth ≤ 64)) = true
  rw [data_lay k hn, data_depth, Bool.true_and]
  exact decide_eq_true h
theorem datas_map (ks : List NestedKey) : NestedKey.datas ks = ks.map NestedKey.data := by
  induction ks with
  | nil => rfl
  | cons k ks ih => rw [NestedKey.datas, ih, List.map_cons]
theorem list_shaped {ks : List NestedKey} (hn : numsAll ks = true) (h : NestedKey.depthAll ks ≤ 63) : SeqAt.shaped (.list (NestedKey.datas ks)) = true := by
  show (PyData.canLay0 (.list (NestedKey.datas ks)) && decide (PyData.depth (.list (NestedKey.datas ks)) ≤ 64)) = true
  have e1 : PyData.canLay0 (.list (NestedKey.datas ks)) = true := by simp only [PyData.canLay0]; exact datas_lay ks hn
  have e2 : PyData.depth (.list (NestedKey.datas ks)) = NestedKey.depthAll ks + 1 := by simp only [PyData.depth]; rw [datas_depth]
  rw [e1, e2, Bool.true_and]
  exact decide_eq_true (by omega)
theorem any_data (ks : List NestedKey) (k : NestedKey) : ((NestedKey.datas ks).any fun z => PyData.eqv z k.data) = decide (k ∈ ks) := by
  induction ks with
  | nil => rfl
  | cons j ks ih =>
    rw [NestedKey.datas, List.any_cons, ih, data_eq, Bool.eq_iff_iff]
    simp only [Bool.or_eq_true, decide_eq_true_eq, List.mem_cons]
    exact ⟨fun h => h.elim (fun e => .inl e.symm) .inr, fun h => h.elim (fun e => .inl e.symm) .inr⟩

/-! ### the dict as an object -/
/-- an entry as the model lays it -/
def entN (w : World) (x : NestedKey × Addr × Value) : DictEntry := ⟨x.1.hash w, .ref x.2.1, x.2.2⟩
abbrev NEnts := List (NestedKey × Addr × V)
abbrev RelE : NEnts → List (NestedKey × Addr × Value) → Prop := Paired fun p q => p.1 = q.1 ∧ p.2.1 = q.2.1 ∧ RelV p.2.2 q.2.2
/-- the dict at d with the entries xs (key, where its tuple stands, value) -/
def ndO (w : World) (d : Addr) (xs : NEnts) : HO := .ext fun h => xs.length ≤ sizeLine ∧ (d == sysModules) = false ∧ (xs.map (·.1)).Nodup ∧
  ∃ ys, RelE xs ys ∧ ∃ o es ep, h.get? d = some o ∧ o.ExactDict ∧ o.data = .dict es ep ∧ es.toList = ys.map (entN w)
/-- the keys' tuples stand -/
def KeysOk (H : Hp) (xs : NEnts) : Prop := ∀ x ∈ xs, NK H x.1 (.ref x.2.1) ∧ x.1.depth ≤ 8
theorem KeysOk.tx {H H' : Hp} {xs : NEnts} (t : TX H H') (k : KeysOk H xs) : KeysOk H' xs := fun x hx => ⟨NK.tx t _ _ (k x hx).1, (k x hx).2⟩
theorem KeysOk.nil {H : Hp} : KeysOk H [] := fun _ h => nomatch h
def kvN (xs : NEnts) : List (NestedKey × V) := xs.map fun x => (x.1, x.2.2)
/-- put: in its place, or at the end -/
def putN (xs : NEnts) (k : NestedKey) (b : Addr) (v : V) : NEnts :=
  if (xs.any fun x => decide (x.1 = k)) = true then xs.map (fun x => if x.1 = k then (x.1, x.2.1, v) else x) else xs ++ [(k, b, v)]
theorem kvN_put (xs : NEnts) (k : NestedKey) (b : Addr) (v : V) : kvN (putN xs k b v) = putK (kvN xs) k v := by
  have e : ((kvN xs).any fun kv => decide (kv.1 = k)) = xs.any fun x => decide (x.1 = k) := by
    unfold kvN
    rw [List.any_map]
    rfl
  unfold putN putK
  rw [e]
  split
  · unfold kvN
    rw [List.map_map, List.map_map]
    refine List.map_congr_left fun x _ => ?_
    show _ = if x.1 = k then (x.1, v) else (x.1, x.2.2)
    by_cases h : x.1 = k <;> simp [h]
  · unfold kvN
    rw [List.map_append]
    rfl
theorem putN_keys {H : Hp} {xs : NEnts} {k : NestedKey} {b : Addr} {v : V} (h : KeysOk H xs) (hk : NK H k (.ref b)) (hd : k.depth ≤ 8) : KeysOk H (putN xs k b v) := by
  intro x hx
  unfold putN at hx
  split at hx
  · obtain ⟨y, hy, rfl⟩ := List.mem_map.mp hx
    split
    · exact h y hy
    · exact h y hy
  · rcases List.mem_append.mp hx with z | z
    · exact h x z
    · cases List.mem_singleton.mp z
      exact ⟨hk, hd⟩
theorem length_putN (xs : NEnts) (k : NestedKey) (b : Addr) (v : V) : (putN xs k b v).length ≤ xs.length + 1 := by
  unfold putN
  split
  · rw [List.length_map]; omega
  · rw [List.length_append]; exact Nat.le_refl _
theorem kvN_length (xs : NEnts) : (kvN xs).length = xs.length := List.length_map _
theorem RelE.keys {xs : NEnts} {ys : List (NestedKey × Addr × Value)} (r : RelE xs ys) : xs.map (·.1) = ys.map (·.1) := by
  induction r with
  | nil => rfl
  | cons h _ ih => rw [List.map_cons, List.map_cons, ih, h.1]
theorem RelE.at {xs : NEnts} {ys : List (NestedKey × Addr × Value)} (r : RelE xs ys) (k : NestedKey) : RelO (valV (kvN xs) k) ((atKey ys k).map (·.2)) := by
  induction r with
  | nil => exact True.intro
  | @cons p q ps qs h _ ih =>
    have e0 : kvN (p :: ps) = (p.1, p.2.2) :: kvN ps := rfl
    rw [e0]
    by_cases e : p.1 = k
    · have e' : q.1 = k := h.1.symm.trans e
      rw [valV_pos (p := (p.1, p.2.2)) e]
      have e2 : atKey (q :: qs) k = some q.2 := by simp [atKey, e']
      rw [e2]
      exact h.2.2
    · have e' : ¬ q.1 = k := fun z => e (h.1.trans z)
      rw [valV_neg (p := (p.1, p.2.2)) e]
      have e2 : atKey (q :: qs) k = atKey qs k := by simp [atKey, e']
      rw [e2]
      exact ih
theorem RelE.put {xs : NEnts} {ys : List (NestedKey × Addr × Value)} (r : RelE xs ys) (k : NestedKey) (b : Addr) {v : V} {u : Value} (rv : RelV v u) : RelE (putN xs k b v) (storedH ys k b u) := by
  have e : (xs.any fun x => decide (x.1 = k)) = (atKey ys k).isSome := by
    have h1 := (r.at k).isSome_eq
    rw [Option.isSome_map, ← valV_any] at h1
    rw [← h1]
    unfold kvN
    rw [List.any_map]
    rfl
  have rep : RelE (xs.map fun x => if x.1 = k then (x.1, x.2.1, v) else x) (ys.map (putAt k u)) := by
    clear e
    induction r with
    | nil => exact .nil
    | @cons p q ps qs h _ ih =>
      rw [List.map_cons, List.map_cons]
      refine .cons ?_ ih
      unfold putAt
      by_cases z : p.1 = k
      · rw [if_pos z, if_pos (h.1.symm.trans z)]
        exact ⟨h.1, h.2.1, rv⟩
      · rw [if_neg z, if_neg (fun y => z (h.1.trans y))]
        exact h
  unfold putN storedH
  rw [e]
  split
  · exact rep
  · exact Paired.snoc r ⟨rfl, rfl, rv⟩
theorem RelE.length {xs : NEnts} {ys : List (NestedKey × Addr × Value)} (r : RelE xs ys) : xs.length = ys.length := Paired.length r

section
variable {P : Program} {w : World} {H : Hp} {h : Heap} {d : Addr} {xs : NEnts}
theorem entN_eq : (entN w) = entryOfKey (nestedKind P w) := rfl
/-- what the model holds of it -/
theorem nd_of (ok : HOk P w H h) (e : Rd H d (ndO w d xs)) (k : KeysOk H xs) : xs.length ≤ sizeLine ∧ (d == sysModules) = false ∧ ∃ ys, RelE xs ys ∧ h.DictOfH (nestedKind P w) d ys := by
  obtain ⟨⟨z, hd, nd, ys, r, o, es, ep, h1, h2, h3, h4⟩, _, _⟩ := (show ObjOk P w H h d (ndO w d xs) from e.ok ok)
  refine ⟨z, hd, ys, r, o, es, ep, h1, h2, h3, by rw [h4]; rfl, fun y hy => ?_, by rw [← r.keys]; exact nd⟩
  have all : ∀ {l : NEnts} {m : List (NestedKey × Addr × Value)}, RelE l m → (∀ x ∈ l, NK H x.1 (.ref x.2.1) ∧ x.1.depth ≤ 8) → ∀ y ∈ m, (nestedKind P w).is h y.1 y.2.1 := by
    intro l m q
    induction q with
    | nil => intro _ y hy; exact nomatch hy
    | @cons a b as bs hq _ ih =>
      intro hl y hy
      rcases List.mem_cons.mp hy with e | hy
      · subst e
        obtain ⟨n1, n2⟩ := hl a List.mem_cons_self
        rw [← hq.1, ← hq.2.1]
        exact ⟨NK.is ok _ _ _ n1 rfl, n2⟩
      · exact ih (fun x hx => hl x (List.mem_cons_of_mem _ hx)) y hy
  exact all r k y hy
theorem nd_new {ys : List (NestedKey × Addr × Value)} (z : xs.length ≤ sizeLine) (hd : (d == sysModules) = false) (r : RelE xs ys) (dd : h.DictOfH (nestedKind P w) d ys) : ObjOk P w H h d (ndO w d xs) := by
  obtain ⟨o, es, ep, h1, h2, h3, h4, _, h6⟩ := dd
  refine ⟨⟨z, hd, by rw [r.keys]; exact h6, ys, r, o, es, ep, h1, h2, h3, by rw [h4]; rfl⟩, ⟨o, h1⟩, ?_⟩
  rintro g1 g2 ⟨z', hd', nd', ys', r', o', es', ep', e1, e2, e3, e4⟩ st
  exact ⟨z', hd', nd', ys', r', o', es', ep', st _ e1, e2, e3, e4⟩
theorem mut_nd : Mut (some (ndO w d xs)) := True.intro
theorem nd_ne_tup (ys : List V) : ndO w d xs ≠ .tup ys := fun z => nomatch z
end
theorem hu9 {A : Around} {k : Nat} (hr : Room k A) : A.units + 9 < cLine := Nat.lt_of_le_of_lt (Nat.add_le_add_left (by decide : 9 ≤ 64) _) hr.units
theorem hu65 {A : Around} {k : Nat} (hr : Room k A) : A.units + 65 < cLine := by have := hr.un; omega
theorem room9 {P : Program} {w : World} {A : Around} (hu : A.units + 9 < cLine) : (nestedKind P w).room A.in1 := by
  show A.units + 1 + 8 < cLine
  omega

/-! ### readings -/
/-- the dict at a, read at the nested datum y -/
def NGet (w : World) (H : Hp) (a : Addr) (y : V) (r : Option V) : Prop := ∃ xs k b, Rd H a (ndO w a xs) ∧ KeysOk H xs ∧ y = .ref b ∧ NK H k y ∧ k.depth ≤ 8 ∧ r = valV (kvN xs) k
/-- a[y] = v -/
def NPut (w : World) (H : Hp) (a : Addr) (y v : V) (H' : Hp) : Prop := ∃ xs k b, H a = some (ndO w a xs) ∧ KeysOk H xs ∧ y = .ref b ∧ NK H k y ∧ k.depth ≤ 8 ∧ xs.length < sizeLine ∧ H' = upd H a (ndO w a (putN xs k b v))
section
variable {X : Cx} {pins : List (Addr × Obj)} {σ : L2.St} {H : Hp} {s : Shared} {a : Addr} {y v : V} {u r : Value} {o : Option V}
theorem n_type (I : Inv X pins σ H s) (g : NGet X.w H a y o) : s.TypeIs (.ref a) "dict" := by
  obtain ⟨xs, k, b, e, ks, _⟩ := g
  obtain ⟨_, _, ys, _, dd⟩ := nd_of I.hok e ks
  exact dd.typeIs
theorem n_get {Q : Value → Shared → Prop} {E : Value → Shared → Prop} (hu : X.A.units + 9 < cLine) (I : Inv X pins σ H s) (g : NGet X.w H a y (some v)) (ry : RelV y u) (h : ∀ u' s', Inv X pins σ H s' → RelV v u' → Q u' s') :
    wpAny (model X.prog X.w) X.A (getItem (.ref a) u) Q E s := by
  obtain ⟨xs, k, b, e, ks, rfl, nk, dk, l⟩ := g
  obtain rfl : u = Value.ref b := ry
  obtain ⟨_, _, ys, rel, dd⟩ := nd_of I.hok e ks
  obtain ⟨u', hu', ru'⟩ := RelO.some_of (v := v) (o := (atKey ys k).map (·.2)) (by rw [l]; exact rel.at k)
  obtain ⟨p, hp, hp2⟩ := Option.map_eq_some_iff.mp hu'
  refine wpAny_getItem_heap (room9 hu) ⟨NK.is I.hok _ _ _ nk rfl, dk⟩ dd hp ?_
  rw [hp2]
  exact h u' _ (I.tok _) ru'
theorem n_in {Q : Value → Shared → Prop} {E : Value → Shared → Prop} (hu : X.A.units + 9 < cLine) (I : Inv X pins σ H s) (g : NGet X.w H a y o) (ry : RelV y u) (h : ∀ s', Inv X pins σ H s' → Q (.bool o.isSome) s') :
    wpAny (model X.prog X.w) X.A (compareOp .In u (.ref a)) Q E s := by
  obtain ⟨xs, k, b, e, ks, rfl, nk, dk, l⟩ := g
  obtain rfl : u = Value.ref b := ry
  obtain ⟨_, hd, ys, rel, dd⟩ := nd_of I.hok e ks
  refine wpAny_in_heap (room9 hu) ⟨NK.is I.hok _ _ _ nk rfl, dk⟩ hd dd ?_
  have e1 := (rel.at k).isSome_eq
  rw [Option.isSome_map] at e1
  rw [← e1, ← l]
  exact h _ (I.tok _)
theorem n_notin {Q : Value → Shared → Prop} {E : Value → Shared → Prop} (hu : X.A.units + 9 < cLine) (I : Inv X pins σ H s) (g : NGet X.w H a y o) (ry : RelV y u) (h : ∀ s', Inv X pins σ H s' → Q (.bool (!o.isSome)) s') :
    wpAny (model X.prog X.w) X.A (compareOp .NotIn u (.ref a)) Q E s := by
  obtain ⟨xs, k, b, e, ks, rfl, nk, dk, l⟩ := g
  obtain rfl : u = Value.ref b := ry
  obtain ⟨_, hd, ys, rel, dd⟩ := nd_of I.hok e ks
  refine wpAny_notIn_heap (room9 hu) ⟨NK.is I.hok _ _ _ nk rfl, dk⟩ hd dd ?_
  have e1 := (rel.at k).isSome_eq
  rw [Option.isSome_map] at e1
  rw [← e1, ← l]
  exact h _ (I.tok _)
/-- the dict's object behind a store -/
theorem n_write {h' : Heap} {t' : Nat} {xs xs' : NEnts} {ys' : List (NestedKey × Addr × Value)} (I : Inv X pins σ H s) (e : H a = some (ndO X.w a xs)) (hs : Heap.SameBut a s.heap h') (z : xs'.length ≤ sizeLine) (hd : (a == sysModules) = false)
    (rel : RelE xs' ys') (dd : h'.DictOfH (nestedKind X.prog X.w) a ys') : Inv X pins σ (upd H a (ndO X.w a xs')) { s with heap := h', toks := t' } := by
  obtain ⟨q, _, _, hq, _⟩ := id dd
  exact I.write (x := a) (e := a) (by rw [e]; exact True.intro) (.inl rfl) (fun c z hc hz => (hs.2 c hc).trans hz) ⟨q, hq⟩ (nd_new z hd rel dd)
theorem n_set {H' : Hp} {Q : Unit → Shared → Prop} {E : Value → Shared → Prop} (hu : X.A.units + 9 < cLine) (I : Inv X pins σ H s) (g : NPut X.w H a y v H') (ry : RelV y u) (rv : RelV v r) (h : ∀ s', Inv X pins σ H' s' → Q () s') :
    wpAny (model X.prog X.w) X.A (setItem (.ref a) u r) Q E s := by
  obtain ⟨xs, k, b, e, ks, rfl, nk, dk, l, rfl⟩ := g
  obtain rfl : u = Value.ref b := ry
  obtain ⟨z, hd, ys, rel, dd⟩ := nd_of I.hok (.inl e) ks
  refine wpAny_setItem_heap (hsz := by rw [← rel.length]; exact z) (room9 hu) ⟨NK.is I.hok _ _ _ nk rfl, dk⟩ dd fun h' dd' hs => h _ (n_write I e hs ?_ hd (rel.put k b rv) dd')
  have := length_putN xs k b v
  omega
end
/-- d[y]; y in d; y not in d; d[y] = v -/
def tNGet (w : World) (td ty : TE) : TE := fun σ H Q => td σ H fun x H1 => ty σ H1 fun y H2 => ∃ a v, x = .ref a ∧ NGet w H2 a y (some v) ∧ Q v H2
def rNIn (w : World) : R2 := fun y x H Q => ∃ a o, x = .ref a ∧ NGet w H a y o ∧ Q (.bl o.isSome) H
def rNNotIn (w : World) : R2 := fun y x H Q => ∃ a o, x = .ref a ∧ NGet w H a y o ∧ Q (.bl (!o.isSome)) H
def sNPut (w : World) (td ty tv : TE) : TS := fun D σ H => tv σ H fun v H1 => td σ H1 fun x H2 => ty σ H2 fun y H3 => ∃ a H4, x = .ref a ∧ NPut w H3 a y v H4 ∧ D.nx σ H4
section
variable {X : Cx} {o i e value : Expr} {pos pos' : Pos} {td ty tv : TE}
theorem pe_nget (hu : X.A.units + 9 < cLine) (ho : PE X o td) (hi : PE X i ty) (hs : NoSl i) : PE X (.Subscript o i pos) (tNGet X.w td ty) := by
  constructor
  intro pins s σ H Q I h
  refine subD_of PySem.F.slot_dict_getitem.lookup hs (thn (ho.run pins s σ H _ I h) fun u s1 ⟨x, H1, I1, rx, q1⟩ => thn (hi.run pins s1 σ H1 _ I1 q1) fun iv s2 ⟨y, H2, I2, ry, a, v, ex, g, q2⟩ => ?_)
  subst ex
  obtain rfl : u = Value.ref a := rx
  exact ⟨n_type I2 g, n_get hu I2 g ry fun u' s3 I3 ru' => ⟨v, H2, I3, ru', q2⟩⟩
theorem op_nin (hu : X.A.units + 9 < cLine) : OpR X (compareOp .In) (rNIn X.w) := by
  rintro pins s σ H y x u ux Q I ry rx ⟨a, o, rfl, g, q⟩
  obtain rfl : ux = Value.ref a := rx
  exact n_in hu I g ry fun s3 I3 => ⟨.bl o.isSome, H, I3, rfl, q⟩
theorem op_nnotin (hu : X.A.units + 9 < cLine) : OpR X (compareOp .NotIn) (rNNotIn X.w) := by
  rintro pins s σ H y x u ux Q I ry rx ⟨a, o, rfl, g, q⟩
  obtain rfl : ux = Value.ref a := rx
  exact n_notin hu I g ry fun s3 I3 => ⟨.bl (!o.isSome), H, I3, rfl, q⟩
theorem ps_nput (hu : X.A.units + 9 < cLine) (ho : PE X o td) (hi : PE X i ty) (hv : PE X value tv) (hs : swapsWith value (some (.Subscript o i pos')) pos.line X.env = pure false) :
    PS X (.Assign [.Subscript o i pos'] value pos) (sNPut X.w td ty tv) := by
  constructor
  intro pins s σ H D I h
  refine wpAny_Assign_Subscript (thn (hv.run pins s σ H _ I h) fun r s1 ⟨v, H1, I1, rv, q1⟩ => thn (ho.run pins s1 σ H1 _ I1 q1) fun u s2 ⟨x, H2, I2, rx, q2⟩ => thn (hi.run pins s2 σ H2 _ I2 q2) fun iv s3 ⟨y, H3, I3, ry, a, H4, ex, g, q3⟩ => ?_) hs
  subst ex
  obtain rfl : u = Value.ref a := rx
  exact n_set hu I3 g ry rv fun s4 I4 => ⟨σ, H4, I4, q3⟩
end

/-! ### making one; len; list(d); its keys walked -/
theorem nd_empty {P : Program} {w : World} {H : Hp} (h : Heap) (hb : sysModules < h.objs.size) : ObjOk P w H (h.push { cls := .type "dict", data := .dict #[] }) h.objs.size (ndO w h.objs.size []) :=
  nd_new (Nat.zero_le _) (beq_eq_false_iff_ne.mpr (Ne.symm (Nat.ne_of_lt hb))) .nil (Heap.DictOfH.new h)
def tNNew (w : World) : TE := fun _ H Q => ∀ p, H p = none → Q (.ref p) (upd H p (ndO w p []))
theorem pe_nnew {X : Cx} {pos : Pos} : PE X (.Dict [] [] pos) (tNNew X.w) := by
  constructor
  intro pins s σ H Q I h
  exact wpAny_Dict_empty ⟨.ref s.heap.objs.size, _, I.laid (a := s.heap.objs.size) (o := ndO X.w s.heap.objs.size []) (t' := s.toks) (fun _ _ q => Heap.get?_push_of_some _ q) (Nat.le_refl _) (nd_empty s.heap I.big), rfl, h _ (I.hok.fresh (Nat.le_refl _))⟩
def rNLen (w : World) : List V → Hp → VK → Prop := fun xs H Q => ∃ p es, xs = [.ref p] ∧ Rd H p (ndO w p es) ∧ KeysOk H es ∧ Q (.int (es.length : Int)) H
theorem call_nlen {X : Cx} : CallR X (.builtin "len") (rNLen X.w) := by
  rintro pins s σ H xs us Q I r ⟨p, es, rfl, hp, ks, q⟩
  obtain ⟨u, rfl, rx⟩ := vals1 r
  obtain rfl : u = .ref p := rx
  obtain ⟨z, hd, ys, rel, dd⟩ := nd_of I.hok hp ks
  have hl := rel.length
  refine call_len_dictH hd dd (by rw [← hl]; rw [sizeLine_eq] at z; omega) ?_
  rw [← hl]
  exact ⟨.int (es.length : Int), H, I.tok _, ⟨_, rfl⟩, q⟩
/-- the keys' addresses -/
def refsN (xs : NEnts) : List V := xs.map fun x => .ref x.2.1
def rNList (w : World) : List V → Hp → VK → Prop := fun xs H Q => ∃ d es, xs = [V.ref d] ∧ Rd H d (ndO w d es) ∧ KeysOk H es ∧ ∀ p, H p = none → Q (.ref p) (upd H p (.lst (refsN es)))
theorem refs_vals : ∀ {xs : NEnts} {ys : List (NestedKey × Addr × Value)}, RelE xs ys → Vals (refsN xs) (ys.map fun x => Value.ref x.2.1)
  | _, _, .nil => .nil
  | _, _, .cons h t => .cons (congrArg Value.ref h.2.1).symm (refs_vals t)
theorem call_nlist {X : Cx} (hc : X.calm = true) : CallR X (.type "list") (rNList X.w) := by
  rintro pins s σ H xs us Q I r ⟨d, en, rfl, hd, ks, q⟩
  obtain ⟨u, rfl, rx⟩ := vals1 r
  obtain rfl : u = .ref d := rx
  obtain ⟨z, hs, ys, rel, o, es, ep, ho, hx, hdt, he, _, _⟩ := nd_of I.hok hd ks
  have l1 : es.size = ys.length := size_of_entries he
  have l2 := rel.length
  refine PySem.W.kdl_call (kdl_raw hs hx hdt) (I.ok.hd hc) ho (by omega) fun h' tk acc c kp e it => ?_
  have ea : acc.toList = ys.map fun x => Value.ref x.2.1 := by
    have hl : acc.toList.length = ys.length := by rw [Array.length_toList, it.1]; exact l1
    refine List.ext_getElem? fun j => ?_
    rw [List.getElem?_map]
    rcases hj : acc.toList[j]? with _ | v
    · have h1 := List.getElem?_eq_none_iff.mp hj
      rw [List.getElem?_eq_none (by omega)]
      rfl
    · obtain ⟨en, hen, hv⟩ := it.2 j v (by rw [← Array.getElem?_toList]; exact hj)
      have qe := entry_at he j
      rw [hen] at qe
      rcases hb : ys[j]? with _ | b
      · rw [hb] at qe
        cases qe
      · rw [hb] at qe
        have e2 : en = entryOfKey (nestedKind X.prog X.w) b := Option.some.inj qe
        rw [hv, e2]
        rfl
  have rv : Vals (refsN en) acc.toList := by rw [ea]; exact refs_vals rel
  refine ⟨.ref s.heap.objs.size, _, I.laid (t' := tk) (o := .lst (refsN en)) kp (Nat.le_refl _) ⟨?_, acc.toList, c, rv, by rw [Array.toArray_toList]; exact e⟩, rfl, q _ (I.hok.fresh (Nat.le_refl _))⟩
  show (refsN en).length ≤ sizeLine
  rw [refsN, List.length_map]
  exact z
end NC
set_option Elab.async false
set_option linter.all false
set_option maxRecDepth 100000
set_option maxHeartbeats 4000000
/-! More that is walked: the keys of a locked dict with nested keys; enumerate over a tuple; zip of a tuple and a list. -/
namespace NC
open PySem PySem.Spec PyProof.Rows L2

/-! ### the keys of a locked dict -/
/-- the i-th key's own tuple -/
def ItN (w : World) (d : Addr) (o : Obj) (xs : NEnts) : It :=
  ⟨fun i H => H d = some (.frz o (ndO w d xs)) ∧ KeysOk H xs ∧ i < xs.length, fun i H x H' => H' = H ∧ ∃ e, xs[i]? = some e ∧ x = .ref e.2.1, fun i H => H d = some (.frz o (ndO w d xs)) ∧ KeysOk H xs ∧ xs.length ≤ i⟩
theorem rele_at {xs : NEnts} {ys : List (NestedKey × Addr × Value)} (r : RelE xs ys) : ∀ {i : Nat} {e : NestedKey × Addr × V}, xs[i]? = some e → ∃ f, ys[i]? = some f ∧ f.2.1 = e.2.1 := by
  induction r with
  | nil => intro i e h; simp at h
  | cons h _ ih =>
    intro i e q
    cases i with
    | zero => exact ⟨_, rfl, by rw [← Option.some.inj q]; exact h.2.1.symm⟩
    | succ i => exact ih (i := i) (e := e) (by simpa using q)
theorem frzN {X : Cx} {pins : List (Addr × Obj)} {σ : L2.St} {H : Hp} {s : Shared} {d : Addr} {o : Obj} {xs : NEnts} (I : Inv X pins σ H s) (h : H d = some (.frz o (ndO X.w d xs))) (k : KeysOk H xs) :
    (d == sysModules) = false ∧ s.heap.get? d = some o ∧ o.ExactDict ∧ ∃ (es : Array DictEntry) (ep : Nat), o.data = .dict es ep ∧ es.size = xs.length ∧ ∀ (i : Nat) (e : NestedKey × Addr × V), xs[i]? = some e → ∃ en : DictEntry, es[i]? = some en ∧ en.key = .ref e.2.1 := by
  have hd : s.heap.get? d = some o := (I.hok d _ h).1
  obtain ⟨_, hs, ys, r, o', es, ep, ho, hx, hdt, he, _, _⟩ := nd_of I.hok (.inr ⟨o, h⟩) k
  rw [hd] at ho
  cases ho
  refine ⟨hs, hd, hx, es, ep, hdt, ?_, fun i e q => ?_⟩
  · rw [size_of_entries he, r.length]
  · obtain ⟨f, hf, ef⟩ := rele_at r q
    have q2 := entry_at he i
    rw [hf] at q2
    exact ⟨_, q2, by rw [← ef]; rfl⟩
theorem turn_N {P : Program} {w : World} {K : PySem.W.Frag} {tg : Expr} {d : Addr} {o : Obj} {es : Array DictEntry} {ep : Nat} {xs : NEnts} (it : Addr) (hod : o.data = .dict es ep) :
    Turn P w K tg (ItN w d o xs) [it] it (fun i h => h.IsKeyIter it d i xs.length ep) where
  mem := List.mem_singleton_self it
  obj := fun i h st b hb => by
    cases List.mem_singleton.mp hb
    obtain ⟨oi, e, _, dd⟩ := st
    exact ⟨oi, e, fun v z => by rw [dd] at z; cases z⟩
  keep := fun i h h' st k => st.at fun oi e => k it (List.mem_singleton_self it) oi e
  item := by
    intro X hP hw hK hc i pins s σ H E I hf st hg
    subst hP hw hK
    obtain ⟨hd, ks, hi⟩ := hg
    obtain ⟨f0, f1, f2, f3, f4, f5⟩ := hf it (List.mem_singleton_self it)
    obtain ⟨hs, hgd, hx, es', ep', hdt, hsz, ent⟩ := frzN I hd ks
    obtain ⟨rfl, rfl⟩ := dict_ep hod hdt
    have hkv : xs[i]? = some xs[i] := List.getElem?_eq_getElem hi
    obtain ⟨en, hen, hkey⟩ := ent i _ hkv
    refine next_key_item st hgd hdt hsz hen fun h' st' sb => ?_
    have I1 : Inv X pins σ H { s with heap := h' } := I.turned (t' := s.toks) (fun b ob hb e => (sb.2 b hb).trans e) f0 f1 f3 f4 f5
    obtain ⟨oi, e, c, dd⟩ := id st'
    exact ⟨en.key, rfl, go_of (s := { s with heap := h' }) e c dd (by decide) ⟨.ref xs[i].2.1, H, I1, hkey, ⟨rfl, _, hkv, rfl⟩, st', fun b hb => (hf b hb).1⟩⟩
  done := by
    intro X hP hw hK hc i pins s σ H E I hf st hg
    subst hP hw hK
    obtain ⟨hd, ks, hi⟩ := hg
    obtain ⟨f0, f1, f2, f3, f4, f5⟩ := hf it (List.mem_singleton_self it)
    obtain ⟨hs, hgd, hx, es', ep', hdt, hsz, ent⟩ := frzN I hd ks
    obtain ⟨rfl, rfl⟩ := dict_ep hod hdt
    exact next_key_end (I.ok.hd hc) st hgd hdt hsz hi fun h' eb => ⟨rfl, I.turned (t' := s.toks) (fun b ob hb e => eb b ob hb e) f0 f1 f3 f4 f5⟩
  self := fun A i s Q E st h => wpAny_pyIter_keyiter st h
def iNKeys (w : World) (td : TE) : TI := fun σ H R => td σ H fun x H1 => ∃ d o xs, x = .ref d ∧ H1 d = some (.frz o (ndO w d xs)) ∧ KeysOk H1 xs ∧ R (ItN w d o xs) H1
theorem pi_nkeys {X : Cx} {tg e : Expr} {td : TE} (he : PE X e td) : PI X tg e (iNKeys X.w td) := by
  constructor
  intro pins s σ H R I h
  refine thn (he.run pins s σ H _ I h) fun u s1 ⟨x, H1, I1, rx, d, o, xs, ex, hd, ks, q⟩ => ?_
  subst ex
  obtain rfl : u = Value.ref d := rx
  obtain ⟨hs, hgd, hx, es, ep, hdt, hsz, ent⟩ := frzN I1 hd ks
  refine iter_keys hs hgd hx hdt (pi_one (tk := s1.toks) I1 _ (turn_N _ hdt) ⟨_, Heap.get?_push_size _ rfl, rfl, ?_⟩ q)
  rw [hsz]
  rfl
theorem walk_nkeys {w : World} {d : Addr} {o : Obj} {xs : NEnts} : Walk (ItN w d o xs) xs.length (fun H => H d = some (.frz o (ndO w d xs)) ∧ KeysOk H xs) (fun i H x H' => H' = H ∧ ∃ e, xs[i]? = some e ∧ x = .ref e.2.1) :=
  ⟨fun i H hi g => ⟨g.1, g.2, hi⟩, fun H g => ⟨g.1, g.2, Nat.le_refl _⟩, fun i H x H' _ _ y => y⟩

/-! ### new pairs given out: a bridge from the library's walks -/
/-- two values in a new tuple at each turn -/
def ItP (n : Nat) (G : Hp → Prop) (Y : Nat → V → V → Prop) : It :=
  ⟨fun i H => i < n ∧ G H, fun i H v H' => ∃ T x y, v = .ref T ∧ H T = none ∧ H' = upd H T (.tup [x, y]) ∧ Y i x y, fun i H => i = n ∧ G H⟩
theorem turn_pair {P : Program} {w : World} {K : PySem.W.Frag} {elts : List Expr} {kk : Nat} {tpos : Pos} {it : Addr} {fp wr : List Addr} {n : Nat} {α : Type} {ff : α → List Addr} {Yr : α → Nat → Heap → Value → Heap → Prop} {St : α → Nat → Heap → Prop} {own : Nat → Heap → Prop} {Ra : α → Prop} {G : Hp → Prop} {Y : Nat → V → V → Prop}
    (hmem : it ∈ fp) (hwr : ∀ b ∈ wr, b ∈ fp) (W : ∀ (A : Around) (z : α), A.handled = none → Ra z → GoesN P w A (.Tuple elts kk tpos) it (ff z) wr n (Yr z) (St z))
    (hobj : ∀ i h, own i h → ∀ b ∈ fp, ∃ o, h.get? b = some o ∧ ∀ v, o.data ≠ .cell v) (hkeep : ∀ i h h', own i h → (∀ b ∈ fp, ∀ o, h.get? b = some o → h'.get? b = some o) → own i h')
    (hin : ∀ (X : Cx), X.prog = P → X.w = w → X.K = K → ∀ i pins s σ H, Inv X pins σ H s → G H → own i s.heap → ∃ z, Ra z ∧ St z i s.heap) (hout : ∀ z i h, St z i h → own i h)
    (hY : ∀ z i h0 h' v, i < n → Ra z → Yr z i h0 v h' → ∃ T x y a b, v = .ref T ∧ h0.objs.size ≤ T ∧ h'.IsTuple T #[a, b] ∧ RelV x a ∧ RelV y b ∧ Y i x y)
    (hself : ∀ (A : Around) (i : Nat) (s : Shared) (Q : Value → Shared → Prop) (E : Value → Shared → Prop), own i s.heap → Q (.ref it) s → wpAny (model P w) A (pyIter (.ref it)) Q E s) :
    Turn P w K (.Tuple elts kk tpos) (ItP n G Y) fp it own where
  mem := hmem
  obj := hobj
  keep := hkeep
  item := by
    intro X hP hw hK hc i pins s σ H E I hf st hg
    obtain ⟨z, rz, st1⟩ := hin X hP hw hK i pins s σ H I hg.2 st
    have W1 := W X.A z (I.ok.hd hc) rz
    refine W1.goes i s (fun v s2 => ∃ x H', Inv X pins σ H' s2 ∧ RelV x v ∧ (ItP n G Y).yld i H x H' ∧ own (i + 1) s2.heap ∧ ∀ b ∈ fp, H' b = none) E hg.1 st1 fun v h' tk hYr st' hk _ => ?_
    obtain ⟨T, x, y, a, b, rfl, hT, hTup, ra, rb, yy⟩ := hY z i s.heap h' v hg.1 rz hYr
    obtain ⟨oT, e1, e2, nT, e3⟩ := hTup
    have new : ObjOk X.prog X.w (upd H T (.tup [x, y])) h' T (.tup [x, y]) := ⟨by show 2 ≤ sizeLine; decide, [a, b], .cons ra (.cons rb .nil), oT, e1, e2, nT, e3⟩
    have I1 := I.turnedNew (t' := tk) (ch := wr) (fun c o hc z => hk c o hc z) (fun c hc => hf c (hwr c hc)) hT new
    refine ⟨.ref T, _, I1, rfl, ⟨T, x, y, rfl, I.hok.fresh hT, rfl, yy⟩, hout _ _ _ st', fun c hc => ?_⟩
    obtain ⟨o, e, _⟩ := hobj _ _ st c hc
    rw [upd_ne (Nat.ne_of_lt (Nat.lt_of_lt_of_le (Heap.lt_size e) hT))]
    exact (hf c hc).1
  done := by
    intro X hP hw hK hc i pins s σ H E I hf st hg
    obtain ⟨rfl, g⟩ := hg
    obtain ⟨z, rz, st1⟩ := hin X hP hw hK i pins s σ H I g st
    exact (W X.A z (I.ok.hd hc) rz).stops s (fun s1 => Inv X pins σ H s1) E st1 fun h' tk hk _ => I.turnedL (ch := wr) (fun c o hc z => hk c o hc z) fun c hc => hf c (hwr c hc)
  self := hself

theorem walk_pair {n : Nat} {G : Hp → Prop} {Y : Nat → V → V → Prop} : Walk (ItP n G Y) n G (fun i H v H' => ∃ T x y, v = .ref T ∧ H T = none ∧ H' = upd H T (.tup [x, y]) ∧ Y i x y) :=
  ⟨fun i H hi g => ⟨hi, g⟩, fun H g => ⟨rfl, g⟩, fun i H x H' _ _ y => y⟩

/-! ### enumerate(t), t a tuple -/
set_option maxHeartbeats 2000000 in
theorem meets_enum1 (t : Addr) (items : Array Value) :
    Meets (Builtin.«enumerate.__new__» ⟨[.type "enumerate", .ref t], []⟩) (fun _ R s => s.heap.IsTuple t items ∧
      R (.ok (.ret (.ref (s.heap.push { cls := .type "tuple_iterator", data := .fields #[.ref t, .int 0 0] }).objs.size)))
        { s with heap := (s.heap.push { cls := .type "tuple_iterator", data := .fields #[.ref t, .int 0 0] }).push { cls := .type "enumerate", data := .fields #[.none, .bool false, .ref s.heap.objs.size, rawInt 0, .none, .none] } }) :=
  .of_wp fun prog w A R s h => by
    obtain ⟨hp, g, d, tk, os⟩ := s
    obtain ⟨h1, h⟩ := h
    have hsub := sub_enumerate
    have q1 : ∀ {A' : Around} {E : Value → Shared → Prop} {Q : Value → Shared → Prop}, Q (.ref hp.objs.size) ⟨hp.push { cls := .type "tuple_iterator", data := .fields #[.ref t, .int 0 0] }, g, d, tk, os⟩ → wpAny (model prog w) A' (pyIter (.ref t)) Q E ⟨hp, g, d, tk, os⟩ :=
      fun q => wpAny_pyIter_tuple h1 q
    obtain ⟨o1, ho1, _⟩ := id h1
    have ho1 : (⟨hp, g, d, tk, os⟩ : Shared).heap.get? t = some o1 := ho1
    obtain ⟨c0, dct, dt, sl⟩ := o1
    wp_walk using wpAny_loadPart' ho1, q1
    refine wpAny_stack_any fun st => wpAny_pure ?_
    split
    · rename_i c _ _ _ _ _
      cases (c == Value.type "enumerate")
      · wp_walk using wpAny_loadPart' ho1, q1
        exact ⟨_, rfl, h⟩
      · wp_walk using wpAny_loadPart' ho1, q1
        exact ⟨_, rfl, h⟩
    · wp_walk using wpAny_loadPart' ho1, q1
      exact ⟨_, rfl, h⟩

section
variable {prog : Program} {w : World} {A : Around} {E : Value → Shared → Prop} {s : Shared}
theorem call_enum1 {t : Addr} {items : Array Value} {Q : Value → Shared → Prop} (hT : s.heap.IsTuple t items)
    (h : ∀ h', IsEnum h' (s.heap.objs.size + 1) s.heap.objs.size 0 .none → h'.IsTupleIter s.heap.objs.size t 0 → (∀ b o, s.heap.get? b = some o → h'.get? b = some o) → Q (.ref (s.heap.objs.size + 1)) { s with heap := h' }) :
    wpAny (model prog w) A (call (.type "enumerate") [.ref t]) Q E s := by
  refine callType_new F.called_enumerate (by decide) (F.typeCall_enumerate_1 _) (F.newCall_enumerate_1 _) (fun obj => F.args_object_init_2 obj _) F.entry_enumerate_new (meets_enum1 t items) ⟨hT, ?_⟩
  generalize ht : ({ cls := .type "tuple_iterator", data := .fields #[.ref t, .int 0 0] } : Obj) = oi
  generalize hn : ({ cls := .type "enumerate", data := .fields #[.none, .bool false, .ref s.heap.objs.size, rawInt 0, .none, .none] } : Obj) = on
  have fi : oi.isFreed = false := by rw [← ht]; rfl
  have fn : on.isFreed = false := by rw [← hn]; rfl
  have hz : (s.heap.push oi).objs.size = s.heap.objs.size + 1 := Heap.size_push ..
  have g2 : ((s.heap.push oi).push on).get? (s.heap.objs.size + 1) = some on := by rw [← hz]; exact Heap.get?_push_size _ fn
  have g1 : ((s.heap.push oi).push on).get? s.heap.objs.size = some oi := Heap.get?_push_of_some _ (Heap.get?_push_size _ fi)
  show _ ∧ _
  rw [hz]
  refine ⟨⟨on, g2, by rw [← hn]⟩, h _ (by subst hn; exact g2) ⟨oi, g1, by rw [← ht], by rw [← ht]; rfl⟩ fun b o x => Heap.get?_push_of_some _ (Heap.get?_push_of_some _ x)⟩
end
theorem itup_get {X : Cx} {pins : List (Addr × Obj)} {σ : L2.St} {H : Hp} {s : Shared} {a : Addr} {xs : List V} (I : Inv X pins σ H s) (h : SqT X.K H a xs) : ∃ its : List Value, Vals xs its ∧ s.heap.IsTuple a its.toArray :=
  let ⟨its, r, p, _⟩ := I.tuple h; ⟨its, r, p⟩
theorem vals_at {xs : List V} {us : List Value} (r : Vals xs us) {i : Nat} {u : Value} (h : us.toArray[i]? = some u) : ∃ x, xs[i]? = some x ∧ RelV x u := by
  have h' : us[i]? = some u := by simpa using h
  cases e : xs[i]? with
  | none => rw [r.none_of e] at h'; cases h'
  | some x =>
    obtain ⟨u', e1, e2⟩ := r.get e
    rw [h'] at e1
    cases e1
    exact ⟨x, rfl, e2⟩
theorem turn_enumT {P : Program} {w : World} {K : PySem.W.Frag} {elts : List Expr} {kk : Nat} {tpos : Pos} (a e it : Addr) (xs : List V) (hei : e ≠ it) (hea : e ≠ a) (hia : a ≠ it) :
    Turn P w K (.Tuple elts kk tpos) (ItP xs.length (fun H => SqT K H a xs) fun i x y => x = .int (i : Nat) ∧ xs[i]? = some y) [e, it] e (fun i h => (∃ old, IsEnum h e it ((i : Nat) : Int) old) ∧ h.IsTupleIter it a i) := by
  refine turn_pair (α := List Value) (wr := [e, it]) (ff := fun _ => [e, it, a]) (Ra := fun its => Vals xs its)
    (Yr := fun its => fun i h₀ v h => ∃ T t x, v = .ref T ∧ h₀.objs.size ≤ T ∧ its.toArray[i]? = some x ∧ h.IsTuple T #[.int ((0 : Int) + (i : Int)) t, x])
    (St := fun its => fun i h => (∃ old, IsEnum h e it ((0 : Int) + (i : Int)) old) ∧ (h.IsTupleIter it a i ∧ h.IsTuple a its.toArray)) (by simp) (fun b hb => hb) ?_ ?_ ?_ ?_ ?_ ?_ ?_
  · intro A its hh r
    have D := Draws.tuple (prog := P) (w := w) (A := A.in1) hh it a hia its.toArray
    have W := GoesN.enumFrom (elts := elts) (x1 := kk) (pos := tpos) 0 D e hei (by simp [hei, hea]) (by simp)
    have hl : its.toArray.size = xs.length := by rw [List.size_toArray]; exact r.length.symm
    rw [hl] at W
    exact W
  · rintro i h ⟨⟨old, h1⟩, o, h2, _, h4⟩ b hb
    have hb' : b = e ∨ b = it := by simpa using hb
    rcases hb' with rfl | rfl
    · exact ⟨_, h1, fun v z => nomatch z⟩
    · exact ⟨o, h2, fun v z => by rw [h4] at z; cases z⟩
  · rintro i h h' ⟨⟨old, h1⟩, h2⟩ k
    exact ⟨⟨old, k e (by simp) _ h1⟩, h2.at fun o q => k it (by simp) o q⟩
  · rintro X hP hw hK i pins s σ H I g ⟨⟨old, h1⟩, h2⟩
    subst hK
    obtain ⟨its, r, p⟩ := itup_get I g
    exact ⟨its, r, ⟨old, by rw [Int.zero_add]; exact h1⟩, h2, p⟩
  · rintro its i h ⟨⟨old, h1⟩, h2, _⟩
    rw [Int.zero_add] at h1
    exact ⟨⟨old, h1⟩, h2⟩
  · rintro its i h0 h' v hi r ⟨T, t, u, rfl, hT, hu, hTup⟩
    obtain ⟨x, hx, rx⟩ := vals_at r hu
    exact ⟨T, .int (i : Nat), x, _, _, rfl, hT, hTup, ⟨t, by rw [Int.zero_add]⟩, rx, rfl, hx⟩
  · rintro A i s Q E ⟨⟨old, h1⟩, _⟩ q
    exact wpAny_pyIter_enum h1 q
def iEnumT (K : PySem.W.Frag) (ta : TA) : TI := fun σ H R => ta σ H fun vs H1 => ∃ a xs, vs = [.ref a] ∧ SqT K H1 a xs ∧ R (ItP xs.length (fun H => SqT K H a xs) fun i x y => x = .int (i : Nat) ∧ xs[i]? = some y) H1
theorem pi_enumT {X : Cx} {e : Expr} {ta : TA} {p pos tpos : Pos} {elts : List Expr} {kk : Nat} (hg : Gl X "enumerate") (hm : X.mg "enumerate" = none) (ha : PA X [e] ta) (hs : starEach [e] X.env = [(false, eval e X.env)] := by rfl) :
    PI X (.Tuple elts kk tpos) (.Call (.Name "enumerate" p) [e] [] pos) (iEnumT X.K ta) := by
  constructor
  intro pins s σ H R I h
  refine Call_ (ld_blt I hg hm boot_enumerate (PyProof.Rows.callWith_type1 (thn (ha.run pos pins s σ H _ I h) fun us s1 ⟨vs, H1, I1, r1, q1⟩ => ?_) hs rfl))
  obtain ⟨a, xs, ex, hq, q⟩ := q1
  subst ex
  obtain ⟨u, rfl, ru⟩ := vals1 r1
  obtain rfl : u = .ref a := ru
  obtain ⟨its, rv, p'⟩ := itup_get I1 hq
  obtain ⟨oa, ha1, _⟩ := id p'
  have hlt : a < s1.heap.objs.size := Heap.lt_size ha1
  refine call_enum1 p' fun h' he hit hk => wpAny_pyIter_enum he ?_
  have I2 : Inv X pins σ H1 { s1 with heap := h' } := I1.kept (t' := s1.toks) hk
  refine ⟨s1.heap.objs.size + 1, [s1.heap.objs.size + 1, s1.heap.objs.size], _, _, H1, rfl, I2, turn_enumT a (s1.heap.objs.size + 1) s1.heap.objs.size xs (Nat.succ_ne_self _) (Nat.ne_of_gt (Nat.lt_succ_of_lt hlt)) (Nat.ne_of_lt hlt), ⟨⟨.none, he⟩, hit⟩, fun b hb => ?_, q⟩
  have hle : s1.heap.objs.size ≤ b := by
    have e' : b = s1.heap.objs.size + 1 ∨ b = s1.heap.objs.size := by simpa using hb
    rcases e' with z | z
    · rw [z]; exact Nat.le_succ _
    · rw [z]; exact Nat.le_refl _
  exact I1.fpOk hle (I1.hok.fresh hle)

/-! ### zip(t, l), a tuple and a list -/
theorem ilist_get {X : Cx} {pins : List (Addr × Obj)} {σ : L2.St} {H : Hp} {s : Shared} {a : Addr} {xs : List V} (I : Inv X pins σ H s) (h : SqL X.K H a xs) : ∃ its : List Value, Vals xs its ∧ s.heap.IsList a its.toArray :=
  let ⟨its, r, p, _⟩ := I.list h; ⟨its, r, p.isList⟩
theorem turn_zipTL {P : Program} {w : World} {K : PySem.W.Frag} {elts : List Expr} {kk : Nat} {tpos : Pos} (a b N : Addr) (xs ys : List V) (hl : xs.length = ys.length) (ha : a < N) (hb : b < N) :
    Turn P w K (.Tuple elts kk tpos) (ItP xs.length (fun H => SqT K H a xs ∧ SqL K H b ys) fun i x y => xs[i]? = some x ∧ ys[i]? = some y) [N + 4, N + 2, N + 3, N, N + 1] (N + 4)
      (fun i h => IsZip h (N + 4) (N + 2) (N + 3) .none ∧ IsTupOf2 h (N + 2) (.ref N) (.ref (N + 1)) ∧ (∃ a1 a2, IsTupOf2 h (N + 3) a1 a2) ∧ h.IsTupleIter N a i ∧ h.IsListIter (N + 1) b i) := by
  refine turn_pair (α := List Value × List Value) (wr := [N + 4, N + 3, N, N + 1]) (ff := fun _ => (N + 4) :: (N + 2) :: (N + 3) :: ([N, a] ++ [N + 1, b])) (Ra := fun z => Vals xs z.1 ∧ Vals ys z.2)
    (Yr := fun z i h₀ v h => ∃ T x y, v = .ref T ∧ h₀.objs.size ≤ T ∧ z.1.toArray[i]? = some x ∧ z.2.toArray[i]? = some y ∧ h.IsTuple T #[x, y])
    (St := fun z i h => IsZip h (N + 4) (N + 2) (N + 3) .none ∧ IsTupOf2 h (N + 2) (.ref N) (.ref (N + 1)) ∧ (∃ a1 a2, IsTupOf2 h (N + 3) a1 a2) ∧ (h.IsTupleIter N a i ∧ h.IsTuple a z.1.toArray) ∧ h.IsListIter (N + 1) b i ∧ h.IsList b z.2.toArray) (by simp) ?_ ?_ ?_ ?_ ?_ ?_ ?_ ?_
  · intro c hc
    have e : c = N + 4 ∨ c = N + 3 ∨ c = N ∨ c = N + 1 := by simpa using hc
    rcases e with e | e | e | e <;> simp [e]
  · rintro A ⟨i1, i2⟩ hh ⟨r1, r2⟩
    have D1 := Draws.tuple (prog := P) (w := w) (A := A.in1) hh N a (Nat.ne_of_lt ha) i1.toArray
    have D2 := Draws.list (prog := P) (w := w) (A := A.in1) hh (N + 1) b (Nat.ne_of_lt (Nat.lt_succ_of_lt hb)) i2.toArray
    have W := GoesN.zip2 (elts := elts) (x1 := kk) (pos := tpos) (zip_sep2 (N := N) (fp1 := [a]) (fp2 := [b]) (fun c hc => by cases List.mem_singleton.mp hc; exact ha) (fun c hc => by cases List.mem_singleton.mp hc; exact hb)) D1 D2
    have e : min i1.toArray.size i2.toArray.size = xs.length := by
      rw [List.size_toArray, List.size_toArray, ← r1.length, ← r2.length, ← hl]
      exact Nat.min_self _
    rw [e] at W
    exact W
  · rintro i h ⟨h1, h2, ⟨a1, a2, h3⟩, ⟨o4, h4, _, d4⟩, ⟨o5, h5, _, d5⟩⟩ c hc
    have e : c = N + 4 ∨ c = N + 2 ∨ c = N + 3 ∨ c = N ∨ c = N + 1 := by simpa using hc
    rcases e with rfl | rfl | rfl | rfl | rfl
    · exact ⟨_, h1, fun v z => nomatch z⟩
    · exact ⟨_, h2, fun v z => nomatch z⟩
    · exact ⟨_, h3, fun v z => nomatch z⟩
    · exact ⟨o4, h4, fun v z => by rw [d4] at z; cases z⟩
    · exact ⟨o5, h5, fun v z => by rw [d5] at z; cases z⟩
  · rintro i h h' ⟨h1, h2, ⟨a1, a2, h3⟩, h4, h5⟩ k
    exact ⟨k _ (by simp) _ h1, k _ (by simp) _ h2, ⟨a1, a2, k _ (by simp) _ h3⟩, h4.at fun o q => k N (by simp) o q, h5.at fun o q => k (N + 1) (by simp) o q⟩
  · rintro X hP hw hK i pins s σ H I ⟨g1, g2⟩ ⟨h1, h2, h3, h4, h5⟩
    subst hK
    obtain ⟨i1, r1, p1⟩ := itup_get I g1
    obtain ⟨i2, r2, p2⟩ := ilist_get I g2
    exact ⟨(i1, i2), ⟨r1, r2⟩, h1, h2, h3, ⟨h4, p1⟩, h5, p2⟩
  · rintro z i h ⟨h1, h2, h3, ⟨h4, _⟩, h5, _⟩
    exact ⟨h1, h2, h3, h4, h5⟩
  · rintro z i h0 h' v hi ⟨r1, r2⟩ ⟨T, x, y, rfl, hT, hx, hy, hTup⟩
    obtain ⟨x', hx', rx⟩ := vals_at r1 hx
    obtain ⟨y', hy', ry⟩ := vals_at r2 hy
    exact ⟨T, x', y', x, y, rfl, hT, hTup, rx, ry, hx', hy'⟩
  · rintro A i s Q E ⟨h1, _⟩ q
    exact wpAny_pyIter_zip h1 q
def iZipTL (K : PySem.W.Frag) (ta : TA) : TI := fun σ H R => ta σ H fun vs H1 => ∃ a b xs ys, vs = [.ref a, .ref b] ∧ SqT K H1 a xs ∧ SqL K H1 b ys ∧ xs.length = ys.length ∧
  R (ItP xs.length (fun H => SqT K H a xs ∧ SqL K H b ys) fun i x y => xs[i]? = some x ∧ ys[i]? = some y) H1
theorem pi_zipTL {X : Cx} {e e2 : Expr} {ta : TA} {p pos tpos : Pos} {elts : List Expr} {kk : Nat} (hg : Gl X "zip") (hm : X.mg "zip" = none) (ha : PA X [e, e2] ta)
    (hs : starEach [e, e2] X.env = (false, eval e X.env) :: starEach [e2] X.env := by rfl) (hpl : (backTo pos (starEach [e2] X.env)).any (·.1) = false := by rfl) :
    PI X (.Tuple elts kk tpos) (.Call (.Name "zip" p) [e, e2] [] pos) (iZipTL X.K ta) := by
  constructor
  intro pins s σ H R I h
  refine Call_ (ld_blt I hg hm PyProof.Rows.boot_zip (PyProof.Rows.callWith_type1 (thn (ha.run pos pins s σ H _ I h) fun us s1 ⟨vs, H1, I1, r1, q1⟩ => ?_) hs hpl))
  obtain ⟨a, b, xs, ys, ex, hq1, hq2, hl, q⟩ := q1
  subst ex
  obtain ⟨u1, u2, rfl, ru1, ru2⟩ := vals2 r1
  obtain rfl : u1 = .ref a := ru1
  obtain rfl : u2 = .ref b := ru2
  obtain ⟨i1, _, p1⟩ := itup_get I1 hq1
  obtain ⟨i2, _, p2⟩ := ilist_get I1 hq2
  obtain ⟨oa, ha1, _⟩ := id p1
  obtain ⟨ob, hb1, _⟩ := id p2
  refine zip_begins2 (begins_tuple a i1.toArray) (begins_list b i2.toArray) p1 p2 fun h' hz hTI hTO h1 h2 _ hk => wpAny_pyIter_zip hz ?_
  have I2 : Inv X pins σ H1 { s1 with heap := h' } := I1.kept (t' := s1.toks) hk
  refine ⟨s1.heap.objs.size + 4, [s1.heap.objs.size + 4, s1.heap.objs.size + 2, s1.heap.objs.size + 3, s1.heap.objs.size, s1.heap.objs.size + 1], _, _, H1, rfl, I2, turn_zipTL a b s1.heap.objs.size xs ys hl (Heap.lt_size ha1) (Heap.lt_size hb1),
    ⟨hz, hTI, ⟨_, _, hTO⟩, ⟨_, h1, rfl, rfl⟩, ⟨_, h2, rfl, rfl⟩⟩, fun c hc => ?_, q⟩
  have hle : s1.heap.objs.size ≤ c := by
    have e' : c = s1.heap.objs.size + 4 ∨ c = s1.heap.objs.size + 2 ∨ c = s1.heap.objs.size + 3 ∨ c = s1.heap.objs.size ∨ c = s1.heap.objs.size + 1 := by simpa using hc
    have l4 : s1.heap.objs.size ≤ s1.heap.objs.size + 4 := Nat.le_add_right _ _
    have l3 : s1.heap.objs.size ≤ s1.heap.objs.size + 3 := Nat.le_add_right _ _
    have l2 : s1.heap.objs.size ≤ s1.heap.objs.size + 2 := Nat.le_add_right _ _
    have l1 : s1.heap.objs.size ≤ s1.heap.objs.size + 1 := Nat.le_add_right _ _
    rcases e' with z | z | z | z | z
    · rw [z]; exact l4
    · rw [z]; exact l2
    · rw [z]; exact l3
    · rw [z]; exact Nat.le_refl _
    · rw [z]; exact l1
  exact I1.fpOk hle (I1.hok.fresh hle)
end NC
set_option Elab.async false
set_option linter.all false
set_option maxRecDepth 100000
set_option maxHeartbeats 4000000
/-! {k: v} with a nested tuple as its key; {x: v for x in row}. -/
namespace NC
open PySem PySem.Spec PyProof.Rows L2

def tND1 (w : World) (tk tv : TE) : TE := fun σ H Q => ∀ p, H p = none → tk σ (upd H p (ndO w p [])) fun x H1 => tv σ H1 fun y H2 =>
  ∃ k b, x = .ref b ∧ NK H2 k x ∧ k.depth ≤ 8 ∧ H2 p = some (ndO w p []) ∧ Q (.ref p) (upd H2 p (ndO w p [(k, b, y)]))
theorem room8 {P : Program} {w : World} {A : Around} (hu : A.units + 9 < cLine) : (nestedKind P w).room A := by
  show A.units + 8 < cLine
  omega
theorem pe_nd1 {X : Cx} {k v : Expr} {pos : Pos} {tk tv : TE} (hu : X.A.units + 9 < cLine) (hk : PE X k tk) (hv : PE X v tv) : PE X (.Dict [some k] [v] pos) (tND1 X.w tk tv) := by
  constructor
  intro pins s σ H Q I q
  have hn := I.hok.fresh (Nat.le_refl s.heap.objs.size)
  have I1 := I.laid (a := s.heap.objs.size) (o := ndO X.w s.heap.objs.size []) (h' := s.heap.push { cls := .type "dict", data := .dict #[] }) (t' := s.toks) (fun _ _ q => Heap.get?_push_of_some _ q) (Nat.le_refl _) (nd_empty s.heap I.big)
  have e0 := zip_pairTrees [some k] [v] X.env pos rfl rfl
  rw [arm_eval_Dict, e0, dictDisplay_pairs (pairTrees [some k] [v] X.env pos) (by intro z; cases z) (show 1 < 17 by decide)]
  refine wpAny_bind (wpAny_standAt (wpAny_bind (wpAny_subDictH (knd := nestedKind X.prog X.w) (s := s) (Q := fun d s' => wpAny (model X.prog X.w) X.A (pure (Value.ref d)) (EP X pins σ Q) X.xe s') (room8 hu) (show 1 ≤ 15 by decide) ?_)))
  refine pairTrees_cons_walk (thn (hk.run pins _ σ _ _ I1 (q _ hn)) fun u s1 ⟨x, H1, I2, rx, q1⟩ => thn (hv.run pins s1 σ H1 _ I2 q1) fun u2 s2 ⟨y, H2, I3, ry, j, b, ex, nk, dk, hp, q2⟩ => pairTrees_nil_walk ?_)
  subst ex
  obtain rfl : u = .ref b := rx
  obtain ⟨z, hd, ys, rel, dd⟩ := nd_of I3.hok (.inl hp) KeysOk.nil
  cases rel
  refine ⟨[(j, b, u2)], ⟨rfl, rfl, ⟨NK.is I3.hok _ _ _ nk rfl, dk⟩, trivial⟩, dd, fun h' tk' dd' hs => wpAny_pure ⟨.ref s.heap.objs.size, _, ?_, rfl, q2⟩⟩
  exact n_write I3 hp hs (by show 1 ≤ sizeLine; decide) hd (.cons ⟨rfl, rfl, ry⟩ .nil) dd'

/-! ### {kx: vx for target in iter}, the keys nested tuples -/
theorem n_dictSet {X : Cx} {pins : List (Addr × Obj)} {σ : L2.St} {H : Hp} {s : Shared} {E : Value → Shared → Prop} {a : Addr} {xs : NEnts} {k : NestedKey} {b : Addr} {v : V} {u r : Value} {Q : Unit → Shared → Prop} (hu : X.A.units + 9 < cLine) (I : Inv X pins σ H s)
    (e : H a = some (ndO X.w a xs)) (ks : KeysOk H xs) (l : xs.length < sizeLine) (ru : RelV (.ref b) u) (nk : NK H k (.ref b)) (dk : k.depth ≤ 8) (rv : RelV v r) (h : ∀ s', Inv X pins σ (upd H a (ndO X.w a (putN xs k b v))) s' → Q () s') :
    wpAny (model X.prog X.w) X.A (dictSet a u r) Q E s := by
  obtain rfl : u = Value.ref b := ru
  obtain ⟨z, hd, ys, rel, dd⟩ := nd_of I.hok (.inl e) ks
  refine wpAny_dictSet_heap (hsz := by rw [← rel.length]; exact z) (room8 hu) ⟨NK.is I.hok _ _ _ nk rfl, dk⟩ dd fun h' dd' hs => h _ (n_write I e hs ?_ hd (rel.put k b rv) dd')
  have := length_putN xs k b v
  omega
/-- what a turn is to bring: the key's tuple, the value -/
def tNStep (w : World) (tk tv : TE) (D : Addr) (Nx : Hp → Prop) : L2.St → Hp → Prop := fun σ H => tk σ H fun y H4 => tv σ H4 fun z H5 => ∃ xs k b, y = .ref b ∧ NK H5 k y ∧ k.depth ≤ 8 ∧ H5 D = some (ndO w D xs) ∧ KeysOk H5 xs ∧ xs.length < sizeLine ∧ Nx (upd H5 D (ndO w D (putN xs k b z)))
def tNDc (w : World) (wi : TI) (g : TG) (tk tv : TE) (vs : List Nat) : TE := fun σ H Q => wi σ H fun J H1 => ∀ D, H1 D = none → ∃ W : Nat → Nat → Hp → Prop, (∃ m, W 0 m (upd H1 D (ndO w D []))) ∧ ∀ i m H, W i m H →
  (J.stop i H ∧ Q (.ref D) H) ∨ (J.go i H ∧ ∃ Nx : Hp → Prop, (∀ H', Nx H' → ∃ m', m' < m ∧ W (i + 1) m' H') ∧ ∀ x H', J.yld i H x H' → g x (wipe σ vs) H' fun σ2 H2 => wipe σ2 vs = wipe σ vs ∧ tNStep w tk tv D Nx σ2 H2)
theorem pe_ndc {X : Cx} {kx vx tg iter : Expr} {scope : Scope} {own : List (Str × Nat)} {pos : Pos} {wi : TI} {g : TG} {tk tv : TE} (hu : X.A.units + 9 < cLine) (hc : X.calm = true) (hN : X.N.Nodup) (hi : PI X tg iter wi) (ok : BlkOk X.N X.env.scope scope own)
    (hg : ∀ (s : Shared) (H : Hp) (C : Addr) (cl : List (Str × Addr)) (fp : List Addr), PG (X.blk s H scope (compEnvC scope cl C X.env) fp) tg g)
    (hk : ∀ (s : Shared) (H : Hp) (C : Addr) (cl : List (Str × Addr)) (fp : List Addr), PE (X.blk s H scope (compEnvC scope cl C X.env) fp) kx tk)
    (hv : ∀ (s : Shared) (H : Hp) (C : Addr) (cl : List (Str × Addr)) (fp : List Addr), PE (X.blk s H scope (compEnvC scope cl C X.env) fp) vx tv) (hs : ∀ x, foldedSetIterable iter X.env x = pure x := by intro _; rfl) :
    PE X (.DictComp kx vx [⟨tg, iter, [], 0⟩] scope pos) (tNDc X.w wi g tk tv (own.map (·.2))) := by
  constructor
  intro pins s σ H Q I h
  rw [arm_eval_DictComp]
  have free : ∀ y ∈ scope.names, y.2 = .free → ∃ c, X.env.cells.lookup y.1 = some c := fun y hy e => (ok.free y hy e).elim (fun k => I.ok.has _ (.inl k)) fun k => I.ok.has _ (.inr k)
  refine wpAny_comprehension_free (use := none) rfl hs (closure_ok free) ok.kind (fun y hy e => by rw [ok.uniq y hy, e]) ?_
  refine thn (hi.run pins s σ H _ I h) fun xv s1 hx => thn hx fun itv s2 h2 => ?_
  obtain ⟨it, fp, tn, J, H2, rfl, I2, T, st2, f2, q⟩ := h2
  refine wpAny_newObj_type (newEnv_comp ?_)
  -- the new dict
  have hDn : H2 s2.heap.objs.size = none := I2.hok.fresh (Nat.le_refl _)
  have I3 := I2.laid (a := s2.heap.objs.size) (o := ndO X.w s2.heap.objs.size []) (h' := s2.heap.push { cls := .type "dict", data := .dict #[] }) (t' := s2.toks) (fun b o e => Heap.get?_push_of_some _ e) (Nat.le_refl _) (nd_empty s2.heap I2.big)
  obtain ⟨W, ⟨m0, w0⟩, turn⟩ := q _ hDn
  have here : ∀ b ∈ fp, b < s2.heap.objs.size := fun b hb => let ⟨o, e, _⟩ := T.obj _ _ st2 b hb; Heap.lt_size e
  generalize s2.heap.objs.size = D at I3 hDn w0 turn here ⊢
  generalize e3 : ({ s2 with heap := s2.heap.push { cls := .type "dict", data := .dict #[] } } : Shared) = s3 at I3 ⊢
  have k23 : ∀ b o, s2.heap.get? b = some o → s3.heap.get? b = some o := fun b o e => by rw [← e3]; exact Heap.get?_push_of_some _ e
  have st3 : tn 0 s3.heap := T.keep _ _ _ st2 fun b _ o e => k23 b o e
  have f3 : ∀ b ∈ fp, FpOk X pins (upd H2 D (ndO X.w D [])) b ∧ b < s3.heap.objs.size := fun b hb => by
    obtain ⟨o, e, _⟩ := T.obj _ _ st3 b hb
    refine ⟨⟨?_, (f2 b hb).2⟩, Heap.lt_size e⟩
    rw [upd_ne (Nat.ne_of_lt (here b hb))]
    exact (f2 b hb).1
  generalize upd H2 D (ndO X.w D []) = H3 at I3 w0 f3 ⊢
  have I4 := block_start I3 ok hN f3
  have pg := hg s3 H3 s3.heap.objs.size (cellsFrom (s3.heap.objs.size + 1) scope.names (cloFrom X.env.cells scope.names [])) fp
  have pk := hk s3 H3 s3.heap.objs.size (cellsFrom (s3.heap.objs.size + 1) scope.names (cloFrom X.env.cells scope.names [])) fp
  have pv := hv s3 H3 s3.heap.objs.size (cellsFrom (s3.heap.objs.size + 1) scope.names (cloFrom X.env.cells scope.names [])) fp
  show codeAny _ _ (.compStart (.DictComp kx vx [⟨tg, iter, [], 0⟩] scope pos) 0 (.ref it) (.ref D) (compEnvC scope (cellsFrom (s3.heap.objs.size + 1) scope.names (cloFrom X.env.cells scope.names [])) s3.heap.objs.size X.env))
    (compPost (model X.prog X.w) X.A X.xe none (EP X pins σ Q) (.ref D) s3.heap.objs.size) { s3 with heap := pushCells (s3.heap.push { cls := .type "dict", data := .dict #[] }) scope.names }
  generalize ec : compEnvC scope (cellsFrom (s3.heap.objs.size + 1) scope.names (cloFrom X.env.cells scope.names [])) s3.heap.objs.size X.env = ce at I4 pg pk pv ⊢
  have cL : ce.locals = s3.heap.objs.size := by rw [← ec]; rfl
  have st4 : tn 0 (pushCells (s3.heap.push { cls := .type "dict", data := .dict #[] }) scope.names) := T.keep _ _ _ st3 fun b _ o e => pushCells_keeps _ _ _ _ (Heap.get?_push_of_some _ e)
  generalize e4 : ({ s3 with heap := pushCells (s3.heap.push { cls := .type "dict", data := .dict #[] }) scope.names } : Shared) = s4 at I4 ⊢
  have st4 : tn 0 s4.heap := by rw [← e4]; exact st4
  have n3 : ∀ b ∈ fp, H3 b = none := fun b hb => (f3 b hb).1.1
  have stat : ∀ {σ' : L2.St} {H' : Hp} {s' : Shared}, Inv (X.blk s3 H3 scope ce fp) [] σ' H' s' → (∀ b ∈ fp, H' b = none) → ∀ b ∈ fp, FpOk (X.blk s3 H3 scope ce fp) [] H' b := fun {σ' H' s'} J n b hb =>
    ⟨n b hb, (J.ok.exf b hb).1, J.ok.exfs b hb, .inl hb, fun x c e => (J.ok.exf b hb).2 x c e, fun p hp => nomatch (show p ∈ ([] : List (Addr × Obj)) from hp)⟩
  suffices loop : codeAny (model X.prog X.w) X.A (.compLoop (.DictComp kx vx [⟨tg, iter, [], 0⟩] scope pos) 0 (.ref it) (.ref D) ce) (compPost (model X.prog X.w) X.A X.xe none (EP X pins σ Q) (.ref D) s3.heap.objs.size) s4 from
    codeAny_compStart_dict loop (T.self X.A 0 _ _ _ st4 loop)
  refine compLoop_anyD (fun n s' => ∃ i H', Inv (X.blk s3 H3 scope ce fp) [] (wipe σ (own.map (·.2))) H' s' ∧ tn i s'.heap ∧ (∀ b ∈ fp, H' b = none) ∧ W i n H') ?_ m0 ⟨0, H3, I4, st4, n3, w0⟩
  rintro n s5 ⟨i, H5, I5, st5, n5, w5⟩
  rcases turn i n H5 w5 with ⟨stop, qq⟩ | ⟨go, Nx, hNx, step⟩
  · refine thnF (T.done (X.blk s3 H3 scope ce fp) rfl rfl rfl hc i [] s5 _ H5 (fun _ _ => False) I5 (stat I5 n5) st5 stop) fun r s6 ⟨hr, I6⟩ => ?_
    subst hr
    have I7 : Inv X pins σ H5 s6 := I3.call' (ch := fp) I6.os I6.base I6.hok I6.bare fun b hb => ⟨(f3 b hb).1.2.2.2.1, (f3 b hb).1.2.1, (f3 b hb).1.2.2.2.2.1, (f3 b hb).1.2.2.2.2.2⟩
    obtain ⟨m, hn, _⟩ := I6.loc
    have hn : s6.heap.Ns ce.locals m := hn
    have nC : H5 ce.locals = none := I6.free
    rw [cL] at hn nC
    obtain ⟨c0, c1, c2, c3, c4, c5⟩ := I3.fpOk (Nat.le_refl _) nC
    refine ⟨m, hn, fun h'' sb => ⟨.ref D, H5, I7.turned (t' := s6.toks) (fun b o hb e => (sb.2 b hb).trans e) c0 c1 c3 c4 c5, rfl, qq⟩⟩
  · refine thnF (T.item (X.blk s3 H3 scope ce fp) rfl rfl rfl hc i [] s5 _ H5 (fun _ _ => False) I5 (stat I5 n5) st5 go) fun r s6 ⟨u, hr, h6⟩ => ?_
    subst hr
    refine thnF h6 fun _ s7 ⟨x, H7, I7, r7, y7, st7, n7⟩ => ?_
    have I7' := I7.pinned (stat I7 n7) (T.obj _ _ st7)
    refine thnF (pg.run _ s7 _ H7 x u _ I7' r7 (step x H7 y7)) fun _ s8 ⟨σ8, H8, I8, hw, q8⟩ => ?_
    rw [List.forIn_nil]
    refine wpAny_pure ?_
    show wpAny _ _ _ _ _ _
    refine thnF (pk.run _ s8 σ8 H8 _ I8 q8) fun zk s9 ⟨yk, H9, I9, r9, q9⟩ => ?_
    refine thnF (pv.run _ s9 σ8 H9 _ I9 q9) fun zv s10 ⟨yv, H10, I10, r10, xs, k, b, ek, nk, dk, hD, ks, hz, nx⟩ => ?_
    subst ek
    refine n_dictSet (X := X.blk s3 H3 scope ce fp) hu I10 hD ks hz r9 nk dk r10 fun s11 I11 => ?_
    obtain ⟨m', hm, w'⟩ := hNx _ nx
    have pin : ∀ c ∈ fp, ∀ o, s7.heap.get? c = some o → s11.heap.get? c = some o ∧ (upd H10 D (ndO X.w D (putN xs k b yv))) c = none := fun c hcm o e =>
      let z := I11.pin (c, o) (List.mem_append_right _ (List.mem_append_right _ (mem_pinsAt hcm e)))
      ⟨z.1, z.2.1⟩
    refine ⟨m', hm, i + 1, _, (I11.unpinned (pins := [])).weak ?_ (fun j v e => ?_), T.keep _ _ _ st7 fun c hcm o e => (pin c hcm o e).1, fun c hcm => ?_, w'⟩
    · rw [← hw, wipe_length]
    · rw [← hw] at e
      exact (wipe_some e).1
    · obtain ⟨o, e, _⟩ := T.obj _ _ st7 c hcm
      exact (pin c hcm o e).2
end NC
set_option Elab.async false
set_option linter.all false
set_option maxRecDepth 100000
set_option maxHeartbeats 4000000
/-! What the walks share: the text's facts, shorthands. -/
namespace NC
open PySem PySem.Spec PyProof.Rows L2

theorem bt_abs : bootBuiltins "abs" = some (.builtin "abs") := by decide +kernel
theorem bt_all : bootBuiltins "all" = some (.builtin "all") := by decide +kernel
theorem bt_bool : bootBuiltins "bool" = some (.type "bool") := by decide +kernel
theorem bt_dict : bootBuiltins "dict" = some (.type "dict") := by decide +kernel
theorem bt_enumerate : bootBuiltins "enumerate" = some (.type "enumerate") := by decide +kernel
theorem bt_int : bootBuiltins "int" = some (.type "int") := by decide +kernel
theorem bt_isinstance : bootBuiltins "isinstance" = some (.builtin "isinstance") := by decide +kernel
theorem bt_len : bootBuiltins "len" = some (.builtin "len") := by decide +kernel
theorem bt_list : bootBuiltins "list" = some (.type "list") := by decide +kernel
theorem bt_max : bootBuiltins "max" = some (.builtin "max") := by decide +kernel
theorem bt_min : bootBuiltins "min" = some (.builtin "min") := by decide +kernel
theorem bt_range : bootBuiltins "range" = some (.type "range") := by decide +kernel
theorem bt_sum : bootBuiltins "sum" = some (.builtin "sum") := by decide +kernel
theorem bt_tuple : bootBuiltins "tuple" = some (.type "tuple") := by decide +kernel
theorem bt_zip : bootBuiltins "zip" = some (.type "zip") := by decide +kernel
abbrev aPause (K : PySem.W.Frag) : Addr := He.ga K "Pause"
abbrev aEngine (K : PySem.W.Frag) : Addr := He.ga K "Engine"
abbrev aWays (K : PySem.W.Frag) : Addr := He.ga K "Ways"
abbrev aRows (K : PySem.W.Frag) : Addr := He.ga K "Rows"
abbrev aHouse (K : PySem.W.Frag) : Addr := He.ga K "House"
abbrev aSearch (K : PySem.W.Frag) : Addr := He.ga K "Search"
/-- what the top has left -/
structure Txt (K : PySem.W.Frag) (mg : Str → Option Value) : Prop where
  abs : mg "abs" = none
  all : mg "all" = none
  bool : mg "bool" = none
  dict : mg "dict" = none
  enumerate : mg "enumerate" = none
  int : mg "int" = none
  isinstance : mg "isinstance" = none
  len : mg "len" = none
  list : mg "list" = none
  max : mg "max" = none
  min : mg "min" = none
  range : mg "range" = none
  sum : mg "sum" = none
  tuple : mg "tuple" = none
  zip : mg "zip" = none
  gGREATEST : ∃ t, mg "GREATEST" = some (.int 65535 t)
  gMOST_WAYS : ∃ t, mg "MOST_WAYS" = some (.int 2000 t)
  gMOST_STATES : ∃ t, mg "MOST_STATES" = some (.int 200 t)
  clPause : Cls K (aPause K)
  nPause_kind : NoAttr K (aPause K) "kind"
  nPause_state : NoAttr K (aPause K) "state"
  nPause_pending : NoAttr K (aPause K) "pending"
  nPause_count : NoAttr K (aPause K) "count"
  clEngine : Cls K (aEngine K)
  nEngine_house : NoAttr K (aEngine K) "house"
  nEngine_assets : NoAttr K (aEngine K) "assets"
  nEngine_contracts : NoAttr K (aEngine K) "contracts"
  nEngine_procs : NoAttr K (aEngine K) "procs"
  nEngine_places : NoAttr K (aEngine K) "places"
  nEngine_sizes : NoAttr K (aEngine K) "sizes"
  nEngine_lines : NoAttr K (aEngine K) "lines"
  nEngine_parts : NoAttr K (aEngine K) "parts"
  nEngine_bodies : NoAttr K (aEngine K) "bodies"
  clWays : Cls K (aWays K)
  nWays_engine : NoAttr K (aWays K) "engine"
  nWays_entries : NoAttr K (aWays K) "entries"
  nWays_rows : NoAttr K (aWays K) "rows"
  nWays_kept : NoAttr K (aWays K) "kept"
  clRows : Cls K (aRows K)
  nRows_table : NoAttr K (aRows K) "table"
  nRows_complete : NoAttr K (aRows K) "complete"
  clHouse : Cls K (aHouse K)
  nHouse_assets : NoAttr K (aHouse K) "assets"
  nHouse_contracts : NoAttr K (aHouse K) "contracts"
  clSearch : Cls K (aSearch K)
  nSearch_ways : NoAttr K (aSearch K) "ways"
  nSearch_start : NoAttr K (aSearch K) "start"
  nSearch_ends : NoAttr K (aSearch K) "ends"
  nSearch_rows : NoAttr K (aSearch K) "rows"
  nSearch_asked : NoAttr K (aSearch K) "asked"
/-- a module's int -/
theorem pe_gi {X : Cx} {x : Str} {n : Int} {pos : Pos} (hm : ∃ t, X.mg x = some (.int n t)) (hg : Gl X x := by rfl) (hd : (x == ("__debug__" : Str)) = false := by decide) : PE X (.Name x pos) (tC (.int n)) :=
  let ⟨_, e⟩ := hm
  pe_glob hg e ⟨_, rfl⟩ hd
theorem hu64 {A : Around} {k : Nat} (hr : Room k A) : A.units + 64 < cLine := hr.units
abbrev FnP (K : PySem.W.Frag) (x qual : Str) (st : Stmt) (f : Addr) (fd : FuncData) : Prop := FunD K x qual (defArgs st) (defBody st) (defScope st) [] [] f fd
/-- the tests of a comprehension without one: true -/
abbrev tT : TT := tYes
theorem sz100 {n : Nat} (h : n ≤ 100000) : n ≤ sizeLine := Nat.le_trans h (by decide)
theorem szl {n : Nat} (h : n < 100000) : n < sizeLine := Nat.lt_of_lt_of_le h (by decide)
theorem SqT.same {K : PySem.W.Frag} {H H' : Hp} {a : Addr} {xs : List V} (t : TX H H') (h : H a = some (.tup xs)) : SqT K H' a xs := .inl (.inl (t _ _ h))
theorem new_same {H : Hp} {p : Addr} {o : HO} (h : H p = none) : Same H (upd H p o) := fun b u e => by rw [upd_ne (ne_of_none e h)]; exact e
theorem sput {H H' : Hp} {p : Addr} {o : HO} (e : Same H H') (h : H p = none) : Same H (upd H' p o) := fun b u q => by rw [upd_ne (ne_of_none q h)]; exact e b u q
/-- an if whose test is told by a Bool -/
theorem ifb {A B : Prop} {c : Bool} (h1 : c = true → A) (h2 : c = false → B) : if c = true then A else B := by
  cases c
  · exact iteF (h2 rfl)
  · exact iteT (h1 rfl)
theorem ifT {A B : Prop} {c : Bool} (e : c = true) (h : A) : if c = true then A else B := by rw [if_pos e]; exact h
theorem ifF {A B : Prop} {c : Bool} (e : c = false) (h : B) : if c = true then A else B := by rw [if_neg (by rw [e]; exact Bool.false_ne_true)]; exact h
theorem dS {a b : Str} (h : a ≠ b) : decide (V.str a = V.str b) = false := decide_eq_false fun e => h (V.str.inj e)
theorem dSe {a : Str} : decide (V.str a = V.str a) = true := decide_eq_true rfl
theorem dok {p : Prop} [Decidable p] (h : decide p = true) : p := of_decide_eq_true h
/-! ### tuples and lists by Same -/
section
variable {K : PySem.W.Frag} {H H' : Hp} {a b : Addr} {xs ys : List V} {Q : VK} {lo hi : Option Int}
theorem sIx_some {n : Nat} {d i : Nat} (h : i ≤ n) : HT.sIx n d (some (i : Int)) = i := by
  unfold HT.sIx
  simp only
  split <;> omega
theorem cut_lo (xs : List V) {i : Nat} (h : i ≤ xs.length) : cutV xs none (some (i : Int)) = xs.take i := by
  unfold cutV
  rw [sIx_some h]
  show (xs.drop 0).take (i - 0) = _
  simp
theorem cut_hi (xs : List V) {i : Nat} (h : i ≤ xs.length) : cutV xs (some (i : Int)) none = xs.drop i := by
  unfold cutV
  rw [sIx_some h]
  show (xs.drop i).take (xs.length - i) = _
  rw [List.take_of_length_le (by rw [List.length_drop]; exact Nat.le_refl _)]
theorem cut_whole {xs : List V} {lo hi : Option Int} (h : HT.sIx xs.length 0 lo = 0 ∧ HT.sIx xs.length xs.length hi = xs.length) : cutV xs lo hi = xs := by
  unfold cutV
  rw [h.1, h.2, List.drop_zero, Nat.sub_zero, List.take_length]
/-- t[lo:hi], whatever it is -/
theorem slA_go (h : H a = some (.tup xs)) (k : ∀ p H', Same H H' → H' p = some (.tup (cutV xs lo hi)) → Q (.ref p) H') : rSlA K (.ref a) lo hi H Q :=
  ⟨a, xs, rfl, SqT.of h, fun z => k a H (Same.refl H) (by rw [cut_whole z]; exact h), fun _ p hp => k p _ (new_same hp) upd_same⟩
/-- t + u -/
theorem catA_go (ha : H a = some (.tup xs)) (hb : H b = some (.tup ys)) (hl : xs.length + ys.length ≤ 100000) (k : ∀ p H', Same H H' → H' p = some (.tup (xs ++ ys)) → Q (.ref p) H') : rCatA K (.ref a) (.ref b) H Q :=
  ⟨a, b, xs, ys, rfl, rfl, SqT.of ha, SqT.of hb, sz100 hl, fun e => k b H (Same.refl H) (by rw [e]; exact hb), fun _ e => k a H (Same.refl H) (by rw [e, List.append_nil]; exact ha), fun _ _ p hp => k p _ (new_same hp) upd_same⟩
end
end NC
set_option Elab.async false
set_option linter.all false
set_option maxRecDepth 100000
set_option maxHeartbeats 4000000
/-! tuple(list), the new tuple known to its object; dict(such a tuple of pairs). -/
namespace NC
open PySem PySem.Spec PyProof.Rows L2
def rTupF (K : PySem.W.Frag) : List V → Hp → VK → Prop := fun xs H Q => ∃ (p : Addr) (ys : List V), xs = [.ref p] ∧ SqL K H p ys ∧ ∀ l o, H l = none → o.dict = none → Q (.ref l) (upd H l (.frz o (.tup ys)))
theorem call_tuple_frz {X : Cx} : CallR X (.type "tuple") (rTupF X.K) := by
  intro pins s σ H xs us Q I r h
  obtain ⟨p, ys, rfl, hq, q⟩ := h
  obtain ⟨u, rfl, rx⟩ := vals1 r
  cases rx
  obtain ⟨its, r', pl, hz⟩ := I.list hq
  have hlen := r'.length
  refine call_tuple_list pl.isList (fun h' kp => ?_) (by simp only [List.size_toArray] <;> omega)
  have I1 : Inv X pins σ H { s with heap := h' } := I.kept (t' := s.toks) kp
  have I2 : Inv X pins σ (upd H h'.objs.size (.frz { cls := .type "tuple", data := .seq its.toArray } (.tup ys))) { s with heap := h'.push { cls := .type "tuple", data := .seq its.toArray } } :=
    I1.laid (t' := s.toks) (fun b o e => Heap.get?_push_of_some _ e) (Nat.le_refl _) (show ObjOk X.prog X.w _ _ _ (.frz { cls := .type "tuple", data := .seq its.toArray } (.tup ys)) from ⟨Heap.get?_push_size _ rfl, hz, its, r', IsTup.new _ _⟩)
  exact ⟨.ref h'.objs.size, _, I2, rfl, q _ _ (I1.hok.fresh (Nat.le_refl _)) rfl⟩
/-- tuple ps of pairs, known to the object -/
def FrT (H : Hp) (a : Addr) (xs : List V) : Prop := ∃ o, H a = some (.frz o (.tup xs)) ∧ o.dict = none
def rDictT (K : PySem.W.Frag) : List V → Hp → VK → Prop := fun xs H Q => ∃ (a : Addr) (ps : List Addr) (kvs : List (L2.Key × V)), xs = [.ref a] ∧ FrT H a (ps.map V.ref) ∧ Paired (fun p kv => SqT K H p [kV kv.1, kv.2]) ps kvs ∧
    ∀ p, H p = none → Q (.ref p) (upd H p (.dK (mergeK [] kvs)))
theorem call_dictT {X : Cx} (hcalm : X.calm = true) : CallR X (.type "dict") (rDictT X.K) := by
  intro pins s σ H xs us Q I r q
  obtain ⟨a, ps, kvs, ex, ⟨o, ha, od⟩, hp, q⟩ := q
  subst ex
  obtain ⟨u, eu, rx⟩ := vals1 r
  subst eu
  cases rx
  obtain ⟨ho, hz, its, rv, o', ho', hc, n, hdat⟩ := I.hok a _ ha
  rw [ho] at ho'
  cases ho'
  have ei := refs_at rv
  subst ei
  rw [List.length_map] at hz
  obtain ⟨prs, rel, hl, hpr⟩ := pairs_of I hp
  have hx : ∀ j, j < prs.length → ∃ (b : Addr) (u : Value), ps[j]? = some b ∧ (∀ q, prs[j]? = some q → IsTup s.heap b #[u, q.2] ∧ keyIs q.1 u = true) := fun j hj => by
    obtain ⟨b, u, e1, e2, e3⟩ := hpr j prs[j] (List.getElem?_eq_getElem hj)
    exact ⟨b, u, e1, fun q e => by rw [List.getElem?_eq_getElem hj] at e; cases e; exact ⟨e2, e3⟩⟩
  -- the pairs' values
  have hv : ∃ vs : List (Value × Value), vs.length = prs.length ∧ ∀ (j : Nat) (q : L2.Key × Value), prs[j]? = some q → ∃ (b : Addr) (u : Value), vs[j]? = some (u, q.2) ∧ ps[j]? = some b ∧ IsTup s.heap b #[u, q.2] ∧ keyIs q.1 u = true := by
    clear rel hl hx hp
    have gen : ∀ (prs : List (L2.Key × Value)) (ps : List Addr), (∀ (j : Nat) (q : L2.Key × Value), prs[j]? = some q → ∃ (b : Addr) (u : Value), ps[j]? = some b ∧ IsTup s.heap b #[u, q.2] ∧ keyIs q.1 u = true) →
        ∃ vs : List (Value × Value), vs.length = prs.length ∧ ∀ (j : Nat) (q : L2.Key × Value), prs[j]? = some q → ∃ (b : Addr) (u : Value), vs[j]? = some (u, q.2) ∧ ps[j]? = some b ∧ IsTup s.heap b #[u, q.2] ∧ keyIs q.1 u = true := by
      intro prs
      induction prs with
      | nil => intro ps _; exact ⟨[], rfl, fun j q e => by simp at e⟩
      | cons x r ih =>
        intro ps h
        obtain ⟨vs, e1, e2⟩ := ih ps.tail fun j q e => by
          obtain ⟨b, u, g1, g2, g3⟩ := h (j + 1) q (by simpa using e)
          exact ⟨b, u, by rw [List.getElem?_tail]; exact g1, g2, g3⟩
        obtain ⟨b, u, g1, g2, g3⟩ := h 0 x rfl
        refine ⟨(u, x.2) :: vs, by rw [List.length_cons, List.length_cons, e1], fun j q e => ?_⟩
        cases j with
        | zero => cases e; exact ⟨b, u, rfl, g1, g2, g3⟩
        | succ j =>
          obtain ⟨b', u', k1, k2, k3⟩ := e2 j q (by simpa using e)
          rw [List.getElem?_tail] at k2
          exact ⟨b', u', by simpa using k1, k2, k3⟩
    exact gen prs ps hpr
  obtain ⟨vs, vl, hvs⟩ := hv
  refine PySem.call_dict_pairs (knd := mixKind X.prog X.w) (kvs := prs) (PairArg.tuple a (ps.map Value.ref).toArray (fun j => ps.getD j 0) vs) (I.ok.hd hcalm) ⟨⟨o, n, ho, hc, od, hdat⟩, ?_, ?_⟩ ⟨vl.symm, ?_⟩ (by rw [vl, hl]; exact hz) fun h' tk hd' k => ?_
  · rw [vl, hl]
    simp
  · intro j k v e
    have hj : j < prs.length := by rw [← vl]; exact (List.getElem?_eq_some_iff.mp e).1
    obtain ⟨b, u, e1, e2, e3, e4⟩ := hvs j prs[j] (List.getElem?_eq_getElem hj)
    rw [e] at e1
    cases e1
    have eb : ps.getD j 0 = b := by rw [List.getD_eq_getElem?_getD, e2]; rfl
    show _ ∧ PairAt s.heap (ps.getD j 0) k _
    rw [eb]
    refine ⟨?_, .inl e3⟩
    show (List.map Value.ref ps).toArray[j]? = some (Value.ref (ps.getD j 0))
    rw [eb]
    simp [e2]
  · intro j key v e
    have hj : j < prs.length := by rw [← vl]; exact (List.getElem?_eq_some_iff.mp e).1
    obtain ⟨b, u, e1, e2, e3, e4⟩ := hvs j prs[j] (List.getElem?_eq_getElem hj)
    have e' : vs[j]? = some (key, v) := e
    rw [e'] at e1
    have e5 := Prod.mk.inj (Option.some.inj e1)
    refine ⟨prs[j].1, ?_, by rw [e5.1]; exact e4⟩
    rw [List.getElem?_eq_getElem hj, e5.2]
  · have hm : (s.heap.objs.size == sysModules) = false := beq_eq_false_iff_ne.mpr (Nat.ne_of_gt I.big)
    have hlen : (mergeK [] kvs).length ≤ sizeLine := by
      refine Nat.le_trans (length_mergeK kvs []) ?_
      rw [List.length_nil, Nat.zero_add, rel.length, hl]
      exact hz
    exact ⟨.ref s.heap.objs.size, upd H s.heap.objs.size (.dK (mergeK [] kvs)), I.laid (t' := tk) (fun b o e => k b o (fun z => nomatch z) e) (Nat.le_refl _) (show ObjOk X.prog X.w _ _ _ (.dK (mergeK [] kvs)) from ⟨hlen, hm, merged [] prs, KV.merge rel .nil, hd'⟩), rfl, q _ (I.hok.fresh (Nat.le_refl _))⟩
end NC
set_option Elab.async false
set_option linter.all false
set_option maxRecDepth 100000
set_option maxHeartbeats 4000000
/-! Walks: put, moved, combine. -/
namespace NC
open PySem PySem.Spec PyProof.Rows L2
section
variable {P : Program} {w : World} {K : PySem.W.Frag} {mg : Str → Option Value} {base : Heap}

/-! ### put -/
def spPut : Sp := fun vs H Q _ => ∃ (a : Addr) (xs : List V) (i : Nat) (v : V), vs = [.ref a, .int i, v] ∧ H a = some (.tup xs) ∧ i < xs.length ∧ xs.length ≤ 1000 ∧
  ∀ p H', Same H H' → H' p = some (.tup (xs.set i v)) → Q (.ref p) H'
theorem sc_put : FnScope ["row", "at", "value"] ["row", "at", "value"] (defScope s_put) := ⟨rfl, rfl, rfl, by decide +kernel, rfl, by decide +kernel, by decide +kernel⟩
theorem set_cut {xs : List V} {i : Nat} {v : V} (h : i < xs.length) : xs.take i ++ [v] ++ xs.drop (i + 1) = xs.set i v := by
  rw [List.set_eq_take_append_cons_drop, if_pos h, List.append_assoc]
  rfl
theorem ok_put {f : Addr} {fd : FuncData} (F : FnP K "put" "put" s_put f fd) : FnOk P w K mg base CX0 1 f fd ["row", "at", "value"] spPut := by
  refine F.ok sc_put (fun vs H Q E h => ?_) (fun cdv A outer s H vs Q E hr h => ?_)
  · obtain ⟨a, xs, i, v, rfl, _⟩ := h
    rfl
  · obtain ⟨a, xs, i, v, rfl, hx, hi, hl, k⟩ := h
    refine ⟨_, PSs.nox ((pss_one (ps_ret (pe_op op_catA (pe_op op_catA (pe_slice sl_tupA (pv 0) po_none (po_some (pv 1))) (pe_tup (pa_cons (pv 2) pa_nil))) (pe_slice sl_tupA (pv 0) (po_some (pe_op op_add (pv 1) pe_int)) po_none))))), ?_⟩
    refine ⟨_, rfl, _, rfl, _, rfl, slA_go hx fun p1 H1 e1 h1 => ?_⟩
    rw [cut_lo xs (Nat.le_of_lt hi)] at h1
    refine ⟨_, rfl, by show 1 ≤ sizeLine; decide, fun p2 n2 => catA_go (new_same n2 _ _ h1) upd_same (by rw [List.length_take]; show _ + 1 ≤ _; omega) fun p3 H3 e3 h3 => ?_⟩
    have s3 : Same H H3 := (e1.trans (new_same n2)).trans e3
    refine ⟨_, rfl, _, rfl, _, _, rfl, rfl, _, rfl, ?_⟩
    dsimp only [tNoPart]
    refine slA_go (s3 _ _ hx) fun p4 H4 e4 h4 => ?_
    have e5 : ((i : Int) + 1) = ((i + 1 : Nat) : Int) := by omega
    rw [e5, cut_hi xs hi] at h4
    refine catA_go (e4 _ _ h3) h4 (by simp only [List.length_append, List.length_take, List.length_drop, List.length_cons, List.length_nil]; omega) fun p5 H5 e6 h5 => ?_
    rw [set_cut hi] at h5
    exact k p5 H5 ((s3.trans e4).trans e6) h5
theorem cal_put {f : Addr} {fd : FuncData} (F : FnP K "put" "put" s_put f fd) (g : mg "put" = some (.ref f)) : C8.Cal P w K mg base 1 "put" spPut [] :=
  ⟨f, fd, _, [], ok_put F, g, F.kp, F.bindsN fun _ _ _ _ _ _ us hl => match us, hl with | [_, _, _], _ => rfl, .nil⟩

/-! ### moved -/
def n1 (n : Int) : NestedKey := .tup [.num n]
theorem nk1 {H : Hp} {n : Int} {v : V} : NK H (n1 n) v ↔ ∃ a, v = .ref a ∧ H a = some (.tup [.int n]) := by
  constructor
  · intro h
    cases h with
    | tup h1 h2 =>
      cases h2 with
      | cons h3 h4 =>
        cases h3
        cases h4
        exact ⟨_, rfl, h1⟩
  · rintro ⟨a, rfl, h⟩
    exact .tup h (.cons (.num n) .nil)
/-- a payment: from the contract, or from the outsiders -/
def mv (b : Bool) (h o v : Int) : Option (Int × Int) := if b then (if h < v then none else some (h - v, o + v)) else (if o < v then none else some (h + v, o - v))
def spMoved : Sp := fun vs H Q _ => ∃ (a a0 a1 : Addr) (h o v : Int) (b : Bool), vs = [.ref a, .int 0, .int (if b then 0 else 1), .int (if b then 1 else 0), .int v] ∧ H a = some (.tup [.ref a0, .ref a1]) ∧ H a0 = some (.tup [.int h]) ∧ H a1 = some (.tup [.int o]) ∧
  (mv b h o v = none → ∀ H', Same H H' → Q .non H') ∧
  ∀ h' o', mv b h o v = some (h', o') → ∀ p b0 b1 H', Same H H' → H' p = some (.tup [.ref b0, .ref b1]) → H' b0 = some (.tup [.int h']) → H' b1 = some (.tup [.int o']) → Q (.ref p) H'
theorem sc_moved : FnScope ["row", "asset", "payer", "payee", "amount"] ["row", "asset", "payer", "payee", "amount"] (defScope s_moved) := ⟨rfl, rfl, rfl, by decide +kernel, rfl, by decide +kernel, by decide +kernel⟩
theorem ok_moved {f : Addr} {fd : FuncData} (F : FnP K "moved" "moved" s_moved f fd) (c_put : C8.Cal P w K mg base 1 "put" spPut []) : FnOk P w K mg base CX0 2 f fd ["row", "asset", "payer", "payee", "amount"] spMoved := by
  refine F.ok sc_moved (fun vs H Q E h => ?_) (fun cdv A outer s H vs Q E hr h => ?_)
  · obtain ⟨a, a0, a1, h, o, v, b, rfl, _⟩ := h
    rfl
  · obtain ⟨a, a0, a1, h, o, v, b, rfl, ha, ha0, ha1, k0, k1⟩ := h
    refine ⟨_, PSs.nox ((pss_cons (ps_if (pt_cmpR op_lt (pe_ix ix_tup (pe_ix ix_tup (pv 0) (pv 2) (fun _ _ => rfl)) (pv 1) (fun _ _ => rfl)) (pv 4) (nomark _)) (pss_one (ps_ret pe_non)) pss_nil)
      (pss_cons (ps_set (i := 0) sc_moved.nd rfl (Or.inl rfl) (C8.pe_c c_put hr (by decide) (by rfl) (pa_cons (pv 0) (pa_cons (pv 2) (pa_cons (C8.pe_c c_put hr (by decide) (by rfl) (pa_cons (pe_ix ix_tup (pv 0) (pv 2) (fun _ _ => rfl)) (pa_cons (pv 1) (pa_cons (pe_op op_sub (pe_ix ix_tup (pe_ix ix_tup (pv 0) (pv 2) (fun _ _ => rfl)) (pv 1) (fun _ _ => rfl)) (pv 4)) pa_nil)))) pa_nil)))))
      (pss_one (ps_ret (C8.pe_c c_put hr (by decide) (by rfl) (pa_cons (pv 0) (pa_cons (pv 3) (pa_cons (C8.pe_c c_put hr (by decide) (by rfl) (pa_cons (pe_ix ix_tup (pv 0) (pv 3) (fun _ _ => rfl)) (pa_cons (pv 1) (pa_cons (pe_op op_add (pe_ix ix_tup (pe_ix ix_tup (pv 0) (pv 3) (fun _ _ => rfl)) (pv 1) (fun _ _ => rfl)) (pv 4)) pa_nil)))) pa_nil))))))))), ?_⟩
    cases b
    · -- the outsiders pay
      refine ⟨_, rfl, _, rfl, a, _, 1, _, rfl, rfl, SqT.of ha, rfl, _, rfl, a1, _, 0, _, rfl, rfl, SqT.of ha1, rfl, _, rfl, _, _, rfl, rfl, _, rfl, ifb (fun hc => ?_) (fun hc => ?_)⟩
      · have hlt : o < v := of_decide_eq_true hc
        exact k0 (if_pos hlt) H (Same.refl H)
      · have hlt : ¬ o < v := of_decide_eq_false hc
        refine ⟨_, rfl, _, rfl, _, rfl, _, rfl, a, _, 1, _, rfl, rfl, SqT.of ha, rfl, _, rfl, _, rfl, _, rfl, a, _, 1, _, rfl, rfl, SqT.of ha, rfl, _, rfl, a1, _, 0, _, rfl, rfl, SqT.of ha1, rfl, _, rfl, _, _, rfl, rfl, ?_⟩
        refine ⟨a1, _, 0, _, rfl, ha1, dok rfl, dok rfl, fun p1 H1 e1 h1 => ?_⟩
        refine ⟨a, _, 1, _, rfl, e1 _ _ ha, dok rfl, dok rfl, fun p2 H2 e2 h2 => ?_⟩
        have s2 := e1.trans e2
        refine ⟨_, rfl, _, rfl, _, rfl, _, rfl, p2, _, 0, _, rfl, rfl, SqT.of h2, rfl, _, rfl, _, rfl, _, rfl, p2, _, 0, _, rfl, rfl, SqT.of h2, rfl, _, rfl, a0, _, 0, _, rfl, rfl, SqT.of (s2 _ _ ha0), rfl, _, rfl, _, _, rfl, rfl, ?_⟩
        refine ⟨a0, _, 0, _, rfl, s2 _ _ ha0, dok rfl, dok rfl, fun p3 H3 e3 h3 => ?_⟩
        refine ⟨p2, _, 0, _, rfl, e3 _ _ h2, dok rfl, dok rfl, fun p4 H4 e4 h4 => ?_⟩
        exact k1 _ _ (if_neg hlt) p4 p3 p1 H4 ((s2.trans e3).trans e4) h4 (e4 _ _ h3) (e4 _ _ (e3 _ _ (e2 _ _ h1)))
    · refine ⟨_, rfl, _, rfl, a, _, 0, _, rfl, rfl, SqT.of ha, rfl, _, rfl, a0, _, 0, _, rfl, rfl, SqT.of ha0, rfl, _, rfl, _, _, rfl, rfl, _, rfl, ifb (fun hc => ?_) (fun hc => ?_)⟩
      · have hlt : h < v := of_decide_eq_true hc
        exact k0 (if_pos hlt) H (Same.refl H)
      · have hlt : ¬ h < v := of_decide_eq_false hc
        refine ⟨_, rfl, _, rfl, _, rfl, _, rfl, a, _, 0, _, rfl, rfl, SqT.of ha, rfl, _, rfl, _, rfl, _, rfl, a, _, 0, _, rfl, rfl, SqT.of ha, rfl, _, rfl, a0, _, 0, _, rfl, rfl, SqT.of ha0, rfl, _, rfl, _, _, rfl, rfl, ?_⟩
        refine ⟨a0, _, 0, _, rfl, ha0, dok rfl, dok rfl, fun p1 H1 e1 h1 => ?_⟩
        refine ⟨a, _, 0, _, rfl, e1 _ _ ha, dok rfl, dok rfl, fun p2 H2 e2 h2 => ?_⟩
        have s2 := e1.trans e2
        refine ⟨_, rfl, _, rfl, _, rfl, _, rfl, p2, _, 1, _, rfl, rfl, SqT.of h2, rfl, _, rfl, _, rfl, _, rfl, p2, _, 1, _, rfl, rfl, SqT.of h2, rfl, _, rfl, a1, _, 0, _, rfl, rfl, SqT.of (s2 _ _ ha1), rfl, _, rfl, _, _, rfl, rfl, ?_⟩
        refine ⟨a1, _, 0, _, rfl, s2 _ _ ha1, dok rfl, dok rfl, fun p3 H3 e3 h3 => ?_⟩
        refine ⟨p2, _, 1, _, rfl, e3 _ _ h2, dok rfl, dok rfl, fun p4 H4 e4 h4 => ?_⟩
        exact k1 _ _ (if_neg hlt) p4 p1 p3 H4 ((s2.trans e3).trans e4) h4 (e4 _ _ (e3 _ _ (e2 _ _ h1))) (e4 _ _ h3)
theorem cal_moved {f : Addr} {fd : FuncData} (F : FnP K "moved" "moved" s_moved f fd) (g : mg "moved" = some (.ref f)) (c_put : C8.Cal P w K mg base 1 "put" spPut []) : C8.Cal P w K mg base 2 "moved" spMoved [] :=
  ⟨f, fd, _, [], ok_moved F c_put, g, F.kp, F.bindsN fun _ _ _ _ _ _ us hl => match us, hl with | [_, _, _, _, _], _ => rfl, .nil⟩

/-! ### combine -/
end
def sgn : Nat → Str
  | 0 => "+" | 1 => "-" | 2 => "*" | 3 => "/" | 4 => "mod" | 5 => "<" | _ => "="
def comb : Nat → Int → Int → Int
  | 0, a, b => (a + b) % 65536
  | 1, a, b => if a - b > 0 then a - b else 0
  | 2, a, b => a * b % 65536
  | 3, a, b => if b = 0 then 0 else a / b
  | 4, a, b => if b = 0 then 0 else a % b
  | 5, a, b => if a < b then 1 else 0
  | _, a, b => if a = b then 1 else 0
theorem b2 (c : Prop) [Decidable c] : (if decide c = true then (1 : Int) else 0) = if c then 1 else 0 := by
  by_cases h : c <;> simp [h]
section
variable {P : Program} {w : World} {K : PySem.W.Frag} {mg : Str → Option Value} {base : Heap}
def spComb (nm : Str) : Sp := fun vs H Q _ => ∃ (k : Nat) (a b : Int), vs = [.str (sgn k), .int a, .int b] ∧ k < 7 ∧ 0 ≤ a ∧ a ≤ 65535 ∧ 0 ≤ b ∧ b ≤ 65535 ∧ ∀ H', Same H H' → Q (.int (comb k a b)) H'
theorem sc_combine : FnScope ["sign", "left", "right"] ["sign", "left", "right"] (defScope s_combine) := ⟨rfl, rfl, rfl, by decide +kernel, rfl, by decide +kernel, by decide +kernel⟩
theorem ok_combine {f : Addr} {fd : FuncData} (F : FnP K "combine" "combine" s_combine f fd) (T : Txt K mg) : FnOk P w K mg base CX0 1 f fd ["sign", "left", "right"] (spComb "") := by
  refine F.ok sc_combine (fun vs H Q E h => ?_) (fun cdv A outer s H vs Q E hr h => ?_)
  · obtain ⟨k, a, b, rfl, _⟩ := h
    rfl
  · obtain ⟨k, a, b, rfl, hk, a0, a1, b0, b1, kk⟩ := h
    have kk := kk H (Same.refl H)
    refine ⟨_, PSs.nox ((pss_cons (ps_if (pt_cmpR op_eq (pv 0) pe_str (nomark _)) (pss_one (ps_ret (pe_op op_mod (pe_op op_add (pv 1) (pv 2)) (pe_op op_add (pe_gi T.gGREATEST) pe_int)))) pss_nil)
      (pss_cons (ps_if (pt_cmpR op_eq (pv 0) pe_str (nomark _)) (pss_one (ps_ret (pe_callB (call_max2 rfl) (by rfl) T.max bt_max (pa_cons pe_int (pa_cons (pe_op op_sub (pv 1) (pv 2)) pa_nil))))) pss_nil)
      (pss_cons (ps_if (pt_cmpR op_eq (pv 0) pe_str (nomark _)) (pss_one (ps_ret (pe_op op_mod (pe_op op_mul (pv 1) (pv 2)) (pe_op op_add (pe_gi T.gGREATEST) pe_int)))) pss_nil)
      (pss_cons (ps_if (pt_cmpR op_eq (pv 0) pe_str (nomark _)) (pss_one (ps_ret (pe_callTy call_int1 (by rfl) T.int bt_int (pa_cons (pe_cmpR op_lt (pv 1) (pv 2) (nomark _)) pa_nil)))) pss_nil)
      (pss_cons (ps_if (pt_cmpR op_eq (pv 0) pe_str (nomark _)) (pss_one (ps_ret (pe_callTy call_int1 (by rfl) T.int bt_int (pa_cons (pe_cmpR op_eq (pv 1) (pv 2) (nomark _)) pa_nil)))) pss_nil)
      (pss_cons (ps_if (pt_cmpR op_eq (pv 2) pe_int (nomark _)) (pss_one (ps_ret pe_int)) pss_nil)
      (pss_cons (ps_if (pt_cmpR op_eq (pv 0) pe_str (nomark _)) (pss_one (ps_ret (pe_op op_fdiv (pv 1) (pv 2)))) pss_nil)
      (pss_one (ps_ret (pe_op op_mod (pv 1) (pv 2)))))))))))), ?_⟩
    have hk' : k = 0 ∨ k = 1 ∨ k = 2 ∨ k = 3 ∨ k = 4 ∨ k = 5 ∨ k = 6 := by omega
    rcases hk' with rfl | rfl | rfl | rfl | rfl | rfl | rfl
    · refine ⟨_, rfl, rfl, _, rfl, ifT rfl ?_⟩
      exact ⟨_, rfl, _, rfl, _, _, rfl, rfl, _, _, rfl, rfl, _, _, rfl, rfl, (by show (0 : Int) < 65536; decide), kk⟩
    · refine ⟨_, rfl, rfl, _, rfl, ifF rfl ⟨_, rfl, rfl, _, rfl, ifT rfl ?_⟩⟩
      exact ⟨_, rfl, _, rfl, _, _, rfl, rfl, _, _, rfl, kk⟩
    · refine ⟨_, rfl, rfl, _, rfl, ifF rfl ⟨_, rfl, rfl, _, rfl, ifF rfl ⟨_, rfl, rfl, _, rfl, ifT rfl ?_⟩⟩⟩
      exact ⟨_, rfl, _, rfl, _, _, rfl, rfl, .inl ⟨by omega, by omega⟩, _, _, rfl, rfl, _, _, rfl, rfl, (by show (0 : Int) < 65536; decide), kk⟩
    · refine ⟨_, rfl, rfl, _, rfl, ifF rfl ⟨_, rfl, rfl, _, rfl, ifF rfl ⟨_, rfl, rfl, _, rfl, ifF rfl ⟨_, rfl, rfl, _, rfl, ifF rfl ⟨_, rfl, rfl, _, rfl, ifF rfl ⟨_, rfl, rfl, _, rfl, ifb (fun hc => ?_) fun hc => ⟨_, rfl, rfl, _, rfl, ifT rfl ?_⟩⟩⟩⟩⟩⟩⟩
      · have e : b = 0 := V.int.inj (of_decide_eq_true hc)
        have e2 : comb 3 a b = 0 := if_pos e
        rw [e2] at kk
        exact kk
      · have e : ¬ b = 0 := fun z => of_decide_eq_false hc (congrArg V.int z)
        have e2 : comb 3 a b = a / b := if_neg e
        rw [e2] at kk
        exact ⟨_, rfl, _, rfl, _, _, rfl, rfl, ⟨by omega, by omega⟩, kk⟩
    · refine ⟨_, rfl, rfl, _, rfl, ifF rfl ⟨_, rfl, rfl, _, rfl, ifF rfl ⟨_, rfl, rfl, _, rfl, ifF rfl ⟨_, rfl, rfl, _, rfl, ifF rfl ⟨_, rfl, rfl, _, rfl, ifF rfl ⟨_, rfl, rfl, _, rfl, ifb (fun hc => ?_) fun hc => ⟨_, rfl, rfl, _, rfl, ifF rfl ?_⟩⟩⟩⟩⟩⟩⟩
      · have e : b = 0 := V.int.inj (of_decide_eq_true hc)
        have e2 : comb 4 a b = 0 := if_pos e
        rw [e2] at kk
        exact kk
      · have e : ¬ b = 0 := fun z => of_decide_eq_false hc (congrArg V.int z)
        have e2 : comb 4 a b = a % b := if_neg e
        rw [e2] at kk
        exact ⟨_, rfl, _, rfl, _, _, rfl, rfl, (by show 0 < b; omega), kk⟩
    · refine ⟨_, rfl, rfl, _, rfl, ifF rfl ⟨_, rfl, rfl, _, rfl, ifF rfl ⟨_, rfl, rfl, _, rfl, ifF rfl ⟨_, rfl, rfl, _, rfl, ifT rfl ?_⟩⟩⟩⟩
      refine ⟨_, rfl, _, rfl, _, _, rfl, rfl, .inr ⟨_, rfl, ?_⟩⟩
      rw [b2]
      exact kk
    · refine ⟨_, rfl, rfl, _, rfl, ifF rfl ⟨_, rfl, rfl, _, rfl, ifF rfl ⟨_, rfl, rfl, _, rfl, ifF rfl ⟨_, rfl, rfl, _, rfl, ifF rfl ⟨_, rfl, rfl, _, rfl, ifT rfl ?_⟩⟩⟩⟩⟩
      refine ⟨_, rfl, _, rfl, rfl, .inr ⟨_, rfl, ?_⟩⟩
      rw [b2]
      have e2 : (if V.int a = V.int b then (1 : Int) else 0) = comb 6 a b := by
        show _ = if a = b then (1 : Int) else 0
        by_cases h : a = b
        · rw [if_pos h, if_pos (congrArg V.int h)]
        · rw [if_neg h, if_neg (fun z => h (V.int.inj z))]
      rw [e2]
      exact kk
end
end NC
set_option Elab.async false
set_option linter.all false
set_option maxRecDepth 100000
set_option maxHeartbeats 4000000
/-! The mirror: what the program's functions compute, over plain data; how the data stand as nested tuples. -/
namespace NC
open PySem PySem.Spec PyProof.Rows L2

/-- a state: the variable's value, what the contract has, what the outsiders have -/
structure S where
  x : Int
  h : Int
  o : Int
  deriving DecidableEq, Inhabited
/-- expressions -/
inductive Xp where
  | num (n : Int) | giv | var | hav | out | op (k : Nat) (l r : Xp)
  deriving Inhabited
/-- plain statements -/
inductive Pl where
  | set (e : Xp) | need (e : Xp) | give (e : Xp) | get (e : Xp)
  deriving Inhabited
/-- statements -/
inductive Sm where
  | pl (p : Pl) | ask (n : Int) | ite (e : Xp) (a : Pl) (b : Option Pl)
  deriving Inhabited
structure Pr where
  size : Int
  shown : Bool
  blk : List Sm
  deriving Inhabited
/-- a house of one contract: is there a variable, an asset; the first values; the holding -/
structure Cf where
  nv : Bool
  na : Bool
  x0 : Int
  o0 : Int
  hd : Option Int
  prs : List Pr
  deriving Inhabited

/-! ### what is computed -/
def ev (s : S) (g : Int) : Xp → Int
  | .num n => n
  | .giv => g
  | .var => s.x
  | .hav => if s.h < 65535 then s.h else 65535
  | .out => if s.o < 65535 then s.o else 65535
  | .op k l r => comb k (ev s g l) (ev s g r)
def st (s : S) (v : Int) : S := { s with x := v % 2 }
def pay (s : S) (b : Bool) (v : Int) : Option S := (mv b s.h s.o v).map fun p => { s with h := p.1, o := p.2 }
def Pl.e : Pl → Xp
  | .set e => e | .need e => e | .give e => e | .get e => e
def doP (s : S) (g : Int) : Pl → Option S
  | .set e => some (st s (ev s g e))
  | .need e => if ev s g e = 0 then none else some s
  | .give e => pay s true (ev s g e)
  | .get e => pay s false (ev s g e)
/-- where a run stands -/
inductive Ps where
  | fail | done (s : S) | asks (s : S) (pd : List (Nat × Int)) (k : Int)
  deriving Inhabited
def go (L : List Sm) : S → List (Nat × Int) → Ps
  | s, [] => .done s
  | s, (n, g) :: r => match L[n]? with
    | some (.ask k) => .asks s ((n, g) :: r) k
    | some (.pl p) => (match doP s g p with | none => .fail | some s' => go L s' r)
    | some (.ite e a b) => if ev s g e = 0 then (match b with
        | none => go L s r
        | some p => match doP s g p with | none => .fail | some s' => go L s' r) else (match doP s g a with | none => .fail | some s' => go L s' r)
    | none => .fail
/-- the statements within a statement, numbered behind it -/
def Sm.inner : Sm → List Sm
  | .ite _ a b => .pl a :: (match b with | none => [] | some p => [.pl p])
  | _ => []
def flatB (b : List Sm) : List Sm := b.flatMap fun t => t :: t.inner
/-- the numbers of a block's own statements, from n on -/
def numsB : Nat → List Sm → List Nat
  | _, [] => []
  | n, t :: r => n :: numsB (n + 1 + t.inner.length) r
def linesOf (ps : List Pr) : List Sm := ps.flatMap fun p => flatB p.blk
def Cf.L (c : Cf) : List Sm := linesOf c.prs
/-- the numbers in both parts of the statement with number n -/
def prt (t : Sm) (n : Nat) : List Nat × List Nat := match t with
  | .ite _ _ none => ([n + 1], [])
  | .ite _ _ (some _) => ([n + 1], [n + 2])
  | _ => ([], [])
/-- where a procedure's statements begin -/
def begins (ps : List Pr) (i : Nat) : Nat := (linesOf (ps.take i)).length
def bodyOf (c : Cf) (i : Nat) : List Nat := match c.prs[i]? with
  | some p => numsB (begins c.prs i) p.blk
  | none => []
def withG (ns : List Nat) (g : Int) (pd : List (Nat × Int)) : List (Nat × Int) := ns.map (fun n => (n, g)) ++ pd
def begun (c : Cf) (s : S) (i : Nat) (g : Int) : Ps := go c.L s (withG (bodyOf c i) g [])
def answ (L : List Sm) (pd : List (Nat × Int)) (s : S) (a : Int) : Ps := go L (st s a) pd.tail
/-- the calls that outsiders may begin -/
def entOf : Nat → List Pr → List (Nat × Int)
  | _, [] => []
  | i, p :: r => (if p.shown then (List.range p.size.toNat).map fun (g : Nat) => (i, (g : Int)) else []) ++ entOf (i + 1) r
def Cf.ents (c : Cf) : List (Nat × Int) := entOf 0 c.prs
def first (c : Cf) : S := ⟨if c.nv then c.x0 else 0, c.hd.getD 0, if c.na then c.o0 else 0⟩

/-! ### as nested tuples -/
def eX : Xp → NestedKey
  | .num n => .tup [.text "number", .num n]
  | .giv => .tup [.text "given"]
  | .var => .tup [.text "variable", .text "x"]
  | .hav => .tup [.text "have", .text "a"]
  | .out => .tup [.text "out", .text "a"]
  | .op k l r => .tup [.text (sgn k), eX l, eX r]
def eP : Pl → NestedKey
  | .set e => .tup [.text "set", .text "x", eX e]
  | .need e => .tup [.text "need", eX e]
  | .give e => .tup [.text "give", .text "a", eX e]
  | .get e => .tup [.text "get", .text "a", eX e]
def eM : Sm → NestedKey
  | .pl p => eP p
  | .ask n => .tup [.text "ask", .text "x", .num n]
  | .ite e a b => .tup [.text "if", eX e, .tup [eP a], .tup (match b with | none => [] | some p => [eP p])]
def eB (b : List Sm) : NestedKey := .tup (b.map eM)
def opt (b : Bool) (n : Int) : List NestedKey := if b then [.num n] else []
def eS (nv na : Bool) (s : S) : NestedKey := .tup [.tup [.tup (opt nv s.x)], .tup [.tup (opt na s.h)], .tup (opt na s.o)]
def eD (pd : List (Nat × Int)) : NestedKey := .tup (pd.flatMap fun p => [.num p.1, .num p.2])
def eK (nv na : Bool) (s : S) (pd : List (Nat × Int)) : NestedKey := .tup [eS nv na s, eD pd]
def pq : Nat → Str
  | 0 => "p"
  | _ => "q"
/-- a procedure's tuple -/
def PrAt (H : Hp) (i : Nat) (p : Pr) (v : V) : Prop := ∃ a b, v = .ref a ∧ H a = some (.tup [.str (pq i), .int p.size, .bl p.shown, b]) ∧ NK H (eB p.blk) b
def PrsAt (H : Hp) : Nat → List Pr → List V → Prop
  | _, [], vs => vs = []
  | i, p :: r, vs => ∃ v us, vs = v :: us ∧ PrAt H i p v ∧ PrsAt H (i + 1) r us
def eVars (c : Cf) : NestedKey := .tup (if c.nv then [.tup [.text "x", .num 2, .num c.x0]] else [])
def eHold (c : Cf) : List NestedKey := match c.hd with | none => [] | some n => [.tup [.text "a", .num n]]
def HoAt (H : Hp) (c : Cf) (v : V) : Prop := ∃ a hs, v = .ref a ∧ FrT H a hs ∧ NKs H (eHold c) hs
def eAss (c : Cf) : List NestedKey := if c.na then [.tup [.text "a", .num c.o0]] else []
/-- the contract's tuple -/
def CtAt (H : Hp) (c : Cf) (v : V) : Prop := ∃ a av ah ap vs, v = .ref a ∧ H a = some (.tup [.str "c", av, ah, .ref ap]) ∧ NK H (eVars c) av ∧ HoAt H c ah ∧ H ap = some (.tup vs) ∧ PrsAt H 0 c.prs vs
theorem PrsAt.tx {H H' : Hp} (t : TX H H') : ∀ {i : Nat} {ps : List Pr} {vs : List V}, PrsAt H i ps vs → PrsAt H' i ps vs
  | _, [], _, h => h
  | i, p :: r, _, ⟨v, us, e, ⟨a, b, e2, h1, h2⟩, h3⟩ => ⟨v, us, e, ⟨a, b, e2, t _ _ h1, NK.tx t _ _ h2⟩, PrsAt.tx t h3⟩
theorem CtAt.tx {H H' : Hp} (t : TX H H') (k : ∀ a xs, FrT H a xs → FrT H' a xs) {c : Cf} {v : V} : CtAt H c v → CtAt H' c v
  | ⟨a, av, ah, ap, vs, e, h1, h2, ⟨b, hs, e2, h6, h7⟩, h4, h5⟩ => ⟨a, av, ah, ap, vs, e, t _ _ h1, NK.tx t _ _ h2, ⟨b, hs, e2, k _ _ h6, NKs.tx t _ _ h7⟩, t _ _ h4, PrsAt.tx t h5⟩
theorem FrT.same {H H' : Hp} (s : Same H H') {a : Addr} {xs : List V} : FrT H a xs → FrT H' a xs
  | ⟨o, h, d⟩ => ⟨o, s _ _ h, d⟩

/-! ### what is well formed -/
def Xp.ok (nv na : Bool) : Xp → Bool
  | .num n => decide (0 ≤ n) && decide (n ≤ 3)
  | .giv => true
  | .var => nv
  | .hav => na
  | .out => na
  | .op k l r => decide (k < 7) && (l.ok nv na && r.ok nv na)
def Xp.dp : Xp → Nat
  | .op _ l r => max l.dp r.dp + 1
  | _ => 1
def xok (nv na : Bool) (e : Xp) : Bool := e.ok nv na && decide (e.dp ≤ 3)
def Pl.ok (nv na : Bool) : Pl → Bool
  | .set e => nv && xok nv na e
  | .need e => xok nv na e
  | .give e => na && xok nv na e
  | .get e => na && xok nv na e
def Sm.ok (nv na : Bool) : Sm → Bool
  | .pl p => p.ok nv na
  | .ask n => nv && (decide (1 ≤ n) && decide (n ≤ 2))
  | .ite e a b => xok nv na e && (a.ok nv na && (match b with | none => true | some p => p.ok nv na))
/-- a state that may be -/
structure S.Ok (nv na : Bool) (s : S) : Prop where
  x0 : 0 ≤ s.x
  x1 : s.x ≤ 1
  h0 : 0 ≤ s.h
  o0 : 0 ≤ s.o
  top : s.h + s.o ≤ 4
  nv : nv = false → s.x = 0
  na : na = false → s.h = 0 ∧ s.o = 0

/-! ### ranges -/
theorem comb_rng {k : Nat} {a b : Int} (a0 : 0 ≤ a) (a1 : a ≤ 65535) (b0 : 0 ≤ b) (b1 : b ≤ 65535) : 0 ≤ comb k a b ∧ comb k a b ≤ 65535 := by
  unfold comb
  split
  · omega
  · split <;> omega
  · exact ⟨Int.emod_nonneg _ (by decide), by have := Int.emod_lt_of_pos (a * b) (by decide : (0 : Int) < 65536); omega⟩
  · split
    · omega
    · have h1 : 0 < b := by omega
      exact ⟨Int.ediv_nonneg a0 b0, Int.le_trans (Int.ediv_le_self b a0) a1⟩
  · split
    · omega
    · have h1 : 0 < b := by omega
      have h2 := Int.emod_nonneg a (by omega : b ≠ 0)
      have h3 := Int.emod_lt_of_pos a h1
      omega
  · split <;> omega
  · split <;> omega
theorem ev_rng {nv na : Bool} {s : S} {g : Int} (so : s.Ok nv na) (g0 : 0 ≤ g) (g1 : g ≤ 65535) : ∀ e : Xp, e.ok nv na = true → 0 ≤ ev s g e ∧ ev s g e ≤ 65535
  | .num n, h => by
    simp only [Xp.ok, Bool.and_eq_true, decide_eq_true_eq] at h
    simp only [ev]
    omega
  | .giv, _ => ⟨g0, g1⟩
  | .var, _ => by
    have h1 := so.x0
    have h2 := so.x1
    simp only [ev]
    omega
  | .hav, _ => by
    have h1 := so.h0
    simp only [ev]
    split <;> omega
  | .out, _ => by
    have h1 := so.o0
    simp only [ev]
    split <;> omega
  | .op k l r, h => by
    simp only [Xp.ok, Bool.and_eq_true, decide_eq_true_eq] at h
    obtain ⟨l0, l1⟩ := ev_rng so g0 g1 l h.2.1
    obtain ⟨r0, r1⟩ := ev_rng so g0 g1 r h.2.2
    simp only [ev]
    exact comb_rng l0 l1 r0 r1
theorem xok_ok {nv na : Bool} {e : Xp} (h : xok nv na e = true) : e.ok nv na = true ∧ e.dp ≤ 3 := by
  simpa [xok] using h

/-! ### the engine's object -/
def psF (kd : Str) (s p : V) (n : Int) : List (Str × V) := [("kind", .str kd), ("state", s), ("pending", p), ("count", .int n)]
/-- a pause -/
def PsAt (K : PySem.W.Frag) (nv na : Bool) (H : Hp) (a : Addr) : Ps → Prop
  | .fail => ∃ dx p, H a = some (.ins (aPause K) dx (psF "failed" .non p 0))
  | .done s => ∃ dx sv p, H a = some (.ins (aPause K) dx (psF "done" sv p 0)) ∧ NK H (eS nv na s) sv
  | .asks s pd k => ∃ dx sv p, H a = some (.ins (aPause K) dx (psF "asks" sv p k)) ∧ NK H (eS nv na s) sv ∧ NK H (eD pd) p
def eFs (hv : V) (d1 d2 d3 l1 l2 l3 l4 d4 : Addr) : List (Str × V) := [("house", hv), ("assets", .ref d1), ("contracts", .ref d2), ("procs", .ref d3), ("places", .ref l1), ("sizes", .ref l2), ("lines", .ref l3), ("parts", .ref l4), ("bodies", .ref d4)]
def assD (na : Bool) : List (Key × V) := if na then [(.inr "a", .int 0)] else []
def varD (nv : Bool) : List (Key × V) := if nv then [(.inr "x", .int 0)] else []
def szs (nv : Bool) : List V := if nv then [.int 2] else []
def nV (ns : List Nat) : List V := ns.map fun (n : Nat) => V.int (n : Int)
def LnAt (H : Hp) (L : List Sm) (vs : List V) : Prop := ∀ (i : Nat) (t : Sm), L[i]? = some t → ∃ a b, vs[i]? = some (V.ref a) ∧ H a = some (HO.tup [V.int 0, b]) ∧ NK H (eM t) b
def PtAt (H : Hp) (L : List Sm) (vs : List V) : Prop := ∀ (i : Nat) (t : Sm), L[i]? = some t → ∃ a t1 t2, vs[i]? = some (V.ref a) ∧ H a = some (HO.tup [V.ref t1, V.ref t2]) ∧ H t1 = some (.tup (nV (prt t i).1)) ∧ H t2 = some (.tup (nV (prt t i).2))
def BdAt (H : Hp) (c : Cf) (kvs : List (List Key × V)) : Prop := ∀ (i : Nat) (p : Pr), c.prs[i]? = some p → ∃ t, valV kvs [.inr "c", .inr (pq i)] = some (V.ref t) ∧ H t = some (.tup (nV (bodyOf c i)))
/-- a House object -/
def HsAt (K : PySem.W.Frag) (H : Hp) (c : Cf) (v : V) : Prop := ∃ a dx as cs ct vs, v = .ref a ∧ H a = some (.ins (aHouse K) dx [("assets", .ref as), ("contracts", .ref cs)]) ∧ H as = some (.tup vs) ∧ NKs H (eAss c) vs ∧ H cs = some (.tup [ct]) ∧ CtAt H c ct
structure EnAt (K : PySem.W.Frag) (H : Hp) (e : Addr) (c : Cf) : Prop where
  ex : ∃ dx hv d1 d2 d3 l1 l2 l3 l4 d4 dp ls lv pv bv, H e = some (.ins (aEngine K) dx (eFs hv d1 d2 d3 l1 l2 l3 l4 d4)) ∧ HsAt K H c hv ∧ H d1 = some (.dK (assD c.na)) ∧ H l1 = some (.lst [.ref dp]) ∧ H dp = some (.dK (varD c.nv)) ∧
    H l2 = some (.lst [.ref ls]) ∧ H ls = some (.lst (szs c.nv)) ∧ H l3 = some (.lst lv) ∧ LnAt H c.L lv ∧ H l4 = some (.lst pv) ∧ PtAt H c.L pv ∧ H d4 = some (.dT bv) ∧ BdAt H c bv
section
variable {K : PySem.W.Frag} {H H' : Hp} {c : Cf}
theorem HsAt.same {v : V} (s : Same H H') : HsAt K H c v → HsAt K H' c v
  | ⟨a, dx, as, cs, ct, vs, e, h1, h2, h3, h4, h5⟩ => ⟨a, dx, as, cs, ct, vs, e, s _ _ h1, s _ _ h2, NKs.tx (TX.same s) _ _ h3, s _ _ h4, h5.tx (TX.same s) fun _ _ => FrT.same s⟩
theorem EnAt.same {e : Addr} (s : Same H H') (x : EnAt K H e c) : EnAt K H' e c := by
  obtain ⟨dx, hv, d1, d2, d3, l1, l2, l3, l4, d4, dp, ls, lv, pv, bv, h1, h2, h3, h4, h5, h6, h7, h8, h9, h10, h11, h12, h13⟩ := x.ex
  refine ⟨dx, hv, d1, d2, d3, l1, l2, l3, l4, d4, dp, ls, lv, pv, bv, s _ _ h1, h2.same s, s _ _ h3, s _ _ h4, s _ _ h5, s _ _ h6, s _ _ h7, s _ _ h8, fun i t q => ?_, s _ _ h10, fun i t q => ?_, s _ _ h12, fun i p q => ?_⟩
  · obtain ⟨a, b, g1, g2, g3⟩ := h9 i t q
    exact ⟨a, b, g1, s _ _ g2, NK.tx (TX.same s) _ _ g3⟩
  · obtain ⟨a, t1, t2, g1, g2, g3, g4⟩ := h11 i t q
    exact ⟨a, t1, t2, g1, s _ _ g2, s _ _ g3, s _ _ g4⟩
  · obtain ⟨t, g1, g2⟩ := h13 i p q
    exact ⟨t, g1, s _ _ g2⟩
theorem PsAt.same {nv na : Bool} {a : Addr} (s : Same H H') : ∀ {p : Ps}, PsAt K nv na H a p → PsAt K nv na H' a p
  | .fail, ⟨dx, p, h⟩ => ⟨dx, p, s _ _ h⟩
  | .done _, ⟨dx, sv, p, h, h2⟩ => ⟨dx, sv, p, s _ _ h, NK.tx (TX.same s) _ _ h2⟩
  | .asks _ _ _, ⟨dx, sv, p, h, h2, h3⟩ => ⟨dx, sv, p, s _ _ h, NK.tx (TX.same s) _ _ h2, NK.tx (TX.same s) _ _ h3⟩
/-- a state's tuple, opened -/
theorem eS_open {nv na : Bool} {s : S} {v : V} : NK H (eS nv na s) v ↔ ∃ a a0 a1 b0 b1 b2, v = V.ref a ∧ H a = some (HO.tup [V.ref a0, V.ref a1, V.ref b2]) ∧ H a0 = some (HO.tup [V.ref b0]) ∧ H a1 = some (HO.tup [V.ref b1]) ∧
    H b0 = some (HO.tup (if nv then [V.int s.x] else [])) ∧ H b1 = some (HO.tup (if na then [V.int s.h] else [])) ∧ H b2 = some (HO.tup (if na then [V.int s.o] else [])) := by
  have op : ∀ {b : Bool} {n : Int} {vs : List V}, NKs H (opt b n) vs ↔ vs = if b then [V.int n] else [] := by
    intro b n vs
    cases b
    · exact ⟨fun h => by cases h; rfl, fun h => by rw [h]; exact .nil⟩
    · exact ⟨fun h => by cases h with | cons h1 h2 => cases h1; cases h2; rfl, fun h => by rw [h]; exact .cons (.num n) .nil⟩
  constructor
  · intro h
    cases h with
    | tup h1 h2 =>
      cases h2 with
      | cons h3 h4 =>
        cases h4 with
        | cons h5 h6 =>
          cases h6 with
          | cons h7 h8 =>
            cases h8
            cases h3 with
            | tup g1 g2 =>
              cases g2 with
              | cons g3 g4 =>
                cases g4
                cases g3 with
                | tup g5 g6 =>
                  cases h5 with
                  | tup k1 k2 =>
                    cases k2 with
                    | cons k3 k4 =>
                      cases k4
                      cases k3 with
                      | tup k5 k6 =>
                        cases h7 with
                        | tup m1 m2 => exact ⟨_, _, _, _, _, _, rfl, h1, g1, k1, by rw [← op.mp g6]; exact g5, by rw [← op.mp k6]; exact k5, by rw [← op.mp m2]; exact m1⟩
  · rintro ⟨a, a0, a1, b0, b1, b2, rfl, h, h0, h1, g0, g1, g2⟩
    exact .tup h (.cons (.tup h0 (.cons (.tup g0 (op.mpr rfl)) .nil)) (.cons (.tup h1 (.cons (.tup g1 (op.mpr rfl)) .nil)) (.cons (.tup g2 (op.mpr rfl)) .nil)))
end
end NC
set_option Elab.async false
set_option linter.all false
set_option maxRecDepth 100000
set_option maxHeartbeats 4000000
/-! Walks of the engine: Pause, value, stored, paid. -/
namespace NC
open PySem PySem.Spec PyProof.Rows L2
/-- all but what stands at x is as it was -/
def SameBut (x : Addr) (H H' : Hp) : Prop := ∀ a o, H a = some o → a ≠ x → H' a = some o
theorem SameBut.upd {x : Addr} {H H' : Hp} {o : HO} (s : SameBut x H H') : SameBut x H (upd H' x o) := fun a u h n => by rw [upd_ne n]; exact s a u h n
theorem SameBut.refl (x : Addr) (H : Hp) : SameBut x H H := fun _ _ h _ => h
/-- a new instance, set up by its __init__ -/
theorem same_made {H H1 : Hp} {x dx C : Addr} (nx : H x = none) (nd : H dx = none) (k : SameBut x (upd (upd H dx (.own x)) x (.ins C dx [])) H1) : Same H H1 := fun b o e =>
  k b o (by rw [upd_ne (ne_of_none e nx), upd_ne (ne_of_none e nd)]; exact e) (ne_of_none e nx)
section
variable {P : Program} {w : World} {K : PySem.W.Frag} {mg : Str → Option Value} {base : Heap}
def spPause (K : PySem.W.Frag) : Sp := fun vs H Q _ => ∃ (x dx : Addr) (kd : Str) (s p : V) (n : Int), vs = [.ref x, .str kd, s, p, .int n] ∧ H x = some (.ins (aPause K) dx []) ∧ ∀ H', SameBut x H H' → H' x = some (.ins (aPause K) dx (psF kd s p n)) → Q .non H'
theorem psF_eq (kd : Str) (s p : V) (n : Int) : putF "count" (.int n) (putF "pending" p (putF "state" s (putF "kind" (.str kd) []))) = psF kd s p n := by rfl
theorem sc_Pause_init : FnScope ["self", "kind", "state", "pending", "count"] ["self", "kind", "state", "pending", "count"] (defScope s_Pause_init) := ⟨rfl, rfl, rfl, by decide +kernel, rfl, by decide +kernel, by decide +kernel⟩
theorem ok_Pause {f : Addr} {fd : FuncData} (F : FnP K "__init__" "Pause.__init__" s_Pause_init f fd) (T : Txt K mg) : FnOk P w K mg base CX0 1 f fd ["self", "kind", "state", "pending", "count"] (spPause K) := by
  refine F.ok sc_Pause_init (fun vs H Q E h => ?_) (fun cdv A outer s H vs Q E hr h => ?_)
  · obtain ⟨x, dx, kd, s, p, n, rfl, _⟩ := h
    rfl
  · obtain ⟨x, dx, kd, sv, p, n, rfl, hx, k⟩ := h
    refine ⟨_, PSs.nox ((pss_cons (ps_fld (pv 0) (pv 1) rfl)
      (pss_cons (ps_fld (pv 0) (pv 2) rfl)
      (pss_cons (ps_fld (pv 0) (pv 3) rfl)
      (pss_one (ps_fld (pv 0) (pv 4) rfl)))))), ?_⟩
    refine ⟨_, rfl, _, rfl, x, _, dx, _, rfl, hx, T.clPause, T.nPause_kind, dok rfl, _, rfl, _, rfl, x, _, dx, _, rfl, upd_same, T.clPause, T.nPause_state, dok rfl, _, rfl, _, rfl, x, _, dx, _, rfl, upd_same, T.clPause, T.nPause_pending, dok rfl,
      _, rfl, _, rfl, x, _, dx, _, rfl, upd_same, T.clPause, T.nPause_count, dok rfl, ?_⟩
    exact k _ (((SameBut.refl x H).upd.upd.upd).upd) upd_same
theorem mak_Pause {f : Addr} {fd : FuncData} (F : FnP K "__init__" "Pause.__init__" s_Pause_init f fd) (T : Txt K mg) (M : Mk K (aPause K) f) (g : mg "Pause" = some (.ref (aPause K))) : C8.Mak P w K mg base 1 "Pause" (aPause K) (spPause K) [] :=
  ⟨f, fd, _, [], M, ok_Pause F T, g, F.bindsN fun _ _ _ _ _ _ us hl => match us, hl with | [_, _, _, _, _], _ => rfl, .nil⟩
end
end NC
set_option Elab.async false
set_option linter.all false
set_option maxRecDepth 100000
set_option maxHeartbeats 4000000
/-! Walks of the engine: value, stored, paid. -/
namespace NC
open PySem PySem.Spec PyProof.Rows L2
section
variable {P : Program} {w : World} {K : PySem.W.Frag} {mg : Str → Option Value} {base : Heap}
/-! ### value -/
def spVal (K : PySem.W.Frag) (d : Nat) : Sp := fun vs H Q _ => ∃ (e : Addr) (c : Cf) (x : Xp) (xv sv : V) (g : Int) (s : S), vs = [.ref e, xv, .int 0, .int g, sv] ∧ EnAt K H e c ∧ NK H (eX x) xv ∧ x.ok c.nv c.na = true ∧ x.dp ≤ d ∧ NK H (eS c.nv c.na s) sv ∧ s.Ok c.nv c.na ∧ 0 ≤ g ∧ g ≤ 65535 ∧
  ∀ H', Same H H' → Q (.int (ev s g x)) H'
theorem sc_Engine_value : FnScope ["self", "expression", "contract", "given", "state", "kind", "left"] ["self", "expression", "contract", "given", "state"] (defScope s_Engine_value) := ⟨rfl, rfl, rfl, by decide +kernel, rfl, by decide +kernel, by decide +kernel⟩
theorem dp_pos : ∀ x : Xp, 1 ≤ x.dp
  | .num _ => Nat.le_refl _
  | .giv => Nat.le_refl _
  | .var => Nat.le_refl _
  | .hav => Nat.le_refl _
  | .out => Nat.le_refl _
  | .op _ _ _ => Nat.le_add_left _ _
theorem ok_value {f : Addr} {fd : FuncData} (F : FnP K "value" "Engine.value" s_Engine_value f fd) (T : Txt K mg) (me : Meth K (aEngine K) "value" f) (c_combine : C8.Cal P w K mg base 1 "combine" (spComb "") []) :
    ∀ d : Nat, FnOk P w K mg base CX0 (d + 1) f fd ["self", "expression", "contract", "given", "state"] (spVal K d) := by
  intro d
  induction d with
  | zero =>
    refine ⟨fun vs H Q E h => ?_, fun A outer s H args us vs Q E _ _ _ _ h => ?_⟩
    · obtain ⟨e, c, x, xv, sv, g, s, rfl, _⟩ := h
      rfl
    · obtain ⟨e, c, x, xv, sv, g, s, _, _, _, _, hd, _⟩ := h
      have := dp_pos x
      omega
  | succ d ih =>
    refine F.ok sc_Engine_value (fun vs H Q E h => ?_) (fun cdv A outer s H vs Q E hr h => ?_)
    · obtain ⟨e, c, x, xv, sv, g, s, rfl, _⟩ := h
      rfl
    · obtain ⟨e, c, x, xv, sv, g, st, rfl, he, hx, xo, hd, hs, so, g0, g1, k⟩ := h
      have hu := hu_of hr
      have m_Engine_value : C8.Met P w K mg base (d + 1) (aEngine K) "value" (spVal K d) [] := ⟨f, fd, _, [], T.clEngine, me, ih, F.bindsN fun _ _ _ _ _ _ us hl => match us, hl with | [_, _, _, _, _], _ => rfl, .nil⟩
      obtain ⟨dx, hv, d1, d2, d3, l1, l2, l3, l4, d4, dp, ls, lv, pv', bv, h1, h2, h3, h4, h5, _⟩ := he.ex
      obtain ⟨a, a0, a1, b0, b1, b2, rfl, q, q0, q1, q2, q3, q4⟩ := eS_open.mp hs
      refine ⟨_, PSs.nox ((pss_cons (ps_set (i := 5) sc_Engine_value.nd rfl (Or.inl rfl) (pe_ix ix_tup (pv 1) pe_int (fun _ _ => rfl)))
      (pss_cons (ps_if (pt_cmpR op_eq (pv 5) pe_str (nomark _)) (pss_one (ps_ret (pe_ix ix_tup (pv 1) pe_int (fun _ _ => rfl)))) pss_nil)
      (pss_cons (ps_if (pt_cmpR op_eq (pv 5) pe_str (nomark _)) (pss_one (ps_ret (pv 3))) pss_nil)
      (pss_cons (ps_if (pt_cmpR op_eq (pv 5) pe_str (nomark _)) (pss_one (ps_ret (pe_ix ix_tup (pe_ix ix_tup (pe_ix ix_tup (pv 4) pe_int (fun _ _ => rfl)) (pv 2) (fun _ _ => rfl)) (pe_dget hu (pe_ix ix_list (pe_fld (pv 0) rfl) (pv 2) (fun _ _ => rfl)) (pe_ix ix_tup (pv 1) pe_int (fun _ _ => rfl)) (fun _ _ => rfl)) (fun _ _ => rfl)))) pss_nil)
      (pss_cons (ps_if (pt_cmpR op_eq (pv 5) pe_str (nomark _)) (pss_one (ps_ret (pe_callB (call_min2 rfl) (by rfl) T.min bt_min (pa_cons pe_int (pa_cons (pe_ix ix_tup (pe_ix ix_tup (pe_ix ix_tup (pv 4) pe_int (fun _ _ => rfl)) (pv 2) (fun _ _ => rfl)) (pe_dget hu (pe_fld (pv 0) rfl) (pe_ix ix_tup (pv 1) pe_int (fun _ _ => rfl)) (fun _ _ => rfl)) (fun _ _ => rfl)) pa_nil))))) pss_nil)
      (pss_cons (ps_if (pt_cmpR op_eq (pv 5) pe_str (nomark _)) (pss_one (ps_ret (pe_callB (call_min2 rfl) (by rfl) T.min bt_min (pa_cons pe_int (pa_cons (pe_ix ix_tup (pe_ix ix_tup (pv 4) pe_int (fun _ _ => rfl)) (pe_dget hu (pe_fld (pv 0) rfl) (pe_ix ix_tup (pv 1) pe_int (fun _ _ => rfl)) (fun _ _ => rfl)) (fun _ _ => rfl)) pa_nil))))) pss_nil)
      (pss_cons (ps_set (i := 6) sc_Engine_value.nd rfl (Or.inl rfl) (C8.pe_mt m_Engine_value hr (by omega) (pv 0) (pa_cons (pe_ix ix_tup (pv 1) pe_int (fun _ _ => rfl)) (pa_cons (pv 2) (pa_cons (pv 3) (pa_cons (pv 4) pa_nil))))))
      (pss_one (ps_ret (C8.pe_c c_combine hr (by omega) (by rfl) (pa_cons (pv 5) (pa_cons (pv 6) (pa_cons (C8.pe_mt m_Engine_value hr (by omega) (pv 0) (pa_cons (pe_ix ix_tup (pv 1) pe_int (fun _ _ => rfl)) (pa_cons (pv 2) (pa_cons (pv 3) (pa_cons (pv 4) pa_nil))))) pa_nil)))))))))))))), ?_⟩
      have kk := k H (Same.refl H)
      cases x with
      | num n =>
        cases hx with
        | @tup p _ _ p1 p2 =>
          cases p2 with
          | cons p3 p4 =>
            cases p3
            cases p4 with
            | cons p5 p6 =>
              cases p5
              cases p6
              refine ⟨_, rfl, p, _, 0, _, rfl, rfl, SqT.of p1, rfl, _, rfl, rfl, _, rfl, ifT rfl ?_⟩
              exact ⟨_, rfl, p, _, 1, _, rfl, rfl, SqT.of p1, rfl, kk⟩
      | giv =>
        cases hx with
        | @tup p _ _ p1 p2 =>
          cases p2 with
          | cons p3 p4 =>
            cases p3
            cases p4
            refine ⟨_, rfl, p, _, 0, _, rfl, rfl, SqT.of p1, rfl, _, rfl, rfl, _, rfl, ifF rfl ⟨_, rfl, rfl, _, rfl, ifT rfl ?_⟩⟩
            exact ⟨_, rfl, kk⟩
      | var =>
        cases hx with
        | @tup p _ _ p1 p2 =>
          cases p2 with
          | cons p3 p4 =>
            cases p3
            cases p4 with
            | cons p5 p6 =>
              cases p5
              cases p6
              have en : c.nv = true := xo
              have h5' : H dp = some (.dK [(.inr "x", .int 0)]) := by rw [h5, en]; rfl
              have q2' : H b0 = some (.tup [.int st.x]) := by rw [q2, en]; rfl
              refine ⟨_, rfl, p, _, 0, _, rfl, rfl, SqT.of p1, rfl, _, rfl, rfl, _, rfl, ifF rfl ⟨_, rfl, rfl, _, rfl, ifF rfl ⟨_, rfl, rfl, _, rfl, ifT rfl ?_⟩⟩⟩
              refine ⟨_, rfl, a, _, 0, _, rfl, rfl, SqT.of q, rfl, _, rfl, a0, _, 0, _, rfl, rfl, SqT.of q0, rfl, _, rfl, e, _, dx, _, _, rfl, h1, T.clEngine, T.nEngine_places, rfl, _, rfl, l1, _, 0, _, rfl, rfl, SqL.of h4, rfl, _, rfl, p, _, 1, _, rfl, rfl, SqT.of p1, rfl, dp, _, rfl, DGet.k (k := Sum.inr "x") h5', b0, _, 0, _, rfl, rfl, SqT.of q2', rfl, ?_⟩
              exact kk
      | hav =>
        cases hx with
        | @tup p _ _ p1 p2 =>
          cases p2 with
          | cons p3 p4 =>
            cases p3
            cases p4 with
            | cons p5 p6 =>
              cases p5
              cases p6
              have en : c.na = true := xo
              have h3' : H d1 = some (.dK [(.inr "a", .int 0)]) := by rw [h3, en]; rfl
              have q3' : H b1 = some (.tup [.int st.h]) := by rw [q3, en]; rfl
              refine ⟨_, rfl, p, _, 0, _, rfl, rfl, SqT.of p1, rfl, _, rfl, rfl, _, rfl, ifF rfl ⟨_, rfl, rfl, _, rfl, ifF rfl ⟨_, rfl, rfl, _, rfl, ifF rfl ⟨_, rfl, rfl, _, rfl, ifT rfl ?_⟩⟩⟩⟩
              refine ⟨_, rfl, a, _, 1, _, rfl, rfl, SqT.of q, rfl, _, rfl, a1, _, 0, _, rfl, rfl, SqT.of q1, rfl, _, rfl, e, _, dx, _, _, rfl, h1, T.clEngine, T.nEngine_assets, rfl, _, rfl, p, _, 1, _, rfl, rfl, SqT.of p1, rfl, d1, _, rfl, DGet.k (k := Sum.inr "a") h3', b1, _, 0, _, rfl, rfl, SqT.of q3', rfl, ?_⟩
              exact ⟨_, _, rfl, kk⟩
      | out =>
        cases hx with
        | @tup p _ _ p1 p2 =>
          cases p2 with
          | cons p3 p4 =>
            cases p3
            cases p4 with
            | cons p5 p6 =>
              cases p5
              cases p6
              have en : c.na = true := xo
              have h3' : H d1 = some (.dK [(.inr "a", .int 0)]) := by rw [h3, en]; rfl
              have q4' : H b2 = some (.tup [.int st.o]) := by rw [q4, en]; rfl
              refine ⟨_, rfl, p, _, 0, _, rfl, rfl, SqT.of p1, rfl, _, rfl, rfl, _, rfl, ifF rfl ⟨_, rfl, rfl, _, rfl, ifF rfl ⟨_, rfl, rfl, _, rfl, ifF rfl ⟨_, rfl, rfl, _, rfl, ifF rfl ⟨_, rfl, rfl, _, rfl, ifT rfl ?_⟩⟩⟩⟩⟩
              refine ⟨_, rfl, a, _, 2, _, rfl, rfl, SqT.of q, rfl, _, rfl, e, _, dx, _, _, rfl, h1, T.clEngine, T.nEngine_assets, rfl, _, rfl, p, _, 1, _, rfl, rfl, SqT.of p1, rfl, d1, _, rfl, DGet.k (k := Sum.inr "a") h3', b2, _, 0, _, rfl, rfl, SqT.of q4', rfl, ?_⟩
              exact ⟨_, _, rfl, kk⟩
      | op j l r =>
        simp only [Xp.ok, Bool.and_eq_true, decide_eq_true_eq] at xo
        simp only [Xp.dp] at hd
        obtain ⟨l0, l9⟩ := ev_rng so g0 g1 l xo.2.1
        obtain ⟨r0, r9⟩ := ev_rng so g0 g1 r xo.2.2
        have hj := xo.1
        have nq : ∀ z : Str, z ∈ ([("number" : Str), "given", "variable", "have", "out"] : List Str) → decide (V.str (sgn j) = V.str z) = false := by
          have hj' : j = 0 ∨ j = 1 ∨ j = 2 ∨ j = 3 ∨ j = 4 ∨ j = 5 ∨ j = 6 := by omega
          intro z hz
          have hz' : z = "number" ∨ z = "given" ∨ z = "variable" ∨ z = "have" ∨ z = "out" := by simpa using hz
          rcases hj' with rfl | rfl | rfl | rfl | rfl | rfl | rfl <;> rcases hz' with rfl | rfl | rfl | rfl | rfl <;> rfl
        cases hx with
        | @tup p _ _ p1 p2 =>
          cases p2 with
          | cons p3 p4 =>
            cases p3
            cases p4 with
            | @cons _ lv _ _ p5 p6 =>
              cases p6 with
              | @cons _ rv _ _ p7 p8 =>
                cases p8
                refine ⟨_, rfl, p, _, 0, _, rfl, rfl, SqT.of p1, rfl, _, rfl, rfl, _, rfl, ifF (nq _ (by simp)) ⟨_, rfl, rfl, _, rfl, ifF (nq _ (by simp)) ⟨_, rfl, rfl, _, rfl, ifF (nq _ (by simp)) ⟨_, rfl, rfl, _, rfl, ifF (nq _ (by simp)) ⟨_, rfl, rfl, _, rfl, ifF (nq _ (by simp)) ?_⟩⟩⟩⟩⟩
                refine ⟨_, rfl, e, dx, _, rfl, h1, rfl, _, rfl, p, _, 1, _, rfl, rfl, SqT.of p1, rfl, _, rfl, _, rfl, _, rfl, e, c, l, lv, _, g, st, rfl, he, p5, xo.2.1, by omega, hs, so, g0, g1, fun H1 s1 => ?_⟩
                refine ⟨_, rfl, _, rfl, _, rfl, e, dx, _, rfl, s1 _ _ h1, rfl, _, rfl, p, _, 2, _, rfl, rfl, SqT.of (s1 _ _ p1), rfl, _, rfl, _, rfl, _, rfl, e, c, r, rv, _, g, st, rfl, he.same s1, NK.tx (TX.same s1) _ _ p7, xo.2.2, by omega, NK.tx (TX.same s1) _ _ hs, so, g0, g1, fun H2 s2 => ?_⟩
                refine ⟨j, _, _, rfl, hj, l0, l9, r0, r9, fun H3 s3 => ?_⟩
                exact k H3 ((s1.trans s2).trans s3)
end
end NC
set_option Elab.async false
set_option linter.all false
set_option maxRecDepth 100000
set_option maxHeartbeats 4000000
/-! Walks of the engine: stored, paid, block. -/
namespace NC
open PySem PySem.Spec PyProof.Rows L2
section
variable {P : Program} {w : World} {K : PySem.W.Frag} {mg : Str → Option Value} {base : Heap}
theorem met_value {f : Addr} {fd : FuncData} (F : FnP K "value" "Engine.value" s_Engine_value f fd) (T : Txt K mg) (me : Meth K (aEngine K) "value" f) (c_combine : C8.Cal P w K mg base 1 "combine" (spComb "") []) (d : Nat) : C8.Met P w K mg base (d + 1) (aEngine K) "value" (spVal K d) [] :=
  ⟨f, fd, _, [], T.clEngine, me, ok_value F T me c_combine d, F.bindsN fun _ _ _ _ _ _ us hl => match us, hl with | [_, _, _, _, _], _ => rfl, .nil⟩
/-! ### stored -/
def spStored (K : PySem.W.Frag) : Sp := fun vs H Q _ => ∃ (e : Addr) (c : Cf) (sv : V) (v : Int) (s : S), vs = [.ref e, sv, .int 0, .str "x", .int v] ∧ EnAt K H e c ∧ c.nv = true ∧ NK H (eS c.nv c.na s) sv ∧
  ∀ p H', Same H H' → NK H' (eS c.nv c.na (st s v)) (.ref p) → Q (.ref p) H'
theorem sc_Engine_stored : FnScope ["self", "state", "contract", "name", "value", "place", "row"] ["self", "state", "contract", "name", "value"] (defScope s_Engine_stored) := ⟨rfl, rfl, rfl, by decide +kernel, rfl, by decide +kernel, by decide +kernel⟩
theorem ok_stored {f : Addr} {fd : FuncData} (F : FnP K "stored" "Engine.stored" s_Engine_stored f fd) (T : Txt K mg) (c_put : C8.Cal P w K mg base 1 "put" spPut []) : FnOk P w K mg base CX0 2 f fd ["self", "state", "contract", "name", "value"] (spStored K) := by
  refine F.ok sc_Engine_stored (fun vs H Q E h => ?_) (fun cdv A outer s H vs Q E hr h => ?_)
  · obtain ⟨e, c, sv, v, s, rfl, _⟩ := h
    rfl
  · obtain ⟨e, c, sv, v, st0, rfl, he, en, hs, k⟩ := h
    have hu := hu_of hr
    obtain ⟨dx, hv, d1, d2, d3, l1, l2, l3, l4, d4, dp, ls, lv, pv', bv, h1, h2, h3, h4, h5, h6, h7, _⟩ := he.ex
    rw [en] at hs k
    obtain ⟨a, a0, a1, b0, b1, b2, rfl, q, q0, q1, q2, q3, q4⟩ := eS_open.mp hs
    have h5' : H dp = some (.dK [(.inr "x", .int 0)]) := by rw [h5, en]; rfl
    have h7' : H ls = some (.lst [.int 2]) := by rw [h7, en]; rfl
    have q2' : H b0 = some (.tup [.int st0.x]) := q2
    refine ⟨_, PSs.nox ((pss_cons (ps_set (i := 5) sc_Engine_stored.nd rfl (Or.inl rfl) (pe_dget hu (pe_ix ix_list (pe_fld (pv 0) rfl) (pv 2) (fun _ _ => rfl)) (pv 3) (fun _ _ => rfl)))
      (pss_cons (ps_set (i := 6) sc_Engine_stored.nd rfl (Or.inl rfl) (C8.pe_c c_put hr (by decide) (by rfl) (pa_cons (pe_ix ix_tup (pe_ix ix_tup (pv 1) pe_int (fun _ _ => rfl)) (pv 2) (fun _ _ => rfl)) (pa_cons (pv 5) (pa_cons (pe_op op_mod (pv 4) (pe_ix ix_list (pe_ix ix_list (pe_fld (pv 0) rfl) (pv 2) (fun _ _ => rfl)) (pv 5) (fun _ _ => rfl))) pa_nil)))))
      (pss_one (ps_ret (pe_tup (pa_cons (C8.pe_c c_put hr (by decide) (by rfl) (pa_cons (pe_ix ix_tup (pv 1) pe_int (fun _ _ => rfl)) (pa_cons (pv 2) (pa_cons (pv 6) pa_nil)))) (pa_cons (pe_ix ix_tup (pv 1) pe_int (fun _ _ => rfl)) (pa_cons (pe_ix ix_tup (pv 1) pe_int (fun _ _ => rfl)) pa_nil))))))))), ?_⟩
    refine ⟨_, rfl, e, _, dx, _, _, rfl, h1, T.clEngine, T.nEngine_places, rfl, _, rfl, l1, _, 0, _, rfl, rfl, SqL.of h4, rfl, _, rfl, dp, _, rfl, DGet.k (k := Sum.inr "x") h5', ?_⟩
    refine ⟨_, rfl, a, _, 0, _, rfl, rfl, SqT.of q, rfl, _, rfl, a0, _, 0, _, rfl, rfl, SqT.of q0, rfl, _, rfl, _, rfl, _, rfl, e, _, dx, _, _, rfl, h1, T.clEngine, T.nEngine_sizes, rfl, _, rfl, l2, _, 0, _, rfl, rfl, SqL.of h6, rfl, _, rfl, ls, _, 0, _, rfl, rfl, SqL.of h7', rfl,
      _, _, rfl, rfl, (by show (0 : Int) < 2; decide), ?_⟩
    refine ⟨b0, _, 0, _, rfl, q2', dok rfl, dok rfl, fun p1 H1 s1 g1 => ?_⟩
    refine ⟨_, rfl, a, _, 0, _, rfl, rfl, SqT.of (s1 _ _ q), rfl, _, rfl, _, rfl, a0, _, 0, _, rfl, s1 _ _ q0, dok rfl, dok rfl, fun p2 H2 s2 g2 => ?_⟩
    refine ⟨_, rfl, a, _, 1, _, rfl, rfl, SqT.of (s2 _ _ (s1 _ _ q)), rfl, _, rfl, a, _, 2, _, rfl, rfl, SqT.of (s2 _ _ (s1 _ _ q)), rfl, (by show 3 ≤ sizeLine; decide), fun p n => ?_⟩
    have s3 := new_same (o := .tup [V.ref p2, .ref a1, .ref b2]) n
    have s4 : ∀ b o, H b = some o → _ := fun b o z => s3 _ _ (s2 _ _ (s1 _ _ z))
    refine k p _ s4 (eS_open.mpr ⟨p, p2, a1, p1, b1, b2, rfl, upd_same, s3 _ _ g2, s4 _ _ q1, s3 _ _ (s2 _ _ g1), s4 _ _ q3, s4 _ _ q4⟩)
theorem met_stored {f : Addr} {fd : FuncData} (F : FnP K "stored" "Engine.stored" s_Engine_stored f fd) (T : Txt K mg) (me : Meth K (aEngine K) "stored" f) (c_put : C8.Cal P w K mg base 1 "put" spPut []) : C8.Met P w K mg base 2 (aEngine K) "stored" (spStored K) [] :=
  ⟨f, fd, _, [], T.clEngine, me, ok_stored F T c_put, F.bindsN fun _ _ _ _ _ _ us hl => match us, hl with | [_, _, _, _, _], _ => rfl, .nil⟩
/-! ### paid -/
def spPaid (K : PySem.W.Frag) : Sp := fun vs H Q _ => ∃ (e : Addr) (c : Cf) (sv : V) (v : Int) (s : S) (b : Bool), vs = [.ref e, sv, .int (if b then 0 else -1), .int (if b then -1 else 0), .str "a", .int v] ∧ EnAt K H e c ∧ c.na = true ∧ NK H (eS c.nv c.na s) sv ∧
  (pay s b v = none → ∀ H', Same H H' → Q .non H') ∧ ∀ s', pay s b v = some s' → ∀ p H', Same H H' → NK H' (eS c.nv c.na s') (.ref p) → Q (.ref p) H'
theorem sc_Engine_paid : FnScope ["self", "state", "payer", "payee", "asset", "amount", "last", "row"] ["self", "state", "payer", "payee", "asset", "amount"] (defScope s_Engine_paid) := ⟨rfl, rfl, rfl, by decide +kernel, rfl, by decide +kernel, by decide +kernel⟩
theorem ok_paid {f : Addr} {fd : FuncData} (F : FnP K "paid" "Engine.paid" s_Engine_paid f fd) (T : Txt K mg) (c_moved : C8.Cal P w K mg base 2 "moved" spMoved []) : FnOk P w K mg base CX0 3 f fd ["self", "state", "payer", "payee", "asset", "amount"] (spPaid K) := by
  refine F.ok sc_Engine_paid (fun vs H Q E h => ?_) (fun cdv A outer s H vs Q E hr h => ?_)
  · obtain ⟨e, c, sv, v, s, b, rfl, _⟩ := h
    rfl
  · obtain ⟨e, c, sv, v, st0, b, rfl, he, en, hs, k0, k1⟩ := h
    have hu := hu_of hr
    obtain ⟨dx, hv, d1, d2, d3, l1, l2, l3, l4, d4, dp, ls, lv, pv', bv, h1, h2, h3, h4, h5, h6, h7, _⟩ := he.ex
    rw [en] at hs k1
    obtain ⟨a, a0, a1, b0, b1, b2, rfl, q, q0, q1, q2, q3, q4⟩ := eS_open.mp hs
    have h3' : H d1 = some (.dK [(.inr "a", .int 0)]) := by rw [h3, en]; rfl
    have q3' : H b1 = some (.tup [.int st0.h]) := q3
    have q4' : H b2 = some (.tup [.int st0.o]) := q4
    refine ⟨_, PSs.nox ((pss_cons (ps_set (i := 6) sc_Engine_paid.nd rfl (Or.inl rfl) (pe_callB call_len (by rfl) T.len bt_len (pa_cons (pe_ix ix_tup (pv 1) pe_int (fun _ _ => rfl)) pa_nil)))
      (pss_cons (ps_set (i := 2) sc_Engine_paid.nd rfl (Or.inl rfl) (pe_ifExp (pt_cmpR op_lt (pv 2) pe_int (nomark _)) (pv 6) (pv 2)))
      (pss_cons (ps_set (i := 3) sc_Engine_paid.nd rfl (Or.inl rfl) (pe_ifExp (pt_cmpR op_lt (pv 3) pe_int (nomark _)) (pv 6) (pv 3)))
      (pss_cons (ps_set (i := 7) sc_Engine_paid.nd rfl (Or.inl rfl) (C8.pe_c c_moved hr (by decide) (by rfl) (pa_cons (pe_op op_catA (pe_ix ix_tup (pv 1) pe_int (fun _ _ => rfl)) (pe_tup (pa_cons (pe_ix ix_tup (pv 1) pe_int (fun _ _ => rfl)) pa_nil))) (pa_cons (pe_dget hu (pe_fld (pv 0) rfl) (pv 4) (fun _ _ => rfl)) (pa_cons (pv 2) (pa_cons (pv 3) (pa_cons (pv 5) pa_nil)))))))
      (pss_cons (ps_if (pt_cmpR op_isN (pv 7) pe_non (nomark _)) (pss_one (ps_ret pe_non)) pss_nil)
      (pss_one (ps_ret (pe_tup (pa_cons (pe_ix ix_tup (pv 1) pe_int (fun _ _ => rfl)) (pa_cons (pe_slice sl_tupA (pv 7) po_none (po_some (pe_un un_neg pe_int))) (pa_cons (pe_ix ix_tup (pv 7) (pe_un un_neg pe_int) (fun _ _ => rfl)) pa_nil)))))))))))), ?_⟩
    -- the row, and what moved gives
    have fin : ∀ (σ : L2.St) (H1 : Hp), Same H H1 → σ[0]? = some (some (.ref e)) → σ[1]? = some (some (.ref a)) → True := fun _ _ _ _ _ => trivial
    have e0 : ∀ (z : Bool), decide ((if z = true then (0 : Int) else -1) < 0) = !z := by intro z; cases z <;> rfl
    have e1 : ∀ (z : Bool), decide ((if z = true then (-1 : Int) else 0) < 0) = z := by intro z; cases z <;> rfl
    refine ⟨_, rfl, a, _, 1, _, rfl, rfl, SqT.of q, rfl, .ref a1, 1, rfl, .inr ⟨_, SqT.of q1, rfl⟩, ?_⟩
    cases b
    · refine ⟨_, rfl, _, _, rfl, rfl, _, rfl, ifT rfl ⟨_, rfl, _, rfl, _, _, rfl, rfl, _, rfl, ifF rfl ⟨_, rfl, ?_⟩⟩⟩
      refine ⟨_, rfl, a, _, 1, _, rfl, rfl, SqT.of q, rfl, _, rfl, a, _, 2, _, rfl, rfl, SqT.of q, rfl, (by show 1 ≤ sizeLine; decide), fun p0 n0 => ?_⟩
      have s0 := new_same (o := .tup [V.ref b2]) n0
      refine catA_go (s0 _ _ q1) upd_same (dok rfl) fun p1 H1 s1 g1 => ?_
      have t1 : Same H H1 := s0.trans s1
      refine ⟨_, rfl, e, _, dx, _, _, rfl, t1 _ _ h1, T.clEngine, T.nEngine_assets, rfl, _, rfl, d1, _, rfl, DGet.k (k := Sum.inr "a") (t1 _ _ h3'), _, rfl, _, rfl, _, rfl, p1, b1, b2, st0.h, st0.o, v, false, rfl, g1, t1 _ _ q3', t1 _ _ q4', fun hn H2 s2 => ?_, fun h' o' hm p m0 m1 H2 s2 g2 g3 g4 => ?_⟩
      · exact ⟨_, rfl, rfl, _, rfl, ifT rfl (k0 (by show Option.map _ _ = none; rw [hn]; rfl) H2 (t1.trans s2))⟩
      · have t2 : Same H H2 := t1.trans s2
        refine ⟨_, rfl, rfl, _, rfl, ifF rfl ⟨_, rfl, a, _, 0, _, rfl, rfl, SqT.of (t2 _ _ q), rfl, _, rfl, 1, rfl, ?_⟩⟩
        refine ⟨-1, rfl, ?_⟩
        refine slA_go g2 fun p3 H3 s3 g5 => ?_
        refine ⟨_, rfl, 1, rfl, p, _, -1, _, rfl, rfl, SqT.of (s3 _ _ g2), rfl, (by show 3 ≤ sizeLine; decide), fun p4 n4 => ?_⟩
        have s4 := new_same (o := .tup [V.ref a0, .ref p3, .ref m1]) n4
        refine k1 ⟨st0.x, h', o'⟩ (by show Option.map _ _ = _; rw [hm]; rfl) p4 _ ((t2.trans s3).trans s4) (eS_open.mpr ⟨p4, a0, p3, b0, m0, m1, rfl, upd_same, ?_, s4 _ _ g5, ?_, ?_, ?_⟩)
        · exact s4 _ _ (s3 _ _ (t2 _ _ q0))
        · exact s4 _ _ (s3 _ _ (t2 _ _ q2))
        · exact s4 _ _ (s3 _ _ g3)
        · exact s4 _ _ (s3 _ _ g4)
    · refine ⟨_, rfl, _, _, rfl, rfl, _, rfl, ifF rfl ⟨_, rfl, _, rfl, _, _, rfl, rfl, _, rfl, ifT rfl ⟨_, rfl, ?_⟩⟩⟩
      refine ⟨_, rfl, a, _, 1, _, rfl, rfl, SqT.of q, rfl, _, rfl, a, _, 2, _, rfl, rfl, SqT.of q, rfl, (by show 1 ≤ sizeLine; decide), fun p0 n0 => ?_⟩
      have s0 := new_same (o := .tup [V.ref b2]) n0
      refine catA_go (s0 _ _ q1) upd_same (dok rfl) fun p1 H1 s1 g1 => ?_
      have t1 : Same H H1 := s0.trans s1
      refine ⟨_, rfl, e, _, dx, _, _, rfl, t1 _ _ h1, T.clEngine, T.nEngine_assets, rfl, _, rfl, d1, _, rfl, DGet.k (k := Sum.inr "a") (t1 _ _ h3'), _, rfl, _, rfl, _, rfl, p1, b1, b2, st0.h, st0.o, v, true, rfl, g1, t1 _ _ q3', t1 _ _ q4', fun hn H2 s2 => ?_, fun h' o' hm p m0 m1 H2 s2 g2 g3 g4 => ?_⟩
      · exact ⟨_, rfl, rfl, _, rfl, ifT rfl (k0 (by show Option.map _ _ = none; rw [hn]; rfl) H2 (t1.trans s2))⟩
      · have t2 : Same H H2 := t1.trans s2
        refine ⟨_, rfl, rfl, _, rfl, ifF rfl ⟨_, rfl, a, _, 0, _, rfl, rfl, SqT.of (t2 _ _ q), rfl, _, rfl, 1, rfl, ?_⟩⟩
        refine ⟨-1, rfl, ?_⟩
        refine slA_go g2 fun p3 H3 s3 g5 => ?_
        refine ⟨_, rfl, 1, rfl, p, _, -1, _, rfl, rfl, SqT.of (s3 _ _ g2), rfl, (by show 3 ≤ sizeLine; decide), fun p4 n4 => ?_⟩
        have s4 := new_same (o := .tup [V.ref a0, .ref p3, .ref m1]) n4
        refine k1 ⟨st0.x, h', o'⟩ (by show Option.map _ _ = _; rw [hm]; rfl) p4 _ ((t2.trans s3).trans s4) (eS_open.mpr ⟨p4, a0, p3, b0, m0, m1, rfl, upd_same, ?_, s4 _ _ g5, ?_, ?_, ?_⟩)
        · exact s4 _ _ (s3 _ _ (t2 _ _ q0))
        · exact s4 _ _ (s3 _ _ (t2 _ _ q2))
        · exact s4 _ _ (s3 _ _ g3)
        · exact s4 _ _ (s3 _ _ g4)
theorem met_paid {f : Addr} {fd : FuncData} (F : FnP K "paid" "Engine.paid" s_Engine_paid f fd) (T : Txt K mg) (me : Meth K (aEngine K) "paid" f) (c_moved : C8.Cal P w K mg base 2 "moved" spMoved []) : C8.Met P w K mg base 3 (aEngine K) "paid" (spPaid K) [] :=
  ⟨f, fd, _, [], T.clEngine, me, ok_paid F T c_moved, F.bindsN fun _ _ _ _ _ _ us hl => match us, hl with | [_, _, _, _, _, _], _ => rfl, .nil⟩
end
end NC
set_option Elab.async false
set_option linter.all false
set_option maxRecDepth 100000
set_option maxHeartbeats 4000000
/-! Walks of the engine: block, done. -/
namespace NC
open PySem PySem.Spec PyProof.Rows L2
def dV (pd : List (Nat × Int)) : List V := pd.flatMap fun p => [V.int p.1, V.int p.2]
theorem dV_len (pd : List (Nat × Int)) : (dV pd).length = 2 * pd.length := by
  induction pd with
  | nil => rfl
  | cons p r ih =>
    show (V.int p.1 :: V.int p.2 :: dV r).length = _
    rw [List.length_cons, List.length_cons, ih, List.length_cons]
    omega
theorem dV_append (a b : List (Nat × Int)) : dV (a ++ b) = dV a ++ dV b := List.flatMap_append
theorem eD_iff {H : Hp} {pd : List (Nat × Int)} {v : V} : NK H (eD pd) v ↔ ∃ a, v = .ref a ∧ H a = some (HO.tup (dV pd)) := by
  have op : ∀ {pd : List (Nat × Int)} {vs : List V}, NKs H (pd.flatMap fun p => [.num p.1, .num p.2]) vs ↔ vs = dV pd := by
    intro pd
    induction pd with
    | nil => intro vs; exact ⟨fun h => by cases h; rfl, fun h => by rw [h]; exact .nil⟩
    | cons p r ih =>
      intro vs
      rw [List.flatMap_cons]
      constructor
      · intro h
        cases h with
        | cons h1 h2 =>
          cases h2 with
          | cons h3 h4 =>
            cases h1
            cases h3
            rw [ih.mp h4]
            rfl
      · rintro rfl
        exact .cons (.num _) (.cons (.num _) (ih.mpr rfl))
  constructor
  · intro h
    cases h with
    | tup h1 h2 => exact ⟨_, rfl, by rw [← op.mp h2]; exact h1⟩
  · rintro ⟨a, rfl, h⟩
    exact .tup h (op.mpr rfl)
section
variable {P : Program} {w : World} {K : PySem.W.Frag} {mg : Str → Option Value} {base : Heap}
/-! ### block -/
def spBlock : Sp := fun vs H Q _ => ∃ (e a b : Addr) (ns : List Nat) (g : Int) (pd : List (Nat × Int)), vs = [.ref e, .ref a, .int g, .ref b] ∧ H a = some (.tup (nV ns)) ∧ H b = some (.tup (dV pd)) ∧ ns.length ≤ 1000 ∧ pd.length ≤ 1000 ∧
  ∀ p H', Same H H' → H' p = some (.tup (dV (withG ns g pd))) → Q (.ref p) H'
theorem sc_Engine_block : FnScope ["self", "numbers", "given", "pending", "front", "number"] ["self", "numbers", "given", "pending"] (defScope s_Engine_block) := ⟨rfl, rfl, rfl, by decide +kernel, rfl, by decide +kernel, by decide +kernel⟩
theorem ok_block {f : Addr} {fd : FuncData} (F : FnP K "block" "Engine.block" s_Engine_block f fd) (T : Txt K mg) : FnOk P w K mg base CX0 1 f fd ["self", "numbers", "given", "pending"] spBlock := by
  refine F.ok sc_Engine_block (fun vs H Q E h => ?_) (fun cdv A outer s H vs Q E hr h => ?_)
  · obtain ⟨e, a, b, ns, g, pd, rfl, _⟩ := h
    rfl
  · obtain ⟨e, a, b, ns, g, pd, rfl, ha, hb, hn, hp, k⟩ := h
    refine ⟨_, PSs.nox ((pss_cons (ps_set (i := 4) sc_Engine_block.nd rfl (Or.inl rfl) (pe_lst pa_nil))
      (pss_cons (ps_for PassesOwn.never rfl (pi_tup (pv 1)) (pg_name (i := 5) sc_Engine_block.nd rfl (Or.inl rfl)) (pss_one (ps_expr (pe_bm PySem.F.plainAttrs_list PySem.F.slot_list_extend PySem.F.type_list_extend mt_extend (pv 4) (pa_cons (pe_lst (pa_cons (pv 5) (pa_cons (pv 2) pa_nil))) pa_nil)))))
      (pss_one (ps_ret (pe_op op_catA (pe_callTy call_tuple_of (by rfl) T.tuple bt_tuple (pa_cons (pv 4) pa_nil)) (pv 3))))))), ?_⟩
    refine ⟨by show 0 ≤ sizeLine; decide, fun l nl => ?_⟩
    refine ⟨_, rfl, a, rfl, ⟨_, SqT.of (new_same nl _ _ ha)⟩, for_tup (K := K) (xs := nV ns) (fun i σ H1 => ∃ x, σ = [some (.ref e), some (.ref a), some (.int g), some (.ref b), some (.ref l), x] ∧ Same H H1 ∧ H1 l = some (.lst (dV ((ns.take i).map fun n => (n, g)))))
      ⟨none, rfl, new_same nl, upd_same⟩ (fun i σ H1 _ ⟨_, _, s1, _⟩ => SqT.of (s1 _ _ ha)) ?_ ?_⟩
    · rintro i x σ H1 hi ⟨y, rfl, s1, hl⟩
      obtain ⟨n, hn', rfl⟩ : ∃ n : Nat, ns[i]? = some n ∧ x = V.int n := by
        rw [nV, List.getElem?_map] at hi
        cases e : ns[i]? with
        | none => rw [e] at hi; cases hi
        | some n => rw [e] at hi; exact ⟨n, rfl, (Option.some.inj hi).symm⟩
      refine ⟨_, rfl, .inl ⟨rfl, _, SqL.of hl⟩, _, rfl, _, rfl, (by show 2 ≤ sizeLine; decide), fun q nq => ?_⟩
      have lq : l ≠ q := ne_of_none hl nq
      have hil : i < ns.length := (List.getElem?_eq_some_iff.mp hn').1
      refine ⟨l, q, _, _, rfl, rfl, new_same nq _ _ hl, upd_same, ?_, ?_⟩
      · have e1 := dV_len ((ns.take i).map fun n => (n, g))
        rw [List.length_map, List.length_take] at e1
        refine sz100 ?_
        show (dV ((ns.take i).map fun n => (n, g))).length + 2 ≤ 100000
        omega
      · refine ⟨_, rfl, ?_, ?_⟩
        · intro c o hc
          have nl' : c ≠ l := by
            rintro rfl
            rw [nl] at hc
            cases hc
          rw [upd_ne nl', upd_ne (ne_of_none (s1 _ _ hc) nq)]
          exact s1 _ _ hc
        · rw [upd_same, List.take_succ, hn', List.map_append, dV_append]
          rfl
    · rintro σ H1 ⟨y, rfl, s1, hl⟩
      have e1 : ns.take (nV ns).length = ns := by rw [nV, List.length_map, List.take_length]
      rw [e1] at hl
      refine ⟨_, rfl, l, _, rfl, .inl ⟨SqL.of hl, fun t nt => ?_⟩⟩
      refine ⟨_, rfl, ?_⟩
      have e2 := dV_len (ns.map fun n => (n, g))
      have e3 := dV_len pd
      rw [List.length_map] at e2
      refine catA_go upd_same (new_same nt _ _ (s1 _ _ hb)) (by omega) fun p H2 s2 h2 => ?_
      rw [← dV_append] at h2
      exact k p H2 ((s1.trans (new_same nt)).trans s2) h2
theorem met_block {f : Addr} {fd : FuncData} (F : FnP K "block" "Engine.block" s_Engine_block f fd) (T : Txt K mg) (me : Meth K (aEngine K) "block" f) : C8.Met P w K mg base 1 (aEngine K) "block" spBlock [] :=
  ⟨f, fd, _, [], T.clEngine, me, ok_block F T, F.bindsN fun _ _ _ _ _ _ us hl => match us, hl with | [_, _, _, _], _ => rfl, .nil⟩
/-! ### done -/
def spDone (K : PySem.W.Frag) : Sp := fun vs H Q _ => ∃ (e : Addr) (c : Cf) (p : Pl) (pv sv : V) (g : Int) (s : S), vs = [.ref e, pv, .int 0, .int g, sv] ∧ EnAt K H e c ∧ NK H (eP p) pv ∧ p.ok c.nv c.na = true ∧ NK H (eS c.nv c.na s) sv ∧ s.Ok c.nv c.na ∧ 0 ≤ g ∧ g ≤ 65535 ∧
  (doP s g p = none → ∀ H', Same H H' → Q .non H') ∧ ∀ s', doP s g p = some s' → ∀ q H', Same H H' → NK H' (eS c.nv c.na s') (.ref q) → Q (.ref q) H'
theorem sc_Engine_done : FnScope ["self", "statement", "contract", "given", "state", "kind", "value"] ["self", "statement", "contract", "given", "state"] (defScope s_Engine_done) := ⟨rfl, rfl, rfl, by decide +kernel, rfl, by decide +kernel, by decide +kernel⟩
theorem ok_done {f : Addr} {fd : FuncData} (F : FnP K "done" "Engine.done" s_Engine_done f fd) (T : Txt K mg) (m_Engine_value : C8.Met P w K mg base 4 (aEngine K) "value" (spVal K 3) []) (m_Engine_stored : C8.Met P w K mg base 2 (aEngine K) "stored" (spStored K) [])
    (m_Engine_paid : C8.Met P w K mg base 3 (aEngine K) "paid" (spPaid K) []) : FnOk P w K mg base CX0 5 f fd ["self", "statement", "contract", "given", "state"] (spDone K) := by
  refine F.ok sc_Engine_done (fun vs H Q E h => ?_) (fun cdv A outer s H vs Q E hr h => ?_)
  · obtain ⟨e, c, p, pv, sv, g, s, rfl, _⟩ := h
    rfl
  · obtain ⟨e, c, p, pv', sv, g, st0, rfl, he, hp, po, hs, so, g0, g1, k0, k1⟩ := h
    obtain ⟨dx, hv, d1, d2, d3, l1, l2, l3, l4, d4, dp, ls, lv, pv2, bv, h1, _⟩ := he.ex
    obtain ⟨a, a0, a1, b0, b1, b2, rfl, q, _⟩ := id (eS_open.mp hs)
    refine ⟨_, PSs.nox ((pss_cons (ps_set (i := 5) sc_Engine_done.nd rfl (Or.inl rfl) (pe_ix ix_tup (pv 1) pe_int (fun _ _ => rfl)))
      (pss_cons (ps_set (i := 6) sc_Engine_done.nd rfl (Or.inl rfl) (C8.pe_mt m_Engine_value hr (by decide) (pv 0) (pa_cons (pe_ix ix_tup (pv 1) (pe_un un_neg pe_int) (fun _ _ => rfl)) (pa_cons (pv 2) (pa_cons (pv 3) (pa_cons (pv 4) pa_nil))))))
      (pss_cons (ps_if (pt_cmpR op_eq (pv 5) pe_str (nomark _)) (pss_one (ps_ret (C8.pe_mt m_Engine_stored hr (by decide) (pv 0) (pa_cons (pv 4) (pa_cons (pv 2) (pa_cons (pe_ix ix_tup (pv 1) pe_int (fun _ _ => rfl)) (pa_cons (pv 6) pa_nil))))))) pss_nil)
      (pss_cons (ps_if (pt_cmpR op_eq (pv 5) pe_str (nomark _)) (pss_one (ps_ret (C8.pe_mt m_Engine_paid hr (by decide) (pv 0) (pa_cons (pv 4) (pa_cons (pv 2) (pa_cons (pe_un un_neg pe_int) (pa_cons (pe_ix ix_tup (pv 1) pe_int (fun _ _ => rfl)) (pa_cons (pv 6) pa_nil)))))))) pss_nil)
      (pss_cons (ps_if (pt_cmpR op_eq (pv 5) pe_str (nomark _)) (pss_one (ps_ret (C8.pe_mt m_Engine_paid hr (by decide) (pv 0) (pa_cons (pv 4) (pa_cons (pe_un un_neg pe_int) (pa_cons (pv 2) (pa_cons (pe_ix ix_tup (pv 1) pe_int (fun _ _ => rfl)) (pa_cons (pv 6) pa_nil)))))))) pss_nil)
      (pss_cons (ps_if (pt_cmpR op_eq (pv 5) pe_str (nomark _)) pss_never pss_nil)
      (pss_cons (ps_if (pt_cmpR op_eq (pv 6) pe_int (nomark _)) (pss_one (ps_ret pe_non)) pss_nil)
      (pss_one (ps_ret (pv 4))))))))))), ?_⟩
    cases p with
    | set x =>
      simp only [Pl.ok, Bool.and_eq_true] at po
      obtain ⟨xo, xd⟩ := xok_ok po.2
      cases hp with
      | @tup t _ _ t1 t2 =>
        cases t2 with
        | cons t3 t4 =>
          cases t3
          cases t4 with
          | cons t5 t6 =>
            cases t5
            cases t6 with
            | @cons _ xv _ _ t7 t8 =>
              cases t8
              refine ⟨_, rfl, t, _, 0, _, rfl, rfl, SqT.of t1, rfl, ?_⟩
              refine ⟨_, rfl, e, dx, _, rfl, h1, rfl, _, rfl, 1, rfl, t, _, -1, _, rfl, rfl, SqT.of t1, rfl, _, rfl, _, rfl, _, rfl, e, c, x, xv, _, g, st0, rfl, he, t7, xo, xd, hs, so, g0, g1, fun H1 s1 => ?_⟩
              refine ⟨_, rfl, rfl, _, rfl, ifT rfl ?_⟩
              refine ⟨_, rfl, e, dx, _, rfl, s1 _ _ h1, rfl, _, rfl, _, rfl, _, rfl, t, _, 1, _, rfl, rfl, SqT.of (s1 _ _ t1), rfl, _, rfl, e, c, _, _, st0, rfl, he.same s1, po.1, NK.tx (TX.same s1) _ _ hs, fun p H2 s2 n2 => ?_⟩
              exact k1 _ rfl p H2 (s1.trans s2) n2
    | need x =>
      obtain ⟨xo, xd⟩ := xok_ok (show xok c.nv c.na x = true from po)
      cases hp with
      | @tup t _ _ t1 t2 =>
        cases t2 with
        | cons t3 t4 =>
          cases t3
          cases t4 with
          | @cons _ xv _ _ t7 t8 =>
            cases t8
            refine ⟨_, rfl, t, _, 0, _, rfl, rfl, SqT.of t1, rfl, ?_⟩
            refine ⟨_, rfl, e, dx, _, rfl, h1, rfl, _, rfl, 1, rfl, t, _, -1, _, rfl, rfl, SqT.of t1, rfl, _, rfl, _, rfl, _, rfl, e, c, x, xv, _, g, st0, rfl, he, t7, xo, xd, hs, so, g0, g1, fun H1 s1 => ?_⟩
            refine ⟨_, rfl, rfl, _, rfl, ifF rfl ⟨_, rfl, rfl, _, rfl, ifF rfl ⟨_, rfl, rfl, _, rfl, ifF rfl ⟨_, rfl, rfl, _, rfl, ifF rfl ⟨_, rfl, rfl, _, rfl, ifb (fun hc => ?_) fun hc => ?_⟩⟩⟩⟩⟩
            · have ez : ev st0 g x = 0 := V.int.inj (of_decide_eq_true hc)
              exact k0 (if_pos ez) H1 s1
            · have ez : ¬ ev st0 g x = 0 := fun z => of_decide_eq_false hc (congrArg V.int z)
              exact ⟨_, rfl, k1 _ (if_neg ez) a H1 s1 (NK.tx (TX.same s1) _ _ hs)⟩
    | give x =>
      simp only [Pl.ok, Bool.and_eq_true] at po
      obtain ⟨xo, xd⟩ := xok_ok po.2
      cases hp with
      | @tup t _ _ t1 t2 =>
        cases t2 with
        | cons t3 t4 =>
          cases t3
          cases t4 with
          | cons t5 t6 =>
            cases t5
            cases t6 with
            | @cons _ xv _ _ t7 t8 =>
              cases t8
              refine ⟨_, rfl, t, _, 0, _, rfl, rfl, SqT.of t1, rfl, ?_⟩
              refine ⟨_, rfl, e, dx, _, rfl, h1, rfl, _, rfl, 1, rfl, t, _, -1, _, rfl, rfl, SqT.of t1, rfl, _, rfl, _, rfl, _, rfl, e, c, x, xv, _, g, st0, rfl, he, t7, xo, xd, hs, so, g0, g1, fun H1 s1 => ?_⟩
              refine ⟨_, rfl, rfl, _, rfl, ifF rfl ⟨_, rfl, rfl, _, rfl, ifT rfl ?_⟩⟩
              refine ⟨_, rfl, e, dx, _, rfl, s1 _ _ h1, rfl, _, rfl, _, rfl, 1, rfl, _, rfl, t, _, 1, _, rfl, rfl, SqT.of (s1 _ _ t1), rfl, _, rfl, e, c, _, _, st0, true, rfl, he.same s1, po.1, NK.tx (TX.same s1) _ _ hs, fun hn H2 s2 => k0 hn H2 (s1.trans s2), fun s' hs' p H2 s2 n2 => ?_⟩
              exact k1 _ hs' p H2 (s1.trans s2) n2
    | get x =>
      simp only [Pl.ok, Bool.and_eq_true] at po
      obtain ⟨xo, xd⟩ := xok_ok po.2
      cases hp with
      | @tup t _ _ t1 t2 =>
        cases t2 with
        | cons t3 t4 =>
          cases t3
          cases t4 with
          | cons t5 t6 =>
            cases t5
            cases t6 with
            | @cons _ xv _ _ t7 t8 =>
              cases t8
              refine ⟨_, rfl, t, _, 0, _, rfl, rfl, SqT.of t1, rfl, ?_⟩
              refine ⟨_, rfl, e, dx, _, rfl, h1, rfl, _, rfl, 1, rfl, t, _, -1, _, rfl, rfl, SqT.of t1, rfl, _, rfl, _, rfl, _, rfl, e, c, x, xv, _, g, st0, rfl, he, t7, xo, xd, hs, so, g0, g1, fun H1 s1 => ?_⟩
              refine ⟨_, rfl, rfl, _, rfl, ifF rfl ⟨_, rfl, rfl, _, rfl, ifF rfl ⟨_, rfl, rfl, _, rfl, ifT rfl ?_⟩⟩⟩
              refine ⟨_, rfl, e, dx, _, rfl, s1 _ _ h1, rfl, _, rfl, 1, rfl, _, rfl, _, rfl, t, _, 1, _, rfl, rfl, SqT.of (s1 _ _ t1), rfl, _, rfl, e, c, _, _, st0, false, rfl, he.same s1, po.1, NK.tx (TX.same s1) _ _ hs, fun hn H2 s2 => k0 hn H2 (s1.trans s2), fun s' hs' p H2 s2 n2 => ?_⟩
              exact k1 _ hs' p H2 (s1.trans s2) n2
theorem met_done {f : Addr} {fd : FuncData} (F : FnP K "done" "Engine.done" s_Engine_done f fd) (T : Txt K mg) (me : Meth K (aEngine K) "done" f) (m_Engine_value : C8.Met P w K mg base 4 (aEngine K) "value" (spVal K 3) []) (m_Engine_stored : C8.Met P w K mg base 2 (aEngine K) "stored" (spStored K) [])
    (m_Engine_paid : C8.Met P w K mg base 3 (aEngine K) "paid" (spPaid K) []) : C8.Met P w K mg base 5 (aEngine K) "done" (spDone K) [] :=
  ⟨f, fd, _, [], T.clEngine, me, ok_done F T m_Engine_value m_Engine_stored m_Engine_paid, F.bindsN fun _ _ _ _ _ _ us hl => match us, hl with | [_, _, _, _, _], _ => rfl, .nil⟩
end
end NC
set_option Elab.async false
set_option linter.all false
set_option maxRecDepth 100000
set_option maxHeartbeats 4000000
/-! Walks of the engine: go, answered, begun. -/
namespace NC
open PySem PySem.Spec PyProof.Rows L2
/-- the numbered statements are well formed -/
structure LnOk (nv na : Bool) (L : List Sm) : Prop where
  ok : ∀ (n : Nat) (t : Sm), L[n]? = some t → t.ok nv na = true
  fst : ∀ (n : Nat) (e : Xp) (a : Pl) (b : Option Pl), L[n]? = some (.ite e a b) → L[n + 1]? = some (.pl a)
  snd : ∀ (n : Nat) (e : Xp) (a p : Pl), L[n]? = some (.ite e a (some p)) → L[n + 2]? = some (.pl p)
def PdOk (L : List Sm) (pd : List (Nat × Int)) : Prop := ∀ p ∈ pd, p.1 < L.length ∧ 0 ≤ p.2 ∧ p.2 ≤ 65535
theorem PdOk.tail {L : List Sm} {p : Nat × Int} {r : List (Nat × Int)} (h : PdOk L (p :: r)) : PdOk L r := fun q hq => h q (List.mem_cons_of_mem _ hq)
theorem doP_ok {nv na : Bool} {s s' : S} {g : Int} {p : Pl} (so : s.Ok nv na) (g0 : 0 ≤ g) (g1 : g ≤ 65535) (po : p.ok nv na = true) (h : doP s g p = some s') : s'.Ok nv na := by
  obtain ⟨x0, x1, h0, o0, top, nvv, naa⟩ := so
  have so : s.Ok nv na := ⟨x0, x1, h0, o0, top, nvv, naa⟩
  cases p with
  | set e =>
    simp only [Pl.ok, Bool.and_eq_true] at po
    have h' : st s (ev s g e) = s' := Option.some.inj h
    subst h'
    refine ⟨Int.emod_nonneg _ (by decide), ?_, h0, o0, top, ?_, naa⟩
    · have := Int.emod_lt_of_pos (ev s g e) (by decide : (0 : Int) < 2)
      show ev s g e % 2 ≤ 1
      omega
    · intro z
      rw [po.1] at z
      cases z
  | need e =>
    have h' : (if ev s g e = 0 then none else some s) = some s' := h
    split at h'
    · cases h'
    · cases h'
      exact so
  | give e =>
    simp only [Pl.ok, Bool.and_eq_true] at po
    obtain ⟨v0, _⟩ := ev_rng so g0 g1 e (xok_ok po.2).1
    have h' : pay s true (ev s g e) = some s' := h
    unfold pay mv at h'
    rw [if_pos rfl] at h'
    split at h'
    · cases h'
    · have h2 := Option.some.inj h'
      subst h2
      refine ⟨x0, x1, ?_, ?_, ?_, nvv, ?_⟩
      · show 0 ≤ s.h - ev s g e; omega
      · show 0 ≤ s.o + ev s g e; omega
      · show s.h - ev s g e + (s.o + ev s g e) ≤ 4; omega
      · intro z; rw [po.1] at z; cases z
  | get e =>
    simp only [Pl.ok, Bool.and_eq_true] at po
    obtain ⟨v0, _⟩ := ev_rng so g0 g1 e (xok_ok po.2).1
    have h' : pay s false (ev s g e) = some s' := h
    unfold pay mv at h'
    rw [if_neg Bool.false_ne_true] at h'
    split at h'
    · cases h'
    · have h2 := Option.some.inj h'
      subst h2
      refine ⟨x0, x1, ?_, ?_, ?_, nvv, ?_⟩
      · show 0 ≤ s.h + ev s g e; omega
      · show 0 ≤ s.o - ev s g e; omega
      · show s.h + ev s g e + (s.o - ev s g e) ≤ 4; omega
      · intro z; rw [po.1] at z; cases z
/-- what is left to run -/
def wt (L : List Sm) : List (Nat × Int) → Nat
  | [] => 0
  | p :: r => (match L[p.1]? with | some (.ite _ _ _) => 2 | _ => 1) + wt L r
/-- a plain statement's kind -/
theorem eP_kind {H : Hp} {p : Pl} {v : V} (h : NK H (eP p) v) : ∃ a kd rest, v = .ref a ∧ H a = some (HO.tup (V.str kd :: rest)) ∧ decide (V.str kd = V.str "ask") = false ∧ decide (V.str kd = V.str "if") = false ∧ decide (V.str kd = V.str "call") = false := by
  cases p with
  | set x =>
    cases h with
    | tup t1 t2 =>
      cases t2 with
      | cons t3 t4 => cases t3; exact ⟨_, _, _, rfl, t1, rfl, rfl, rfl⟩
  | need x =>
    cases h with
    | tup t1 t2 =>
      cases t2 with
      | cons t3 t4 => cases t3; exact ⟨_, _, _, rfl, t1, rfl, rfl, rfl⟩
  | give x =>
    cases h with
    | tup t1 t2 =>
      cases t2 with
      | cons t3 t4 => cases t3; exact ⟨_, _, _, rfl, t1, rfl, rfl, rfl⟩
  | get x =>
    cases h with
    | tup t1 t2 =>
      cases t2 with
      | cons t3 t4 => cases t3; exact ⟨_, _, _, rfl, t1, rfl, rfl, rfl⟩
section
variable {P : Program} {w : World} {K : PySem.W.Frag} {mg : Str → Option Value} {base : Heap}
def spGo (K : PySem.W.Frag) : Sp := fun vs H Q _ => ∃ (e b : Addr) (c : Cf) (sv : V) (s : S) (pd : List (Nat × Int)), vs = [.ref e, sv, .ref b] ∧ EnAt K H e c ∧ LnOk c.nv c.na c.L ∧ NK H (eS c.nv c.na s) sv ∧ s.Ok c.nv c.na ∧ H b = some (.tup (dV pd)) ∧ PdOk c.L pd ∧ pd.length ≤ 900 ∧
  ∀ p H', Same H H' → PsAt K c.nv c.na H' p (go c.L s pd) → Q (.ref p) H'
theorem sc_Engine_go : FnScope ["self", "state", "pending", "number", "given", "contract", "statement", "kind", "test", "proc", "word"] ["self", "state", "pending"] (defScope s_Engine_go) := ⟨rfl, rfl, rfl, by decide +kernel, rfl, by decide +kernel, by decide +kernel⟩
theorem ok_go {f : Addr} {fd : FuncData} (F : FnP K "go" "Engine.go" s_Engine_go f fd) (T : Txt K mg) (m_Engine_value : C8.Met P w K mg base 4 (aEngine K) "value" (spVal K 3) []) (m_Engine_block : C8.Met P w K mg base 1 (aEngine K) "block" spBlock [])
    (m_Engine_done : C8.Met P w K mg base 5 (aEngine K) "done" (spDone K) []) (k_Pause : C8.Mak P w K mg base 1 "Pause" (aPause K) (spPause K) []) : FnOk P w K mg base CX0 6 f fd ["self", "state", "pending"] (spGo K) := by
  refine F.ok sc_Engine_go (fun vs H Q E h => ?_) (fun cdv A outer s H vs Q E hr h => ?_)
  · obtain ⟨e, b, c, sv, s, pd, rfl, _⟩ := h
    rfl
  · obtain ⟨e, b, c, sv, s0, pd0, rfl, he, lo, hs, so, hb, po, pl, k⟩ := h
    refine ⟨_, PSs.nox ((pss_cons (ps_while PassesOwn.never (pt_truth (pv 2) (by intro _; rfl)) (pss_cons (ps_set (i := 3) sc_Engine_go.nd rfl (Or.inl rfl) (pe_ix ix_tup (pv 2) pe_int (fun _ _ => rfl)))
      (pss_cons (ps_set (i := 4) sc_Engine_go.nd rfl (Or.inl rfl) (pe_ix ix_tup (pv 2) pe_int (fun _ _ => rfl)))
      (pss_cons (ps_asg (pe_ix ix_list (pe_fld (pv 0) rfl) (pv 3) (fun _ _ => rfl)) (pg_tup rfl (pgs_cons (pg_name (i := 5) sc_Engine_go.nd rfl (Or.inl rfl)) (pgs_cons (pg_name (i := 6) sc_Engine_go.nd rfl (Or.inl rfl)) pgs_nil))))
      (pss_cons (ps_set (i := 7) sc_Engine_go.nd rfl (Or.inl rfl) (pe_ix ix_tup (pv 6) pe_int (fun _ _ => rfl)))
      (pss_cons (ps_if (pt_cmpR op_eq (pv 7) pe_str (nomark _)) (pss_one (ps_ret (C8.pe_mk k_Pause hr (by decide) (by rfl) (pa_cons pe_str (pa_cons (pv 1) (pa_cons (pv 2) (pa_cons (pe_ix ix_tup (pv 6) pe_int (fun _ _ => rfl)) pa_nil))))))) pss_nil)
      (pss_cons (ps_set (i := 2) sc_Engine_go.nd rfl (Or.inl rfl) (pe_slice sl_tupA (pv 2) (po_some pe_int) po_none))
      (pss_one (ps_if (pt_cmpR op_eq (pv 7) pe_str (nomark _)) (pss_cons (ps_set (i := 8) sc_Engine_go.nd rfl (Or.inl rfl) (C8.pe_mt m_Engine_value hr (by decide) (pv 0) (pa_cons (pe_ix ix_tup (pv 6) pe_int (fun _ _ => rfl)) (pa_cons (pv 5) (pa_cons (pv 4) (pa_cons (pv 1) pa_nil))))))
      (pss_one (ps_set (i := 2) sc_Engine_go.nd rfl (Or.inl rfl) (C8.pe_mt m_Engine_block hr (by decide) (pv 0) (pa_cons (pe_ix ix_tup (pe_ix ix_list (pe_fld (pv 0) rfl) (pv 3) (fun _ _ => rfl)) (pe_callTy call_int1 (by rfl) T.int bt_int (pa_cons (pe_cmpR op_eq (pv 8) pe_int (nomark _)) pa_nil)) (fun _ _ => rfl)) (pa_cons (pv 4) (pa_cons (pv 2) pa_nil))))))) (pss_one (ps_if (pt_cmpR op_eq (pv 7) pe_str (nomark _)) pss_never (pss_cons (ps_set (i := 1) sc_Engine_go.nd rfl (Or.inl rfl) (C8.pe_mt m_Engine_done hr (by decide) (pv 0) (pa_cons (pv 6) (pa_cons (pv 5) (pa_cons (pv 4) (pa_cons (pv 1) pa_nil))))))
      (pss_one (ps_if (pt_cmpR op_isN (pv 1) pe_non (nomark _)) (pss_one (ps_ret (C8.pe_mk k_Pause hr (by decide) (by rfl) (pa_cons pe_str (pa_cons pe_non (pa_cons (pe_tup pa_nil) (pa_cons pe_int pa_nil))))))) pss_nil))))))))))))))
      (pss_one (ps_ret (C8.pe_mk k_Pause hr (by decide) (by rfl) (pa_cons pe_str (pa_cons (pv 1) (pa_cons (pe_tup pa_nil) (pa_cons pe_int pa_nil))))))))), ?_⟩
    refine ⟨fun m σ H1 => ∃ s pd b sv x3 x4 x5 x6 x7 x8 x9 x10, σ = [some (.ref e), some sv, some (.ref b), x3, x4, x5, x6, x7, x8, x9, x10] ∧ Same H H1 ∧ NK H1 (eS c.nv c.na s) sv ∧ s.Ok c.nv c.na ∧ H1 b = some (.tup (dV pd)) ∧ PdOk c.L pd ∧ pd.length ≤ 900 ∧
      go c.L s pd = go c.L s0 pd0 ∧ m = wt c.L pd, ⟨_, s0, pd0, b, sv, _, _, _, _, _, _, _, _, rfl, Same.refl H, hs, so, hb, po, pl, rfl, rfl⟩, ?_⟩
    rintro m σ H1 ⟨s, pd, b, sv, x3, x4, x5, x6, x7, x8, x9, x10, rfl, s1, hs, so, hb, po, pl, eg, rfl⟩
    have he1 := he.same s1
    obtain ⟨dx, hv, d1, d2, d3, l1, l2, l3, l4, d4, dp, ls, lv, pv2, bv, h1, _, _, _, _, _, _, h8, h9, h10, h11, _⟩ := he1.ex
    cases pd with
    | nil =>
      -- the end
      refine ⟨_, rfl, false, .inr (.inl ⟨_, SqT.of hb, rfl⟩), iteF ?_⟩
      refine ⟨_, rfl, (by show 0 ≤ sizeLine; decide), fun p np x dx nx ndx nex => ?_⟩
      refine ⟨x, dx, _, _, _, _, rfl, upd_same, fun H2 s2 g2 => ⟨rfl, ?_⟩⟩
      have s3 : Same H1 H2 := (new_same np).trans (same_made nx ndx s2)
      refine k x H2 (s1.trans s3) ?_
      rw [← eg]
      exact ⟨dx, sv, _, g2, NK.tx (TX.same s3) _ _ hs⟩
    | cons p r =>
      obtain ⟨n, g⟩ := p
      obtain ⟨hn, g0, g1⟩ := po (n, g) List.mem_cons_self
      have hb' : H1 b = some (.tup (V.int n :: V.int g :: dV r)) := hb
      obtain ⟨t, ht⟩ : ∃ t, c.L[n]? = some t := ⟨c.L[n], List.getElem?_eq_getElem hn⟩
      obtain ⟨la, lb, e1, e2, e3⟩ := h9 n t ht
      have to := lo.ok n t ht
      refine ⟨_, rfl, true, .inr (.inl ⟨_, SqT.of hb', rfl⟩), iteT ?_⟩
      refine ⟨fun σ' H2 => ∃ s pd b sv x3 x4 x5 x6 x7 x8 x9 x10, σ' = [some (.ref e), some sv, some (.ref b), x3, x4, x5, x6, x7, x8, x9, x10] ∧ Same H H2 ∧ NK H2 (eS c.nv c.na s) sv ∧ s.Ok c.nv c.na ∧ H2 b = some (.tup (dV pd)) ∧ PdOk c.L pd ∧ pd.length ≤ 900 ∧
        go c.L s pd = go c.L s0 pd0 ∧ wt c.L pd < wt c.L ((n, g) :: r), ?_, ?_⟩
      · rintro σ' H2 ⟨s, pd, b, sv, x3, x4, x5, x6, x7, x8, x9, x10, q1, q2, q3, q4, q5, q6, q7, q8, q9⟩
        exact ⟨_, q9, s, pd, b, sv, x3, x4, x5, x6, x7, x8, x9, x10, q1, q2, q3, q4, q5, q6, q7, q8, rfl⟩
      refine ⟨_, rfl, b, _, 0, _, rfl, rfl, SqT.of hb', at_of (j := 0) rfl rfl, ?_⟩
      refine ⟨_, rfl, b, _, 1, _, rfl, rfl, SqT.of hb', at_of (j := 1) rfl rfl, ?_⟩
      refine ⟨_, rfl, e, _, dx, _, _, rfl, h1, T.clEngine, T.nEngine_lines, rfl, _, rfl, l3, _, n, _, rfl, rfl, SqL.of h8, at_of (j := n) rfl e1, la, _, rfl, SqT.of e2, rfl, _, _, rfl, _, _, rfl, rfl, ?_⟩
      cases t with
      | ask j =>
        cases e3 with
        | @tup ta _ _ t1 t2 =>
          cases t2 with
          | cons t3 t4 =>
            cases t3
            cases t4 with
            | cons t5 t6 =>
              cases t5
              cases t6 with
              | cons t7 t8 =>
                cases t7
                cases t8
                refine ⟨_, rfl, ta, _, 0, _, rfl, rfl, SqT.of t1, rfl, _, rfl, rfl, _, rfl, ifT rfl ?_⟩
                refine ⟨_, rfl, _, rfl, _, rfl, ta, _, 2, _, rfl, rfl, SqT.of t1, rfl, fun x dx nx ndx nex => ?_⟩
                refine ⟨x, dx, _, _, _, _, rfl, upd_same, fun H2 s2 g2 => ⟨rfl, ?_⟩⟩
                have s3 : Same H1 H2 := same_made nx ndx s2
                refine k x H2 (s1.trans s3) ?_
                rw [← eg]
                have e4 : go c.L s ((n, g) :: r) = .asks s ((n, g) :: r) j := by
                  rw [go, ht]
                rw [e4]
                exact ⟨dx, sv, .ref b, g2, NK.tx (TX.same s3) _ _ hs, eD_iff.mpr ⟨b, rfl, s3 _ _ hb⟩⟩
      | pl p =>
        obtain ⟨ta, kd, rest, rfl, t1, k1, k2, k3⟩ := eP_kind e3
        refine ⟨_, rfl, ta, _, 0, _, rfl, rfl, SqT.of t1, at_of (j := 0) rfl rfl, _, rfl, rfl, _, rfl, ifF k1 ?_⟩
        refine ⟨_, rfl, 2, rfl, ?_⟩
        dsimp only [tNoPart]
        refine slA_go hb' fun b2 H2 s2 g2 => ?_
        have e5 : cutV (V.int (n : Int) :: V.int g :: dV r) (some 2) none = dV r := cut_hi (i := 2) _ (by show 2 ≤ (dV r).length + 2; omega)
        rw [e5] at g2
        refine ⟨_, rfl, rfl, _, rfl, ifF k2 ⟨_, rfl, rfl, _, rfl, ifF k3 ?_⟩⟩
        have he2 := he1.same s2
        refine ⟨_, rfl, e, dx, _, rfl, s2 _ _ h1, rfl, _, rfl, _, rfl, _, rfl, _, rfl, e, c, p, _, sv, g, s, rfl, he2, NK.tx (TX.same s2) _ _ e3, to, NK.tx (TX.same s2) _ _ hs, so, g0, g1, fun hn H3 s3 => ?_, fun s' hs' q H3 s3 n3 => ?_⟩
        · refine ⟨_, rfl, rfl, _, rfl, ifT rfl ?_⟩
          refine ⟨(by show 0 ≤ sizeLine; decide), fun p4 np x dx nx ndx nex => ?_⟩
          refine ⟨x, dx, _, _, _, _, rfl, upd_same, fun H4 s4 g4 => ⟨rfl, ?_⟩⟩
          have s5 : Same H3 H4 := (new_same np).trans (same_made nx ndx s4)
          refine k x H4 (((s1.trans s2).trans s3).trans s5) ?_
          rw [← eg]
          have e4 : go c.L s ((n, g) :: r) = .fail := by rw [go, ht]; simp only [hn]
          rw [e4]
          exact ⟨dx, _, g4⟩
        · refine ⟨_, rfl, rfl, _, rfl, ifF rfl ?_⟩
          have e4 : go c.L s ((n, g) :: r) = go c.L s' r := by rw [go, ht]; simp only [hs']
          refine ⟨s', r, b2, .ref q, _, _, _, _, _, _, _, _, rfl, (s1.trans s2).trans s3, n3, doP_ok so g0 g1 to hs', s3 _ _ g2, po.tail, by simp only [List.length_cons] at pl; omega, by rw [← eg, e4], ?_⟩
          show wt c.L r < (match c.L[n]? with | some (.ite _ _ _) => 2 | _ => 1) + wt c.L r
          rw [ht]
          show wt c.L r < 1 + wt c.L r
          omega
      | ite x y z =>
        simp only [Sm.ok, Bool.and_eq_true] at to
        obtain ⟨xo, xd⟩ := xok_ok to.1
        cases e3 with
        | @tup ta _ _ t1 t2 =>
          cases t2 with
          | cons t3 t4 =>
            cases t3
            cases t4 with
            | @cons _ xv _ _ t5 t6 =>
              refine ⟨_, rfl, ta, _, 0, _, rfl, rfl, SqT.of t1, at_of (j := 0) rfl rfl, _, rfl, rfl, _, rfl, ifF rfl ?_⟩
              refine ⟨_, rfl, 2, rfl, ?_⟩
              dsimp only [tNoPart]
              refine slA_go hb' fun b2 H2 s2 g2 => ?_
              have e5 : cutV (V.int (n : Int) :: V.int g :: dV r) (some 2) none = dV r := cut_hi (i := 2) _ (by show 2 ≤ (dV r).length + 2; omega)
              rw [e5] at g2
              refine ⟨_, rfl, rfl, _, rfl, ifT rfl ?_⟩
              have he2 := he1.same s2
              refine ⟨_, rfl, e, dx, _, rfl, s2 _ _ h1, rfl, _, rfl, ta, _, 1, _, rfl, rfl, SqT.of (s2 _ _ t1), at_of (j := 1) rfl rfl, _, rfl, _, rfl, _, rfl, e, c, x, xv, sv, g, s, rfl, he2, NK.tx (TX.same s2) _ _ t5, xo, xd, NK.tx (TX.same s2) _ _ hs, so, g0, g1, fun H3 s3 => ?_⟩
              have s13 : Same H1 H3 := s2.trans s3
              obtain ⟨pa, pt1, pt2, f1, f2, f3, f4⟩ := h11 n _ ht
              refine ⟨_, rfl, e, dx, _, rfl, s13 _ _ h1, rfl, ?_⟩
              -- the part that runs
              have fin : ∀ (ns : List Nat) (pt : Addr), H3 pt = some (.tup (nV ns)) → ns.length ≤ 1 → go c.L s (withG ns g r) = go c.L s ((n, g) :: r) → PdOk c.L (withG ns g r) → wt c.L (withG ns g r) < wt c.L ((n, g) :: r) →
                  ∀ D : Hp → V → Prop, (∀ p4 H4, Same H3 H4 → H4 p4 = some (.tup (dV (withG ns g r))) → D H4 (.ref p4)) → spBlock [.ref e, .ref pt, .int g, .ref b2] H3 (fun v H4 => D H4 v) E0 := by
                intro ns pt f5 hl _ _ _ D hD
                refine ⟨e, pt, b2, ns, g, r, rfl, f5, s3 _ _ g2, by omega, by simp only [List.length_cons] at pl; omega, fun p4 H4 s4 g4 => hD p4 H4 s4 g4⟩
              have wlt : ∀ ns : List Nat, (ns = [] ∨ ∃ m p, ns = [m] ∧ c.L[m]? = some (.pl p)) → wt c.L (withG ns g r) < wt c.L ((n, g) :: r) := by
                intro ns hns
                have e6 : wt c.L ((n, g) :: r) = 2 + wt c.L r := by
                  show (match c.L[n]? with | some (.ite _ _ _) => 2 | _ => 1) + wt c.L r = _
                  rw [ht]
                rw [e6]
                rcases hns with rfl | ⟨m, p, rfl, hm⟩
                · show wt c.L r < _
                  omega
                · show (match c.L[m]? with | some (.ite _ _ _) => 2 | _ => 1) + wt c.L r < _
                  rw [hm]
                  show 1 + wt c.L r < _
                  omega
              have pok : ∀ ns : List Nat, (ns = [] ∨ ∃ m p, ns = [m] ∧ c.L[m]? = some (.pl p)) → PdOk c.L (withG ns g r) := by
                intro ns hns
                rcases hns with rfl | ⟨m, p, rfl, hm⟩
                · exact po.tail
                · intro q hq
                  rcases List.mem_cons.mp hq with rfl | hq
                  · exact ⟨(List.getElem?_eq_some_iff.mp hm).1, g0, g1⟩
                  · exact po.tail q hq
              have fin2 : ∀ (ns : List Nat) (p4 : Addr) (H4 : Hp), (ns = [] ∨ ∃ m p, ns = [m] ∧ c.L[m]? = some (.pl p)) → go c.L s (withG ns g r) = go c.L s ((n, g) :: r) → Same H3 H4 → H4 p4 = some (.tup (dV (withG ns g r))) →
                  Same H H4 ∧ NK H4 (eS c.nv c.na s) sv ∧ S.Ok c.nv c.na s ∧ H4 p4 = some (.tup (dV (withG ns g r))) ∧ PdOk c.L (withG ns g r) ∧ (withG ns g r).length ≤ 900 ∧ go c.L s (withG ns g r) = go c.L s0 pd0 ∧ wt c.L (withG ns g r) < wt c.L ((n, g) :: r) := by
                intro ns p4 H4 hns hg s4 g4
                refine ⟨((s1.trans s2).trans s3).trans s4, NK.tx (TX.same ((s2.trans s3).trans s4)) _ _ hs, so, g4, pok ns hns, ?_, hg.trans eg, wlt ns hns⟩
                simp only [withG, List.length_append, List.length_map, List.length_cons] at pl ⊢
                have : ns.length ≤ 1 := by rcases hns with rfl | ⟨_, _, rfl, _⟩ <;> simp
                omega
              by_cases hz : ev s g x = 0
              · refine ⟨_, rfl, e, aEngine K, dx, _, _, rfl, s13 _ _ h1, T.clEngine, T.nEngine_parts, rfl, _, rfl, _, _, n, _, rfl, rfl, SqL.of (s13 _ _ h10), at_of (j := n) rfl f1, ?_⟩
                refine ⟨_, rfl, rfl, .inr ⟨true, by rw [hz]; rfl, pa, _, 1, _, rfl, rfl, SqT.of (s13 _ _ f2), at_of (j := 1) rfl rfl, ?_⟩⟩
                have f4' := s13 _ _ f4
                have hns : (prt (.ite x y z) n).2 = [] ∨ ∃ m p, (prt (.ite x y z) n).2 = [m] ∧ c.L[m]? = some (.pl p) := by
                  cases z with
                  | none => exact .inl rfl
                  | some q => exact .inr ⟨n + 2, q, rfl, lo.snd n x y q ht⟩
                have hg : go c.L s (withG (prt (.ite x y z) n).2 g r) = go c.L s ((n, g) :: r) := by
                  cases z with
                  | none => 
                    rw [go, ht]
                    simp only [hz, if_true]
                    rfl
                  | some q =>
                    show go c.L s ((n + 2, g) :: r) = _
                    rw [go, lo.snd n x y q ht, go, ht]
                    simp only [hz, if_true]
                refine ⟨_, rfl, _, rfl, e, pt2, b2, _, g, r, rfl, f4', s3 _ _ g2, by rcases hns with e9 | ⟨_, _, e9, _⟩ <;> rw [e9] <;> simp, by simp only [List.length_cons] at pl; omega, fun p4 H4 s4 g4 => ?_⟩
                exact ⟨s, _, p4, sv, _, _, _, _, _, _, _, _, rfl, fin2 _ p4 H4 hns hg s4 g4⟩
              · refine ⟨_, rfl, e, aEngine K, dx, _, _, rfl, s13 _ _ h1, T.clEngine, T.nEngine_parts, rfl, _, rfl, _, _, n, _, rfl, rfl, SqL.of (s13 _ _ h10), at_of (j := n) rfl f1, ?_⟩
                refine ⟨_, rfl, rfl, .inr ⟨false, by simp [hz], pa, _, 0, _, rfl, rfl, SqT.of (s13 _ _ f2), at_of (j := 0) rfl rfl, ?_⟩⟩
                have f3' := s13 _ _ f3
                have hns : (prt (.ite x y z) n).1 = [] ∨ ∃ m p, (prt (.ite x y z) n).1 = [m] ∧ c.L[m]? = some (.pl p) := by
                  cases z with
                  | none => exact .inr ⟨n + 1, y, rfl, lo.fst n x y _ ht⟩
                  | some q => exact .inr ⟨n + 1, y, rfl, lo.fst n x y _ ht⟩
                have hg : go c.L s (withG (prt (.ite x y z) n).1 g r) = go c.L s ((n, g) :: r) := by
                  cases z with
                  | none => 
                    show go c.L s ((n + 1, g) :: r) = _
                    rw [go, lo.fst n x y _ ht, go, ht]
                    simp only [hz, if_false]
                  | some q =>
                    show go c.L s ((n + 1, g) :: r) = _
                    rw [go, lo.fst n x y _ ht, go, ht]
                    simp only [hz, if_false]
                refine ⟨_, rfl, _, rfl, e, pt1, b2, _, g, r, rfl, f3', s3 _ _ g2, by rcases hns with e9 | ⟨_, _, e9, _⟩ <;> rw [e9] <;> simp, by simp only [List.length_cons] at pl; omega, fun p4 H4 s4 g4 => ?_⟩
                exact ⟨s, _, p4, sv, _, _, _, _, _, _, _, _, rfl, fin2 _ p4 H4 hns hg s4 g4⟩
theorem met_go {f : Addr} {fd : FuncData} (F : FnP K "go" "Engine.go" s_Engine_go f fd) (T : Txt K mg) (me : Meth K (aEngine K) "go" f) (m_Engine_value : C8.Met P w K mg base 4 (aEngine K) "value" (spVal K 3) []) (m_Engine_block : C8.Met P w K mg base 1 (aEngine K) "block" spBlock [])
    (m_Engine_done : C8.Met P w K mg base 5 (aEngine K) "done" (spDone K) []) (k_Pause : C8.Mak P w K mg base 1 "Pause" (aPause K) (spPause K) []) : C8.Met P w K mg base 6 (aEngine K) "go" (spGo K) [] :=
  ⟨f, fd, _, [], T.clEngine, me, ok_go F T m_Engine_value m_Engine_block m_Engine_done k_Pause, F.bindsN fun _ _ _ _ _ _ us hl => match us, hl with | [_, _, _], _ => rfl, .nil⟩
/-! ### answered, begun -/
def spAnswered (K : PySem.W.Frag) : Sp := fun vs H Q _ => ∃ (e q : Addr) (c : Cf) (sv : V) (s s1 : S) (n : Nat) (g k a : Int) (r : List (Nat × Int)), vs = [.ref e, .ref q, sv, .int a] ∧ EnAt K H e c ∧ LnOk c.nv c.na c.L ∧ NK H (eS c.nv c.na s) sv ∧ s.Ok c.nv c.na ∧
  PsAt K c.nv c.na H q (.asks s1 ((n, g) :: r) k) ∧ c.nv = true ∧ c.L[n]? = some (.ask k) ∧ PdOk c.L r ∧ r.length ≤ 800 ∧
  ∀ p H', Same H H' → PsAt K c.nv c.na H' p (answ c.L ((n, g) :: r) s a) → Q (.ref p) H'
theorem sc_Engine_answered : FnScope ["self", "pause", "state", "answer", "contract", "statement"] ["self", "pause", "state", "answer"] (defScope s_Engine_answered) := ⟨rfl, rfl, rfl, by decide +kernel, rfl, by decide +kernel, by decide +kernel⟩
theorem st_ok {nv na : Bool} {s : S} (so : s.Ok nv na) (a : Int) (h : nv = true) : (st s a).Ok nv na :=
  ⟨Int.emod_nonneg _ (by decide), by have := Int.emod_lt_of_pos a (by decide : (0 : Int) < 2); show a % 2 ≤ 1; omega, so.h0, so.o0, so.top, fun z => by rw [h] at z; (cases z), so.na⟩
theorem ok_answered {f : Addr} {fd : FuncData} (F : FnP K "answered" "Engine.answered" s_Engine_answered f fd) (T : Txt K mg) (m_Engine_stored : C8.Met P w K mg base 2 (aEngine K) "stored" (spStored K) [])
    (m_Engine_go : C8.Met P w K mg base 6 (aEngine K) "go" (spGo K) []) : FnOk P w K mg base CX0 7 f fd ["self", "pause", "state", "answer"] (spAnswered K) := by
  refine F.ok sc_Engine_answered (fun vs H Q E h => ?_) (fun cdv A outer s H vs Q E hr h => ?_)
  · obtain ⟨e, q, c, sv, s, s1, n, g, k, a, r, rfl, _⟩ := h
    rfl
  · obtain ⟨e, q, c, sv, s0, s1, n, g, k, a, r, rfl, he, lo, hs, so, hq, hv, hn, po, pl, k⟩ := h
    refine ⟨_, PSs.nox ((pss_cons (ps_asg (pe_ix ix_list (pe_fld (pv 0) rfl) (pe_ix ix_tup (pe_fld (pv 1) rfl) pe_int (fun _ _ => rfl)) (fun _ _ => rfl)) (pg_tup rfl (pgs_cons (pg_name (i := 4) sc_Engine_answered.nd rfl (Or.inl rfl)) (pgs_cons (pg_name (i := 5) sc_Engine_answered.nd rfl (Or.inl rfl)) pgs_nil))))
      (pss_one (ps_ret (C8.pe_mt m_Engine_go hr (by decide) (pv 0) (pa_cons (C8.pe_mt m_Engine_stored hr (by decide) (pv 0) (pa_cons (pv 2) (pa_cons (pv 4) (pa_cons (pe_ix ix_tup (pv 5) pe_int (fun _ _ => rfl)) (pa_cons (pv 3) pa_nil))))) (pa_cons (pe_slice sl_tupA (pe_fld (pv 1) rfl) (po_some pe_int) po_none) pa_nil))))))), ?_⟩
    obtain ⟨dxp, psv, pp, q1, q2, q3⟩ := hq
    obtain ⟨b, rfl, q4⟩ := eD_iff.mp q3
    have q4' : H b = some (.tup (V.int n :: V.int g :: dV r)) := q4
    obtain ⟨dx, hv', d1, d2, d3, l1, l2, l3, l4, d4, dp, ls, lv, pv2, bv, h1, _, _, _, _, _, _, h8, h9, _⟩ := he.ex
    obtain ⟨la, lb, e1, e2, e3⟩ := h9 n _ hn
    refine ⟨_, rfl, e, _, dx, _, _, rfl, h1, T.clEngine, T.nEngine_lines, rfl, _, rfl, q, _, dxp, _, _, rfl, q1, T.clPause, T.nPause_pending, rfl, b, _, 0, _, rfl, rfl, SqT.of q4', at_of (j := 0) rfl rfl, ?_⟩
    refine ⟨l3, _, n, _, rfl, rfl, SqL.of h8, at_of (j := n) rfl e1, la, _, rfl, SqT.of e2, rfl, _, _, rfl, _, _, rfl, rfl, ?_⟩
    cases e3 with
    | @tup ta _ _ t1 t2 =>
      cases t2 with
      | cons t3 t4 =>
        cases t3
        cases t4 with
        | cons t5 t6 =>
          cases t5
          refine ⟨_, rfl, e, dx, _, rfl, h1, rfl, _, rfl, e, dx, _, rfl, h1, rfl, _, rfl, _, rfl, _, rfl, ta, _, 1, _, rfl, rfl, SqT.of t1, at_of (j := 1) rfl rfl, _, rfl, e, c, sv, a, s0, rfl, he, hv, hs, fun p H1 s1 n1 => ?_⟩
          refine ⟨_, rfl, q, _, dxp, _, _, rfl, s1 _ _ q1, T.clPause, T.nPause_pending, rfl, 2, rfl, ?_⟩
          dsimp only [tNoPart]
          refine slA_go (s1 _ _ q4') fun b2 H2 s2 g2 => ?_
          have e5 : cutV (V.int (n : Int) :: V.int g :: dV r) (some 2) none = dV r := cut_hi (i := 2) _ (by show 2 ≤ (dV r).length + 2; omega)
          rw [e5] at g2
          exact ⟨e, b2, c, _, st s0 a, r, rfl, he.same (s1.trans s2), lo, NK.tx (TX.same s2) _ _ n1, st_ok so a hv, g2, po, by omega, fun p' H' s' n' => k p' H' ((s1.trans s2).trans s') n'⟩
theorem met_answered {f : Addr} {fd : FuncData} (F : FnP K "answered" "Engine.answered" s_Engine_answered f fd) (T : Txt K mg) (me : Meth K (aEngine K) "answered" f) (m_Engine_stored : C8.Met P w K mg base 2 (aEngine K) "stored" (spStored K) [])
    (m_Engine_go : C8.Met P w K mg base 6 (aEngine K) "go" (spGo K) []) : C8.Met P w K mg base 7 (aEngine K) "answered" (spAnswered K) [] :=
  ⟨f, fd, _, [], T.clEngine, me, ok_answered F T m_Engine_stored m_Engine_go, F.bindsN fun _ _ _ _ _ _ us hl => match us, hl with | [_, _, _, _], _ => rfl, .nil⟩
def spBegun (K : PySem.W.Frag) : Sp := fun vs H Q _ => ∃ (e : Addr) (c : Cf) (sv : V) (s : S) (i : Nat) (pr : Pr) (g : Int), vs = [.ref e, sv, .str "c", .str (pq i), .int g] ∧ EnAt K H e c ∧ LnOk c.nv c.na c.L ∧ NK H (eS c.nv c.na s) sv ∧ s.Ok c.nv c.na ∧
  c.prs[i]? = some pr ∧ PdOk c.L (withG (bodyOf c i) g []) ∧ (bodyOf c i).length ≤ 800 ∧
  ∀ p H', Same H H' → PsAt K c.nv c.na H' p (begun c s i g) → Q (.ref p) H'
theorem sc_Engine_begun : FnScope ["self", "state", "name", "proc", "given"] ["self", "state", "name", "proc", "given"] (defScope s_Engine_begun) := ⟨rfl, rfl, rfl, by decide +kernel, rfl, by decide +kernel, by decide +kernel⟩
theorem ok_begun {f : Addr} {fd : FuncData} (F : FnP K "begun" "Engine.begun" s_Engine_begun f fd) (T : Txt K mg) (m_Engine_block : C8.Met P w K mg base 1 (aEngine K) "block" spBlock [])
    (m_Engine_go : C8.Met P w K mg base 6 (aEngine K) "go" (spGo K) []) : FnOk P w K mg base CX0 7 f fd ["self", "state", "name", "proc", "given"] (spBegun K) := by
  refine F.ok sc_Engine_begun (fun vs H Q E h => ?_) (fun cdv A outer s H vs Q E hr h => ?_)
  · obtain ⟨e, c, sv, s, i, pr, g, rfl, _⟩ := h
    rfl
  · obtain ⟨e, c, sv, s0, i, pr, g, rfl, he, lo, hs, so, hp, po, pl, k⟩ := h
    have hu := hu_of hr
    refine ⟨_, PSs.nox ((pss_one (ps_ret (C8.pe_mt m_Engine_go hr (by decide) (pv 0) (pa_cons (pv 1) (pa_cons (C8.pe_mt m_Engine_block hr (by decide) (pv 0) (pa_cons (pe_dget hu (pe_fld (pv 0) rfl) (pe_tup (pa_cons (pv 2) (pa_cons (pv 3) pa_nil))) (fun _ _ => rfl)) (pa_cons (pv 4) (pa_cons (pe_tup pa_nil) pa_nil)))) pa_nil)))))), ?_⟩
    obtain ⟨dx, hv', d1, d2, d3, l1, l2, l3, l4, d4, dp, ls, lv, pv2, bv, h1, _, _, _, _, _, _, _, _, _, _, h12, h13⟩ := he.ex
    obtain ⟨t, g1, g2⟩ := h13 i pr hp
    refine ⟨_, rfl, e, dx, _, rfl, h1, rfl, _, rfl, _, rfl, e, dx, _, rfl, h1, rfl, _, rfl, e, _, dx, _, _, rfl, h1, T.clEngine, T.nEngine_bodies, rfl, _, rfl, _, rfl, (by show 2 ≤ sizeLine; decide), fun p np => ?_⟩
    have sp := new_same (o := HO.tup [V.str "c", V.str (pq i)]) np
    have gk : valV bv [Sum.inr ("c" : Str), Sum.inr (pq i)] = some (V.ref t) := g1
    refine ⟨d4, _, rfl, by rw [← gk]; exact DGet.t (k := [Sum.inr "c", Sum.inr (pq i)]) (sp _ _ h12) upd_same, ?_⟩
    refine ⟨_, rfl, (by show 0 ≤ sizeLine; decide), fun p2 np2 => ?_⟩
    have sp2 := sp.trans (new_same (o := HO.tup []) np2)
    refine ⟨e, t, p2, _, g, [], rfl, sp2 _ _ g2, upd_same, by omega, by show 0 ≤ 1000; decide, fun p3 H3 s3 g3 => ?_⟩
    exact ⟨e, p3, c, sv, s0, _, rfl, he.same (sp2.trans s3), lo, NK.tx (TX.same (sp2.trans s3)) _ _ hs, so, g3, po, by simp [withG]; omega, fun p' H' s' n' => k p' H' ((sp2.trans s3).trans s') n'⟩
theorem met_begun {f : Addr} {fd : FuncData} (F : FnP K "begun" "Engine.begun" s_Engine_begun f fd) (T : Txt K mg) (me : Meth K (aEngine K) "begun" f) (m_Engine_block : C8.Met P w K mg base 1 (aEngine K) "block" spBlock [])
    (m_Engine_go : C8.Met P w K mg base 6 (aEngine K) "go" (spGo K) []) : C8.Met P w K mg base 7 (aEngine K) "begun" (spBegun K) [] :=
  ⟨f, fd, _, [], T.clEngine, me, ok_begun F T m_Engine_block m_Engine_go, F.bindsN fun _ _ _ _ _ _ us hl => match us, hl with | [_, _, _, _, _], _ => rfl, .nil⟩
end
end NC
set_option Elab.async false
set_option linter.all false
set_option maxRecDepth 100000
set_option maxHeartbeats 4000000
/-! Walks of the engine: numbered. -/
namespace NC
open PySem PySem.Spec PyProof.Rows L2
def prts : Nat → List Sm → List (List Nat × List Nat)
  | _, [] => []
  | n, t :: r => prt t n :: prts (n + 1) r
theorem prts_len : ∀ (n : Nat) (L : List Sm), (prts n L).length = L.length
  | _, [] => rfl
  | n, t :: r => by rw [prts, List.length_cons, prts_len (n + 1) r, List.length_cons]
theorem prts_append : ∀ (n : Nat) (a b : List Sm), prts n (a ++ b) = prts n a ++ prts (n + a.length) b
  | _, [], b => by rw [List.nil_append]; rfl
  | n, t :: r, b => by
    rw [List.cons_append, prts, prts, prts_append (n + 1) r b, List.cons_append, List.length_cons, Nat.add_assoc, Nat.add_comm 1]
theorem flatB_append (a b : List Sm) : flatB (a ++ b) = flatB a ++ flatB b := List.flatMap_append
theorem numsB_append : ∀ (n : Nat) (a b : List Sm), numsB n (a ++ b) = numsB n a ++ numsB (n + (flatB a).length) b
  | _, [], b => by rw [List.nil_append]; rfl
  | n, t :: r, b => by
    rw [List.cons_append, numsB, numsB, numsB_append _ r b, List.cons_append]
    have e : n + 1 + t.inner.length + (flatB r).length = n + (flatB (t :: r)).length := by
      show _ = n + (List.flatMap (fun t => t :: t.inner) (t :: r)).length
      rw [List.flatMap_cons, List.length_append, List.length_cons]
      show n + 1 + t.inner.length + (flatB r).length = n + (t.inner.length + 1 + (flatB r).length)
      omega
    rw [e]
theorem numsB_len : ∀ (n : Nat) (a : List Sm), (numsB n a).length = a.length
  | _, [] => rfl
  | n, t :: r => by rw [numsB, List.length_cons, numsB_len, List.length_cons]
def LV (H : Hp) (L : List Sm) (vs : List V) : Prop := vs.length = L.length ∧ LnAt H L vs
def PV (H : Hp) (P : List (List Nat × List Nat)) (vs : List V) : Prop := vs.length = P.length ∧ ∀ (i : Nat) (q : List Nat × List Nat), P[i]? = some q → ∃ a t1 t2, vs[i]? = some (V.ref a) ∧ H a = some (HO.tup [V.ref t1, V.ref t2]) ∧ H t1 = some (.tup (nV q.1)) ∧ H t2 = some (.tup (nV q.2))
theorem LV.nil {H : Hp} : LV H [] [] := ⟨rfl, fun i t h => by simp at h⟩
theorem PV.nil {H : Hp} : PV H [] [] := ⟨rfl, fun i t h => by simp at h⟩
theorem LV.tx {H H' : Hp} {L : List Sm} {vs : List V} (t : TX H H') (h : LV H L vs) : LV H' L vs := ⟨h.1, fun i x q => by
  obtain ⟨a, b, g1, g2, g3⟩ := h.2 i x q
  exact ⟨a, b, g1, t _ _ g2, NK.tx t _ _ g3⟩⟩
theorem PV.tx {H H' : Hp} {P : List (List Nat × List Nat)} {vs : List V} (t : TX H H') (h : PV H P vs) : PV H' P vs := ⟨h.1, fun i x q => by
  obtain ⟨a, t1, t2, g1, g2, g3, g4⟩ := h.2 i x q
  exact ⟨a, t1, t2, g1, t _ _ g2, t _ _ g3, t _ _ g4⟩⟩
theorem app_get {α : Type} {xs : List α} {x y : α} {i : Nat} (h : (xs ++ [x])[i]? = some y) : xs[i]? = some y ∨ i = xs.length ∧ y = x := by
  rw [List.getElem?_append] at h
  split at h
  · exact .inl h
  · rename_i hi
    right
    have : i - xs.length = 0 := by
      cases e : i - xs.length with
      | zero => rfl
      | succ n => rw [e] at h; simp at h
    rw [this] at h
    exact ⟨by omega, (Option.some.inj h).symm⟩
theorem app_lt {α : Type} {xs : List α} {x y : α} {i : Nat} (h : xs[i]? = some y) : (xs ++ [x])[i]? = some y := by
  rw [List.getElem?_append_left (List.getElem?_eq_some_iff.mp h).1]; exact h
theorem LV.app {H : Hp} {L : List Sm} {vs : List V} {t : Sm} {a : Addr} {b : V} (h : LV H L vs) (h1 : H a = some (HO.tup [V.int 0, b])) (h2 : NK H (eM t) b) : LV H (L ++ [t]) (vs ++ [V.ref a]) :=
  ⟨by rw [List.length_append, List.length_append, h.1]; rfl, fun i x q => by
    rcases app_get q with q | ⟨rfl, rfl⟩
    · obtain ⟨a, b, g1, g2, g3⟩ := h.2 i x q
      exact ⟨a, b, app_lt g1, g2, g3⟩
    · exact ⟨a, b, by rw [← h.1]; simp, h1, h2⟩⟩
theorem PV.app {H : Hp} {P : List (List Nat × List Nat)} {vs : List V} {q : List Nat × List Nat} {a t1 t2 : Addr} (h : PV H P vs) (h1 : H a = some (HO.tup [V.ref t1, V.ref t2])) (h2 : H t1 = some (.tup (nV q.1))) (h3 : H t2 = some (.tup (nV q.2))) : PV H (P ++ [q]) (vs ++ [V.ref a]) :=
  ⟨by rw [List.length_append, List.length_append, h.1]; rfl, fun i x p => by
    rcases app_get p with p | ⟨rfl, rfl⟩
    · obtain ⟨a, t1, t2, g1, g2⟩ := h.2 i x p
      exact ⟨a, t1, t2, app_lt g1, g2⟩
    · exact ⟨a, t1, t2, by rw [← h.1]; simp, h1, h2, h3⟩⟩
theorem PV.set {H : Hp} {P : List (List Nat × List Nat)} {vs : List V} {q : List Nat × List Nat} {a t1 t2 : Addr} (h : PV H P vs) (n : Nat) (h1 : H a = some (HO.tup [V.ref t1, V.ref t2])) (h2 : H t1 = some (.tup (nV q.1))) (h3 : H t2 = some (.tup (nV q.2))) : PV H (P.set n q) (vs.set n (V.ref a)) :=
  ⟨by rw [List.length_set, List.length_set, h.1], fun i x p => by
    rw [List.getElem?_set] at p
    split at p
    · rename_i e
      subst e
      split at p
      · rename_i hl
        cases p
        exact ⟨a, t1, t2, by rw [List.getElem?_set, if_pos rfl, if_pos (by rw [h.1]; exact hl)], h1, h2, h3⟩
      · cases p
    · rename_i e
      obtain ⟨a, t1, t2, g1, g2⟩ := h.2 i x p
      exact ⟨a, t1, t2, by rw [List.getElem?_set, if_neg e]; exact g1, g2⟩⟩
/-- all but what stands at x and y is as it was -/
def Same2 (x y : Addr) (H H' : Hp) : Prop := ∀ a o, H a = some o → a ≠ x → a ≠ y → H' a = some o
theorem Same2.refl (x y : Addr) (H : Hp) : Same2 x y H H := fun _ _ h _ _ => h
theorem Same2.trans {x y : Addr} {H H1 H2 : Hp} (s : Same2 x y H H1) (t : Same2 x y H1 H2) : Same2 x y H H2 := fun a o h n m => t a o (s a o h n m) n m
theorem Same2.same {x y : Addr} {H H' : Hp} (s : Same H H') : Same2 x y H H' := fun a o h _ _ => s a o h
theorem Same2.updx {x y : Addr} {H H' : Hp} {o : HO} (s : Same2 x y H H') : Same2 x y H (upd H' x o) := fun a u h n m => by rw [upd_ne n]; exact s a u h n m
theorem Same2.updy {x y : Addr} {H H' : Hp} {o : HO} (s : Same2 x y H H') : Same2 x y H (upd H' y o) := fun a u h n m => by rw [upd_ne m]; exact s a u h n m
theorem Same2.updn {x y p : Addr} {H H' : Hp} {o : HO} (s : Same2 x y H H') (np : H p = none) : Same2 x y H (upd H' p o) := fun a u h n m => by rw [upd_ne (ne_of_none h np)]; exact s a u h n m
theorem Same2.tx {x y : Addr} {H H' : Hp} {xs ys : List V} (s : Same2 x y H H') (hx : H x = some (.lst xs)) (hy : H y = some (.lst ys)) : TX H H' := fun a o h => s a _ h (fun e => by rw [e, hx] at h; cases h) fun e => by rw [e, hy] at h; cases h
def Sm.dep : Sm → Nat
  | .ite _ _ _ => 1
  | _ => 0
theorem eB_open {H : Hp} {b : List Sm} {v : V} (h : NK H (eB b) v) : ∃ a vs, v = .ref a ∧ H a = some (HO.tup vs) ∧ NKs H (b.map eM) vs := by
  cases h with
  | tup h1 h2 => exact ⟨_, _, rfl, h1, h2⟩
section
variable {P : Program} {w : World} {K : PySem.W.Frag} {mg : Str → Option Value} {base : Heap}
def spNum (K : PySem.W.Frag) (d : Nat) : Sp := fun vs H Q _ => ∃ (e dx : Addr) (hv : V) (d1 d2 d3 l1 l2 l3 l4 d4 : Addr) (bv : V) (b : List Sm) (L : List Sm) (P : List (List Nat × List Nat)) (lv qv : List V), vs = [.ref e, .int 0, bv] ∧ H e = some (.ins (aEngine K) dx (eFs hv d1 d2 d3 l1 l2 l3 l4 d4)) ∧
  NK H (eB b) bv ∧ 0 < d ∧ (∀ t ∈ b, t.dep < d) ∧ H l3 = some (.lst lv) ∧ H l4 = some (.lst qv) ∧ LV H L lv ∧ PV H P qv ∧ P.length = L.length ∧ L.length + (flatB b).length ≤ 10000 ∧ l3 ≠ l4 ∧
  ∀ p H' lv' qv', Same2 l3 l4 H H' → H' l3 = some (.lst lv') → H' l4 = some (.lst qv') → LV H' (L ++ flatB b) lv' → PV H' (P ++ prts L.length (flatB b)) qv' → H' p = some (.tup (nV (numsB L.length b))) → Q (.ref p) H'
theorem sc_Engine_numbered : FnScope ["self", "contract", "block", "numbers", "statement", "number", "then"] ["self", "contract", "block"] (defScope s_Engine_numbered) := ⟨rfl, rfl, rfl, by decide +kernel, rfl, by decide +kernel, by decide +kernel⟩
theorem flat_take {b : List Sm} {i : Nat} {t : Sm} (h : b[i]? = some t) : flatB (b.take (i + 1)) = flatB (b.take i) ++ t :: t.inner := by
  rw [List.take_succ, h, flatB_append]
  show flatB (b.take i) ++ flatB [t] = _
  simp [flatB]
theorem nums_take {b : List Sm} {i n : Nat} {t : Sm} (h : b[i]? = some t) : numsB n (b.take (i + 1)) = numsB n (b.take i) ++ [n + (flatB (b.take i)).length] := by
  rw [List.take_succ, h, numsB_append]
  rfl
theorem flat_le {b : List Sm} (i : Nat) : (flatB (b.take i)).length ≤ (flatB b).length := by
  conv => rhs; rw [← List.take_append_drop i b, flatB_append, List.length_append]
  omega
def opl : Option Pl → List Sm
  | none => []
  | some p => [.pl p]
theorem flat_opl (p : Option Pl) : flatB (opl p) = opl p := by cases p <;> rfl
theorem ix_tupK {X : Cx} {K : PySem.W.Frag} (h : X.K = K) : IxR X (rIxT K) := h ▸ ix_tup
theorem ix_listK {X : Cx} {K : PySem.W.Frag} (h : X.K = K) : IxR X (rIxL K) := h ▸ ix_list
theorem ixN_nat {n j : Nat} (hj : j < n) : ixN n (j : Int) = some j := by
  unfold ixN
  rw [if_pos (by omega), if_pos (by omega)]
  rfl
theorem eM_kind {H : Hp} {t : Sm} {v : V} (h : NK H (eM t) v) (h0 : t.dep = 0) : ∃ a kd rest, v = .ref a ∧ H a = some (HO.tup (V.str kd :: rest)) ∧ decide (V.str kd = V.str "if") = false := by
  cases t with
  | pl p =>
    obtain ⟨a, kd, rest, e, h1, _, h2, _⟩ := eP_kind (show NK H (eP p) v from h)
    exact ⟨a, kd, rest, e, h1, h2⟩
  | ask n =>
    cases h with
    | tup t1 t2 =>
      cases t2 with
      | cons t3 t4 => cases t3; exact ⟨_, _, _, rfl, t1, rfl⟩
  | ite _ _ _ => cases h0
theorem len_flat : ∀ b : List Sm, b.length ≤ (flatB b).length
  | [] => Nat.le_refl _
  | t :: r => by
    have := len_flat r
    show _ ≤ (List.flatMap (fun t => t :: t.inner) (t :: r)).length
    rw [List.flatMap_cons, List.length_append, List.length_cons, List.length_cons]
    show r.length + 1 ≤ t.inner.length + 1 + (flatB r).length
    omega
theorem ok_numbered {f : Addr} {fd : FuncData} (F : FnP K "numbered" "Engine.numbered" s_Engine_numbered f fd) (T : Txt K mg) (me : Meth K (aEngine K) "numbered" f) :
    ∀ d : Nat, FnOk P w K mg base CX0 (d + 1) f fd ["self", "contract", "block"] (spNum K d) := by
  intro d
  induction d with
  | zero =>
    refine ⟨fun vs H Q E h => ?_, fun A outer s H args us vs Q E _ _ _ _ h => ?_⟩
    · obtain ⟨e, dx, hv, d1, d2, d3, l1, l2, l3, l4, d4, bv, b, L, P, lv, qv, rfl, _⟩ := h
      rfl
    · obtain ⟨e, dx, hv, d1, d2, d3, l1, l2, l3, l4, d4, bv, b, L, P, lv, qv, _, _, _, hd, _⟩ := h
      omega
  | succ d ih =>
    refine F.ok sc_Engine_numbered (fun vs H Q E h => ?_) (fun cdv A outer s H vs Q E hr h => ?_)
    · obtain ⟨e, dx, hv, d1, d2, d3, l1, l2, l3, l4, d4, bv, b, L, P, lv, qv, rfl, _⟩ := h
      rfl
    · obtain ⟨e, dx, hv, d1, d2, d3, l1, l2, l3, l4, d4, bv, b, L, P, lv, qv, rfl, he, hb, _, hdp, h3, h4, hL, hP, hPL, hz, hn, k⟩ := h
      have m_Engine_numbered : C8.Met _ w K mg base (d + 1) (aEngine K) "numbered" (spNum K d) [] := ⟨f, fd, _, [], T.clEngine, me, ih, F.bindsN fun _ _ _ _ _ _ us hl => match us, hl with | [_, _, _], _ => rfl, .nil⟩
      obtain ⟨bb, bvs, rfl, hb1, hb2⟩ := eB_open hb
      have bl : bvs.length = b.length := by rw [← hb2.length, List.length_map]
      refine ⟨_, PSs.nox ((pss_cons (ps_set (i := 3) sc_Engine_numbered.nd rfl (Or.inl rfl) (pe_lst pa_nil))
      (pss_cons (ps_for PassesOwn.never rfl (pi_tup (pv 2)) (pg_name (i := 4) sc_Engine_numbered.nd rfl (Or.inl rfl)) (pss_cons (ps_set (i := 5) sc_Engine_numbered.nd rfl (Or.inl rfl) (pe_callB call_len (by rfl) T.len bt_len (pa_cons (pe_fld (pv 0) rfl) pa_nil)))
      (pss_cons (ps_expr (pe_bm PySem.F.plainAttrs_list PySem.F.slot_list_append PySem.F.type_list_append mt_append (pv 3) (pa_cons (pv 5) pa_nil)))
      (pss_cons (ps_expr (pe_bm PySem.F.plainAttrs_list PySem.F.slot_list_append PySem.F.type_list_append mt_append (pe_fld (pv 0) rfl) (pa_cons (pe_tup (pa_cons (pv 1) (pa_cons (pv 4) pa_nil))) pa_nil)))
      (pss_cons (ps_expr (pe_bm PySem.F.plainAttrs_list PySem.F.slot_list_append PySem.F.type_list_append mt_append (pe_fld (pv 0) rfl) (pa_cons (pe_tup (pa_cons (pe_tup pa_nil) (pa_cons (pe_tup pa_nil) pa_nil))) pa_nil)))
      (pss_one (ps_if (pt_cmpR op_eq (pe_ix ix_tup (pv 4) pe_int (fun _ _ => rfl)) pe_str (nomark _)) (pss_cons (ps_set (i := 6) sc_Engine_numbered.nd rfl (Or.inl rfl) (C8.pe_mt m_Engine_numbered hr (by omega) (pv 0) (pa_cons (pv 1) (pa_cons (pe_ix ix_tup (pv 4) pe_int (fun _ _ => rfl)) pa_nil))))
      (pss_one (ps_asg (pe_tup (pa_cons (pv 6) (pa_cons (C8.pe_mt m_Engine_numbered hr (by omega) (pv 0) (pa_cons (pv 1) (pa_cons (pe_ix ix_tup (pv 4) pe_int (fun _ _ => rfl)) pa_nil))) pa_nil))) (pg_sub (pe_fld (pv 0) rfl) (pv 5) set_list)))) pss_nil)))))))
      (pss_one (ps_ret (pe_callTy call_tuple_of (by rfl) T.tuple bt_tuple (pa_cons (pv 3) pa_nil))))))), ?_⟩
      refine ⟨by show 0 ≤ sizeLine; decide, fun nl nn => ?_⟩
      have n3 : nl ≠ l3 := fun e => by rw [e, h3] at nn; cases nn
      have n4 : nl ≠ l4 := fun e => by rw [e, h4] at nn; cases nn
      have sn := new_same (o := HO.lst []) nn
      refine ⟨_, rfl, bb, rfl, ⟨_, SqT.of (sn _ _ hb1)⟩, for_tup (K := K) (xs := bvs) (fun i σ H1 => ∃ x4 x5 x6 lv1 pv1, σ = [some (.ref e), some (.int 0), some (.ref bb), some (.ref nl), x4, x5, x6] ∧ Same2 l3 l4 H H1 ∧ H1 nl = some (.lst (nV (numsB L.length (b.take i)))) ∧ H1 l3 = some (.lst lv1) ∧ H1 l4 = some (.lst pv1) ∧ LV H1 (L ++ flatB (b.take i)) lv1 ∧ PV H1 (P ++ prts L.length (flatB (b.take i))) pv1)
        ⟨_, _, _, lv, qv, rfl, Same2.same sn, upd_same, sn _ _ h3, sn _ _ h4, by simpa [flatB] using hL.tx (TX.same sn), by simpa [flatB, prts] using hP.tx (TX.same sn)⟩ (fun i σ H1 _ ⟨_, _, _, _, _, _, s1, _⟩ => SqT.of (s1.tx h3 h4 _ _ hb1)) ?_ ?_⟩
      · rintro i x σ H1 hi ⟨x4, x5, x6, lv1, pv1, rfl, s1, g1, g3, g4, gL, gP⟩
        have t1 := s1.tx h3 h4
        obtain ⟨t, ht, hx⟩ : ∃ t, b[i]? = some t ∧ NK H1 (eM t) x := by
          have hib : i < b.length := by rw [← bl]; exact (List.getElem?_eq_some_iff.mp hi).1
          refine ⟨b[i], List.getElem?_eq_getElem hib, ?_⟩
          obtain ⟨v, e1, e2⟩ := hb2.get (i := i) (k := eM b[i]) (by rw [List.getElem?_map, List.getElem?_eq_getElem hib]; rfl)
          rw [hi] at e1
          cases e1
          exact NK.tx t1 _ _ e2
        have hzi : (flatB (b.take i)).length + 1 + t.inner.length ≤ (flatB b).length := by
          have := flat_le (b := b) (i + 1)
          rw [flat_take ht, List.length_append, List.length_cons] at this
          omega
        have lz : lv1.length = L.length + (flatB (b.take i)).length := by rw [gL.1, List.length_append]
        have pz : pv1.length = L.length + (flatB (b.take i)).length := by rw [gP.1, List.length_append, prts_len, hPL]
        have he1 := s1 _ _ he (fun e => by rw [e, h3] at he; cases he) (fun e => by rw [e, h4] at he; cases he)
        refine ⟨_, rfl, e, _, dx, _, _, rfl, he1, T.clEngine, T.nEngine_lines, rfl, ?_⟩
        refine ⟨_, _, rfl, .inl ⟨_, SqL.of g3, rfl⟩, ?_⟩
        refine ⟨_, rfl, .inl ⟨rfl, _, SqL.of g1⟩, _, rfl, nl, _, _, rfl, rfl, g1, szl (by rw [nV, List.length_map, numsB_len]; have := List.length_take_le i b; have : (b.take i).length ≤ (flatB (b.take i)).length := len_flat _; omega), ?_⟩
        obtain ⟨Ha, eA⟩ : ∃ X, X = upd H1 nl (.lst (nV (numsB L.length (b.take i)) ++ [V.int lv1.length])) := ⟨_, rfl⟩
        have a1 : Ha nl = some (.lst (nV (numsB L.length (b.take i)) ++ [V.int lv1.length])) := by rw [eA, upd_same]
        have a3 : Ha l3 = some (.lst lv1) := by rw [eA, upd_ne (Ne.symm n3)]; exact g3
        have a4 : Ha l4 = some (.lst pv1) := by rw [eA, upd_ne (Ne.symm n4)]; exact g4
        have aT : TX H1 Ha := by rw [eA]; exact TX.put g1 fun _ z => by cases z
        have aS : Same2 l3 l4 H Ha := by rw [eA]; exact s1.updn nn
        rw [← eA]
        have heA : Ha e = some (.ins (aEngine K) dx (eFs hv d1 d2 d3 l1 l2 l3 l4 d4)) := aS _ _ he (fun e => by rw [e, h3] at he; cases he) (fun e => by rw [e, h4] at he; cases he)
        refine ⟨_, rfl, e, _, dx, _, _, rfl, heA, T.clEngine, T.nEngine_lines, rfl, .inl ⟨rfl, _, SqL.of a3⟩, _, rfl, _, rfl, (by show 2 ≤ sizeLine; decide), fun q nq => ?_⟩
        have q3 : l3 ≠ q := ne_of_none a3 nq
        have q4 : l4 ≠ q := ne_of_none a4 nq
        have qn : nl ≠ q := ne_of_none a1 nq
        refine ⟨l3, _, _, rfl, rfl, by rw [upd_ne q3]; exact a3, szl (by omega), ?_⟩
        obtain ⟨Hc, eC⟩ : ∃ X, X = upd (upd Ha q (.tup [V.int 0, x])) l3 (.lst (lv1 ++ [V.ref q])) := ⟨_, rfl⟩
        have c1 : Hc nl = some (.lst (nV (numsB L.length (b.take i)) ++ [V.int lv1.length])) := by rw [eC, upd_ne n3, upd_ne qn]; exact a1
        have c3 : Hc l3 = some (.lst (lv1 ++ [V.ref q])) := by rw [eC, upd_same]
        have c4 : Hc l4 = some (.lst pv1) := by rw [eC, upd_ne (Ne.symm hn), upd_ne q4]; exact a4
        have cq : Hc q = some (.tup [V.int 0, x]) := by rw [eC, upd_ne (Ne.symm q3), upd_same]
        have cT : TX Ha Hc := by rw [eC]; exact (TX.new nq).trans (TX.put (show upd Ha q _ l3 = _ by rw [upd_ne q3]; exact a3) fun _ z => by cases z)
        have cS : Same2 l3 l4 H Hc := by rw [eC]; exact (aS.trans (Same2.same (new_same nq))).updx
        rw [← eC]
        have heC : Hc e = some (.ins (aEngine K) dx (eFs hv d1 d2 d3 l1 l2 l3 l4 d4)) := cS _ _ he (fun e => by rw [e, h3] at he; cases he) (fun e => by rw [e, h4] at he; cases he)
        refine ⟨_, rfl, e, _, dx, _, _, rfl, heC, T.clEngine, T.nEngine_parts, rfl, .inl ⟨rfl, _, SqL.of c4⟩, (by show 0 ≤ sizeLine; decide), fun t1' nt1 => ⟨(by show 0 ≤ sizeLine; decide), fun t2' nt2 => ⟨(by show 2 ≤ sizeLine; decide), fun t3' nt3 => ?_⟩⟩⟩
        have sd := ((new_same (o := HO.tup []) nt1).trans (new_same (o := HO.tup []) nt2)).trans (new_same (o := HO.tup [V.ref t1', V.ref t2']) nt3)
        refine ⟨l4, _, _, rfl, rfl, sd _ _ c4, szl (by omega), ?_⟩
        obtain ⟨He, eE⟩ : ∃ X, X = upd (upd (upd (upd Hc t1' (.tup [])) t2' (.tup [])) t3' (.tup [V.ref t1', V.ref t2'])) l4 (.lst (pv1 ++ [V.ref t3'])) := ⟨_, rfl⟩
        have sd4 : TX Hc He := by rw [eE]; exact (TX.same sd).trans (TX.put (sd _ _ c4) fun _ z => by cases z)
        have k1 : He nl = some (.lst (nV (numsB L.length (b.take i)) ++ [V.int lv1.length])) := by rw [eE, upd_ne n4]; exact sd _ _ c1
        have k3 : He l3 = some (.lst (lv1 ++ [V.ref q])) := by rw [eE, upd_ne hn]; exact sd _ _ c3
        have k4 : He l4 = some (.lst (pv1 ++ [V.ref t3'])) := by rw [eE, upd_same]
        have kS : Same2 l3 l4 H He := by rw [eE]; exact (cS.trans (Same2.same sd)).updy
        have kT : TX H1 He := (aT.trans cT).trans sd4
        have kL : LV He (L ++ flatB (b.take i) ++ [t]) (lv1 ++ [V.ref q]) := (gL.tx kT).app (sd4 _ _ cq) (NK.tx kT _ _ hx)
        have u2 : upd (upd (upd Hc t1' (.tup [])) t2' (.tup [])) t3' (.tup [V.ref t1', V.ref t2']) t2' = some (.tup []) := new_same nt3 _ _ upd_same
        have u1 : upd (upd (upd Hc t1' (.tup [])) t2' (.tup [])) t3' (.tup [V.ref t1', V.ref t2']) t1' = some (.tup []) := new_same nt3 _ _ (new_same nt2 _ _ upd_same)
        have uu : TX (upd (upd (upd Hc t1' (.tup [])) t2' (.tup [])) t3' (.tup [V.ref t1', V.ref t2'])) He := by rw [eE]; exact TX.put (sd _ _ c4) fun _ z => by cases z
        have kP : PV He (P ++ prts L.length (flatB (b.take i)) ++ [([], [])]) (pv1 ++ [V.ref t3']) := (gP.tx kT).app (q := ([], [])) (uu _ _ upd_same) (uu _ _ u1) (uu _ _ u2)
        rw [← eE]
        have nm : nV (numsB L.length (b.take i)) ++ [V.int lv1.length] = nV (numsB L.length (b.take (i + 1))) := by
          rw [nums_take ht, lz, nV, nV, List.map_append]
          rfl
        rw [nm] at k1
        have hx' := NK.tx kT _ _ hx
        have hxs := b.getElem?_eq_some_iff.mp ht
        cases t with
        | pl p =>
          obtain ⟨ta, kd, rest, rfl, z1, z2⟩ := eM_kind hx' rfl
          refine ⟨_, rfl, ta, _, 0, _, rfl, rfl, SqT.of z1, at_of (j := 0) rfl rfl, rfl, _, rfl, ifF z2 ?_⟩
          exact ⟨_, _, _, _, _, rfl, kS, k1, k3, k4, by rw [flat_take ht, ← List.append_assoc]; exact kL, by rw [flat_take ht, prts_append, ← List.append_assoc]; exact kP⟩
        | ask n =>
          obtain ⟨ta, kd, rest, rfl, z1, z2⟩ := eM_kind hx' rfl
          refine ⟨_, rfl, ta, _, 0, _, rfl, rfl, SqT.of z1, at_of (j := 0) rfl rfl, rfl, _, rfl, ifF z2 ?_⟩
          exact ⟨_, _, _, _, _, rfl, kS, k1, k3, k4, by rw [flat_take ht, ← List.append_assoc]; exact kL, by rw [flat_take ht, prts_append, ← List.append_assoc]; exact kP⟩
        | ite ex pa pb =>
          cases hx' with
          | @tup ta _ _ t1 t2 =>
            cases t2 with
            | cons t3 t4 =>
              cases t3
              cases t4 with
              | @cons _ xv _ _ t5 t6 =>
                cases t6 with
                | @cons _ xa _ _ t7 t8 =>
                  cases t8 with
                  | @cons _ xb _ _ t9 t10 =>
                    cases t10
                    have hdd := hdp _ (List.mem_of_getElem? ht)
                    have hdd : 1 < d + 1 := hdd
                    have heE : He e = some (.ins (aEngine K) dx (eFs hv d1 d2 d3 l1 l2 l3 l4 d4)) := kS _ _ he (fun e => by rw [e, h3] at he; cases he) (fun e => by rw [e, h4] at he; cases he)
                    refine ⟨_, rfl, ta, _, 0, _, rfl, rfl, SqT.of t1, at_of (j := 0) rfl rfl, rfl, _, rfl, ifT rfl ?_⟩
                    have mm : (L ++ flatB (b.take i) ++ [Sm.ite ex pa pb]).length = lv1.length + 1 := by rw [List.length_append, List.length_append, lz]; rfl
                    have inn : (Sm.ite ex pa pb).inner = .pl pa :: opl pb := by cases pb <;> rfl
                    rw [inn, List.length_cons] at hzi
                    refine ⟨_, rfl, e, dx, _, rfl, heE, rfl, _, rfl, _, rfl, ta, _, 2, _, rfl, rfl, SqT.of t1, at_of (j := 2) rfl rfl, e, dx, hv, d1, d2, d3, l1, l2, l3, l4, d4, xa, [.pl pa], _, _, _, _, rfl, heE, t7, by omega, ?_, k3, k4, kL, kP, ?_, ?_, hn, ?_⟩
                    · intro t h
                      rw [List.mem_singleton.mp h]
                      show 0 < d
                      omega
                    · rw [List.length_append, List.length_append, prts_len, List.length_append, List.length_append, hPL]; rfl
                    · rw [mm]
                      show lv1.length + 1 + 1 ≤ _
                      omega
                    intro p1 H2 lv2 pv2 r1 r3 r4 rL rP rp
                    have heF := r1 _ _ heE (fun e => by rw [e, h3] at he; cases he) (fun e => by rw [e, h4] at he; cases he)
                    have rT := r1.tx k3 k4
                    refine ⟨_, rfl, _, rfl, e, dx, _, rfl, heF, rfl, _, rfl, _, rfl, ta, _, 3, _, rfl, rfl, SqT.of (rT _ _ t1), at_of (j := 3) rfl rfl, e, dx, hv, d1, d2, d3, l1, l2, l3, l4, d4, xb, opl pb, _, _, _, _, rfl, heF, ?_, by omega, ?_, r3, r4, rL, rP, ?_, ?_, hn, ?_⟩
                    · have := NK.tx rT _ _ t9
                      cases pb <;> exact this
                    · intro t h
                      cases pb with
                      | none => cases h
                      | some p =>
                        rw [List.mem_singleton.mp h]
                        show 0 < d
                        omega
                    · rw [List.length_append, List.length_append, List.length_append, prts_len, prts_len, hPL]
                      simp only [List.length_append]
                      rfl
                    · rw [List.length_append, mm, flat_opl]
                      show lv1.length + 1 + 1 + _ ≤ _
                      omega
                    intro p2 H3 lv3 pv3 v1 v3 v4 vL vP vp
                    have vT := v1.tx r3 r4
                    have heG := v1 _ _ heF (fun e => by rw [e, h3] at he; cases he) (fun e => by rw [e, h4] at he; cases he)
                    refine ⟨(by show 2 ≤ sizeLine; decide), fun q5 nq5 => ?_⟩
                    have s5 := new_same (o := HO.tup [V.ref p1, V.ref p2]) nq5
                    have pl1 : (P ++ prts L.length (flatB (b.take i))).length = lv1.length := by rw [List.length_append, prts_len, hPL, lz]
                    refine ⟨_, rfl, e, _, dx, _, _, rfl, s5 _ _ heG, T.clEngine, T.nEngine_parts, rfl, _, rfl, l4, pv3, _, lv1.length, rfl, rfl, s5 _ _ v4, ?_, ?_⟩
                    · refine ixN_nat ?_
                      rw [vP.1, List.length_append, List.length_append, List.length_append, pl1]
                      show lv1.length < lv1.length + 1 + _ + _
                      omega
                    have v45 := s5 _ _ v4
                    have t5 : TX (upd H3 q5 (HO.tup [V.ref p1, V.ref p2])) (upd (upd H3 q5 (HO.tup [V.ref p1, V.ref p2])) l4 (.lst (pv3.set lv1.length (V.ref q5)))) := TX.put v45 fun _ z => by cases z
                    have t35 := (TX.same s5).trans t5
                    refine ⟨_, _, _, lv3, _, rfl, ((((kS.trans r1).trans v1).trans (Same2.same s5)).updy), ?_, ?_, upd_same, ?_, ?_⟩
                    · rw [upd_ne n4]
                      exact s5 _ _ (v1 _ _ (r1 _ _ k1 n3 n4) n3 n4)
                    · rw [upd_ne hn]
                      exact s5 _ _ v3
                    · have := vL.tx t35
                      rw [flat_take ht, inn]
                      rw [flat_opl] at this
                      simpa [flatB, Sm.inner] using this
                    · have e1 : nV (numsB (L ++ flatB (List.take i b) ++ [Sm.ite ex pa pb]).length [Sm.pl pa]) = nV (prt (.ite ex pa pb) lv1.length).1 := by
                        rw [mm]
                        cases pb <;> rfl
                      have e2 : nV (numsB (L ++ flatB (List.take i b) ++ [Sm.ite ex pa pb] ++ flatB [Sm.pl pa]).length (opl pb)) = nV (prt (.ite ex pa pb) lv1.length).2 := by
                        rw [List.length_append, mm]
                        cases pb <;> rfl
                      have := (vP.tx t35).set (q := prt (.ite ex pa pb) lv1.length) lv1.length (t5 _ _ upd_same) (by rw [← e1]; exact t35 _ _ (vT _ _ rp)) (by rw [← e2]; exact t35 _ _ vp)
                      have as4 : ∀ {α : Type} (a b c d : List α), a ++ b ++ c ++ d = a ++ (b ++ (c ++ d)) := fun a b c d => by rw [List.append_assoc, List.append_assoc]
                      rw [as4, ← pl1, List.set_append_right _ _ (Nat.le_refl _), Nat.sub_self] at this
                      rw [← pl1]
                      rw [flat_take ht, inn, prts_append, ← List.append_assoc]
                      have e3 : prts (L.length + (flatB (List.take i b)).length) (Sm.ite ex pa pb :: Sm.pl pa :: opl pb) = ([([], [])] ++ (prts (L ++ flatB (List.take i b) ++ [Sm.ite ex pa pb]).length (flatB [Sm.pl pa]) ++ prts (L ++ flatB (List.take i b) ++ [Sm.ite ex pa pb] ++ flatB [Sm.pl pa]).length (flatB (opl pb)))).set 0 (prt (Sm.ite ex pa pb) (P ++ prts L.length (flatB (List.take i b))).length) := by
                        rw [pl1, ← lz, flat_opl]
                        have mm2 : (L ++ flatB (List.take i b) ++ [Sm.ite ex pa pb] ++ flatB [Sm.pl pa]).length = lv1.length + 1 + 1 := by rw [List.length_append, mm]; rfl
                        rw [mm2, mm]
                        show prt (Sm.ite ex pa pb) lv1.length :: prts (lv1.length + 1) (Sm.pl pa :: opl pb) = prt (Sm.ite ex pa pb) lv1.length :: (prts (lv1.length + 1) [Sm.pl pa] ++ prts (lv1.length + 1 + 1) (opl pb))
                        rfl
                      rw [e3]
                      simpa only [List.append_assoc] using this
      · rintro σ H1 ⟨x4, x5, x6, lv1, pv1, rfl, s1, g1, g3, g4, gL, gP⟩
        rw [bl, List.take_length] at g1 gL gP
        refine ⟨_, rfl, nl, _, rfl, .inl ⟨SqL.of g1, fun p np => ?_⟩⟩
        have s2 := new_same (o := HO.tup (nV (numsB L.length b))) np
        exact k p _ lv1 pv1 (s1.trans (Same2.same s2)) (s2 _ _ g3) (s2 _ _ g4) (gL.tx (TX.same s2)) (gP.tx (TX.same s2)) upd_same
theorem met_numbered {f : Addr} {fd : FuncData} (F : FnP K "numbered" "Engine.numbered" s_Engine_numbered f fd) (T : Txt K mg) (me : Meth K (aEngine K) "numbered" f) : C8.Met P w K mg base 3 (aEngine K) "numbered" (spNum K 2) [] :=
  ⟨f, fd, _, [], T.clEngine, me, ok_numbered F T me 2, F.bindsN fun _ _ _ _ _ _ us hl => match us, hl with | [_, _, _], _ => rfl, .nil⟩
end
end NC
set_option Elab.async false
set_option linter.all false
set_option maxRecDepth 100000
set_option maxHeartbeats 4000000
/-! Walks of the engine: Engine.__init__. -/
namespace NC
open PySem PySem.Spec PyProof.Rows L2
theorem SameBut.trans {x : Addr} {H H1 H2 : Hp} (s : SameBut x H H1) (t : SameBut x H1 H2) : SameBut x H H2 := fun a o h n => t a o (s a o h n) n
theorem stg {H : Hp} {e p : Addr} {o u u0 : HO} (he : H e = some u0) (np : H p = none) : p ≠ e ∧ SameBut e H (upd (upd H p o) e u) ∧ upd (upd H p o) e u p = some o ∧ upd (upd H p o) e u e = some u := by
  have n : p ≠ e := fun z => by rw [z, he] at np; cases np
  exact ⟨n, fun a v h m => by rw [upd_ne m, upd_ne (ne_of_none h np)]; exact h, by rw [upd_ne n, upd_same], upd_same⟩
/-- all but what stands at l is as it was -/
def SameNot (l : List Addr) (H H' : Hp) : Prop := ∀ a o, H a = some o → a ∉ l → H' a = some o
theorem SameNot.refl (l : List Addr) (H : Hp) : SameNot l H H := fun _ _ h _ => h
theorem SameNot.trans {l : List Addr} {H H1 H2 : Hp} (s : SameNot l H H1) (t : SameNot l H1 H2) : SameNot l H H2 := fun a o h n => t a o (s a o h n) n
theorem SameNot.mono {l m : List Addr} {H H1 : Hp} (s : SameNot l H H1) (h : ∀ x ∈ l, x ∈ m) : SameNot m H H1 := fun a o g n => s a o g fun z => n (h a z)
theorem SameNot.same {l : List Addr} {H H' : Hp} (s : Same H H') : SameNot l H H' := fun a o h _ => s a o h
theorem SameNot.put {l : List Addr} {H H' : Hp} {x : Addr} {o : HO} (s : SameNot l H H') (hx : x ∈ l) : SameNot l H (upd H' x o) := fun a u h n => by rw [upd_ne (fun z => n (by rw [z]; exact hx))]; exact s a u h n
theorem none_upd {H : Hp} {p q : Addr} {o : HO} (h : upd H p o q = none) : H q = none := by
  by_cases z : q = p
  · rw [z, upd_same] at h; cases h
  · rwa [upd_ne z] at h
theorem SameNot.new {l : List Addr} {H H1 H2 : Hp} {p : Addr} (s : SameNot l H H1) (t : SameNot [p] H1 H2) (np : H p = none) : SameNot l H H2 := fun a o h n => t a o (s a o h n) fun z => ne_of_none h np (List.mem_singleton.mp z)
theorem SameNot.tx {l : List Addr} {H H' : Hp} (s : SameNot l H H') (h : ∀ x ∈ l, ∀ xs, H x ≠ some (.tup xs)) : TX H H' := fun a xs g => s a _ g fun z => h a z xs g
theorem SameNot.tx1 {x : Addr} {H H' : Hp} {u : HO} (s : SameNot [x] H H') (hx : H x = some u) (h : ∀ xs, u ≠ .tup xs) : TX H H' := s.tx fun y hy xs z => by rw [List.mem_singleton.mp hy, hx] at z; exact h xs (Option.some.inj z)
theorem SameNot.new' {l : List Addr} {H H1 H2 : Hp} {p : Addr} (s : SameNot l H H1) (t : SameNot [p] H1 H2) (np : H1 p = none) : SameNot l H H2 := fun a o h n => t a o (s a o h n) fun z => ne_of_none (s a o h n) np (List.mem_singleton.mp z)
theorem PrsAt.get {H : Hp} : ∀ {n : Nat} {ps : List Pr} {vs : List V} {i : Nat} {v : V}, PrsAt H n ps vs → vs[i]? = some v → ∃ p, ps[i]? = some p ∧ PrAt H (n + i) p v
  | n, [], vs, i, v, h, g => by
    obtain rfl : vs = [] := h
    simp at g
  | n, p :: r, vs, i, v, ⟨x, us, e, h1, h2⟩, g => by
    subst e
    cases i with
    | zero => exact ⟨p, rfl, by cases g; exact h1⟩
    | succ i =>
      obtain ⟨q, e1, e2⟩ := PrsAt.get (i := i) h2 g
      exact ⟨q, e1, by rw [← Nat.add_assoc, Nat.add_right_comm] ; exact e2⟩
theorem prts_get : ∀ (n : Nat) {L : List Sm} {i : Nat} {t : Sm}, L[i]? = some t → (prts n L)[i]? = some (prt t (n + i))
  | n, [], i, t, h => by simp at h
  | n, x :: r, 0, t, h => by cases h; rfl
  | n, x :: r, i + 1, t, h => by
    have := prts_get (n + 1) (L := r) (i := i) (t := t) h
    rw [Nat.add_assoc, Nat.add_comm 1] at this
    exact this
theorem PrsAt.length {H : Hp} : ∀ {n : Nat} {ps : List Pr} {vs : List V}, PrsAt H n ps vs → vs.length = ps.length
  | n, [], vs, h => by
    obtain rfl : vs = [] := h
    rfl
  | n, p :: r, vs, ⟨x, us, e, h1, h2⟩ => by
    subst e
    rw [List.length_cons, List.length_cons, PrsAt.length h2]
theorem putK_len {κ : Type} [DecidableEq κ] (c : List (κ × V)) (k : κ) (x : V) : (putK c k x).length ≤ c.length + 1 := by
  unfold putK
  split
  · rw [List.length_map]; omega
  · rw [List.length_append]; exact Nat.le_refl _
theorem inner_le (t : Sm) : t.inner.length ≤ 2 := by
  cases t with
  | pl _ => exact Nat.zero_le _
  | ask _ => exact Nat.zero_le _
  | ite _ _ b =>
    cases b with
    | none => exact Nat.le_succ 1
    | some _ => exact Nat.le_refl 2
theorem flatB_le : ∀ b : List Sm, (flatB b).length ≤ 3 * b.length
  | [] => Nat.le_refl _
  | t :: r => by
    have h1 := flatB_le r
    have h2 := inner_le t
    show (List.flatMap (fun t => t :: t.inner) (t :: r)).length ≤ _
    rw [List.flatMap_cons, List.length_append, List.length_cons, List.length_cons]
    show t.inner.length + 1 + (flatB r).length ≤ _
    omega
theorem linesOf_le : ∀ ps : List Pr, (∀ p ∈ ps, p.blk.length ≤ 4) → (linesOf ps).length ≤ 12 * ps.length
  | [], _ => Nat.le_refl _
  | p :: r, h => by
    have h1 := linesOf_le r fun q hq => h q (List.mem_cons_of_mem _ hq)
    have h2 := flatB_le p.blk
    have h3 := h p List.mem_cons_self
    show (List.flatMap (fun p => flatB p.blk) (p :: r)).length ≤ _
    rw [List.flatMap_cons, List.length_append, List.length_cons]
    show (flatB p.blk).length + (linesOf r).length ≤ _
    omega
theorem lines_take {ps : List Pr} {i : Nat} {p : Pr} (h : ps[i]? = some p) : linesOf (ps.take (i + 1)) = linesOf (ps.take i) ++ flatB p.blk := by
  rw [List.take_succ, h]
  show List.flatMap _ (_ ++ [p]) = _
  rw [List.flatMap_append, List.flatMap_cons, List.flatMap_nil, List.append_nil]
  rfl
/-- an asset list, a contract as the program reads them, ok -/
structure Cf.Ok (c : Cf) : Prop where
  x0 : c.x0 = 0 ∨ c.x0 = 1
  o0 : 0 ≤ c.o0 ∧ c.o0 ≤ 1
  hd : ∀ n, c.hd = some n → c.na = true ∧ 0 ≤ n ∧ n ≤ 2
  n2 : c.prs.length ≤ 2
  pr : ∀ p ∈ c.prs, 1 ≤ p.size ∧ p.size ≤ 3 ∧ p.blk.length ≤ 4 ∧ ∀ t ∈ p.blk, t.ok c.nv c.na = true
theorem Cf.Ok.assl (c : Cf) : (eAss c).length = (assD c.na).length := by
  unfold eAss assD
  cases c.na <;> rfl
section
variable {P : Program} {w : World} {K : PySem.W.Frag} {mg : Str → Option Value} {base : Heap}
def spEngine (K : PySem.W.Frag) : Sp := fun vs H Q _ => ∃ (e dx : Addr) (hv : V) (c : Cf), vs = [.ref e, hv] ∧ H e = some (.ins (aEngine K) dx []) ∧ HsAt K H c hv ∧ c.Ok ∧ ∀ H', SameBut e H H' → EnAt K H' e c → Q .non H'
theorem sc_Engine_init : FnScope ["self", "house", "index", "asset", "contract", "places", "place", "variable", "proc"] ["self", "house"] (defScope s_Engine_init) := ⟨rfl, rfl, rfl, by decide +kernel, rfl, by decide +kernel, by decide +kernel⟩
theorem ok_Engine {f : Addr} {fd : FuncData} (F : FnP K "__init__" "Engine.__init__" s_Engine_init f fd) (T : Txt K mg) (m_Engine_numbered : C8.Met P w K mg base 3 (aEngine K) "numbered" (spNum K 2) []) : FnOk P w K mg base CX0 4 f fd ["self", "house"] (spEngine K) := by
  refine F.ok sc_Engine_init (fun vs H Q E h => ?_) (fun cdv A outer s H vs Q E hr h => ?_)
  · obtain ⟨e, dx, hv, c, rfl, _⟩ := h
    rfl
  · obtain ⟨e, dx, hv, c, rfl, he, hh, co, k⟩ := h
    have hu := hu_of hr
    refine ⟨_, PSs.nox ((pss_cons (ps_fld (pv 0) (pv 1) rfl)
      (pss_cons (ps_fld (pv 0) pe_dnewK rfl)
      (pss_cons (ps_fld (pv 0) pe_dnewK rfl)
      (pss_cons (ps_fld (pv 0) pe_dnewT rfl)
      (pss_cons (ps_fld (pv 0) (pe_lst pa_nil) rfl)
      (pss_cons (ps_fld (pv 0) (pe_lst pa_nil) rfl)
      (pss_cons (ps_fld (pv 0) (pe_lst pa_nil) rfl)
      (pss_cons (ps_fld (pv 0) (pe_lst pa_nil) rfl)
      (pss_cons (ps_fld (pv 0) pe_dnewT rfl)
      (pss_cons (ps_for PassesOwn.never rfl (pi_enumT rfl T.enumerate (pa_cons (pe_fld (pv 1) rfl) pa_nil)) (pg_tup rfl (pgs_cons (pg_name (i := 2) sc_Engine_init.nd rfl (Or.inl rfl)) (pgs_cons (pg_name (i := 3) sc_Engine_init.nd rfl (Or.inl rfl)) pgs_nil))) (pss_one (ps_dput hu (pe_fld (pv 0) rfl) (pe_ix ix_tup (pv 3) pe_int (fun _ _ => rfl)) (pv 2) rfl)))
      (pss_one (ps_for PassesOwn.never rfl (pi_enumT rfl T.enumerate (pa_cons (pe_fld (pv 1) rfl) pa_nil)) (pg_tup rfl (pgs_cons (pg_name (i := 2) sc_Engine_init.nd rfl (Or.inl rfl)) (pgs_cons (pg_name (i := 4) sc_Engine_init.nd rfl (Or.inl rfl)) pgs_nil))) (pss_cons (ps_dput hu (pe_fld (pv 0) rfl) (pe_ix ix_tup (pv 4) pe_int (fun _ _ => rfl)) (pv 2) rfl)
      (pss_cons (ps_set (i := 5) sc_Engine_init.nd rfl (Or.inl rfl) pe_dnewK)
      (pss_cons (ps_for PassesOwn.never rfl (pi_enumT rfl T.enumerate (pa_cons (pe_ix ix_tup (pv 4) pe_int (fun _ _ => rfl)) pa_nil)) (pg_tup rfl (pgs_cons (pg_name (i := 6) sc_Engine_init.nd rfl (Or.inl rfl)) (pgs_cons (pg_name (i := 7) sc_Engine_init.nd rfl (Or.inl rfl)) pgs_nil))) (pss_one (ps_dput hu (pv 5) (pe_ix ix_tup (pv 7) pe_int (fun _ _ => rfl)) (pv 6) rfl)))
      (pss_cons (ps_expr (pe_bm PySem.F.plainAttrs_list PySem.F.slot_list_append PySem.F.type_list_append mt_append (pe_fld (pv 0) rfl) (pa_cons (pv 5) pa_nil)))
      (pss_cons (ps_expr (pe_bm PySem.F.plainAttrs_list PySem.F.slot_list_append PySem.F.type_list_append mt_append (pe_fld (pv 0) rfl) (pa_cons (pe_lc (own := [("variable", 7)]) rfl sc_Engine_init.nd (pi_tup (pe_ix ix_tup (pv 4) pe_int (fun _ _ => rfl))) (blkOk_by (own := [("variable", 7)]) (N := ["self", "house", "index", "asset", "contract", "places", "place", "variable", "proc"]) (sc := defScope s_Engine_init) (by decide +kernel)) (fun _ _ _ _ _ => (pg_name (i := 7) sc_Engine_init.nd rfl (Or.inl rfl))) (fun _ _ _ _ _ => pts_nil) (fun _ _ _ _ _ => (pe_ix (ix_tupK (K := K) rfl) (pv 7) pe_int (fun _ _ => rfl)))) pa_nil)))
      (pss_one (ps_for PassesOwn.never rfl (pi_tup (pe_ix ix_tup (pv 4) pe_int (fun _ _ => rfl))) (pg_name (i := 8) sc_Engine_init.nd rfl (Or.inl rfl)) (pss_cons (ps_dput hu (pe_fld (pv 0) rfl) (pe_tup (pa_cons (pe_ix ix_tup (pv 4) pe_int (fun _ _ => rfl)) (pa_cons (pe_ix ix_tup (pv 8) pe_int (fun _ _ => rfl)) pa_nil))) (pv 8) rfl)
      (pss_one (ps_dput hu (pe_fld (pv 0) rfl) (pe_tup (pa_cons (pe_ix ix_tup (pv 4) pe_int (fun _ _ => rfl)) (pa_cons (pe_ix ix_tup (pv 8) pe_int (fun _ _ => rfl)) pa_nil))) (C8.pe_mt m_Engine_numbered hr (by decide) (pv 0) (pa_cons (pv 2) (pa_cons (pe_ix ix_tup (pv 8) pe_int (fun _ _ => rfl)) pa_nil))) rfl))))))))))))))))))))))), ?_⟩
    refine ⟨_, rfl, _, rfl, e, _, dx, _, rfl, he, T.clEngine, T.nEngine_house, dok rfl, ?_⟩
    obtain ⟨H0, w0⟩ : ∃ X, X = upd H e (.ins (aEngine K) dx (putF "house" hv [])) := ⟨_, rfl⟩
    have b0 : SameBut e H H0 := by rw [w0]; exact (SameBut.refl e H).upd
    have g0 : H0 e = some (.ins (aEngine K) dx (putF "house" hv [])) := by rw [w0, upd_same]
    rw [← w0]
    refine fun d1 nd1 => ⟨_, rfl, e, _, dx, _, rfl, new_same nd1 _ _ g0, T.clEngine, T.nEngine_assets, dok rfl, ?_⟩
    obtain ⟨H1, w1⟩ : ∃ X, X = upd (upd H0 d1 (.dK [])) e (.ins (aEngine K) dx (putF "assets" (.ref d1) (putF "house" hv []))) := ⟨_, rfl⟩
    obtain ⟨ed1, b1, cd1, g1⟩ := stg (o := .dK []) (u := .ins (aEngine K) dx (putF "assets" (.ref d1) (putF "house" hv []))) g0 nd1
    rw [← w1] at b1 cd1 g1
    rw [← w1]
    have f_d1 : ∀ (a : Addr) (o : HO), H a = some o → a ≠ d1 := fun a o h z => by
      by_cases y : a = e
      · exact ed1 (z.symm.trans y)
      · exact ne_of_none (b0 a o h y) nd1 z
    have B1 := b0.trans b1
    refine fun d2 nd2 => ⟨_, rfl, e, _, dx, _, rfl, new_same nd2 _ _ g1, T.clEngine, T.nEngine_contracts, dok rfl, ?_⟩
    obtain ⟨H2, w2⟩ : ∃ X, X = upd (upd H1 d2 (.dK [])) e (.ins (aEngine K) dx (putF "contracts" (.ref d2) (putF "assets" (.ref d1) (putF "house" hv [])))) := ⟨_, rfl⟩
    obtain ⟨ed2, b2, cd2, g2⟩ := stg (o := .dK []) (u := .ins (aEngine K) dx (putF "contracts" (.ref d2) (putF "assets" (.ref d1) (putF "house" hv [])))) g1 nd2
    rw [← w2] at b2 cd2 g2
    rw [← w2]
    have f_d2 : ∀ (a : Addr) (o : HO), H a = some o → a ≠ d2 := fun a o h z => by
      by_cases y : a = e
      · exact ed2 (z.symm.trans y)
      · exact ne_of_none (B1 a o h y) nd2 z
    have B2 := B1.trans b2
    have m_d1_d2 : d1 ≠ d2 := ne_of_none cd1 nd2
    replace cd1 := b2 _ _ cd1 ed1
    refine fun d3 nd3 => ⟨_, rfl, e, _, dx, _, rfl, new_same nd3 _ _ g2, T.clEngine, T.nEngine_procs, dok rfl, ?_⟩
    obtain ⟨H3, w3⟩ : ∃ X, X = upd (upd H2 d3 (.dT [])) e (.ins (aEngine K) dx (putF "procs" (.ref d3) (putF "contracts" (.ref d2) (putF "assets" (.ref d1) (putF "house" hv []))))) := ⟨_, rfl⟩
    obtain ⟨ed3, b3, cd3, g3⟩ := stg (o := .dT []) (u := .ins (aEngine K) dx (putF "procs" (.ref d3) (putF "contracts" (.ref d2) (putF "assets" (.ref d1) (putF "house" hv []))))) g2 nd3
    rw [← w3] at b3 cd3 g3
    rw [← w3]
    have f_d3 : ∀ (a : Addr) (o : HO), H a = some o → a ≠ d3 := fun a o h z => by
      by_cases y : a = e
      · exact ed3 (z.symm.trans y)
      · exact ne_of_none (B2 a o h y) nd3 z
    have B3 := B2.trans b3
    have m_d1_d3 : d1 ≠ d3 := ne_of_none cd1 nd3
    have m_d2_d3 : d2 ≠ d3 := ne_of_none cd2 nd3
    replace cd1 := b3 _ _ cd1 ed1
    replace cd2 := b3 _ _ cd2 ed2
    refine ⟨(by show 0 ≤ sizeLine; decide), fun l1 nl1 => ⟨_, rfl, e, _, dx, _, rfl, new_same nl1 _ _ g3, T.clEngine, T.nEngine_places, dok rfl, ?_⟩⟩
    obtain ⟨H4, w4⟩ : ∃ X, X = upd (upd H3 l1 (.lst [])) e (.ins (aEngine K) dx (putF "places" (.ref l1) (putF "procs" (.ref d3) (putF "contracts" (.ref d2) (putF "assets" (.ref d1) (putF "house" hv [])))))) := ⟨_, rfl⟩
    obtain ⟨el1, b4, cl1, g4⟩ := stg (o := .lst []) (u := .ins (aEngine K) dx (putF "places" (.ref l1) (putF "procs" (.ref d3) (putF "contracts" (.ref d2) (putF "assets" (.ref d1) (putF "house" hv [])))))) g3 nl1
    rw [← w4] at b4 cl1 g4
    rw [← w4]
    have f_l1 : ∀ (a : Addr) (o : HO), H a = some o → a ≠ l1 := fun a o h z => by
      by_cases y : a = e
      · exact el1 (z.symm.trans y)
      · exact ne_of_none (B3 a o h y) nl1 z
    have B4 := B3.trans b4
    have m_d1_l1 : d1 ≠ l1 := ne_of_none cd1 nl1
    have m_d2_l1 : d2 ≠ l1 := ne_of_none cd2 nl1
    have m_d3_l1 : d3 ≠ l1 := ne_of_none cd3 nl1
    replace cd1 := b4 _ _ cd1 ed1
    replace cd2 := b4 _ _ cd2 ed2
    replace cd3 := b4 _ _ cd3 ed3
    refine ⟨(by show 0 ≤ sizeLine; decide), fun l2 nl2 => ⟨_, rfl, e, _, dx, _, rfl, new_same nl2 _ _ g4, T.clEngine, T.nEngine_sizes, dok rfl, ?_⟩⟩
    obtain ⟨H5, w5⟩ : ∃ X, X = upd (upd H4 l2 (.lst [])) e (.ins (aEngine K) dx (putF "sizes" (.ref l2) (putF "places" (.ref l1) (putF "procs" (.ref d3) (putF "contracts" (.ref d2) (putF "assets" (.ref d1) (putF "house" hv []))))))) := ⟨_, rfl⟩
    obtain ⟨el2, b5, cl2, g5⟩ := stg (o := .lst []) (u := .ins (aEngine K) dx (putF "sizes" (.ref l2) (putF "places" (.ref l1) (putF "procs" (.ref d3) (putF "contracts" (.ref d2) (putF "assets" (.ref d1) (putF "house" hv []))))))) g4 nl2
    rw [← w5] at b5 cl2 g5
    rw [← w5]
    have f_l2 : ∀ (a : Addr) (o : HO), H a = some o → a ≠ l2 := fun a o h z => by
      by_cases y : a = e
      · exact el2 (z.symm.trans y)
      · exact ne_of_none (B4 a o h y) nl2 z
    have B5 := B4.trans b5
    have m_d1_l2 : d1 ≠ l2 := ne_of_none cd1 nl2
    have m_d2_l2 : d2 ≠ l2 := ne_of_none cd2 nl2
    have m_d3_l2 : d3 ≠ l2 := ne_of_none cd3 nl2
    have m_l1_l2 : l1 ≠ l2 := ne_of_none cl1 nl2
    replace cd1 := b5 _ _ cd1 ed1
    replace cd2 := b5 _ _ cd2 ed2
    replace cd3 := b5 _ _ cd3 ed3
    replace cl1 := b5 _ _ cl1 el1
    refine ⟨(by show 0 ≤ sizeLine; decide), fun l3 nl3 => ⟨_, rfl, e, _, dx, _, rfl, new_same nl3 _ _ g5, T.clEngine, T.nEngine_lines, dok rfl, ?_⟩⟩
    obtain ⟨H6, w6⟩ : ∃ X, X = upd (upd H5 l3 (.lst [])) e (.ins (aEngine K) dx (putF "lines" (.ref l3) (putF "sizes" (.ref l2) (putF "places" (.ref l1) (putF "procs" (.ref d3) (putF "contracts" (.ref d2) (putF "assets" (.ref d1) (putF "house" hv [])))))))) := ⟨_, rfl⟩
    obtain ⟨el3, b6, cl3, g6⟩ := stg (o := .lst []) (u := .ins (aEngine K) dx (putF "lines" (.ref l3) (putF "sizes" (.ref l2) (putF "places" (.ref l1) (putF "procs" (.ref d3) (putF "contracts" (.ref d2) (putF "assets" (.ref d1) (putF "house" hv [])))))))) g5 nl3
    rw [← w6] at b6 cl3 g6
    rw [← w6]
    have f_l3 : ∀ (a : Addr) (o : HO), H a = some o → a ≠ l3 := fun a o h z => by
      by_cases y : a = e
      · exact el3 (z.symm.trans y)
      · exact ne_of_none (B5 a o h y) nl3 z
    have B6 := B5.trans b6
    have m_d1_l3 : d1 ≠ l3 := ne_of_none cd1 nl3
    have m_d2_l3 : d2 ≠ l3 := ne_of_none cd2 nl3
    have m_d3_l3 : d3 ≠ l3 := ne_of_none cd3 nl3
    have m_l1_l3 : l1 ≠ l3 := ne_of_none cl1 nl3
    have m_l2_l3 : l2 ≠ l3 := ne_of_none cl2 nl3
    replace cd1 := b6 _ _ cd1 ed1
    replace cd2 := b6 _ _ cd2 ed2
    replace cd3 := b6 _ _ cd3 ed3
    replace cl1 := b6 _ _ cl1 el1
    replace cl2 := b6 _ _ cl2 el2
    refine ⟨(by show 0 ≤ sizeLine; decide), fun l4 nl4 => ⟨_, rfl, e, _, dx, _, rfl, new_same nl4 _ _ g6, T.clEngine, T.nEngine_parts, dok rfl, ?_⟩⟩
    obtain ⟨H7, w7⟩ : ∃ X, X = upd (upd H6 l4 (.lst [])) e (.ins (aEngine K) dx (putF "parts" (.ref l4) (putF "lines" (.ref l3) (putF "sizes" (.ref l2) (putF "places" (.ref l1) (putF "procs" (.ref d3) (putF "contracts" (.ref d2) (putF "assets" (.ref d1) (putF "house" hv []))))))))) := ⟨_, rfl⟩
    obtain ⟨el4, b7, cl4, g7⟩ := stg (o := .lst []) (u := .ins (aEngine K) dx (putF "parts" (.ref l4) (putF "lines" (.ref l3) (putF "sizes" (.ref l2) (putF "places" (.ref l1) (putF "procs" (.ref d3) (putF "contracts" (.ref d2) (putF "assets" (.ref d1) (putF "house" hv []))))))))) g6 nl4
    rw [← w7] at b7 cl4 g7
    rw [← w7]
    have f_l4 : ∀ (a : Addr) (o : HO), H a = some o → a ≠ l4 := fun a o h z => by
      by_cases y : a = e
      · exact el4 (z.symm.trans y)
      · exact ne_of_none (B6 a o h y) nl4 z
    have B7 := B6.trans b7
    have m_d1_l4 : d1 ≠ l4 := ne_of_none cd1 nl4
    have m_d2_l4 : d2 ≠ l4 := ne_of_none cd2 nl4
    have m_d3_l4 : d3 ≠ l4 := ne_of_none cd3 nl4
    have m_l1_l4 : l1 ≠ l4 := ne_of_none cl1 nl4
    have m_l2_l4 : l2 ≠ l4 := ne_of_none cl2 nl4
    have m_l3_l4 : l3 ≠ l4 := ne_of_none cl3 nl4
    replace cd1 := b7 _ _ cd1 ed1
    replace cd2 := b7 _ _ cd2 ed2
    replace cd3 := b7 _ _ cd3 ed3
    replace cl1 := b7 _ _ cl1 el1
    replace cl2 := b7 _ _ cl2 el2
    replace cl3 := b7 _ _ cl3 el3
    refine fun d4 nd4 => ⟨_, rfl, e, _, dx, _, rfl, new_same nd4 _ _ g7, T.clEngine, T.nEngine_bodies, dok rfl, ?_⟩
    obtain ⟨H8, w8⟩ : ∃ X, X = upd (upd H7 d4 (.dT [])) e (.ins (aEngine K) dx (putF "bodies" (.ref d4) (putF "parts" (.ref l4) (putF "lines" (.ref l3) (putF "sizes" (.ref l2) (putF "places" (.ref l1) (putF "procs" (.ref d3) (putF "contracts" (.ref d2) (putF "assets" (.ref d1) (putF "house" hv [])))))))))) := ⟨_, rfl⟩
    obtain ⟨ed4, b8, cd4, g8⟩ := stg (o := .dT []) (u := .ins (aEngine K) dx (putF "bodies" (.ref d4) (putF "parts" (.ref l4) (putF "lines" (.ref l3) (putF "sizes" (.ref l2) (putF "places" (.ref l1) (putF "procs" (.ref d3) (putF "contracts" (.ref d2) (putF "assets" (.ref d1) (putF "house" hv [])))))))))) g7 nd4
    rw [← w8] at b8 cd4 g8
    rw [← w8]
    have f_d4 : ∀ (a : Addr) (o : HO), H a = some o → a ≠ d4 := fun a o h z => by
      by_cases y : a = e
      · exact ed4 (z.symm.trans y)
      · exact ne_of_none (B7 a o h y) nd4 z
    have B8 := B7.trans b8
    have m_d1_d4 : d1 ≠ d4 := ne_of_none cd1 nd4
    have m_d2_d4 : d2 ≠ d4 := ne_of_none cd2 nd4
    have m_d3_d4 : d3 ≠ d4 := ne_of_none cd3 nd4
    have m_l1_d4 : l1 ≠ d4 := ne_of_none cl1 nd4
    have m_l2_d4 : l2 ≠ d4 := ne_of_none cl2 nd4
    have m_l3_d4 : l3 ≠ d4 := ne_of_none cl3 nd4
    have m_l4_d4 : l4 ≠ d4 := ne_of_none cl4 nd4
    replace cd1 := b8 _ _ cd1 ed1
    replace cd2 := b8 _ _ cd2 ed2
    replace cd3 := b8 _ _ cd3 ed3
    replace cl1 := b8 _ _ cl1 el1
    replace cl2 := b8 _ _ cl2 el2
    replace cl3 := b8 _ _ cl3 el3
    replace cl4 := b8 _ _ cl4 el4
    have bb : SameBut e H H8 := B8
    have ge : H8 e = some (.ins (aEngine K) dx (eFs hv d1 d2 d3 l1 l2 l3 l4 d4)) := g8
    clear w0 w1 w2 w3 w4 w5 w6 w7 w8 b0 b1 b2 b3 b4 b5 b6 b7 b8 g0 g1 g2 g3 g4 g5 g6 g7 g8
    obtain ⟨ha, hdx, as, cs, ct, avs, rfl, h1, h2, h3, h4, h5⟩ := hh
    have ha0 : ha ≠ e := fun z => by
      rw [z, he] at h1
      have h9 := HO.ins.inj (Option.some.inj h1)
      cases h9.2.2
    have ha8 := bb _ _ h1 ha0
    have as8 := bb _ _ h2 (fun z => by rw [z, he] at h2; cases h2)
    have cs8 := bb _ _ h4 (fun z => by rw [z, he] at h4; cases h4)
    have tx8 : TX H H8 := fun a o h => bb _ _ h (fun z => by rw [z, he] at h; cases h)
    have avl : avs.length = (assD c.na).length := by rw [← h3.length, Cf.Ok.assl]
    refine ⟨_, rfl, ha, _, hdx, _, _, rfl, ha8, T.clHouse, T.nHouse_assets, rfl, as, avs, rfl, SqT.of as8, for_it walk_pair (fun i σ H1 => ∃ x2 x3 x4 x5 x6 x7 x8, σ = [some (.ref e), some (.ref ha), x2, x3, x4, x5, x6, x7, x8] ∧ SameNot [d1] H8 H1 ∧ H1 d1 = some (.dK ((assD c.na).take i)))
      ⟨_, _, _, _, _, _, _, rfl, SameNot.refl _ _, cd1⟩ (fun i σ H1 _ ⟨_, _, _, _, _, _, _, _, s1, _⟩ => SqT.of (s1 _ _ as8 fun z => by rw [List.mem_singleton.mp z, cd1] at as8; cases as8)) ?_ ?_⟩
    · rintro i x σ H1 H2 hi ⟨x2, x3, x4, x5, x6, x7, x8, rfl, s1, q1⟩ ⟨tp, y1, y2, rfl, ntp, rfl, rfl, hy⟩
      have na : c.na = true := by
        cases z : c.na with
        | true => rfl
        | false => rw [avl, z] at hi; cases hi
      have i0 : i = 0 := by rw [avl, na] at hi; show i = 0; have : i < 1 := hi; omega
      subst i0
      have t1 : TX H8 H1 := fun a o h => s1 _ _ h fun z => by rw [List.mem_singleton.mp z, cd1] at h; cases h
      obtain ⟨v0, e1, e2⟩ := h3.get (i := 0) (k := .tup [.text "a", .num c.o0]) (by unfold eAss; rw [na]; rfl)
      rw [hy] at e1
      cases e1
      have st := new_same (o := HO.tup [V.int (0 : Nat), y2]) ntp
      cases NK.tx (tx8.trans (t1.trans (TX.same st))) _ _ e2 with
      | @tup ta _ _ k1 k2 =>
        cases k2 with
        | cons k3 k4 =>
          cases k3
          refine ⟨tp, _, rfl, SqT.of upd_same, rfl, _, _, rfl, _, _, rfl, rfl, ?_⟩
          have sg := s1 _ _ ge fun z => by rw [List.mem_singleton.mp z, cd1] at ge; cases ge
          refine ⟨_, rfl, _, rfl, e, _, dx, _, _, rfl, st _ _ sg, T.clEngine, T.nEngine_assets, rfl, _, rfl, ta, _, 0, _, rfl, rfl, SqT.of k1, at_of (j := 0) rfl rfl, d1, _, rfl, DPut.k (k := Sum.inr "a") (st _ _ q1) (by show 0 < sizeLine; decide), ?_⟩
          exact ⟨_, _, _, _, _, _, _, rfl, (s1.trans (SameNot.same st)).put (List.mem_singleton_self d1), by rw [upd_same, na]; rfl⟩
    · rintro σ HA ⟨x2, x3, x4, x5, x6, x7, x8, rfl, sA, q1⟩
      rw [avl, List.take_length] at q1
      have nsg : ∀ {a : Addr} {o : HO}, H8 a = some o → a ≠ d1 → HA a = some o := fun h n => sA _ _ h fun z => n (List.mem_singleton.mp z)
      have geA := nsg ge (fun z => by rw [z, cd1] at ge; cases ge)
      have txA : TX H HA := tx8.trans fun a o h => nsg h fun z => by rw [z, cd1] at h; cases h
      have cd2 := nsg cd2 (Ne.symm m_d1_d2)
      have cd3 := nsg cd3 (Ne.symm m_d1_d3)
      have cl1 := nsg cl1 (Ne.symm m_d1_l1)
      have cl2 := nsg cl2 (Ne.symm m_d1_l2)
      have cl3 := nsg cl3 (Ne.symm m_d1_l3)
      have cl4 := nsg cl4 (Ne.symm m_d1_l4)
      have cd4 := nsg cd4 (Ne.symm m_d1_d4)
      have haA := nsg ha8 (fun z => by rw [z, cd1] at ha8; cases ha8)
      have bA : SameBut e H HA := fun a o h n => nsg (bb a o h n) (f_d1 a o h)
      clear nsg sA bb cd1 ge ha8 as8 cs8
      refine ⟨_, rfl, ha, _, hdx, _, _, rfl, haA, T.clHouse, T.nHouse_contracts, rfl, cs, _, rfl, SqT.of (txA _ _ h4), for_it walk_pair (fun i σ H1 => ∃ x2 x3 x4 x5 x6 x7 x8, σ = [some (.ref e), some (.ref ha), x2, x3, x4, x5, x6, x7, x8] ∧ TX H H1 ∧ ((i = 0 ∧ H1 = HA) ∨ (i = 1 ∧ SameBut e H H1 ∧ EnAt K H1 e c)))
        ⟨_, _, _, _, _, _, _, rfl, txA, .inl ⟨rfl, rfl⟩⟩ (fun i σ H1 _ ⟨_, _, _, _, _, _, _, _, s1, _⟩ => SqT.of (s1 _ _ h4)) ?_ ?_⟩
      · rintro i x σ H1 H2 hi ⟨x2, x3, x4, x5, x6, x7, x8, rfl, _, ⟨rfl, eHA⟩ | ⟨rfl, _⟩⟩ ⟨tp, y1, y2, rfl, ntp, rfl, rfl, hy⟩
        case inr => exact absurd hi (Nat.lt_irrefl 1)
        have eHA := eHA.symm
        subst eHA
        obtain rfl : ct = y2 := Option.some.inj hy
        obtain ⟨ca, av, ah, ap, pvs, rfl, i1, i2, i3, i4, i5⟩ := h5
        have L0 : ∀ x ∈ [d2, d3, l1, l2, l3, l4, d4], ∀ xs, HA x ≠ some (.tup xs) := by
          intro x hx xs z
          simp only [List.mem_cons, List.not_mem_nil, or_false] at hx
          rcases hx with rfl | rfl | rfl | rfl | rfl | rfl | rfl
          · rw [cd2] at z; cases z
          · rw [cd3] at z; cases z
          · rw [cl1] at z; cases z
          · rw [cl2] at z; cases z
          · rw [cl3] at z; cases z
          · rw [cl4] at z; cases z
          · rw [cd4] at z; cases z
        have s0 := new_same (o := HO.tup [V.int (0 : Nat), V.ref ca]) ntp
        refine ⟨tp, _, rfl, SqT.of upd_same, rfl, _, _, rfl, _, _, rfl, rfl, ?_⟩
        -- the contract's index
        refine ⟨_, rfl, _, rfl, e, _, dx, _, _, rfl, s0 _ _ geA, T.clEngine, T.nEngine_contracts, rfl, _, rfl, ca, _, 0, _, rfl, rfl, SqT.of (s0 _ _ (txA _ _ i1)), at_of (j := 0) rfl rfl, d2, _, rfl, DPut.k (k := Sum.inr "c") (s0 _ _ cd2) (by show 0 < sizeLine; decide), ?_⟩
        have r1 : SameNot [d2, d3, l1, l2, l3, l4, d4] HA (upd (upd HA tp (HO.tup [V.int (0 : Nat), V.ref ca])) d2 (.dK (putK [] (Sum.inr "c") (V.int (0 : Nat))))) := (SameNot.same s0).put (by simp)
        have w1 : ∀ q, upd (upd HA tp (HO.tup [V.int (0 : Nat), V.ref ca])) d2 (.dK (putK [] (Sum.inr "c") (V.int (0 : Nat)))) q = none → HA q = none := fun q z => none_upd (none_upd z)
        have r1n : ∀ (a : Addr) (o : HO), HA a = some o → a ≠ d2 → upd (upd HA tp (HO.tup [V.int (0 : Nat), V.ref ca])) d2 (.dK (putK [] (Sum.inr "c") (V.int (0 : Nat)))) a = some o := fun a o h n => by rw [upd_ne n]; exact s0 _ _ h
        generalize upd (upd HA tp (HO.tup [V.int (0 : Nat), V.ref ca])) d2 (.dK (putK [] (Sum.inr "c") (V.int (0 : Nat)))) = S1 at r1 w1 r1n ⊢
        replace cl1 := r1n _ _ cl1 (Ne.symm m_d2_l1)
        replace cl2 := r1n _ _ cl2 (Ne.symm m_d2_l2)
        replace cl3 := r1n _ _ cl3 (Ne.symm m_d2_l3)
        replace cl4 := r1n _ _ cl4 (Ne.symm m_d2_l4)
        replace cd3 := r1n _ _ cd3 (Ne.symm m_d2_d3)
        replace cd4 := r1n _ _ cd4 (Ne.symm m_d2_d4)
        -- the places
        refine fun dp ndp => ?_
        have ndA := w1 _ ndp
        have p_l1 : l1 ≠ dp := ne_of_none cl1 ndp
        have p_l2 : l2 ≠ dp := ne_of_none cl2 ndp
        have p_l3 : l3 ≠ dp := ne_of_none cl3 ndp
        have p_l4 : l4 ≠ dp := ne_of_none cl4 ndp
        have p_d3 : d3 ≠ dp := ne_of_none cd3 ndp
        have p_d4 : d4 ≠ dp := ne_of_none cd4 ndp
        have s2 := new_same (o := HO.dK []) ndp
        have r2 := r1.trans (SameNot.same s2)
        have t2 := r2.tx L0
        have k2 : upd S1 dp (.dK []) dp = some (.dK []) := upd_same
        replace cl1 := s2 _ _ cl1
        replace cl2 := s2 _ _ cl2
        replace cl3 := s2 _ _ cl3
        replace cl4 := s2 _ _ cl4
        replace cd3 := s2 _ _ cd3
        replace cd4 := s2 _ _ cd4
        generalize upd S1 dp (.dK []) = S2 at r2 t2 k2 s2 cl1 cl2 cl3 cl4 cd3 cd4 ⊢
        obtain ⟨ava, vvs, rfl, j1, j2⟩ : ∃ a vs, av = V.ref a ∧ H a = some (HO.tup vs) ∧ NKs H (if c.nv then [.tup [.text "x", .num 2, .num c.x0]] else []) vs := by
          cases i2 with
          | tup z1 z2 => exact ⟨_, _, rfl, z1, z2⟩
        have vl : vvs.length = (varD c.nv).length := by
          rw [← j2.length]
          unfold varD
          cases c.nv <;> rfl
        have tH2 := txA.trans t2
        have g2 : S2 e = some (.ins (aEngine K) dx (eFs (V.ref ha) d1 d2 d3 l1 l2 l3 l4 d4)) := r2 _ _ geA (by simp only [List.mem_cons, List.not_mem_nil, or_false, not_or]; exact ⟨Ne.symm ed2, Ne.symm ed3, Ne.symm el1, Ne.symm el2, Ne.symm el3, Ne.symm el4, Ne.symm ed4⟩)
        refine ⟨_, rfl, ca, _, 1, _, rfl, rfl, SqT.of (tH2 _ _ i1), at_of (j := 1) rfl rfl, ava, vvs, rfl, SqT.of (tH2 _ _ j1), for_it walk_pair (fun i σ H1 => ∃ x3 x6 x7 x8, σ = [some (.ref e), some (.ref ha), some (.int 0), x3, some (.ref ca), some (.ref dp), x6, x7, x8] ∧ SameNot [dp] S2 H1 ∧ H1 dp = some (.dK ((varD c.nv).take i)))
          ⟨_, _, _, _, rfl, SameNot.refl _ _, k2⟩ (fun i σ H1 _ ⟨_, _, _, _, _, s1, _⟩ => SqT.of ((s1.tx1 k2 (fun _ z => by cases z)) _ _ (tH2 _ _ j1))) ?_ ?_⟩
        · rintro i x σ H1 H2 hi ⟨x3, x6, x7, x8, rfl, s1, q1⟩ ⟨tp, y1, y2, rfl, ntp, rfl, rfl, hy⟩
          have nv : c.nv = true := by
            cases z : c.nv with
            | true => rfl
            | false => rw [vl, z] at hi; cases hi
          have i0 : i = 0 := by rw [vl, nv] at hi; have : i < 1 := hi; omega
          subst i0
          have t1 := s1.tx1 k2 (fun _ z => by cases z)
          obtain ⟨v0, e1, e2⟩ := j2.get (i := 0) (k := .tup [.text "x", .num 2, .num c.x0]) (by rw [nv]; rfl)
          rw [hy] at e1
          cases e1
          have st := new_same (o := HO.tup [V.int (0 : Nat), y2]) ntp
          cases NK.tx (tH2.trans (t1.trans (TX.same st))) _ _ e2 with
          | @tup ta _ _ k1 k2 =>
            cases k2 with
            | cons k3 k4 =>
              cases k3
              refine ⟨tp, _, rfl, SqT.of upd_same, rfl, _, _, rfl, _, _, rfl, rfl, ?_⟩
              refine ⟨_, rfl, _, rfl, _, rfl, ta, _, 0, _, rfl, rfl, SqT.of k1, at_of (j := 0) rfl rfl, dp, _, rfl, DPut.k (k := Sum.inr "x") (st _ _ q1) (by show 0 < sizeLine; decide), ?_⟩
              exact ⟨_, _, _, _, rfl, (s1.trans (SameNot.same st)).put (List.mem_singleton_self dp), by rw [upd_same, nv]; rfl⟩
        rintro σ S3 ⟨x3, x6, x7, x8, rfl, s3, q3⟩
        rw [vl, List.take_length] at q3
        have r3 := r2.new s3 ndA
        have t3 := txA.trans (r3.tx L0)
        have nsp : ∀ {a : Addr} {o : HO}, S2 a = some o → a ≠ dp → S3 a = some o := fun h n => s3 _ _ h fun z => n (List.mem_singleton.mp z)
        replace cl1 := nsp cl1 p_l1
        replace cl2 := nsp cl2 p_l2
        replace cl3 := nsp cl3 p_l3
        replace cl4 := nsp cl4 p_l4
        replace cd3 := nsp cd3 p_d3
        replace cd4 := nsp cd4 p_d4
        have eL : e ∉ [d2, d3, l1, l2, l3, l4, d4] := by simp only [List.mem_cons, List.not_mem_nil, or_false, not_or]; exact ⟨Ne.symm ed2, Ne.symm ed3, Ne.symm el1, Ne.symm el2, Ne.symm el3, Ne.symm el4, Ne.symm ed4⟩
        have dL : d1 ∉ [d2, d3, l1, l2, l3, l4, d4] := by simp only [List.mem_cons, List.not_mem_nil, or_false, not_or]; exact ⟨m_d1_d2, m_d1_d3, m_d1_l1, m_d1_l2, m_d1_l3, m_d1_l4, m_d1_d4⟩
        -- places
        refine ⟨_, rfl, e, _, dx, _, _, rfl, r3 _ _ geA eL, T.clEngine, T.nEngine_places, rfl, .inl ⟨rfl, _, SqL.of cl1⟩, _, rfl, l1, _, _, rfl, rfl, cl1, (by show 0 < sizeLine; decide), ?_⟩
        have r4 : SameNot [d2, d3, l1, l2, l3, l4, d4] HA (upd S3 l1 (.lst ([] ++ [V.ref dp]))) := r3.put (by simp)
        have q4 : upd S3 l1 (.lst ([] ++ [V.ref dp])) l1 = some (.lst [V.ref dp]) := upd_same
        have n4 : ∀ {a : Addr} {o : HO}, S3 a = some o → a ≠ l1 → upd S3 l1 (.lst ([] ++ [V.ref dp])) a = some o := fun h n => by rw [upd_ne n]; exact h
        generalize upd S3 l1 (.lst ([] ++ [V.ref dp])) = S4 at r4 q4 n4 ⊢
        replace cl2 := n4 cl2 (Ne.symm m_l1_l2)
        replace cl3 := n4 cl3 (Ne.symm m_l1_l3)
        replace cl4 := n4 cl4 (Ne.symm m_l1_l4)
        replace cd3 := n4 cd3 m_d3_l1
        replace cd4 := n4 cd4 (Ne.symm m_l1_d4)
        replace q3 := n4 q3 (Ne.symm p_l1)
        have t4 := txA.trans (r4.tx L0)
        -- sizes
        refine ⟨_, rfl, e, _, dx, _, _, rfl, r4 _ _ geA eL, T.clEngine, T.nEngine_sizes, rfl, .inl ⟨rfl, _, SqL.of cl2⟩, _, rfl, ca, _, 1, _, rfl, rfl, SqT.of (t4 _ _ i1), at_of (j := 1) rfl rfl, ava, rfl, ⟨_, SqT.of (t4 _ _ j1)⟩, ?_⟩
        intro ls nls
        refine lc_tup (K := K) (xs := vvs) (fun i H1 => SameNot [ls] S4 H1 ∧ H1 ls = some (.lst ((szs c.nv).take i))) ⟨(SameNot.same (new_same nls)), upd_same⟩ (fun i H1 _ ⟨s1, _⟩ => SqT.of (s1 _ _ (t4 _ _ j1) fun z => ne_of_none (t4 _ _ j1) nls (List.mem_singleton.mp z))) ?_ ?_
        · rintro i x H1 hy ⟨s1, q1⟩
          have hi : i < vvs.length := (List.getElem?_eq_some_iff.mp hy).1
          have nv : c.nv = true := by
            cases z : c.nv with
            | true => rfl
            | false => rw [vl, z] at hi; cases hi
          have i0 : i = 0 := by rw [vl, nv] at hi; have : i < 1 := hi; omega
          subst i0
          obtain ⟨v0, e1, e2⟩ := j2.get (i := 0) (k := .tup [.text "x", .num 2, .num c.x0]) (by rw [nv]; rfl)
          rw [hy] at e1
          cases e1
          have t1 : TX S4 H1 := fun a xs h => s1 _ _ h fun z => ne_of_none h nls (List.mem_singleton.mp z)
          cases NK.tx (t4.trans t1) _ _ e2 with
          | @tup ta _ _ k1 k2 =>
            cases k2 with
            | cons k3 k4 =>
              cases k4 with
              | cons k5 k6 =>
                cases k5
                refine ⟨rfl, ?_⟩
                refine ⟨_, rfl, ta, _, 1, _, rfl, rfl, SqT.of k1, at_of (j := 1) rfl rfl, _, q1, by show 0 < sizeLine; decide, ?_⟩
                exact ⟨s1.put (List.mem_singleton_self ls), by rw [upd_same, nv]; rfl⟩
        rintro S5 ⟨s5, q5⟩
        have e5 : (szs c.nv).take vvs.length = szs c.nv := List.take_of_length_le (by rw [vl]; cases c.nv <;> exact Nat.le_refl _)
        rw [e5] at q5
        have r5 := r4.new' s5 nls
        have n5 : ∀ {a : Addr} {o : HO}, S4 a = some o → S5 a = some o := fun h => s5 _ _ h fun z => ne_of_none h nls (List.mem_singleton.mp z)
        have l2s : l2 ≠ ls := ne_of_none cl2 nls
        have s_l3 : l3 ≠ ls := ne_of_none cl3 nls
        have s_l4 : l4 ≠ ls := ne_of_none cl4 nls
        have p_l2' := p_l2
        replace cl2 := n5 cl2
        refine ⟨l2, _, _, rfl, rfl, cl2, (by show 0 < sizeLine; decide), ?_⟩
        have r6 : SameNot [d2, d3, l1, l2, l3, l4, d4] HA (upd S5 l2 (.lst ([] ++ [V.ref ls]))) := r5.put (by simp)
        have q6 : upd S5 l2 (.lst ([] ++ [V.ref ls])) l2 = some (.lst [V.ref ls]) := upd_same
        have n6 : ∀ {a : Addr} {o : HO}, S5 a = some o → a ≠ l2 → upd S5 l2 (.lst ([] ++ [V.ref ls])) a = some o := fun h n => by rw [upd_ne n]; exact h
        generalize upd S5 l2 (.lst ([] ++ [V.ref ls])) = S6 at r6 q6 n6 ⊢
        replace cl3 := n6 (n5 cl3) (Ne.symm m_l2_l3)
        replace cl4 := n6 (n5 cl4) (Ne.symm m_l2_l4)
        replace cd3 := n6 (n5 cd3) m_d3_l2
        replace cd4 := n6 (n5 cd4) (Ne.symm m_l2_d4)
        replace q4 := n6 (n5 q4) m_l1_l2
        replace q3 := n6 (n5 q3) (Ne.symm p_l2)
        replace q5 := n6 q5 (Ne.symm l2s)
        have t6 := txA.trans (r6.tx L0)
        have g6 := r6 _ _ geA eL
        have q1' := r6 _ _ q1 dL
        have L6 : ∀ x ∈ [d3, l3, l4, d4], ∀ xs, S6 x ≠ some (.tup xs) := by
          intro x hx xs z
          simp only [List.mem_cons, List.not_mem_nil, or_false] at hx
          rcases hx with rfl | rfl | rfl | rfl
          · rw [cd3] at z; cases z
          · rw [cl3] at z; cases z
          · rw [cl4] at z; cases z
          · rw [cd4] at z; cases z
        have out : ∀ {x : Addr}, x ≠ d3 → x ≠ l3 → x ≠ l4 → x ≠ d4 → x ∉ [d3, l3, l4, d4] := by
          intro x h1 h2 h3 h4
          simp only [List.mem_cons, List.not_mem_nil, or_false, not_or]
          exact ⟨h1, h2, h3, h4⟩
        refine ⟨_, rfl, ca, _, 3, _, rfl, rfl, SqT.of (t6 _ _ i1), at_of (j := 3) rfl rfl, ap, rfl, ⟨_, SqT.of (t6 _ _ i4)⟩, for_tup (K := K) (xs := pvs) (fun i σ H1 => ∃ x3 x6 x7 x8 lv1 pv1 bv1 kv3, σ = [some (.ref e), some (.ref ha), some (.int 0), x3, some (.ref ca), some (.ref dp), x6, x7, x8] ∧ SameNot [d3, l3, l4, d4] S6 H1 ∧ H1 d3 = some (.dT kv3) ∧ kv3.length ≤ i ∧
            H1 l3 = some (.lst lv1) ∧ H1 l4 = some (.lst pv1) ∧ LV H1 (linesOf (c.prs.take i)) lv1 ∧ PV H1 (prts 0 (linesOf (c.prs.take i))) pv1 ∧ H1 d4 = some (.dT bv1) ∧ bv1.length ≤ i ∧ ∀ j p, j < i → c.prs[j]? = some p → ∃ t, valV bv1 [.inr "c", .inr (pq j)] = some (V.ref t) ∧ H1 t = some (.tup (nV (bodyOf c j))))
          ⟨_, _, _, _, [], [], [], [], rfl, SameNot.refl _ _, cd3, Nat.le_refl _, cl3, cl4, LV.nil, PV.nil, cd4, Nat.le_refl _, fun j p h => absurd h (Nat.not_lt_zero j)⟩ (fun i σ H1 _ ⟨_, _, _, _, _, _, _, _, _, s1, _⟩ => SqT.of (s1.tx L6 _ _ (t6 _ _ i4))) ?_ ?_⟩
        · rintro i x σ H1 hy ⟨x3, x6, x7, x8, lv1, pv1, bv1, kv3, rfl, s1, u1, u2, u3, u4, u5, u6, u7, u8, u9⟩
          obtain ⟨p, hp, pa, pb, rfl, z1, z2⟩ := i5.get hy
          rw [Nat.zero_add] at z1
          have hi : i < 2 := Nat.lt_of_lt_of_le (List.getElem?_eq_some_iff.mp hp).1 co.n2
          have tt := t6.trans (s1.tx L6)
          have po := co.pr p (List.mem_of_getElem? hp)
          have gg := s1 _ _ g6 (out (Ne.symm ed3) (Ne.symm el3) (Ne.symm el4) (Ne.symm ed4))
          refine ⟨_, rfl, _, rfl, e, _, dx, _, _, rfl, gg, T.clEngine, T.nEngine_procs, rfl, _, rfl, ca, _, 0, _, rfl, rfl, SqT.of (tt _ _ i1), at_of (j := 0) rfl rfl, _, rfl, pa, _, 0, _, rfl, rfl, SqT.of (tt _ _ z1), at_of (j := 0) rfl rfl, (by show 2 ≤ sizeLine; decide), fun kp nkp => ?_⟩
          have sk := new_same (o := HO.tup [V.str "c", V.str (pq i)]) nkp
          refine ⟨d3, _, rfl, DPut.t (k := [Sum.inr "c", Sum.inr (pq i)]) (sk _ _ u1) upd_same (szl (by omega)), ?_⟩
          have v1 : SameNot [d3, l3, l4, d4] S6 (upd (upd H1 kp (.tup [V.str "c", V.str (pq i)])) d3 (.dT (putK kv3 [Sum.inr "c", Sum.inr (pq i)] (V.ref pa)))) := (s1.trans (SameNot.same sk)).put (by simp)
          have v2 : ∀ {a : Addr} {o : HO}, H1 a = some o → a ≠ d3 → upd (upd H1 kp (.tup [V.str "c", V.str (pq i)])) d3 (.dT (putK kv3 [Sum.inr "c", Sum.inr (pq i)] (V.ref pa))) a = some o := fun h n => by rw [upd_ne n]; exact sk _ _ h
          have v3 : TX H1 (upd (upd H1 kp (.tup [V.str "c", V.str (pq i)])) d3 (.dT (putK kv3 [Sum.inr "c", Sum.inr (pq i)] (V.ref pa)))) := (TX.same sk).trans (TX.put (sk _ _ u1) fun _ z => by cases z)
          have v4 : upd (upd H1 kp (.tup [V.str "c", V.str (pq i)])) d3 (.dT (putK kv3 [Sum.inr "c", Sum.inr (pq i)] (V.ref pa))) d3 = some (.dT (putK kv3 [Sum.inr "c", Sum.inr (pq i)] (V.ref pa))) := upd_same
          generalize upd (upd H1 kp (.tup [V.str "c", V.str (pq i)])) d3 (.dT (putK kv3 [Sum.inr "c", Sum.inr (pq i)] (V.ref pa))) = G1 at v1 v2 v3 v4 ⊢
          have gg1 := v1 _ _ g6 (out (Ne.symm ed3) (Ne.symm el3) (Ne.symm el4) (Ne.symm ed4))
          have tt1 := tt.trans v3
          have lb : (linesOf (c.prs.take i)).length ≤ 12 * (c.prs.take i).length := linesOf_le _ fun q hq => (co.pr q (List.mem_of_mem_take hq)).2.2.1
          have lb2 : (c.prs.take i).length ≤ i := List.length_take_le i _
          have lb3 := flatB_le p.blk
          refine ⟨_, rfl, e, dx, _, rfl, gg1, rfl, _, rfl, _, rfl, pa, _, 3, _, rfl, rfl, SqT.of (tt1 _ _ z1), at_of (j := 3) rfl rfl, e, dx, _, d1, d2, d3, l1, l2, l3, l4, d4, pb, p.blk, _, _, lv1, pv1, rfl, gg1, NK.tx tt1 _ _ z2, by decide, fun t _ => ?_, v2 u3 (Ne.symm m_d3_l3), v2 u4 (Ne.symm m_d3_l4), u5.tx v3, u6.tx v3, ?_, ?_, m_l3_l4, ?_⟩
          · cases t with
            | pl _ => exact Nat.zero_lt_two
            | ask _ => exact Nat.zero_lt_two
            | ite _ _ _ => exact Nat.one_lt_two
          · rw [prts_len]
          · have := po.2.2.1
            omega
          intro p1 H2 lv2 pv2 a1 a2 a3 a4 a5 a6
          have b1 : SameNot [d3, l3, l4, d4] S6 H2 := v1.trans fun a o h n => a1 a o h (fun z => n (by rw [z]; simp)) fun z => n (by rw [z]; simp)
          have b2 := a1.tx (v2 u3 (Ne.symm m_d3_l3)) (v2 u4 (Ne.symm m_d3_l4))
          have gg2 := b1 _ _ g6 (out (Ne.symm ed3) (Ne.symm el3) (Ne.symm el4) (Ne.symm ed4))
          have tt2 := tt1.trans b2
          have b3 := a1 _ _ (v2 u7 (Ne.symm m_d3_d4)) (Ne.symm m_l3_d4) (Ne.symm m_l4_d4)
          have b4 := a1 _ _ v4 m_d3_l3 m_d3_l4
          refine ⟨_, rfl, e, _, dx, _, _, rfl, gg2, T.clEngine, T.nEngine_bodies, rfl, _, rfl, ca, _, 0, _, rfl, rfl, SqT.of (tt2 _ _ i1), at_of (j := 0) rfl rfl, _, rfl, pa, _, 0, _, rfl, rfl, SqT.of (tt2 _ _ z1), at_of (j := 0) rfl rfl, (by show 2 ≤ sizeLine; decide), fun kq nkq => ?_⟩
          have sq := new_same (o := HO.tup [V.str "c", V.str (pq i)]) nkq
          refine ⟨d4, _, rfl, DPut.t (k := [Sum.inr "c", Sum.inr (pq i)]) (sq _ _ b3) upd_same (szl (by omega)), ?_⟩
          have tx9 : TX H2 (upd (upd H2 kq (.tup [V.str "c", V.str (pq i)])) d4 (.dT (putK bv1 [Sum.inr "c", Sum.inr (pq i)] (V.ref p1)))) := (TX.same sq).trans (TX.put (sq _ _ b3) fun _ z => by cases z)
          refine ⟨_, _, _, _, lv2, pv2, _, _, rfl, (b1.trans (SameNot.same sq)).put (by simp), by rw [upd_ne m_d3_d4]; exact sq _ _ b4, Nat.le_trans (putK_len _ _ _) (by omega), by rw [upd_ne m_l3_d4]; exact sq _ _ a2, by rw [upd_ne m_l4_d4]; exact sq _ _ a3, ?_, ?_, upd_same, Nat.le_trans (putK_len _ _ _) (by omega), ?_⟩
          · rw [lines_take hp]
            exact a4.tx tx9
          · rw [lines_take hp, prts_append, Nat.zero_add]
            exact a5.tx tx9
          · intro j q hj hq
            rw [valV_put]
            by_cases ji : j = i
            · subst ji
              rw [if_pos rfl]
              refine ⟨p1, rfl, tx9 _ _ ?_⟩
              rw [a6]
              unfold bodyOf
              rw [hp]
              rfl
            · have pqn : pq j ≠ pq i := by
                have j0 : j = 0 := by omega
                have i1 : i = 1 := by omega
                rw [j0, i1]
                decide
              rw [if_neg (fun z => pqn (Sum.inr.inj (List.cons.inj (List.cons.inj z).2).1))]
              obtain ⟨t, y1, y2⟩ := u9 j q (by omega) hq
              exact ⟨t, y1, tx9 _ _ (b2 _ _ (v3 _ _ y2))⟩
        · rintro σ H1 ⟨x3, x6, x7, x8, lv1, pv1, bv1, kv3, rfl, s1, u1, u2, u3, u4, u5, u6, u7, u8, u9⟩
          rw [i5.length, List.take_length] at u5 u6
          have tt := t6.trans (s1.tx L6)
          refine ⟨_, _, _, _, _, _, _, rfl, tt, .inr ⟨rfl, fun a o h n => ?_, ?_⟩⟩
          · refine s1 _ _ (r6 _ _ (bA a o h n) ?_) (out (f_d3 a o h) (f_l3 a o h) (f_l4 a o h) (f_d4 a o h))
            simp only [List.mem_cons, List.not_mem_nil, or_false, not_or]
            exact ⟨f_d2 a o h, f_d3 a o h, f_l1 a o h, f_l2 a o h, f_l3 a o h, f_l4 a o h, f_d4 a o h⟩
          · have gg := s1 _ _ g6 (out (Ne.symm ed3) (Ne.symm el3) (Ne.symm el4) (Ne.symm ed4))
            have hL : ∀ (a : Addr) (o : HO), H a = some o → a ∉ [d2, d3, l1, l2, l3, l4, d4] := fun a o h => by
              simp only [List.mem_cons, List.not_mem_nil, or_false, not_or]
              exact ⟨f_d2 a o h, f_d3 a o h, f_l1 a o h, f_l2 a o h, f_l3 a o h, f_l4 a o h, f_d4 a o h⟩
            have keep : ∀ (a : Addr) (o : HO), H a = some o → a ≠ e → H1 a = some o := fun a o h n => s1 _ _ (r6 _ _ (bA a o h n) (hL a o h)) (out (f_d3 a o h) (f_l3 a o h) (f_l4 a o h) (f_d4 a o h))
            have d1o := s1 _ _ q1' (out m_d1_d3 m_d1_l3 m_d1_l4 m_d1_d4)
            have l1o := s1 _ _ q4 (out (Ne.symm m_d3_l1) m_l1_l3 m_l1_l4 m_l1_d4)
            have l2o := s1 _ _ q6 (out (Ne.symm m_d3_l2) m_l2_l3 m_l2_l4 m_l2_d4)
            have dpo := s1 _ _ q3 (out (Ne.symm p_d3) (Ne.symm p_l3) (Ne.symm p_l4) (Ne.symm p_d4))
            have lso := s1 _ _ q5 (out (fun z => by rw [z, cd3] at q5; cases q5) (fun z => s_l3 z.symm) (fun z => s_l4 z.symm) (fun z => by rw [z, cd4] at q5; cases q5))
            refine ⟨⟨dx, _, d1, d2, d3, l1, l2, l3, l4, d4, dp, ls, lv1, pv1, bv1, gg, ⟨ha, hdx, as, cs, _, avs, rfl, keep _ _ h1 ha0, tt _ _ h2, NKs.tx tt _ _ h3, tt _ _ h4, CtAt.tx tt (fun a xs ⟨o, h, d⟩ => ⟨o, keep _ _ h (fun z => by rw [z, he] at h; cases h), d⟩) ⟨ca, _, ah, ap, pvs, rfl, i1, .tup j1 j2, i3, i4, i5⟩⟩, d1o, l1o, dpo, l2o, lso, u3, u5.2, u4, ?_, u7, ?_⟩⟩
            · intro i t ht
              have hlt : i < (linesOf c.prs).length := (List.getElem?_eq_some_iff.mp ht).1
              have := u6.2 i (prt t i) (by have := prts_get 0 (show (linesOf c.prs)[i]? = some t from ht); rw [Nat.zero_add] at this; exact this)
              exact this
            · intro i p hp
              exact u9 i p (by rw [i5.length]; exact (List.getElem?_eq_some_iff.mp hp).1) hp
      · rintro σ H1 ⟨x2, x3, x4, x5, x6, x7, x8, rfl, _, ⟨z, _⟩ | ⟨_, s1, en⟩⟩
        · cases z
        · exact k _ s1 en
theorem mak_Engine {f : Addr} {fd : FuncData} (F : FnP K "__init__" "Engine.__init__" s_Engine_init f fd) (T : Txt K mg) (M : Mk K (aEngine K) f) (g : mg "Engine" = some (.ref (aEngine K))) (m_Engine_numbered : C8.Met P w K mg base 3 (aEngine K) "numbered" (spNum K 2) []) : C8.Mak P w K mg base 4 "Engine" (aEngine K) (spEngine K) [] :=
  ⟨f, fd, _, [], M, ok_Engine F T m_Engine_numbered, g, F.bindsN fun _ _ _ _ _ _ us hl => match us, hl with | [_, _], _ => rfl, .nil⟩
end
end NC
set_option Elab.async false
set_option linter.all false
set_option maxRecDepth 100000
set_option maxHeartbeats 4000000
/-! Walks of the engine: entries. House. -/
namespace NC
open PySem PySem.Spec PyProof.Rows L2
def entK (p : Nat × Int) : NestedKey := .tup [.text "c", .text (pq p.1), .num p.2]
theorem entOf_append : ∀ (n : Nat) (a b : List Pr), entOf n (a ++ b) = entOf n a ++ entOf (n + a.length) b
  | _, [], b => by rw [List.nil_append]; rfl
  | n, p :: r, b => by
    rw [List.cons_append, entOf, entOf, entOf_append (n + 1) r b, List.append_assoc, List.length_cons, Nat.add_assoc, Nat.add_comm 1]
def entP (i : Nat) (p : Pr) : List (Nat × Int) := if p.shown then (List.range p.size.toNat).map fun (g : Nat) => (i, (g : Int)) else []
theorem ents_take {ps : List Pr} {i : Nat} {p : Pr} (h : ps[i]? = some p) : entOf 0 (ps.take (i + 1)) = entOf 0 (ps.take i) ++ entP i p := by
  have hl : (ps.take i).length = i := by rw [List.length_take]; have := (List.getElem?_eq_some_iff.mp h).1; omega
  rw [List.take_succ, h, entOf_append, hl, Nat.zero_add]
  show _ ++ (entP i p ++ []) = _
  rw [List.append_nil]
theorem entP_le (i : Nat) (p : Pr) : (entP i p).length ≤ p.size.toNat := by
  unfold entP
  split
  · rw [List.length_map, List.length_range]; exact Nat.le_refl _
  · exact Nat.zero_le _
theorem ents_le {ps : List Pr} (h : ∀ p ∈ ps, p.size ≤ 3) : ∀ n, (entOf n ps).length ≤ 3 * ps.length := by
  induction ps with
  | nil => intro n; exact Nat.le_refl _
  | cons p r ih =>
    intro n
    have h1 := entP_le n p
    have h2 := h p List.mem_cons_self
    have h3 := ih (fun q hq => h q (List.mem_cons_of_mem _ hq)) (n + 1)
    show (entP n p ++ entOf (n + 1) r).length ≤ _
    rw [List.length_append, List.length_cons]
    omega
section
variable {P : Program} {w : World} {K : PySem.W.Frag} {mg : Str → Option Value} {base : Heap}
def spEntries (K : PySem.W.Frag) : Sp := fun vs H Q _ => ∃ (e : Addr) (c : Cf), vs = [.ref e] ∧ EnAt K H e c ∧ c.Ok ∧ ∀ p H' evs, Same H H' → H' p = some (.lst evs) → NKs H' (c.ents.map entK) evs → Q (.ref p) H'
theorem sc_Engine_entries : FnScope ["self", "found", "contract", "name", "size", "shown", "_", "given"] ["self"] (defScope s_Engine_entries) := ⟨rfl, rfl, rfl, by decide +kernel, rfl, by decide +kernel, by decide +kernel⟩
theorem ok_entries {f : Addr} {fd : FuncData} (F : FnP K "entries" "Engine.entries" s_Engine_entries f fd) (T : Txt K mg) : FnOk P w K mg base CX0 1 f fd ["self"] (spEntries K) := by
  refine F.ok sc_Engine_entries (fun vs H Q E h => ?_) (fun cdv A outer s H vs Q E hr h => ?_)
  · obtain ⟨e, c, rfl, _⟩ := h
    rfl
  · obtain ⟨e, c, rfl, he, co, k⟩ := h
    refine ⟨_, PSs.nox ((pss_cons (ps_set (i := 1) sc_Engine_entries.nd rfl (Or.inl rfl) (pe_lst pa_nil))
      (pss_cons (ps_for PassesOwn.never rfl (pi_tup (pe_fld (pe_fld (pv 0) rfl) rfl)) (pg_name (i := 2) sc_Engine_entries.nd rfl (Or.inr rfl)) (pss_one (ps_for PassesOwn.never rfl (pi_tup (pe_ix ix_tup (pv 2) pe_int (fun _ _ => rfl))) (pg_tup rfl (pgs_cons (pg_name (i := 3) sc_Engine_entries.nd rfl (Or.inr rfl)) (pgs_cons (pg_name (i := 4) sc_Engine_entries.nd rfl (Or.inl rfl)) (pgs_cons (pg_name (i := 5) sc_Engine_entries.nd rfl (Or.inl rfl)) (pgs_cons (pg_name (i := 6) sc_Engine_entries.nd rfl (Or.inl rfl)) pgs_nil))))) (pss_one (ps_if (pt_val (pv 5)) (pss_one (ps_expr (pe_bm PySem.F.plainAttrs_list PySem.F.slot_list_extend PySem.F.type_list_extend mt_extend (pv 1) (pa_cons (pe_lc (own := [("given", 7)]) rfl sc_Engine_entries.nd (pi_range1 rfl T.range (pa_cons (pv 4) pa_nil)) (blkOk_by (own := [("given", 7)]) (N := ["self", "found", "contract", "name", "size", "shown", "_", "given"]) (sc := defScope s_Engine_entries) (by decide +kernel)) (fun _ _ _ _ _ => (pg_name (i := 7) sc_Engine_entries.nd rfl (Or.inl rfl))) (fun _ _ _ _ _ => pts_nil) (fun _ _ _ _ _ => (pe_tup (pa_cons (pe_ix (ix_tupK (K := K) rfl) (pv 2) pe_int (fun _ _ => rfl)) (pa_cons (pv 3) (pa_cons (pv 7) pa_nil)))))) pa_nil)))) pss_nil)))))
      (pss_one (ps_ret (pv 1)))))), ?_⟩
    obtain ⟨dx, hv', d1, d2, d3, l1, l2, l3, l4, d4, dp, ls, lv, pv2, bv, h1, ⟨ha, hdx, as, cs, ct, avs, rfl, h2, h3, h4, h5, ca, av, ah, ap, pvs, rfl, i1, i2, i3, i4, i5⟩, _⟩ := he.ex
    refine ⟨by show 0 ≤ sizeLine; decide, fun l nl => ?_⟩
    have sl := new_same (o := HO.lst []) nl
    refine ⟨_, rfl, e, _, dx, _, _, rfl, sl _ _ h1, T.clEngine, T.nEngine_house, rfl, ha, _, hdx, _, _, rfl, sl _ _ h2, T.clHouse, T.nHouse_contracts, rfl, cs, rfl, ⟨_, SqT.of (sl _ _ h5)⟩, for_tup (K := K) (xs := [V.ref ca]) (fun i σ H1 => ∃ x2 x3 x4 x5 x6 x7 evs, σ = [some (.ref e), some (.ref l), x2, x3, x4, x5, x6, x7] ∧ Same H H1 ∧ H1 l = some (.lst evs) ∧ NKs H1 ((if i = 0 then [] else c.ents).map entK) evs)
      ⟨_, _, _, _, _, _, _, rfl, sl, upd_same, .nil⟩ (fun i σ H1 _ ⟨_, _, _, _, _, _, _, _, s1, _⟩ => SqT.of (s1 _ _ h5)) ?_ ?_⟩
    · rintro i x σ H1 hi ⟨x2, x3, x4, x5, x6, x7, evs, rfl, s1, q1, q2⟩
      have i0 : i = 0 := by have := (List.getElem?_eq_some_iff.mp hi).1; have : i < 1 := this; omega
      subst i0
      cases hi
      refine ⟨_, rfl, ca, _, 3, _, rfl, rfl, SqT.of (s1 _ _ i1), at_of (j := 3) rfl rfl, ap, rfl, ⟨_, SqT.of (s1 _ _ i4)⟩, for_tup (K := K) (xs := pvs) (fun i σ H1 => ∃ x3 x4 x5 x6 x7 evs, σ = [some (.ref e), some (.ref l), some (.ref ca), x3, x4, x5, x6, x7] ∧ Same H H1 ∧ H1 l = some (.lst evs) ∧ NKs H1 ((entOf 0 (c.prs.take i)).map entK) evs)
        ⟨_, _, _, _, _, _, rfl, s1, q1, q2⟩ (fun i σ H1 _ ⟨_, _, _, _, _, _, _, s1, _⟩ => SqT.of (s1 _ _ i4)) ?_ ?_⟩
      · rintro i x σ H1 hi ⟨x3, x4, x5, x6, x7, evs, rfl, s1, q1, q2⟩
        obtain ⟨p, hp, pa, pb, rfl, z1, z2⟩ := i5.get hi
        rw [Nat.zero_add] at z1
        have po := co.pr p (List.mem_of_getElem? hp)
        refine ⟨pa, _, rfl, SqT.of (s1 _ _ z1), rfl, _, _, rfl, _, _, rfl, _, _, rfl, _, _, rfl, rfl, ?_⟩
        cases hs : p.shown with
        | false =>
          refine ⟨_, rfl, _, rfl, ifF rfl ?_⟩
          refine ⟨_, _, _, _, _, _, rfl, s1, q1, ?_⟩
          rw [ents_take hp]
          unfold entP
          rw [hs, if_neg Bool.false_ne_true, List.append_nil]
          exact q2
        | true =>
          refine ⟨_, rfl, _, rfl, ifT rfl ?_⟩
          refine ⟨_, rfl, .inl ⟨rfl, _, SqL.of q1⟩, ?_⟩
          refine ⟨_, rfl, p.size, rfl, by omega, by omega, fun D nD => ?_⟩
          have lD : l ≠ D := ne_of_none q1 nD
          have nlk : ∀ {Hx : Hp} (a : Addr) (o : HO), H a = some o → a ≠ l := fun a o h => ne_of_none h nl
          refine lc_range (fun j Hx => ∃ acc, Same H1 Hx ∧ Hx D = some (.lst acc) ∧ NKs Hx (((List.range j).map fun (g : Nat) => (i, (g : Int))).map entK) acc) ⟨[], new_same nD, upd_same, .nil⟩ ?_ ?_
          · rintro j Hx hj ⟨acc, sx, qx, nx⟩
            refine ⟨rfl, ?_⟩
            refine ⟨_, rfl, ca, _, 0, _, rfl, rfl, SqT.of (sx _ _ (s1 _ _ i1)), at_of (j := 0) rfl rfl, _, rfl, _, rfl, (by show 3 ≤ sizeLine; decide), fun t nt => ?_⟩
            have st := new_same (o := HO.tup [V.str "c", V.str (pq i), V.int (0 + (j : Int))]) nt
            have Dt : D ≠ t := ne_of_none qx nt
            have al : acc.length = j := by rw [← nx.length, List.length_map, List.length_map, List.length_range]
            refine ⟨acc, st _ _ qx, szl (by rw [al]; omega), ?_⟩
            have sx2 : Same H1 (upd (upd Hx t (.tup [V.str "c", V.str (pq i), V.int (0 + (j : Int))])) D (.lst (acc ++ [V.ref t]))) := fun a o h => by rw [upd_ne (ne_of_none h nD)]; exact st _ _ (sx _ _ h)
            have tx2 : TX Hx (upd (upd Hx t (.tup [V.str "c", V.str (pq i), V.int (0 + (j : Int))])) D (.lst (acc ++ [V.ref t]))) := (TX.same st).trans (TX.put (st _ _ qx) fun _ z => by cases z)
            refine ⟨_, sx2, upd_same, ?_⟩
            rw [List.range_succ, List.map_append, List.map_append]
            refine NKs.append (NKs.tx tx2 _ _ nx) ?_
            refine .cons (.tup (vs := [V.str "c", V.str (pq i), V.int (j : Int)]) ?_ (.cons (.text _) (.cons (.text _) (.cons (.num _) .nil)))) .nil
            rw [upd_ne (Ne.symm Dt), upd_same, Int.zero_add]
          · rintro Hx ⟨acc, sx, qx, nx⟩
            have al : acc.length = p.size.toNat := by rw [← nx.length, List.length_map, List.length_map, List.length_range]
            have el : evs.length ≤ 3 * (c.prs.take i).length := by
              rw [← q2.length, List.length_map]
              exact ents_le (fun q hq => (co.pr q (List.mem_of_mem_take hq)).2.1) 0
            have tl : (c.prs.take i).length ≤ 2 := Nat.le_trans (List.length_take_le' i _) co.n2
            refine ⟨l, D, _, _, rfl, rfl, sx _ _ q1, qx, sz100 (by omega), ?_⟩
            have sy : Same H (upd Hx l (.lst (evs ++ acc))) := fun a o h => by rw [upd_ne (ne_of_none h nl)]; exact sx _ _ (s1 _ _ h)
            have ty : TX Hx (upd Hx l (.lst (evs ++ acc))) := TX.put (sx _ _ q1) fun _ z => by cases z
            refine ⟨_, _, _, _, _, _, rfl, sy, upd_same, ?_⟩
            rw [ents_take hp, List.map_append]
            refine NKs.append (NKs.tx ((TX.same sx).trans ty) _ _ q2) (NKs.tx ty _ _ ?_)
            unfold entP
            rw [hs, if_pos rfl]
            exact nx
      · rintro σ H1 ⟨x3, x4, x5, x6, x7, evs, rfl, s1, q1, q2⟩
        rw [i5.length, List.take_length] at q2
        exact ⟨_, _, _, _, _, _, _, rfl, s1, q1, q2⟩
    · rintro σ H1 ⟨x2, x3, x4, x5, x6, x7, evs, rfl, s1, q1, q2⟩
      exact ⟨_, rfl, k _ _ _ s1 q1 q2⟩
theorem met_entries {f : Addr} {fd : FuncData} (F : FnP K "entries" "Engine.entries" s_Engine_entries f fd) (T : Txt K mg) (me : Meth K (aEngine K) "entries" f) : C8.Met P w K mg base 1 (aEngine K) "entries" (spEntries K) [] :=
  ⟨f, fd, _, [], T.clEngine, me, ok_entries F T, F.bindsN fun _ _ _ _ _ _ us hl => match us, hl with | [_], _ => rfl, .nil⟩
/-! ### House.__init__ -/
def spHouse (K : PySem.W.Frag) : Sp := fun vs H Q _ => ∃ (e dx a b : Addr) (xs ys : List V), vs = [.ref e, .ref a, .ref b] ∧ H e = some (.ins (aHouse K) dx []) ∧ H a = some (.tup xs) ∧ H b = some (.tup ys) ∧
  ∀ H' as cs, SameBut e H H' → H' e = some (.ins (aHouse K) dx [("assets", .ref as), ("contracts", .ref cs)]) → H' as = some (.tup xs) → H' cs = some (.tup ys) → Q .non H'
theorem sc_House_init : FnScope ["self", "assets", "contracts"] ["self", "assets", "contracts"] (defScope s_House_init) := ⟨rfl, rfl, rfl, by decide +kernel, rfl, by decide +kernel, by decide +kernel⟩
theorem ok_House {f : Addr} {fd : FuncData} (F : FnP K "__init__" "House.__init__" s_House_init f fd) (T : Txt K mg) : FnOk P w K mg base CX0 1 f fd ["self", "assets", "contracts"] (spHouse K) := by
  refine F.ok sc_House_init (fun vs H Q E h => ?_) (fun cdv A outer s H vs Q E hr h => ?_)
  · obtain ⟨e, dx, a, b, xs, ys, rfl, _⟩ := h
    rfl
  · obtain ⟨e, dx, a, b, xs, ys, rfl, he, ha, hb, k⟩ := h
    refine ⟨_, PSs.nox ((pss_cons (ps_fld (pv 0) (pe_callTy call_tuple_of (by rfl) T.tuple bt_tuple (pa_cons (pv 1) pa_nil)) rfl)
      (pss_one (ps_fld (pv 0) (pe_callTy call_tuple_of (by rfl) T.tuple bt_tuple (pa_cons (pv 2) pa_nil)) rfl)))), ?_⟩
    refine ⟨_, rfl, a, _, rfl, .inr ⟨SqT.of ha, ?_⟩⟩
    refine ⟨_, rfl, e, _, dx, _, rfl, he, T.clHouse, T.nHouse_assets, dok rfl, ?_⟩
    have s1 := (SameBut.refl e H).upd (o := .ins (aHouse K) dx (putF "assets" (.ref a) []))
    have ne : ∀ {b : Addr} {xs : List V}, H b = some (.tup xs) → b ≠ e := fun h z => by rw [z, he] at h; cases h
    refine ⟨_, rfl, b, _, rfl, .inr ⟨SqT.of (s1 _ _ hb (ne hb)), ?_⟩⟩
    refine ⟨_, rfl, e, _, dx, _, rfl, upd_same, T.clHouse, T.nHouse_contracts, dok rfl, ?_⟩
    have s2 := s1.upd (o := .ins (aHouse K) dx (putF "contracts" (.ref b) (putF "assets" (.ref a) [])))
    exact k _ a b s2 upd_same (s2 _ _ ha (ne ha)) (s2 _ _ hb (ne hb))
theorem mak_House {f : Addr} {fd : FuncData} (F : FnP K "__init__" "House.__init__" s_House_init f fd) (T : Txt K mg) (M : Mk K (aHouse K) f) (g : mg "House" = some (.ref (aHouse K))) : C8.Mak P w K mg base 1 "House" (aHouse K) (spHouse K) [] :=
  ⟨f, fd, _, [], M, ok_House F T, g, F.bindsN fun _ _ _ _ _ _ us hl => match us, hl with | [_, _, _], _ => rfl, .nil⟩
end
end NC
set_option Elab.async false
set_option linter.all false
set_option maxRecDepth 100000
set_option maxHeartbeats 4000000
/-! first_state, worth. -/
namespace NC
open PySem PySem.Spec PyProof.Rows L2
theorem pg_tupK {X : Cx} {K : PySem.W.Frag} {n : Nat} {es : List Expr} {k : Nat} {t : TGs} {pos : Pos} (hK : X.K = K) (hc : X.calm = true) (h : PGs X es t) (hn : (assignEach es X.env).length = n := by rfl) (hst : (assignEach es X.env).findIdx? (·.1) = none := by rfl) : PG X (.Tuple es k pos) (gTup K n t) := hK ▸ pg_tup hc h hn hst
section
variable {P : Program} {w : World} {K : PySem.W.Frag} {mg : Str → Option Value} {base : Heap}
def spFirst (K : PySem.W.Frag) : Sp := fun vs H Q _ => ∃ (hv : V) (c : Cf), vs = [hv] ∧ HsAt K H c hv ∧ c.Ok ∧ ∀ p H', Same H H' → NK H' (eS c.nv c.na (first c)) (.ref p) → Q (.ref p) H'
theorem sc_first_state : FnScope ["house", "names", "name", "out", "values", "amounts", "contract", "size", "first", "held"] ["house"] (defScope s_first_state) := ⟨rfl, rfl, rfl, by decide +kernel, rfl, by decide +kernel, by decide +kernel⟩
theorem ok_first {f : Addr} {fd : FuncData} (F : FnP K "first_state" "first_state" s_first_state f fd) (T : Txt K mg) : FnOk P w K mg base CX0 1 f fd ["house"] (spFirst K) := by
  refine F.ok sc_first_state (fun vs H Q E h => ?_) (fun cdv A outer s H vs Q E hr h => ?_)
  · obtain ⟨hv, c, rfl, _⟩ := h
    rfl
  · obtain ⟨hv, c, rfl, hh, co, k⟩ := h
    have hu := hu_of hr
    refine ⟨_, PSs.nox ((pss_cons (ps_setLc (i := 1) (own := [("name", 2), ("out", 3)]) rfl sc_first_state.nd rfl rfl (sw_true rfl rfl rfl (by decide +kernel)) (pi_tup (pe_fld (pv 0) rfl)) (blkOk_by (own := [("name", 2), ("out", 3)]) (N := ["house", "names", "name", "out", "values", "amounts", "contract", "size", "first", "held"]) (sc := defScope s_first_state) (by decide +kernel)) (fun _ _ _ _ _ => (pg_tupK (K := K) (n := 2) rfl rfl (pgs_cons (pg_name (i := 2) sc_first_state.nd rfl (Or.inl rfl)) (pgs_cons (pg_name (i := 3) sc_first_state.nd rfl (Or.inl rfl)) pgs_nil)))) (fun _ _ _ _ _ => pts_nil) (fun _ _ _ _ _ => (pv 2)))
      (pss_cons (ps_set (i := 4) sc_first_state.nd rfl (Or.inl rfl) (pe_lst pa_nil))
      (pss_cons (ps_set (i := 5) sc_first_state.nd rfl (Or.inl rfl) (pe_lst pa_nil))
      (pss_cons (ps_for PassesOwn.never rfl (pi_tup (pe_fld (pv 0) rfl)) (pg_name (i := 6) sc_first_state.nd rfl (Or.inl rfl)) (pss_cons (ps_expr (pe_bm PySem.F.plainAttrs_list PySem.F.slot_list_append PySem.F.type_list_append mt_append (pv 4) (pa_cons (pe_callTy call_tuple_of (by rfl) T.tuple bt_tuple (pa_cons (pe_lc (own := [("name", 2), ("size", 7), ("first", 8)]) rfl sc_first_state.nd (pi_tup (pe_ix ix_tup (pv 6) pe_int (fun _ _ => rfl))) (blkOk_by (own := [("name", 2), ("size", 7), ("first", 8)]) (N := ["house", "names", "name", "out", "values", "amounts", "contract", "size", "first", "held"]) (sc := defScope s_first_state) (by decide +kernel)) (fun _ _ _ _ _ => (pg_tupK (K := K) (n := 3) rfl rfl (pgs_cons (pg_name (i := 2) sc_first_state.nd rfl (Or.inl rfl)) (pgs_cons (pg_name (i := 7) sc_first_state.nd rfl (Or.inl rfl)) (pgs_cons (pg_name (i := 8) sc_first_state.nd rfl (Or.inl rfl)) pgs_nil))))) (fun _ _ _ _ _ => pts_nil) (fun _ _ _ _ _ => (pv 8))) pa_nil)) pa_nil)))
      (pss_cons (ps_set (i := 9) sc_first_state.nd rfl (Or.inr rfl) (pe_callTy (call_dictT rfl) (by rfl) T.dict bt_dict (pa_cons (pe_ix ix_tup (pv 6) pe_int (fun _ _ => rfl)) pa_nil)))
      (pss_one (ps_expr (pe_bm PySem.F.plainAttrs_list PySem.F.slot_list_append PySem.F.type_list_append mt_append (pv 5) (pa_cons (pe_callTy call_tuple_of (by rfl) T.tuple bt_tuple (pa_cons (pe_lc (own := [("name", 2)]) rfl sc_first_state.nd (pi_list (pv 1)) (blkOk_by (own := [("name", 2)]) (N := ["house", "names", "name", "out", "values", "amounts", "contract", "size", "first", "held"]) (sc := defScope s_first_state) (by decide +kernel)) (fun _ _ _ _ _ => (pg_name (i := 2) sc_first_state.nd rfl (Or.inl rfl))) (fun _ _ _ _ _ => pts_nil) (fun _ _ _ _ _ => (pe_dget2 hu (pv 9) (pv 2) pe_int ⟨rfl, rfl, rfl, rfl⟩))) pa_nil)) pa_nil)))))))
      (pss_one (ps_ret (pe_tup (pa_cons (pe_callTy call_tuple_of (by rfl) T.tuple bt_tuple (pa_cons (pv 4) pa_nil)) (pa_cons (pe_callTy call_tuple_of (by rfl) T.tuple bt_tuple (pa_cons (pv 5) pa_nil)) (pa_cons (pe_callTy call_tuple_of (by rfl) T.tuple bt_tuple (pa_cons (pe_lc (own := [("name", 2), ("out", 3)]) rfl sc_first_state.nd (pi_tup (pe_fld (pv 0) rfl)) (blkOk_by (own := [("name", 2), ("out", 3)]) (N := ["house", "names", "name", "out", "values", "amounts", "contract", "size", "first", "held"]) (sc := defScope s_first_state) (by decide +kernel)) (fun _ _ _ _ _ => (pg_tupK (K := K) (n := 2) rfl rfl (pgs_cons (pg_name (i := 2) sc_first_state.nd rfl (Or.inl rfl)) (pgs_cons (pg_name (i := 3) sc_first_state.nd rfl (Or.inl rfl)) pgs_nil)))) (fun _ _ _ _ _ => pts_nil) (fun _ _ _ _ _ => (pv 3))) pa_nil)) pa_nil))))))))))), ?_⟩
    obtain ⟨ha, hdx, as, cs, ct, avs, rfl, h2, h3, h4, h5, ca, av, ah, ap, pvs, rfl, i1, i2, ⟨hb, hs, rfl, fr, hn⟩, i4, i5⟩ := hh
    obtain ⟨ava, vvs, rfl, j1, j2⟩ : ∃ a vs, av = V.ref a ∧ H a = some (HO.tup vs) ∧ NKs H (if c.nv then [.tup [.text "x", .num 2, .num c.x0]] else []) vs := by
      cases i2 with
      | tup z1 z2 => exact ⟨_, _, rfl, z1, z2⟩
    have avl : avs.length = (if c.na then 1 else 0) := by
      rw [← h4.length]
      unfold eAss
      cases c.na <;> rfl
    have vl : vvs.length = (if c.nv then 1 else 0) := by
      rw [← j2.length]
      cases c.nv <;> rfl
    -- an asset's tuple
    have asset : ∀ {Hx : Hp} {i : Nat} {x : V}, Same H Hx → avs[i]? = some x → i = 0 ∧ c.na = true ∧ ∃ ta, x = V.ref ta ∧ Hx ta = some (HO.tup [V.str "a", V.int c.o0]) := by
      intro Hx i x s1 hi
      have hl := (List.getElem?_eq_some_iff.mp hi).1
      have na : c.na = true := by
        cases z : c.na with
        | true => rfl
        | false => rw [avl, z] at hl; cases hl
      have i0 : i = 0 := by rw [avl, na] at hl; have : i < 1 := hl; omega
      subst i0
      obtain ⟨v0, e1, e2⟩ := h4.get (i := 0) (k := .tup [.text "a", .num c.o0]) (by unfold eAss; rw [na]; rfl)
      rw [hi] at e1
      cases e1
      cases NK.tx (TX.same s1) _ _ e2 with
      | @tup ta _ _ k1 k2 =>
        cases k2 with
        | cons k3 k4 =>
          cases k3
          cases k4 with
          | cons k5 k6 =>
            cases k5
            cases k6
            exact ⟨rfl, na, ta, rfl, k1⟩
    refine ⟨_, rfl, ha, _, hdx, _, _, rfl, h2, T.clHouse, T.nHouse_assets, rfl, as, rfl, ⟨_, SqT.of h3⟩, fun l1 n1 => ?_⟩
    refine lc_tup (K := K) (xs := avs) (fun i H1 => Same H H1 ∧ H1 l1 = some (.lst ((if c.na then [V.str "a"] else []).take i))) ⟨new_same n1, upd_same⟩ (fun i H1 _ ⟨s1, _⟩ => SqT.of (s1 _ _ h3)) ?_ ?_
    · rintro i x H1 hi ⟨s1, q1⟩
      obtain ⟨rfl, na, ta, rfl, k1⟩ := asset s1 hi
      refine ⟨ta, _, rfl, SqT.of k1, rfl, _, _, rfl, _, _, rfl, rfl, rfl, ?_⟩
      exact ⟨_, rfl, _, q1, by show 0 < sizeLine; decide, fun a o h => by rw [upd_ne (ne_of_none h n1)]; exact s1 _ _ h, by rw [upd_same, na]; rfl⟩
    rintro H1 ⟨s1, q1⟩
    have eN : (if c.na then [V.str "a"] else []).take avs.length = if c.na then [V.str "a"] else [] := List.take_of_length_le (by rw [avl]; cases c.na <;> exact Nat.le_refl _)
    rw [eN] at q1
    refine ⟨(by show 0 ≤ sizeLine; decide), fun l2 n2 => ⟨(by show 0 ≤ sizeLine; decide), fun l3 n3 => ?_⟩⟩
    have s2 := (s1.trans (new_same (o := HO.lst []) n2)).trans (new_same (o := HO.lst []) n3)
    have l12 : l1 ≠ l2 := ne_of_none q1 n2
    have q1' := new_same (o := HO.lst []) n3 _ _ (new_same (o := HO.lst []) n2 _ _ q1)
    have l13 : l1 ≠ l3 := ne_of_none (new_same (o := HO.lst []) n2 _ _ q1) n3
    have l23 : l2 ≠ l3 := ne_of_none upd_same n3
    have q2 : upd (upd H1 l2 (.lst [])) l3 (.lst []) l2 = some (.lst []) := new_same n3 _ _ upd_same
    have q3 : upd (upd H1 l2 (.lst [])) l3 (.lst []) l3 = some (.lst []) := upd_same
    have f2 : ∀ {a : Addr} {o : HO}, H a = some o → a ≠ l2 := fun h => ne_of_none (s1 _ _ h) n2
    have f3 : ∀ {a : Addr} {o : HO}, H a = some o → a ≠ l3 := fun h => ne_of_none (new_same (o := HO.lst []) n2 _ _ (s1 _ _ h)) n3
    generalize upd (upd H1 l2 (.lst [])) l3 (.lst []) = H2 at s2 q1' q2 q3 ⊢
    clear q1 s1 n2 n3
    refine ⟨_, rfl, ha, _, hdx, _, _, rfl, s2 _ _ h2, T.clHouse, T.nHouse_contracts, rfl, cs, rfl, ⟨_, SqT.of (s2 _ _ h5)⟩, for_tup (K := K) (xs := [V.ref ca]) (fun i σ H1 => ∃ x2 x3 x6 x7 x8 x9 v2 v3, σ = [some (.ref ha), some (.ref l1), x2, x3, some (.ref l2), some (.ref l3), x6, x7, x8, x9] ∧ Same H H1 ∧ H1 l1 = some (.lst (if c.na then [V.str "a"] else [])) ∧ H1 l2 = some (.lst v2) ∧ H1 l3 = some (.lst v3) ∧ (i = 0 → v2 = [] ∧ v3 = []) ∧
        (i = 1 → ∃ tv ta, v2 = [V.ref tv] ∧ v3 = [V.ref ta] ∧ H1 tv = some (.tup (if c.nv then [V.int c.x0] else [])) ∧ H1 ta = some (.tup (if c.na then [V.int (c.hd.getD 0)] else []))))
      ⟨_, _, _, _, _, _, _, _, rfl, s2, q1', q2, q3, fun _ => ⟨rfl, rfl⟩, fun z => nomatch z⟩ (fun i σ H1 _ ⟨_, _, _, _, _, _, _, _, _, s1, _⟩ => SqT.of (s1 _ _ h5)) ?_ ?_⟩
    · clear s2 q1' q2 q3
      rintro i x σ H1 hi ⟨x2, x3, x6, x7, x8, x9, v2, v3, rfl, s1, q1, q2, q3, q4, _⟩
      have i0 : i = 0 := by have := (List.getElem?_eq_some_iff.mp hi).1; have : i < 1 := this; omega
      subst i0
      cases hi
      obtain ⟨rfl, rfl⟩ := q4 rfl
      refine ⟨_, rfl, .inl ⟨rfl, _, SqL.of q2⟩, _, rfl, ca, _, 1, _, rfl, rfl, SqT.of (s1 _ _ i1), at_of (j := 1) rfl rfl, ava, rfl, ⟨_, SqT.of (s1 _ _ j1)⟩, fun l4 n4 => ?_⟩
      refine lc_tup (K := K) (xs := vvs) (fun i Hx => Same H1 Hx ∧ Hx l4 = some (.lst ((if c.nv then [V.int c.x0] else []).take i))) ⟨new_same n4, upd_same⟩ (fun i H1 _ ⟨sx, _⟩ => SqT.of (sx _ _ (s1 _ _ j1))) ?_ ?_
      · rintro i x Hx hi ⟨sx, qx⟩
        have hl := (List.getElem?_eq_some_iff.mp hi).1
        have nv : c.nv = true := by
          cases z : c.nv with
          | true => rfl
          | false => rw [vl, z] at hl; cases hl
        have i0 : i = 0 := by rw [vl, nv] at hl; have : i < 1 := hl; omega
        subst i0
        obtain ⟨v0, e1, e2⟩ := j2.get (i := 0) (k := .tup [.text "x", .num 2, .num c.x0]) (by rw [nv]; rfl)
        rw [hi] at e1
        cases e1
        cases NK.tx (TX.same (s1.trans sx)) _ _ e2 with
        | @tup ta _ _ k1 k2 =>
          cases k2 with
          | cons k3 k4 =>
            cases k4 with
            | cons k5 k6 =>
              cases k6 with
              | cons k7 k8 =>
                cases k7
                cases k8
                refine ⟨ta, _, rfl, SqT.of k1, rfl, _, _, rfl, _, _, rfl, _, _, rfl, rfl, rfl, ?_⟩
                exact ⟨_, rfl, _, qx, by show 0 < sizeLine; decide, fun a o h => by rw [upd_ne (ne_of_none h n4)]; exact sx _ _ h, by rw [upd_same, nv]; rfl⟩
      rintro Hx ⟨sx, qx⟩
      have eV : (if c.nv then [V.int c.x0] else []).take vvs.length = if c.nv then [V.int c.x0] else [] := List.take_of_length_le (by rw [vl]; cases c.nv <;> exact Nat.le_refl _)
      rw [eV] at qx
      refine ⟨l4, _, rfl, .inl ⟨SqL.of qx, fun tv nt => ?_⟩⟩
      have st := sx.trans (new_same (o := HO.tup (if c.nv then [V.int c.x0] else [])) nt)
      refine ⟨l2, _, _, rfl, rfl, st _ _ q2, (by show 0 < sizeLine; decide), ?_⟩
      have u1 : Same H (upd (upd Hx tv (.tup (if c.nv then [V.int c.x0] else []))) l2 (.lst ([] ++ [V.ref tv]))) := fun a o h => by rw [upd_ne (f2 h)]; exact st _ _ (s1 _ _ h)
      have u2 : upd (upd Hx tv (.tup (if c.nv then [V.int c.x0] else []))) l2 (.lst ([] ++ [V.ref tv])) l2 = some (.lst [V.ref tv]) := upd_same
      have u3 : upd (upd Hx tv (.tup (if c.nv then [V.int c.x0] else []))) l2 (.lst ([] ++ [V.ref tv])) l3 = some (.lst []) := by rw [upd_ne (Ne.symm l23)]; exact st _ _ q3
      have u4 : upd (upd Hx tv (.tup (if c.nv then [V.int c.x0] else []))) l2 (.lst ([] ++ [V.ref tv])) l1 = some (.lst (if c.na then [V.str "a"] else [])) := by rw [upd_ne l12]; exact st _ _ q1
      have tvl : tv ≠ l2 := fun z => by
        have h9 := sx _ _ q2
        rw [← z, nt] at h9
        cases h9
      have u5 : upd (upd Hx tv (.tup (if c.nv then [V.int c.x0] else []))) l2 (.lst ([] ++ [V.ref tv])) tv = some (.tup (if c.nv then [V.int c.x0] else [])) := by rw [upd_ne tvl, upd_same]
      generalize upd (upd Hx tv (.tup (if c.nv then [V.int c.x0] else []))) l2 (.lst ([] ++ [V.ref tv])) = H3 at u1 u2 u3 u4 u5 ⊢
      -- held
      obtain ⟨fo, fr1, fr2⟩ := fr
      obtain ⟨hps, rfl, hpp⟩ : ∃ ps : List Addr, hs = ps.map V.ref ∧ Paired (fun p (kv : L2.Key × V) => SqT K H3 p [kV kv.1, kv.2]) ps (match c.hd with | none => [] | some n => [(Sum.inr "a", V.int n)]) := by
        unfold eHold at hn
        cases z : c.hd with
        | none =>
          rw [z] at hn
          cases hn
          exact ⟨[], rfl, .nil⟩
        | some n =>
          rw [z] at hn
          cases hn with
          | cons g1 g2 =>
            cases g2
            cases g1 with
            | @tup ta _ _ k1 k2 =>
              cases k2 with
              | cons k3 k4 =>
                cases k3
                cases k4 with
                | cons k5 k6 =>
                  cases k5
                  cases k6
                  exact ⟨[ta], rfl, .cons (SqT.of (u1 _ _ k1)) .nil⟩
      refine ⟨_, rfl, ca, _, 2, _, rfl, rfl, SqT.of (u1 _ _ i1), at_of (j := 2) rfl rfl, hb, hps, _, rfl, ⟨fo, u1 _ _ fr1, fr2⟩, hpp, fun dd nd => ?_⟩
      have sd := new_same (o := HO.dK (mergeK [] (match c.hd with | none => [] | some n => [(Sum.inr "a", V.int n)]))) nd
      have dq : upd H3 dd (HO.dK (mergeK [] (match c.hd with | none => [] | some n => [(Sum.inr "a", V.int n)]))) dd = some (HO.dK (mergeK [] (match c.hd with | none => [] | some n => [(Sum.inr "a", V.int n)]))) := upd_same
      generalize upd H3 dd (HO.dK (mergeK [] (match c.hd with | none => [] | some n => [(Sum.inr "a", V.int n)]))) = H4 at sd dq ⊢
      refine ⟨_, rfl, .inl ⟨rfl, _, SqL.of (sd _ _ u3)⟩, _, rfl, l1, rfl, ⟨_, SqL.of (sd _ _ u4)⟩, fun l5 n5 => ?_⟩
      refine lc_list (K := K) (xs := if c.na then [V.str "a"] else []) (fun i Hx => Same H4 Hx ∧ Hx l5 = some (.lst ((if c.na then [V.int (c.hd.getD 0)] else []).take i))) ⟨new_same n5, upd_same⟩ (fun i H1 _ ⟨sx, _⟩ => SqL.of (sx _ _ (sd _ _ u4))) ?_ ?_
      · rintro i x Hx hi ⟨sx, qx⟩
        have na : c.na = true := by
          cases z : c.na with
          | true => rfl
          | false => rw [z, if_neg Bool.false_ne_true] at hi; simp at hi
        rw [na, if_pos rfl] at hi
        have i0 : i = 0 := by have := (List.getElem?_eq_some_iff.mp hi).1; have : i < 1 := this; omega
        subst i0
        cases hi
        refine ⟨rfl, ?_⟩
        have eh : (valV (mergeK [] (match c.hd with | none => [] | some n => [((Sum.inr "a" : L2.Key), V.int n)])) (Sum.inr "a")).getD (V.int 0) = V.int (c.hd.getD 0) := by
          cases c.hd <;> rfl
        refine ⟨_, rfl, dd, rfl, .inl ⟨_, .inl (sx _ _ dq)⟩, _, rfl, _, DGet.k (k := Sum.inr "a") (sx _ _ dq), _, qx, (by show 0 < sizeLine; decide), fun a o h => ?_, ?_⟩
        · rw [upd_ne (ne_of_none h n5)]; exact sx _ _ h
        · rw [upd_same, eh, na]; rfl
      · rintro Hx ⟨sx, qx⟩
        have eV : (if c.na then [V.int (c.hd.getD 0)] else []).take (if c.na then [V.str "a"] else []).length = if c.na then [V.int (c.hd.getD 0)] else [] := by cases c.na <;> rfl
        rw [eV] at qx
        refine ⟨l5, _, rfl, .inl ⟨SqL.of qx, fun ta nt => ?_⟩⟩
        have st := (sd.trans sx).trans (new_same (o := HO.tup (if c.na then [V.int (c.hd.getD 0)] else [])) nt)
        have tal : ta ≠ l3 := fun z => by
          have h9 := sx _ _ (sd _ _ u3)
          rw [← z, nt] at h9
          cases h9
        refine ⟨l3, _, _, rfl, rfl, st _ _ u3, (by show 0 < sizeLine; decide), ?_⟩
        have tvl3 : tv ≠ l3 := fun z => by rw [z, u3] at u5; cases u5
        refine ⟨_, _, _, _, _, _, _, _, rfl, fun a o h => ?_, ?_, ?_, upd_same, (fun z => nomatch z), fun _ => ⟨tv, ta, rfl, rfl, ?_, ?_⟩⟩
        · rw [upd_ne (f3 h)]; exact st _ _ (u1 _ _ h)
        · rw [upd_ne l13]; exact st _ _ u4
        · rw [upd_ne l23]; exact st _ _ u2
        · rw [upd_ne tvl3]; exact st _ _ u5
        · rw [upd_ne tal, upd_same]
    · rintro σ H1 ⟨x2, x3, x6, x7, x8, x9, v2, v3, rfl, s1, q1, q2, q3, _, q4⟩
      obtain ⟨tv, ta, rfl, rfl, q5, q6⟩ := q4 rfl
      refine ⟨_, rfl, l2, _, rfl, .inl ⟨SqL.of q2, fun p1 m1 => ?_⟩⟩
      have r1 := new_same (o := HO.tup [V.ref tv]) m1
      refine ⟨_, rfl, l3, _, rfl, .inl ⟨SqL.of (r1 _ _ q3), fun p2 m2 => ?_⟩⟩
      have r2 := r1.trans (new_same (o := HO.tup [V.ref ta]) m2)
      have k1 := new_same (o := HO.tup [V.ref ta]) m2 _ _ (upd_same (H := H1) (a := p1) (o := HO.tup [V.ref tv]))
      have k2 := upd_same (H := upd H1 p1 (HO.tup [V.ref tv])) (a := p2) (o := HO.tup [V.ref ta])
      generalize upd (upd H1 p1 (HO.tup [V.ref tv])) p2 (HO.tup [V.ref ta]) = H5 at r2 k1 k2 ⊢
      have s5 := s1.trans r2
      refine ⟨_, rfl, ha, _, hdx, _, _, rfl, s5 _ _ h2, T.clHouse, T.nHouse_assets, rfl, as, rfl, ⟨_, SqT.of (s5 _ _ h3)⟩, fun l6 n6 => ?_⟩
      refine lc_tup (K := K) (xs := avs) (fun i Hx => Same H5 Hx ∧ Hx l6 = some (.lst ((if c.na then [V.int c.o0] else []).take i))) ⟨new_same n6, upd_same⟩ (fun i H1 _ ⟨sx, _⟩ => SqT.of (sx _ _ (s5 _ _ h3))) ?_ ?_
      · rintro i x Hx hi ⟨sx, qx⟩
        obtain ⟨rfl, na, t', rfl, e1⟩ := asset (s5.trans sx) hi
        refine ⟨t', _, rfl, SqT.of e1, rfl, _, _, rfl, _, _, rfl, rfl, rfl, ?_⟩
        exact ⟨_, rfl, _, qx, by show 0 < sizeLine; decide, fun a o h => by rw [upd_ne (ne_of_none h n6)]; exact sx _ _ h, by rw [upd_same, na]; rfl⟩
      rintro Hx ⟨sx, qx⟩
      have eO : (if c.na then [V.int c.o0] else []).take avs.length = if c.na then [V.int c.o0] else [] := List.take_of_length_le (by rw [avl]; cases c.na <;> exact Nat.le_refl _)
      rw [eO] at qx
      refine ⟨l6, _, rfl, .inl ⟨SqL.of qx, fun p3 m3 => ?_⟩⟩
      have r3 := sx.trans (new_same (o := HO.tup (if c.na then [V.int c.o0] else [])) m3)
      refine ⟨(by show 3 ≤ sizeLine; decide), fun p m => ?_⟩
      have r4 := r3.trans (new_same (o := HO.tup [V.ref p1, V.ref p2, V.ref p3]) m)
      refine k p _ (s5.trans r4) (eS_open.mpr ⟨p, p1, p2, tv, ta, p3, rfl, upd_same, r4 _ _ k1, r4 _ _ k2, ?_, ?_, ?_⟩)
      · have := r4 _ _ (r2 _ _ q5)
        rw [this]
        unfold first
        cases c.nv <;> rfl
      · exact r4 _ _ (r2 _ _ q6)
      · have := new_same (o := HO.tup [V.ref p1, V.ref p2, V.ref p3]) m _ _ (upd_same (H := Hx) (a := p3) (o := HO.tup (if c.na then [V.int c.o0] else [])))
        rw [this]
        unfold first
        cases c.na <;> rfl
theorem cal_first {f : Addr} {fd : FuncData} (F : FnP K "first_state" "first_state" s_first_state f fd) (T : Txt K mg) (g : mg "first_state" = some (.ref f)) : C8.Cal P w K mg base 1 "first_state" (spFirst K) [] :=
  ⟨f, fd, _, [], ok_first F T, g, F.kp, F.bindsN fun _ _ _ _ _ _ us hl => match us, hl with | [_], _ => rfl, .nil⟩
def spWorth (K : PySem.W.Frag) : Sp := fun vs H Q _ => ∃ (sv : V) (nv na : Bool) (s : S) (b : Addr) (ps : List Int), vs = [sv, .ref b] ∧ NK H (eS nv na s) sv ∧ H b = some (.lst (ps.map V.int)) ∧ ps.length = (if na then 1 else 0) ∧ (0 ≤ s.o ∧ s.o ≤ 4) ∧ (∀ p ∈ ps, 0 ≤ p ∧ p ≤ 9) ∧ ∀ H', Same H H' → Q (.int (if na then s.o * ps.headD 0 else 0)) H'
theorem sc_worth : FnScope ["state", "prices", "amount", "price"] ["state", "prices"] (defScope s_worth) := ⟨rfl, rfl, rfl, by decide +kernel, rfl, by decide +kernel, by decide +kernel⟩
theorem ok_worth {f : Addr} {fd : FuncData} (F : FnP K "worth" "worth" s_worth f fd) (T : Txt K mg) : FnOk P w K mg base CX0 1 f fd ["state", "prices"] (spWorth K) := by
  refine F.ok sc_worth (fun vs H Q E h => ?_) (fun cdv A outer s H vs Q E hr h => ?_)
  · obtain ⟨sv, nv, na, s, b, ps, rfl, _⟩ := h
    rfl
  · obtain ⟨sv, nv, na, s, b, ps, rfl, h1, h2, h3, so, hp, k⟩ := h
    refine ⟨_, PSs.nox ((pss_one (ps_ret (pe_callB (cr_sum rfl) (by rfl) T.sum bt_sum (pa_cons (pe_lc (own := [("amount", 2), ("price", 3)]) rfl sc_worth.nd (pi_zipTL rfl T.zip (pa_cons (pe_ix ix_tup (pv 0) pe_int (fun _ _ => rfl)) (pa_cons (pv 1) pa_nil))) (blkOk_by (own := [("amount", 2), ("price", 3)]) (N := ["state", "prices", "amount", "price"]) (sc := defScope s_worth) (by decide +kernel)) (fun _ _ _ _ _ => (pg_tupK (K := K) (n := 2) rfl rfl (pgs_cons (pg_name (i := 2) sc_worth.nd rfl (Or.inl rfl)) (pgs_cons (pg_name (i := 3) sc_worth.nd rfl (Or.inl rfl)) pgs_nil)))) (fun _ _ _ _ _ => pts_nil) (fun _ _ _ _ _ => (pe_op op_mul (pv 2) (pv 3)))) pa_nil))))), ?_⟩
    obtain ⟨a, a0, a1, b0, b1, b2, rfl, q, q0, q1, q2, q3, q4⟩ := eS_open.mp h1
    have xl : (if na then [V.int s.o] else []).length = (ps.map V.int).length := by rw [List.length_map, h3]; cases na <;> rfl
    refine ⟨_, rfl, a, _, 2, _, rfl, rfl, SqT.of q, at_of (j := 2) rfl rfl, _, rfl, b2, b, _, _, rfl, SqT.of q4, SqL.of h2, xl, fun l nl => ?_⟩
    have v1 : (if na then [V.int s.o] else []).length = (if na then 1 else 0) := by cases na <;> rfl
    refine lc_it (vs := _) walk_pair (fun i Hx => Same H Hx ∧ Hx l = some (.lst (((if na then [s.o * ps.headD 0] else []).map V.int).take i))) ⟨new_same nl, upd_same⟩ (fun i Hx _ ⟨sx, _⟩ => ⟨SqT.of (sx _ _ q4), SqL.of (sx _ _ h2)⟩) ?_ ?_
    · rintro i x Hx H2 hi ⟨sx, qx⟩ ⟨tp, y1, y2, rfl, ntp, rfl, g1, g2⟩
      have na' : na = true := by
        cases na with
        | true => rfl
        | false => rw [v1] at hi; cases hi
      subst na'
      have i0 : i = 0 := by have : i < 1 := hi; omega
      subst i0
      cases g1
      obtain ⟨pr, rfl⟩ : ∃ pr, ps = [pr] := by
        match ps, h3 with
        | [pr], _ => exact ⟨pr, rfl⟩
      cases g2
      have st := new_same (o := HO.tup [V.int s.o, V.int pr]) ntp
      refine ⟨tp, _, rfl, SqT.of upd_same, rfl, _, _, rfl, _, _, rfl, rfl, rfl, ?_⟩
      refine ⟨_, rfl, _, rfl, _, _, rfl, rfl, ?_, _, st _ _ qx, (by show 0 < sizeLine; decide), fun a o h => ?_, ?_⟩
      · have := hp pr List.mem_cons_self
        exact .inl ⟨by omega, by omega⟩
      · rw [upd_ne (ne_of_none h nl)]; exact st _ _ (sx _ _ h)
      · rw [upd_same]; rfl
    · rintro Hx ⟨sx, qx⟩
      have eV : ((if na then [s.o * ps.headD 0] else []).map V.int).take (if na then [V.int s.o] else []).length = (if na then [s.o * ps.headD 0] else []).map V.int := by cases na <;> rfl
      rw [eV] at qx
      refine ⟨l, _, rfl, SqL.of qx, ?_⟩
      have e5 : (if na then [s.o * ps.headD 0] else []).sum = if na then s.o * ps.headD 0 else 0 := by cases na <;> simp
      rw [e5]
      exact k _ sx
theorem cal_worth {f : Addr} {fd : FuncData} (F : FnP K "worth" "worth" s_worth f fd) (T : Txt K mg) (g : mg "worth" = some (.ref f)) : C8.Cal P w K mg base 1 "worth" (spWorth K) [] :=
  ⟨f, fd, _, [], ok_worth F T, g, F.kp, F.bindsN fun _ _ _ _ _ _ us hl => match us, hl with | [_, _], _ => rfl, .nil⟩
end
end NC
set_option Elab.async false
set_option linter.all false
set_option maxRecDepth 100000
set_option maxHeartbeats 4000000
/-! The mirror of Ways.after; valid states and pauses; the part of the heap that stays. -/
namespace NC
open PySem PySem.Spec PyProof.Rows L2
/-! ### valid -/
def vS (nv na : Bool) (tot : Int → Prop) (s : S) : Prop := s.Ok nv na ∧ tot (s.h + s.o)
theorem eS_inj {nv na : Bool} {s t : S} (hs : s.Ok nv na) (ht : t.Ok nv na) (h : eS nv na s = eS nv na t) : s = t := by
  unfold eS at h
  have h1 := NestedKey.tup.inj h
  obtain ⟨h2, h3⟩ := List.cons.inj h1
  obtain ⟨h4, h5⟩ := List.cons.inj h3
  have h6 := (List.cons.inj h5).1
  have h2 := (List.cons.inj (NestedKey.tup.inj h2)).1
  have h4 := (List.cons.inj (NestedKey.tup.inj h4)).1
  have h2 := NestedKey.tup.inj h2
  have h4 := NestedKey.tup.inj h4
  have h6 := NestedKey.tup.inj h6
  have op : ∀ {b : Bool} {m n : Int}, opt b m = opt b n → (b = false → m = 0 ∧ n = 0) → m = n := by
    intro b m n e z
    cases b with
    | true => exact NestedKey.num.inj (List.cons.inj e).1
    | false => rw [(z rfl).1, (z rfl).2]
  have x := op h2 (fun z => ⟨hs.nv z, ht.nv z⟩)
  have y := op h4 (fun z => ⟨(hs.na z).1, (ht.na z).1⟩)
  have w := op h6 (fun z => ⟨(hs.na z).2, (ht.na z).2⟩)
  cases s
  cases t
  simp only at x y w
  rw [x, y, w]
theorem eD_inj : ∀ {a b : List (Nat × Int)}, eD a = eD b → a = b := by
  intro a
  induction a with
  | nil =>
    intro b h
    cases b with
    | nil => rfl
    | cons q r =>
      have := NestedKey.tup.inj h
      simp at this
  | cons p r ih =>
    intro b h
    cases b with
    | nil =>
      have := NestedKey.tup.inj h
      simp at this
    | cons q t =>
      have := NestedKey.tup.inj h
      rw [List.flatMap_cons, List.flatMap_cons] at this
      obtain ⟨e1, e2⟩ := List.cons.inj this
      obtain ⟨e3, e4⟩ := List.cons.inj e2
      have e5 := ih (b := t) (congrArg NestedKey.tup e4)
      have e6 := NestedKey.num.inj e1
      have e7 := NestedKey.num.inj e3
      rw [e5]
      congr 1
      exact Prod.ext (by omega) e7
theorem eK_inj {nv na : Bool} {s t : S} {a b : List (Nat × Int)} (hs : s.Ok nv na) (ht : t.Ok nv na) (h : eK nv na s a = eK nv na t b) : s = t ∧ a = b := by
  obtain ⟨h1, h2⟩ := List.cons.inj (NestedKey.tup.inj h)
  exact ⟨eS_inj hs ht h1, eD_inj (List.cons.inj h2).1⟩
/-- how many questions are still to come -/
def akc (L : List Sm) : List (Nat × Int) → Nat
  | [] => 0
  | p :: r => (match L[p.1]? with | some (.ask _) => 1 | _ => 0) + akc L r
def akP (L : List Sm) : Ps → Nat
  | .asks _ pd _ => akc L pd
  | _ => 0
theorem akP_go (L : List Sm) : ∀ (s : S) (pd : List (Nat × Int)), akP L (go L s pd) ≤ akc L pd
  | s, [] => Nat.le_refl _
  | s, (n, g) :: r => by
    rw [go]
    show _ ≤ (match L[n]? with | some (.ask _) => 1 | _ => 0) + akc L r
    cases h : L[n]? with
    | none => exact Nat.zero_le _
    | some t =>
      cases t with
      | pl p =>
        simp only
        cases doP s g p with
        | none => exact Nat.zero_le _
        | some s' => exact Nat.le_trans (akP_go L s' r) (Nat.le_add_left _ _)
      | ask k =>
        simp only
        show akc L ((n, g) :: r) ≤ _
        show (match L[n]? with | some (.ask _) => 1 | _ => 0) + akc L r ≤ _
        rw [h]
        exact Nat.le_refl _
      | ite e a b =>
        simp only
        split
        · cases b with
          | none => exact Nat.le_trans (akP_go L s r) (Nat.le_add_left _ _)
          | some p =>
            simp only
            cases doP s g p with
            | none => exact Nat.zero_le _
            | some s' => exact Nat.le_trans (akP_go L s' r) (Nat.le_add_left _ _)
        · cases doP s g a with
          | none => exact Nat.zero_le _
          | some s' => exact Nat.le_trans (akP_go L s' r) (Nat.le_add_left _ _)
/-- the ends of a list -/
def tls {α : Type} : List α → List (List α)
  | [] => [[]]
  | x :: r => (x :: r) :: tls r
theorem tls_self {α : Type} : ∀ l : List α, l ∈ tls l
  | [] => List.mem_cons_self
  | _ :: _ => List.mem_cons_self
theorem tls_tail {α : Type} : ∀ (l : List α) {x : α} {r : List α}, (x :: r) ∈ tls l → r ∈ tls l
  | [], x, r, h => by cases List.mem_singleton.mp h
  | y :: t, x, r, h => by
    rcases List.mem_cons.mp h with e | h
    · cases e
      exact List.mem_cons_of_mem _ (tls_self t)
    · exact List.mem_cons_of_mem _ (tls_tail t h)
theorem tls_len {α : Type} : ∀ l : List α, (tls l).length = l.length + 1
  | [] => rfl
  | _ :: r => by rw [tls, List.length_cons, tls_len r, List.length_cons]
/-- what can be left of a call -/
def allPd (c : Cf) : List (List (Nat × Int)) := (List.range c.prs.length).flatMap fun i => ([0, 1, 2] : List Int).flatMap fun g => tls (withG (bodyOf c i) g [])
theorem allPd_tail {c : Cf} {x : Nat × Int} {r : List (Nat × Int)} (h : (x :: r) ∈ allPd c) : r ∈ allPd c := by
  unfold allPd at h ⊢
  obtain ⟨i, hi, h⟩ := List.mem_flatMap.mp h
  obtain ⟨g, hg, h⟩ := List.mem_flatMap.mp h
  exact List.mem_flatMap.mpr ⟨i, hi, List.mem_flatMap.mpr ⟨g, hg, tls_tail _ h⟩⟩
theorem flatMap_len {α β : Type} {f : α → List β} {n : Nat} : ∀ l : List α, (∀ x ∈ l, (f x).length ≤ n) → (l.flatMap f).length ≤ l.length * n
  | [], _ => by simp
  | x :: r, h => by
    have h1 := h x List.mem_cons_self
    have h2 := flatMap_len r fun y hy => h y (List.mem_cons_of_mem _ hy)
    rw [List.flatMap_cons, List.length_append, List.length_cons, Nat.succ_mul]
    omega
theorem body_len {c : Cf} (co : c.Ok) (i : Nat) : (bodyOf c i).length ≤ 4 := by
  unfold bodyOf
  cases h : c.prs[i]? with
  | none => exact Nat.zero_le _
  | some p =>
    show (numsB _ p.blk).length ≤ 4
    rw [numsB_len]
    exact (co.pr p (List.mem_of_getElem? h)).2.2.1
theorem allPd_len {c : Cf} (co : c.Ok) : (allPd c).length ≤ 30 := by
  have h1 : ∀ i ∈ List.range c.prs.length, ((([0, 1, 2] : List Int).flatMap fun g => tls (withG (bodyOf c i) g [])).length ≤ 15) := by
    intro i _
    refine Nat.le_trans (flatMap_len (n := 5) _ fun g _ => ?_) (Nat.le_refl _)
    rw [tls_len]
    have := body_len co i
    simp only [withG, List.length_append, List.length_map, List.length_nil]
    omega
  refine Nat.le_trans (flatMap_len _ h1) ?_
  rw [List.length_range]
  have := co.n2
  omega
/-- all states that may be -/
def allS : List S := ([0, 1] : List Int).flatMap fun x => ([0, 1, 2, 3, 4] : List Int).flatMap fun h => ([0, 1, 2, 3, 4] : List Int).map fun o => ⟨x, h, o⟩
theorem mem_allS {nv na : Bool} {s : S} (h : s.Ok nv na) : s ∈ allS := by
  obtain ⟨x0, x1, h0, o0, top, _, _⟩ := h
  have hx : s.x = 0 ∨ s.x = 1 := by omega
  have hh : s.h = 0 ∨ s.h = 1 ∨ s.h = 2 ∨ s.h = 3 ∨ s.h = 4 := by omega
  have ho : s.o = 0 ∨ s.o = 1 ∨ s.o = 2 ∨ s.o = 3 ∨ s.o = 4 := by omega
  refine List.mem_flatMap.mpr ⟨s.x, ?_, List.mem_flatMap.mpr ⟨s.h, ?_, List.mem_map.mpr ⟨s.o, ?_, by cases s; rfl⟩⟩⟩
  · simpa using hx
  · simpa using hh
  · simpa using ho
theorem nodup_len {α : Type} [DecidableEq α] : ∀ {l F : List α}, l.Nodup → (∀ a ∈ l, a ∈ F) → l.length ≤ F.length
  | [], _, _, _ => Nat.zero_le _
  | a :: r, F, hn, h => by
    obtain ⟨h1, h2⟩ := List.nodup_cons.mp hn
    have := nodup_len (F := F.erase a) h2 fun b hb => by
      have hb' := h b (List.mem_cons_of_mem _ hb)
      have : b ≠ a := fun z => h1 (z ▸ hb)
      exact (List.mem_erase_of_ne this).mpr hb'
    rw [List.length_erase_of_mem (h a List.mem_cons_self)] at this
    have := List.length_pos_of_mem (h a List.mem_cons_self)
    rw [List.length_cons]
    omega
/-- a pause that may be -/
def PsOk (c : Cf) (tot : Int → Prop) : Ps → Prop
  | .fail => True
  | .done s => vS c.nv c.na tot s
  | .asks s pd k => vS c.nv c.na tot s ∧ PdOk c.L pd ∧ pd.length ≤ 800 ∧ c.nv = true ∧ 1 ≤ k ∧ k ≤ 2 ∧ pd ∈ allPd c ∧ ∃ n g r, pd = (n, g) :: r ∧ c.L[n]? = some (.ask k)
theorem doP_tot {s s' : S} {g : Int} {p : Pl} (h : doP s g p = some s') : s'.h + s'.o = s.h + s.o := by
  have pa : ∀ {b : Bool} {v : Int}, pay s b v = some s' → s'.h + s'.o = s.h + s.o := by
    intro b v h
    unfold pay mv at h
    cases b with
    | true =>
      rw [if_pos rfl] at h
      split at h
      · cases h
      · have h2 := Option.some.inj h
        subst h2
        show s.h - v + (s.o + v) = _
        omega
    | false =>
      rw [if_neg Bool.false_ne_true] at h
      split at h
      · cases h
      · have h2 := Option.some.inj h
        subst h2
        show s.h + v + (s.o - v) = _
        omega
  cases p with
  | set e => have h' : st s (ev s g e) = s' := Option.some.inj h; subst h'; rfl
  | need e =>
    have h' : (if ev s g e = 0 then none else some s) = some s' := h
    split at h'
    · cases h'
    · cases h'; rfl
  | give e => exact pa h
  | get e => exact pa h
theorem doP_vS {c : Cf} {tot : Int → Prop} {s s' : S} {g : Int} {p : Pl} (hs : vS c.nv c.na tot s) (g0 : 0 ≤ g) (g1 : g ≤ 65535) (po : p.ok c.nv c.na = true) (h : doP s g p = some s') : vS c.nv c.na tot s' :=
  ⟨doP_ok hs.1 g0 g1 po h, by rw [doP_tot h]; exact hs.2⟩
theorem st_vS {c : Cf} {tot : Int → Prop} {s : S} (hs : vS c.nv c.na tot s) (a : Int) (h : c.nv = true) : vS c.nv c.na tot (st s a) := ⟨st_ok hs.1 a h, hs.2⟩
theorem go_ok {c : Cf} {tot : Int → Prop} (lo : LnOk c.nv c.na c.L) : ∀ (s : S) (pd : List (Nat × Int)), vS c.nv c.na tot s → PdOk c.L pd → pd.length ≤ 800 → pd ∈ allPd c → PsOk c tot (go c.L s pd)
  | s, [], hs, _, _, _ => hs
  | s, (n, g) :: r, hs, hp, hl, hm => by
    have hm' := allPd_tail hm
    have hr := hp.tail
    have hl' : r.length ≤ 800 := by simp only [List.length_cons] at hl; omega
    obtain ⟨hn, g0, g1⟩ := hp (n, g) List.mem_cons_self
    rw [go]
    cases h : c.L[n]? with
    | none => exact True.intro
    | some t =>
      have to := lo.ok n t h
      cases t with
      | pl p =>
        simp only
        cases e : doP s g p with
        | none => exact True.intro
        | some s' => exact go_ok lo s' r (doP_vS hs g0 g1 to e) hr hl' hm'
      | ask k =>
        simp only [Sm.ok, Bool.and_eq_true, decide_eq_true_eq] at to
        exact ⟨hs, hp, hl, to.1, to.2.1, to.2.2, hm, n, g, r, rfl, h⟩
      | ite e a b =>
        simp only [Sm.ok, Bool.and_eq_true] at to
        simp only
        split
        · cases b with
          | none => exact go_ok lo s r hs hr hl' hm'
          | some p =>
            simp only
            cases e : doP s g p with
            | none => exact True.intro
            | some s' => exact go_ok lo s' r (doP_vS hs g0 g1 to.2.2 e) hr hl' hm'
        · cases e : doP s g a with
          | none => exact True.intro
          | some s' => exact go_ok lo s' r (doP_vS hs g0 g1 to.2.1 e) hr hl' hm'
theorem answ_ok {c : Cf} {tot : Int → Prop} (lo : LnOk c.nv c.na c.L) {s s' : S} {pd : List (Nat × Int)} {k a : Int} (h : PsOk c tot (.asks s pd k)) (hs : vS c.nv c.na tot s') : PsOk c tot (answ c.L pd s' a) := by
  obtain ⟨_, h2, h3, h4, _, _, h7, n, g, r, rfl, h8⟩ := h
  exact go_ok lo _ _ (st_vS hs a h4) h2.tail (by simp only [List.length_cons, List.tail] at h3 ⊢; omega) (allPd_tail h7)
theorem akP_answ {c : Cf} {tot : Int → Prop} {s s' : S} {pd : List (Nat × Int)} {k a : Int} (h : PsOk c tot (.asks s pd k)) : akP c.L (answ c.L pd s' a) < akP c.L (.asks s pd k) := by
  obtain ⟨_, h2, h3, h4, _, _, h7, n, g, r, rfl, h8⟩ := h
  have := akP_go c.L (st s' a) r
  show akP c.L (go c.L (st s' a) r) < (match c.L[n]? with | some (.ask _) => 1 | _ => 0) + akc c.L r
  rw [h8]
  show _ < 1 + akc c.L r
  omega
/-! ### after, over any giver of rows -/
abbrev Kp := List ((S × List (Nat × Int)) × (List S × Nat))
def addS (f : List S) (e : S) : List S := if e ∈ f then f else f ++ [e]
def addAll (f E : List S) : List S := E.foldl addS f
def kpGet {κ β : Type} [DecidableEq κ] (kp : List (κ × β)) (k : κ) : Option β := (kp.find? fun x => decide (x.1 = k)).map (·.2)
def kpPut {κ β : Type} [DecidableEq κ] (kp : List (κ × β)) (k : κ) (v : β) : List (κ × β) := if (kp.any fun x => decide (x.1 = k)) = true then kp.map fun x => if x.1 = k then (x.1, v) else x else kp ++ [(k, v)]
section
variable {R : Type} (row : R → S → List S × R) (L : List Sm)
/-- one answer more -/
def stepA (aft : R × Kp → Ps → (List S × Nat) × (R × Kp)) (pd : List (Nat × Int)) (s : S) (acc : (List S × Nat) × (R × Kp)) (a : Nat) : (List S × Nat) × (R × Kp) :=
  ((addAll acc.1.1 (aft acc.2 (answ L pd s a)).1.1, acc.1.2 + (aft acc.2 (answ L pd s a)).1.2), (aft acc.2 (answ L pd s a)).2)
def stepS (aft : R × Kp → Ps → (List S × Nat) × (R × Kp)) (pd : List (Nat × Int)) (k : Nat) (acc : (List S × Nat) × (R × Kp)) (s : S) : (List S × Nat) × (R × Kp) :=
  (List.range k).foldl (stepA L aft pd s) acc
def foldR (aft : R × Kp → Ps → (List S × Nat) × (R × Kp)) (pd : List (Nat × Int)) (k : Nat) (rs : List S) (acc : (List S × Nat) × (R × Kp)) : (List S × Nat) × (R × Kp) :=
  rs.foldl (stepS L aft pd k) acc
def aft : Nat → R × Kp → Ps → (List S × Nat) × (R × Kp)
  | _, st, .fail => (([], 1), st)
  | _, st, .done s => (([s], 1), st)
  | 0, st, .asks _ _ _ => (([], 1), st)
  | d + 1, st, .asks s pd k => match kpGet st.2 (s, pd) with
    | some v => (v, st)
    | none =>
      let r := row st.1 s
      let z := foldR L (aft d) pd k.toNat r.1 (([], 0), (r.2, st.2))
      (z.1, (z.2.1, kpPut z.2.2 (s, pd) z.1))
end
theorem kpGet_put {κ β : Type} [DecidableEq κ] (kp : List (κ × β)) (k j : κ) (v : β) : kpGet (kpPut kp k v) j = if j = k then some v else kpGet kp j := by
  unfold kpPut
  split
  · rename_i h
    induction kp with
    | nil => simp at h
    | cons x r ih =>
      rw [List.map_cons]
      by_cases hx : x.1 = k
      · rw [if_pos hx]
        by_cases hj : j = k
        · subst hj
          rw [if_pos rfl]
          unfold kpGet
          rw [List.find?_cons_of_pos (by simp [hx])]
          rfl
        · rw [if_neg hj]
          unfold kpGet
          rw [List.find?_cons_of_neg (by simp [hx]; exact fun z => hj z.symm), List.find?_cons_of_neg (by simp [hx]; exact fun z => hj z.symm)]
          by_cases hr : (r.any fun x => decide (x.1 = k)) = true
          · have := ih hr
            rw [if_neg hj] at this
            exact this
          · have e : (r.map fun x => if x.1 = k then (x.1, v) else x) = r := by
              have : ∀ x ∈ r, (if x.1 = k then (x.1, v) else x) = x := fun x hx => by
                rw [if_neg]
                intro z
                exact hr (List.any_eq_true.mpr ⟨x, hx, by simp [z]⟩)
              rw [List.map_congr_left this, List.map_id']
            rw [e]
      · rw [if_neg hx]
        have h' : (r.any fun x => decide (x.1 = k)) = true := by simpa [List.any_cons, hx] using h
        have ih := ih h'
        by_cases hj : x.1 = j
        · unfold kpGet
          rw [List.find?_cons_of_pos (by simp [hj]), List.find?_cons_of_pos (by simp [hj]), if_neg (fun z => hx (hj.trans z))]
        · unfold kpGet at ih ⊢
          rw [List.find?_cons_of_neg (by simpa using hj), List.find?_cons_of_neg (by simpa using hj)]
          exact ih
  · rename_i h
    have hn : ∀ x ∈ kp, x.1 ≠ k := fun x hx z => h (List.any_eq_true.mpr ⟨x, hx, by simp [z]⟩)
    unfold kpGet
    rw [List.find?_append]
    by_cases hj : j = k
    · subst hj
      rw [if_pos rfl]
      have : kp.find? (fun x => decide (x.1 = j)) = none := List.find?_eq_none.mpr fun x hx => by simpa using hn x hx
      rw [this]
      simp
    · rw [if_neg hj]
      cases kp.find? (fun x => decide (x.1 = j)) with
      | some y => rfl
      | none => simp [Ne.symm hj]
theorem nd1 {α : Type} (a : α) : [a].Nodup := List.nodup_cons.mpr ⟨List.not_mem_nil, List.nodup_nil⟩
/-- what is kept may be -/
structure KpOk (c : Cf) (tot : Int → Prop) (kp : Kp) : Prop where
  nd : (kp.map (·.1)).Nodup
  ok : ∀ y ∈ kp, vS c.nv c.na tot y.1.1 ∧ y.1.2 ∈ allPd c ∧ y.2.1.Nodup ∧ ∀ s ∈ y.2.1, vS c.nv c.na tot s
theorem kpGet_mem {κ β : Type} [DecidableEq κ] {kp : List (κ × β)} {k : κ} {v : β} (h : kpGet kp k = some v) : (k, v) ∈ kp := by
  unfold kpGet at h
  cases e : kp.find? (fun x => decide (x.1 = k)) with
  | none => rw [e] at h; cases h
  | some y =>
    rw [e] at h
    cases h
    have h1 := List.mem_of_find?_eq_some e
    have h2 := List.find?_some e
    have h3 : y.1 = k := by simpa using h2
    rw [← h3]
    exact h1
theorem kpPut_keys {κ β : Type} [DecidableEq κ] (kp : List (κ × β)) (k : κ) (v : β) : (kpPut kp k v).map (·.1) = if k ∈ kp.map (·.1) then kp.map (·.1) else kp.map (·.1) ++ [k] := by
  have e : (kp.any fun x => decide (x.1 = k)) = decide (k ∈ kp.map (·.1)) := by
    rw [Bool.eq_iff_iff, List.any_eq_true, decide_eq_true_eq, List.mem_map]
    exact ⟨fun ⟨x, h, z⟩ => ⟨x, h, by simpa using z⟩, fun ⟨x, h, z⟩ => ⟨x, h, by simpa using z⟩⟩
  unfold kpPut
  rw [e]
  by_cases h : k ∈ kp.map (·.1)
  · rw [if_pos (by simpa using h), if_pos h, List.map_map]
    refine List.map_congr_left fun x _ => ?_
    show (if x.1 = k then (x.1, v) else x).1 = x.1
    split <;> rfl
  · rw [if_neg (by simpa using h), if_neg h, List.map_append]
    rfl
theorem KpOk.put {c : Cf} {tot : Int → Prop} {kp : Kp} (h : KpOk c tot kp) {s : S} {pd : List (Nat × Int)} {v : List S × Nat} (hs : vS c.nv c.na tot s) (hp : pd ∈ allPd c) (hv : v.1.Nodup) (hv2 : ∀ x ∈ v.1, vS c.nv c.na tot x) : KpOk c tot (kpPut kp (s, pd) v) := by
  refine ⟨?_, fun y hy => ?_⟩
  · rw [kpPut_keys]
    split
    · exact h.nd
    · rename_i hn
      exact List.nodup_append.mpr ⟨h.nd, nd1 _, fun a ha b hb => by rw [List.mem_singleton.mp hb]; exact fun z => hn (z ▸ ha)⟩
  · unfold kpPut at hy
    split at hy
    · obtain ⟨x, hx, rfl⟩ := List.mem_map.mp hy
      split
      · exact ⟨(h.ok x hx).1, (h.ok x hx).2.1, hv, hv2⟩
      · exact h.ok x hx
    · rcases List.mem_append.mp hy with hy | hy
      · exact h.ok y hy
      · rw [List.mem_singleton.mp hy]
        exact ⟨hs, hp, hv, hv2⟩
theorem KpOk.len {c : Cf} {tot : Int → Prop} {kp : Kp} (h : KpOk c tot kp) (co : c.Ok) : kp.length ≤ 1500 := by
  have := nodup_len (F := allS.flatMap fun s => (allPd c).map fun p => (s, p)) h.nd fun k hk => by
    obtain ⟨y, hy, rfl⟩ := List.mem_map.mp hk
    exact List.mem_flatMap.mpr ⟨y.1.1, mem_allS (h.ok y hy).1.1, List.mem_map.mpr ⟨y.1.2, (h.ok y hy).2.1, rfl⟩⟩
  rw [List.length_map] at this
  refine Nat.le_trans this (Nat.le_trans (flatMap_len (n := 30) _ fun s _ => ?_) (by decide))
  rw [List.length_map]
  exact allPd_len co
theorem addS_nodup {f : List S} {e : S} (h : f.Nodup) : (addS f e).Nodup := by
  unfold addS
  split
  · exact h
  · rename_i hn
    exact List.nodup_append.mpr ⟨h, nd1 _, fun a ha b hb => by rw [List.mem_singleton.mp hb]; exact fun z => hn (z ▸ ha)⟩
theorem mem_addS {f : List S} {e x : S} : x ∈ addS f e ↔ x ∈ f ∨ x = e := by
  unfold addS
  split
  · rename_i h
    exact ⟨.inl, fun z => z.elim id fun z => z ▸ h⟩
  · rw [List.mem_append, List.mem_singleton]
theorem addAll_nodup : ∀ {E f : List S}, f.Nodup → (addAll f E).Nodup
  | [], _, h => h
  | _ :: r, _, h => addAll_nodup (E := r) (addS_nodup h)
theorem mem_addAll {x : S} : ∀ {E f : List S}, x ∈ addAll f E ↔ x ∈ f ∨ x ∈ E
  | [], f => by simp [addAll]
  | e :: r, f => by
    show x ∈ addAll (addS f e) r ↔ _
    rw [mem_addAll (E := r), mem_addS, List.mem_cons, or_assoc]
/-- what a giver of rows keeps true -/
structure Gives (c : Cf) (R : Type) where
  row : R → S → List S × R
  tot : Int → Prop
  good : R → Prop
  keeps : ∀ ρ s, good ρ → vS c.nv c.na tot s → good (row ρ s).2 ∧ ∀ x ∈ (row ρ s).1, vS c.nv c.na tot x
structure AftOk (c : Cf) {R : Type} (G : Gives c R) (z : (List S × Nat) × (R × Kp)) : Prop where
  nd : z.1.1.Nodup
  vs : ∀ x ∈ z.1.1, vS c.nv c.na G.tot x
  good : G.good z.2.1
  kp : KpOk c G.tot z.2.2
theorem stepA_ok {c : Cf} {R : Type} {G : Gives c R} (lo : LnOk c.nv c.na c.L) {f : R × Kp → Ps → (List S × Nat) × (R × Kp)} {s s' : S} {pd : List (Nat × Int)} {k : Int} (hp : PsOk c G.tot (.asks s pd k)) (hs : vS c.nv c.na G.tot s')
    (hf : ∀ st a, G.good st.1 → KpOk c G.tot st.2 → AftOk c G (f st (answ c.L pd s' a))) {acc : (List S × Nat) × (R × Kp)} (ha : AftOk c G acc) (a : Nat) : AftOk c G (stepA c.L f pd s' acc a) := by
  have h := hf acc.2 a ha.good ha.kp
  exact ⟨addAll_nodup ha.nd, fun x hx => (mem_addAll.mp hx).elim (ha.vs x) (h.vs x), h.good, h.kp⟩
theorem foldl_inv {α β : Type} {f : β → α → β} {P : β → Prop} : ∀ (l : List α) (b : β), P b → (∀ b, ∀ a ∈ l, P b → P (f b a)) → P (l.foldl f b)
  | [], _, h, _ => h
  | a :: r, b, h, k => foldl_inv r (f b a) (k b a List.mem_cons_self h) fun b x hx hb => k b x (List.mem_cons_of_mem _ hx) hb
theorem stepS_ok {c : Cf} {R : Type} {G : Gives c R} (lo : LnOk c.nv c.na c.L) {f : R × Kp → Ps → (List S × Nat) × (R × Kp)} {s s' : S} {pd : List (Nat × Int)} {k : Int} {m : Nat} (hp : PsOk c G.tot (.asks s pd k)) (hs : vS c.nv c.na G.tot s')
    (hf : ∀ st s' a, vS c.nv c.na G.tot s' → G.good st.1 → KpOk c G.tot st.2 → AftOk c G (f st (answ c.L pd s' a))) {acc : (List S × Nat) × (R × Kp)} (ha : AftOk c G acc) : AftOk c G (stepS c.L f pd m acc s') :=
  foldl_inv _ _ ha fun b a _ hb => stepA_ok lo hp hs (fun st a => hf st s' a hs) hb a
theorem aft_ok {c : Cf} {R : Type} {G : Gives c R} (lo : LnOk c.nv c.na c.L) : ∀ (d : Nat) (st : R × Kp) (p : Ps), G.good st.1 → KpOk c G.tot st.2 → PsOk c G.tot p → AftOk c G (aft G.row c.L d st p)
  | 0, st, .fail, h1, h2, _ => ⟨List.nodup_nil, (fun x hx => nomatch hx), h1, h2⟩
  | _ + 1, st, .fail, h1, h2, _ => ⟨List.nodup_nil, (fun x hx => nomatch hx), h1, h2⟩
  | 0, st, .done s, h1, h2, h3 => ⟨nd1 _, fun x hx => by rw [List.mem_singleton.mp hx]; exact h3, h1, h2⟩
  | _ + 1, st, .done s, h1, h2, h3 => ⟨nd1 _, fun x hx => by rw [List.mem_singleton.mp hx]; exact h3, h1, h2⟩
  | 0, st, .asks _ _ _, h1, h2, _ => ⟨List.nodup_nil, (fun x hx => nomatch hx), h1, h2⟩
  | d + 1, st, .asks s pd k, h1, h2, h3 => by
    rw [aft]
    cases e : kpGet st.2 (s, pd) with
    | some v =>
      have := h2.ok _ (kpGet_mem e)
      exact ⟨this.2.2.1, this.2.2.2, h1, h2⟩
    | none =>
      have hk := G.keeps st.1 s h1 h3.1
      have hz : AftOk c G (foldR c.L (aft G.row c.L d) pd k.toNat (G.row st.1 s).1 (([], 0), ((G.row st.1 s).2, st.2))) :=
        foldl_inv _ _ ⟨List.nodup_nil, (fun x hx => nomatch hx), hk.1, h2⟩ fun b a ha hb => stepS_ok lo h3 (hk.2 a ha) (fun st s' a hs g1 g2 => aft_ok lo d st _ g1 g2 (answ_ok lo h3 hs)) hb
      obtain ⟨hv, _, _, _, _, _, hm, _⟩ := h3
      exact ⟨hz.nd, hz.vs, hz.good, hz.kp.put hv hm hz.nd hz.vs⟩
end NC
set_option Elab.async false
set_option linter.all false
set_option maxRecDepth 100000
set_option maxHeartbeats 4000000
/-! The part of the heap that stays; dicts by states; walks of Ways. -/
namespace NC
open PySem PySem.Spec PyProof.Rows L2
/-! ### the part that stays -/
def cut (M : List Addr) (H : Hp) : Hp := fun a => if a ∈ M then none else H a
theorem cut_le (M : List Addr) (H : Hp) : Same (cut M H) H := fun a o h => by
  unfold cut at h
  split at h
  · cases h
  · exact h
theorem cut_of {M : List Addr} {H : Hp} {a : Addr} {o : HO} (h : H a = some o) (n : a ∉ M) : cut M H a = some o := by
  unfold cut
  rw [if_neg n]
  exact h
theorem cut_not {M : List Addr} {H : Hp} {a : Addr} {o : HO} (h : cut M H a = some o) : a ∉ M := fun n => by
  unfold cut at h
  rw [if_pos n] at h
  cases h
theorem SameNot.cut {D M : List Addr} {H H' : Hp} (s : SameNot D H H') (d : ∀ a ∈ D, a ∈ M) : Same (cut M H) (cut M H') := fun a o h => cut_of (s a o (cut_le M H a o h) fun z => cut_not h (d a z)) (cut_not h)
theorem Same.cut {M : List Addr} {H H' : Hp} (s : Same H H') : Same (NC.cut M H) (NC.cut M H') := fun a o h => cut_of (s a o (cut_le M H a o h)) (cut_not h)
/-- a new cell that will change -/
theorem cut_new {M : List Addr} {H : Hp} {p : Addr} {o : HO} (n : H p = none) : Same (cut M H) (cut (p :: M) (upd H p o)) := fun a u h => by
  have h' := cut_le M H a u h
  have ne := ne_of_none h' n
  exact cut_of (by rw [upd_ne ne]; exact h') fun z => (List.mem_cons.mp z).elim ne (cut_not h)
theorem cut_drop {M : List Addr} {H : Hp} {p : Addr} : Same (cut (p :: M) H) (cut M H) := fun a u h => cut_of (cut_le _ H a u h) fun z => cut_not h (List.mem_cons_of_mem _ z)
/-! ### dicts whose keys are told by κ -/
section
variable {κ β : Type} [DecidableEq κ] (enc : κ → NestedKey)
def DAt (Vr : β → V → Prop) : NEnts → List (κ × β) → Prop := Paired fun x y => x.1 = enc y.1 ∧ Vr y.2 x.2.2
end
section
variable {κ β : Type} [DecidableEq κ] {enc : κ → NestedKey} {Vr Vr' : β → V → Prop}
theorem DAt.mono {xs : NEnts} {kp : List (κ × β)} (h : DAt enc Vr xs kp) (k : ∀ y ∈ kp, ∀ v, Vr y.2 v → Vr' y.2 v) : DAt enc Vr' xs kp := by
  induction h with
  | nil => exact .nil
  | @cons x y xs ys h1 h2 ih => exact .cons ⟨h1.1, k y List.mem_cons_self _ h1.2⟩ (ih fun z hz => k z (List.mem_cons_of_mem _ hz))
theorem DAt.length {xs : NEnts} {kp : List (κ × β)} (h : DAt enc Vr xs kp) : xs.length = kp.length := Paired.length h
theorem DAt.get {xs : NEnts} {kp : List (κ × β)} (h : DAt enc Vr xs kp) {k : κ} (inj : ∀ y ∈ kp, enc y.1 = enc k → y.1 = k) : (kpGet kp k = none ∧ valV (kvN xs) (enc k) = none) ∨ ∃ b v, kpGet kp k = some b ∧ valV (kvN xs) (enc k) = some v ∧ Vr b v := by
  induction h with
  | nil => exact .inl ⟨rfl, rfl⟩
  | @cons x y xs ys h1 h2 ih =>
    have e0 : kvN (x :: xs) = (x.1, x.2.2) :: kvN xs := rfl
    rw [e0]
    by_cases e : y.1 = k
    · right
      refine ⟨y.2, x.2.2, ?_, valV_pos (p := (x.1, x.2.2)) (by rw [← e]; exact h1.1), h1.2⟩
      unfold kpGet
      rw [List.find?_cons_of_pos (by simp [e])]
      rfl
    · have e' : ¬ x.1 = enc k := fun z => e (inj y List.mem_cons_self (h1.1.symm.trans z))
      rw [valV_neg (p := (x.1, x.2.2)) e']
      have e2 : kpGet (y :: ys) k = kpGet ys k := by
        unfold kpGet
        rw [List.find?_cons_of_neg (by simpa using e)]
      rw [e2]
      exact ih fun z hz => inj z (List.mem_cons_of_mem _ hz)
theorem DAt.any {xs : NEnts} {kp : List (κ × β)} (h : DAt enc Vr xs kp) {k : κ} (inj : ∀ y ∈ kp, enc y.1 = enc k → y.1 = k) : (xs.any fun x => decide (x.1 = enc k)) = kp.any fun y => decide (y.1 = k) := by
  induction h with
  | nil => rfl
  | @cons x y xs ys h1 h2 ih =>
    rw [List.any_cons, List.any_cons, ih fun z hz => inj z (List.mem_cons_of_mem _ hz)]
    congr 1
    rw [h1.1]
    by_cases e : y.1 = k
    · rw [e]; simp
    · have : ¬ enc y.1 = enc k := fun z => e (inj y List.mem_cons_self z)
      simp [e, this]
theorem DAt.map {xs : NEnts} {kp : List (κ × β)} (h : DAt enc Vr xs kp) {k : κ} (inj : ∀ y ∈ kp, enc y.1 = enc k → y.1 = k) {v : V} {z : β} (hv : Vr z v) : DAt enc Vr (xs.map fun x => if x.1 = enc k then (x.1, x.2.1, v) else x) (kp.map fun x => if x.1 = k then (x.1, z) else x) := by
  induction h with
  | nil => exact .nil
  | @cons x y xs ys h1 h2 ih =>
    rw [List.map_cons, List.map_cons]
    refine .cons ?_ (ih fun z hz => inj z (List.mem_cons_of_mem _ hz))
    by_cases e : y.1 = k
    · rw [if_pos e, if_pos (by rw [h1.1, e])]
      exact ⟨h1.1, hv⟩
    · rw [if_neg e, if_neg fun z => e (inj y List.mem_cons_self (h1.1.symm.trans z))]
      exact h1
theorem DAt.put {xs : NEnts} {kp : List (κ × β)} (h : DAt enc Vr xs kp) {k : κ} (inj : ∀ y ∈ kp, enc y.1 = enc k → y.1 = k) {b : Addr} {v : V} {z : β} (hv : Vr z v) : DAt enc Vr (putN xs (enc k) b v) (kpPut kp k z) := by
  unfold putN kpPut
  rw [h.any inj]
  split
  · exact h.map inj hv
  · exact Paired.snoc h ⟨rfl, hv⟩
theorem DAt.refs {H : Hp} {xs : NEnts} {kp : List (κ × β)} (h : DAt enc Vr xs kp) (k : KeysOk H xs) : NKs H (kp.map fun y => enc y.1) (refsN xs) := by
  induction h with
  | nil => exact .nil
  | @cons x y xs ys h1 h2 ih =>
    refine .cons ?_ (ih fun z hz => k z (List.mem_cons_of_mem _ hz))
    show NK H (enc y.1) (.ref x.2.1)
    rw [← h1.1]
    exact (k x List.mem_cons_self).1
end
/-- the dict at d, what it holds told in the part that stays -/
def NDAt {κ β : Type} [DecidableEq κ] (w : World) (M : List Addr) (H : Hp) (d : Addr) (enc : κ → NestedKey) (Vr : Hp → β → V → Prop) (kp : List (κ × β)) : Prop := ∃ xs, H d = some (ndO w d xs) ∧ KeysOk (cut M H) xs ∧ DAt enc (Vr (cut M H)) xs kp
/-- what stays so while the heap grows -/
def Grows {β : Type} (Vr : Hp → β → V → Prop) : Prop := ∀ H H' b v, Same H H' → Vr H b v → Vr H' b v
section
variable {κ β : Type} [DecidableEq κ] {enc : κ → NestedKey} {Vr : Hp → β → V → Prop} {w : World} {M M' : List Addr} {H H' : Hp} {d : Addr} {kp : List (κ × β)}
theorem NDAt.keep (g : Grows Vr) (h : NDAt w M H d enc Vr kp) (s : Same (cut M H) (cut M' H')) (e : ∀ o, H d = some o → H' d = some o) : NDAt w M' H' d enc Vr kp := by
  obtain ⟨xs, h1, h2, h3⟩ := h
  exact ⟨xs, e _ h1, h2.tx (TX.same s), h3.mono fun y _ v q => g _ _ _ _ s q⟩
theorem NDAt.nget (h : NDAt w M H d enc Vr kp) {k : κ} (inj : ∀ y ∈ kp, enc y.1 = enc k → y.1 = k) {b : Addr} (hk : NK H (enc k) (.ref b)) (hd : (enc k).depth ≤ 8) : (kpGet kp k = none ∧ NGet w H d (.ref b) none) ∨ ∃ z v, kpGet kp k = some z ∧ NGet w H d (.ref b) (some v) ∧ Vr (cut M H) z v := by
  obtain ⟨xs, h1, h2, h3⟩ := h
  rcases h3.get inj with ⟨e1, e2⟩ | ⟨z, v, e1, e2, e3⟩
  · exact .inl ⟨e1, xs, enc k, b, .inl h1, h2.tx (TX.same (cut_le M H)), rfl, hk, hd, e2.symm⟩
  · exact .inr ⟨z, v, e1, ⟨xs, enc k, b, .inl h1, h2.tx (TX.same (cut_le M H)), rfl, hk, hd, e2.symm⟩, e3⟩
theorem NDAt.nput (h : NDAt w M H d enc Vr kp) {k : κ} (inj : ∀ y ∈ kp, enc y.1 = enc k → y.1 = k) {b : Addr} (hk : NK (cut M H) (enc k) (.ref b)) (hd : (enc k).depth ≤ 8) (hm : d ∈ M) (hl : kp.length < 100000) {z : β} {v : V} (hv : Vr (cut M H) z v) :
    ∃ xs', NPut w H d (.ref b) v (upd H d (ndO w d xs')) ∧ NDAt w M (upd H d (ndO w d xs')) d enc Vr (kpPut kp k z) := by
  obtain ⟨xs, h1, h2, h3⟩ := h
  have hx : xs.length < sizeLine := szl (by rw [h3.length]; exact hl)
  refine ⟨putN xs (enc k) b v, ⟨xs, enc k, b, h1, h2.tx (TX.same (cut_le M H)), rfl, NK.tx (TX.same (cut_le M H)) _ _ hk, hd, hx, rfl⟩, _, upd_same, ?_, ?_⟩
  · have e : cut M (upd H d (ndO w d (putN xs (enc k) b v))) = cut M H := by
      funext a
      unfold cut
      split
      · rfl
      · rename_i n
        rw [upd_ne fun z => n (by rw [z]; exact hm)]
    rw [e]
    exact putN_keys h2 hk hd
  · have e : cut M (upd H d (ndO w d (putN xs (enc k) b v))) = cut M H := by
      funext a
      unfold cut
      split
      · rfl
      · rename_i n
        rw [upd_ne fun z => n (by rw [z]; exact hm)]
    rw [e]
    exact h3.put inj hv
end
/-- the same of a dict that may be locked -/
def NDR {κ β : Type} [DecidableEq κ] (w : World) (M : List Addr) (H : Hp) (d : Addr) (enc : κ → NestedKey) (Vr : Hp → β → V → Prop) (kp : List (κ × β)) : Prop := ∃ xs, Rd H d (ndO w d xs) ∧ KeysOk (cut M H) xs ∧ DAt enc (Vr (cut M H)) xs kp
section
variable {κ β : Type} [DecidableEq κ] {enc : κ → NestedKey} {Vr : Hp → β → V → Prop} {w : World} {M M' : List Addr} {H H' : Hp} {d : Addr} {kp : List (κ × β)}
theorem NDAt.r (h : NDAt w M H d enc Vr kp) : NDR w M H d enc Vr kp := let ⟨xs, h1, h2, h3⟩ := h; ⟨xs, .inl h1, h2, h3⟩
theorem NDR.keep (g : Grows Vr) (h : NDR w M H d enc Vr kp) (s : Same (cut M H) (cut M' H')) (e : ∀ o, H d = some o → H' d = some o) : NDR w M' H' d enc Vr kp := by
  obtain ⟨xs, h1, h2, h3⟩ := h
  refine ⟨xs, ?_, h2.tx (TX.same s), h3.mono fun y _ v q => g _ _ _ _ s q⟩
  rcases h1 with h1 | ⟨o, h1⟩
  · exact .inl (e _ h1)
  · exact .inr ⟨o, e _ h1⟩
theorem NDR.nget (h : NDR w M H d enc Vr kp) {k : κ} (inj : ∀ y ∈ kp, enc y.1 = enc k → y.1 = k) {b : Addr} (hk : NK H (enc k) (.ref b)) (hd : (enc k).depth ≤ 8) : (kpGet kp k = none ∧ NGet w H d (.ref b) none) ∨ ∃ z v, kpGet kp k = some z ∧ NGet w H d (.ref b) (some v) ∧ Vr (cut M H) z v := by
  obtain ⟨xs, h1, h2, h3⟩ := h
  rcases h3.get inj with ⟨e1, e2⟩ | ⟨z, v, e1, e2, e3⟩
  · exact .inl ⟨e1, xs, enc k, b, h1, h2.tx (TX.same (cut_le M H)), rfl, hk, hd, e2.symm⟩
  · exact .inr ⟨z, v, e1, ⟨xs, enc k, b, h1, h2.tx (TX.same (cut_le M H)), rfl, hk, hd, e2.symm⟩, e3⟩
end
theorem cut_upd {M : List Addr} {H : Hp} {d : Addr} {o : HO} (hm : d ∈ M) : cut M (upd H d o) = cut M H := by
  funext a
  unfold cut
  split
  · rfl
  · rename_i n
    rw [upd_ne fun z => n (by rw [z]; exact hm)]
/-- a list of states -/
def LsAt (nv na : Bool) (H : Hp) (E : List S) (v : V) : Prop := ∃ l evs, v = .ref l ∧ H l = some (.lst evs) ∧ NKs H (E.map (eS nv na)) evs
theorem LsAt.grows {nv na : Bool} : Grows (LsAt nv na) := fun H H' b v s ⟨l, evs, e, h1, h2⟩ => ⟨l, evs, e, s _ _ h1, NKs.tx (TX.same s) _ _ h2⟩
/-- what is kept: the ends, their number -/
def VlAt (nv na : Bool) (H : Hp) (z : List S × Nat) (v : V) : Prop := ∃ t l, v = .ref t ∧ H t = some (.tup [l, .int z.2]) ∧ LsAt nv na H z.1 l
theorem VlAt.grows {nv na : Bool} : Grows (VlAt nv na) := fun H H' b v s ⟨t, l, e, h1, h2⟩ => ⟨t, l, e, s _ _ h1, LsAt.grows _ _ _ _ s h2⟩
theorem depth_opt (b : Bool) (n : Int) : (NestedKey.tup (opt b n)).depth ≤ 2 := by
  cases b
  · show (NestedKey.tup []).depth ≤ 2
    simp [NestedKey.depth, NestedKey.depthAll]
  · show (NestedKey.tup [.num n]).depth ≤ 2
    simp [NestedKey.depth, NestedKey.depthAll]
theorem depth_eS4 (nv na : Bool) (s : S) : (eS nv na s).depth ≤ 4 := by
  have h1 := depth_opt nv s.x
  have h2 := depth_opt na s.h
  have h3 := depth_opt na s.o
  simp only [eS, NestedKey.depth, NestedKey.depthAll] at h1 h2 h3 ⊢
  omega
theorem depth_eS (nv na : Bool) (s : S) : (eS nv na s).depth ≤ 8 := Nat.le_trans (depth_eS4 nv na s) (by decide)
theorem depth_eD (pd : List (Nat × Int)) : (eD pd).depth ≤ 2 := by
  unfold eD
  have : NestedKey.depthAll (pd.flatMap fun p => [.num p.1, .num p.2]) ≤ 1 := by
    induction pd with
    | nil => exact Nat.zero_le _
    | cons p r ih =>
      rw [List.flatMap_cons]
      show NestedKey.depthAll (.num p.1 :: .num p.2 :: (r.flatMap fun p => [.num p.1, .num p.2])) ≤ 1
      simp only [NestedKey.depthAll, NestedKey.depth]
      omega
  simp only [NestedKey.depth]
  omega
theorem nums_eS (nv na : Bool) (s : S) : nums (eS nv na s) = true := by
  have op : ∀ (b : Bool) (n : Int), numsAll (opt b n) = true := fun b n => by cases b <;> simp [opt, numsAll, nums]
  simp [eS, nums, numsAll, op]
theorem numsAll_map (nv na : Bool) : ∀ E : List S, numsAll (E.map (eS nv na)) = true
  | [] => by simp [numsAll]
  | s :: r => by rw [List.map_cons, numsAll, nums_eS, numsAll_map nv na r]; rfl
theorem depthAll_map (nv na : Bool) : ∀ E : List S, NestedKey.depthAll (E.map (eS nv na)) ≤ 4
  | [] => Nat.zero_le _
  | s :: r => by
    have h1 := depth_eS4 nv na s
    have h2 := depthAll_map nv na r
    rw [List.map_cons, NestedKey.depthAll]
    omega
/-- a state in a list of states -/
theorem inD_at {K : PySem.W.Frag} {H : Hp} {nv na : Bool} {s : S} {E : List S} {sv : V} {l : Addr} {evs : List V} (hs : NK H (eS nv na s) sv) (hl : SqL K H l evs) (he : NKs H (E.map (eS nv na)) evs) (so : s.Ok nv na) (eo : ∀ x ∈ E, x.Ok nv na) :
    ∃ d ds, Dp K H sv d ∧ Dp K H (.ref l) (.list ds) ∧ SeqAt.shaped d = true ∧ SeqAt.shaped (.list ds) = true ∧ (ds.any fun z => PyData.eqv z d) = decide (s ∈ E) := by
  refine ⟨_, _, NK.dp _ _ hs, .lst hl (NKs.dp _ _ he), data_shaped (nums_eS nv na s) (Nat.le_trans (depth_eS4 nv na s) (by decide)), list_shaped (numsAll_map nv na E) (Nat.le_trans (depthAll_map nv na E) (by decide)), ?_⟩
  rw [any_data, Bool.eq_iff_iff, decide_eq_true_eq, decide_eq_true_eq, List.mem_map]
  constructor
  · rintro ⟨x, hx, e⟩
    rw [← eS_inj (eo x hx) so e]
    exact hx
  · intro h
    exact ⟨s, h, rfl⟩
theorem op_inDK {X : Cx} {K : PySem.W.Frag} (hu : X.A.units + 65 < cLine) (e : X.K = K) : OpR X (compareOp .In) (rInD K) := e ▸ op_inD hu
theorem pe_fldK {X : Cx} {K : PySem.W.Frag} {e0 : Expr} {ta : TE} {f : Str} {pos : Pos} (h : X.K = K) (he : PE X e0 ta) (hb : attributeBase e0 f X.env (eval e0 X.env) = eval e0 X.env) : PE X (.Attribute e0 f pos) (tFld K ta f) := h ▸ pe_fld he hb
theorem pe_ngetK {X : Cx} {w : World} {o i : Expr} {td ty : TE} {pos : Pos} (h : X.w = w) (hu : X.A.units + 9 < cLine) (ho : PE X o td) (hi : PE X i ty) (hs : NoSl i) : PE X (.Subscript o i pos) (tNGet w td ty) := h ▸ pe_nget hu ho hi hs
theorem call_list_ofK {X : Cx} {K : PySem.W.Frag} (h : X.K = K) : CallR X (.type "list") (fun xs H Q => ∃ p ys, xs = [.ref p] ∧ (SqL K H p ys ∨ SqT K H p ys) ∧ ∀ l, H l = none → Q (.ref l) (upd H l (.lst ys))) := h ▸ call_list_of
theorem call_tuple_ofK {X : Cx} {K : PySem.W.Frag} (h : X.K = K) : CallR X (.type "tuple") (fun xs H Q => ∃ p ys, xs = [.ref p] ∧ ((SqL K H p ys ∧ ∀ l, H l = none → Q (.ref l) (upd H l (.tup ys))) ∨ (SqT K H p ys ∧ Q (.ref p) H))) := h ▸ call_tuple_of
theorem op_notInDK {X : Cx} {K : PySem.W.Frag} (hu : X.A.units + 65 < cLine) (e : X.K = K) : OpR X (compareOp .NotIn) (rNotInD K) := e ▸ op_notInD hu
theorem depth_eK (nv na : Bool) (s : S) (pd : List (Nat × Int)) : (eK nv na s pd).depth ≤ 8 := by
  have h1 := depth_eS4 nv na s
  have h2 := depth_eD pd
  simp only [eK, NestedKey.depth, NestedKey.depthAll]
  omega
end NC
set_option Elab.async false
set_option linter.all false
set_option maxRecDepth 100000
set_option maxHeartbeats 4000000
/-! Walk of Ways.after. -/
namespace NC
open PySem PySem.Spec PyProof.Rows L2
/-- a cell that may change: no tuple, no pause -/
def mutO : HO → Prop
  | .tup _ => False
  | .ins _ _ fs => fs.lookup ("pending" : Str) = none
  | _ => True
/-- what may change: the cells at D; they stay such cells -/
structure Chg (D : List Addr) (H H' : Hp) : Prop where
  keep : SameNot D H H'
  mu : ∀ a ∈ D, (∃ o, H a = some o ∧ mutO o) → ∃ o, H' a = some o ∧ mutO o
theorem Chg.refl (D : List Addr) (H : Hp) : Chg D H H := ⟨SameNot.refl D H, fun _ _ h => h⟩
theorem Chg.trans {D : List Addr} {H H1 H2 : Hp} (s : Chg D H H1) (t : Chg D H1 H2) : Chg D H H2 := ⟨s.keep.trans t.keep, fun a ha h => t.mu a ha (s.mu a ha h)⟩
theorem Chg.same {D : List Addr} {H H' : Hp} (s : Same H H') : Chg D H H' := ⟨SameNot.same s, fun a _ ⟨o, h, m⟩ => ⟨o, s _ _ h, m⟩⟩
theorem Chg.put {D : List Addr} {H H' : Hp} {d : Addr} {o : HO} (s : Chg D H H') (hd : d ∈ D) (m : mutO o) : Chg D H (upd H' d o) := ⟨s.keep.put hd, fun a ha h => by
  by_cases z : a = d
  · exact ⟨o, by rw [z, upd_same], m⟩
  · rw [upd_ne z]; exact s.mu a ha h⟩
theorem Chg.mono {D E : List Addr} {H H' : Hp} (s : Chg D H H') (h : ∀ a ∈ D, a ∈ E) : Chg E H H' := ⟨s.keep.mono h, fun a ha ⟨o, ho, m⟩ => by
  by_cases z : a ∈ D
  · exact s.mu a z ⟨o, ho, m⟩
  · exact ⟨o, s.keep _ _ ho z, m⟩⟩
/-- a cell that was not there may change too -/
theorem Chg.less {D : List Addr} {H H' : Hp} {p : Addr} (s : Chg (p :: D) H H') (n : H p = none) : Chg D H H' := ⟨fun a o h z => s.keep a o h fun y => (List.mem_cons.mp y).elim (ne_of_none h n) z, fun a ha h => s.mu a (List.mem_cons_of_mem _ ha) h⟩
theorem Chg.cut {D M : List Addr} {H H' : Hp} (s : Chg D H H') (d : ∀ a ∈ D, a ∈ M) : Same (NC.cut M H) (NC.cut M H') := s.keep.cut d
/-- every cell of M is there, and may change -/
def Thr (M : List Addr) (H : Hp) : Prop := ∀ a ∈ M, ∃ o, H a = some o ∧ mutO o
theorem Thr.chg {D M : List Addr} {H H' : Hp} (t : Thr M H) (s : Chg D H H') : Thr M H' := fun a ha => by
  obtain ⟨o, h, m⟩ := t a ha
  by_cases z : a ∈ D
  · exact s.mu a z ⟨o, h, m⟩
  · exact ⟨o, s.keep _ _ h z, m⟩
theorem Thr.new {M : List Addr} {H : Hp} {p : Addr} (t : Thr M H) (n : H p = none) : p ∉ M := fun h => by
  obtain ⟨o, e, _⟩ := t p h
  rw [n] at e
  cases e
theorem Same.none {H H' : Hp} {a : Addr} (s : Same H H') (n : H' a = none) : H a = none := by
  cases e : H a with
  | none => rfl
  | some o => rw [s a o e] at n; cases n
theorem Thr.tx {M : List Addr} {H : Hp} (t : Thr M H) : TX H (cut M H) := fun b xs h => cut_of h fun z => by
  obtain ⟨o, e, m⟩ := t b z
  rw [h] at e
  cases e
  exact m
theorem PsAt.cut {K : PySem.W.Frag} {nv na : Bool} {M : List Addr} {H : Hp} (t : Thr M H) {a : Addr} {p : Ps} (h : PsAt K nv na H a p) : PsAt K nv na (NC.cut M H) a p := by
  have ps : ∀ {dx : Addr} {kd : Str} {s p : V} {n : Int}, H a = some (.ins (aPause K) dx (psF kd s p n)) → a ∉ M := fun e z => by
    obtain ⟨o, e2, m⟩ := t a z
    rw [e] at e2
    cases e2
    cases (show some _ = (none : Option V) from m)
  cases p with
  | fail => obtain ⟨dx, p, e⟩ := h; exact ⟨dx, p, cut_of e (ps e)⟩
  | done s => obtain ⟨dx, sv, p, e, e2⟩ := h; exact ⟨dx, sv, p, cut_of e (ps e), NK.tx t.tx _ _ e2⟩
  | asks s pd k => obtain ⟨dx, sv, p, e, e2, e3⟩ := h; exact ⟨dx, sv, p, cut_of e (ps e), NK.tx t.tx _ _ e2, NK.tx t.tx _ _ e3⟩
/-- more cells that may change, all new; what stays, stays -/
structure Ext (M : List Addr) (H : Hp) (M' : List Addr) (H' : Hp) : Prop where
  up : ∀ a ∈ M, a ∈ M'
  sm : Same (cut M H) (cut M' H')
  th : Thr M' H'
  nw : ∀ a ∈ M', a ∈ M ∨ H a = none
theorem Ext.trans {M M1 M2 : List Addr} {H H1 H2 : Hp} (a : Ext M H M1 H1) (b : Ext M1 H1 M2 H2) : Ext M H M2 H2 := ⟨fun x hx => b.up x (a.up x hx), a.sm.trans b.sm, b.th, fun x hx => by
  rcases b.nw x hx with h | h
  · exact a.nw x h
  · by_cases hm : x ∈ M
    · exact .inl hm
    · right
      cases e : H x with
      | none => rfl
      | some o =>
        have := cut_le _ _ _ _ (a.sm _ _ (cut_of e hm))
        rw [h] at this
        cases this⟩
theorem Ext.refl {M : List Addr} {H : Hp} (t : Thr M H) : Ext M H M H := ⟨fun _ h => h, Same.refl _, t, fun _ h => .inl h⟩
theorem Ext.same {M : List Addr} {H H' : Hp} (t : Thr M H) (s : Same H H') : Ext M H M H' := ⟨fun _ h => h, Same.cut s, t.chg (D := []) (Chg.same s), fun _ h => .inl h⟩
theorem Ext.chg {D M : List Addr} {H H' : Hp} (t : Thr M H) (s : Chg D H H') (d : ∀ a ∈ D, a ∈ M) : Ext M H M H' := ⟨fun _ h => h, s.cut d, t.chg s, fun _ h => .inl h⟩
/-- a giver of rows as an object: its cells are in M, not in X; row_of may change those at D -/
structure Prov (K : PySem.W.Frag) (w : World) (c : Cf) (R : Type) extends Gives c R where
  C : Addr
  cl : Cls K C
  inv : List Addr → List Addr → List Addr → Addr → R → Hp → Prop
  ins : ∀ {M X D r ρ H}, inv M X D r ρ H → ∃ dx fs, H r = some (.ins C dx fs) ∧ fs.lookup ("row_of" : Str) = none
  frame : ∀ {M X D M' X' r ρ H H'}, inv M X D r ρ H → Same (cut M H) (cut M' H') → (∀ a ∈ M, a ∉ X → a ∈ M' ∧ a ∉ X' ∧ ∀ o, H a = some o → H' a = some o) → inv M' X' D r ρ H'
def spRow {K : PySem.W.Frag} {w : World} {c : Cf} {R : Type} (G : Prov K w c R) : Sp := fun vs H Q _ => ∃ (r : Addr) (sv : V) (s : S) (ρ : R) (M X D : List Addr), vs = [.ref r, sv] ∧ G.inv M X D r ρ H ∧ (∀ a ∈ D, a ∈ M) ∧ (∀ a ∈ X, a ∈ M) ∧ Thr M H ∧ G.good ρ ∧ NK (cut M H) (eS c.nv c.na s) sv ∧ vS c.nv c.na G.tot s ∧
  ∀ l H' lv M', Chg D H H' → Ext M H M' H' → cut M' H' l = some (.lst lv) → NKs (cut M' H') ((G.row ρ s).1.map (eS c.nv c.na)) lv → G.inv M' X D r (G.row ρ s).2 H' → Q (.ref l) H'
def wF (e el r kd : Addr) : List (Str × V) := [("engine", .ref e), ("entries", .ref el), ("rows", .ref r), ("kept", .ref kd)]
def eKk (nv na : Bool) (k : S × List (Nat × Int)) : NestedKey := eK nv na k.1 k.2
abbrev KptAt (w : World) (M : List Addr) (H : Hp) (kd : Addr) (nv na : Bool) (kp : Kp) : Prop := NDAt w M H kd (eKk nv na) (VlAt nv na) kp
theorem KpOk.inj {c : Cf} {tot : Int → Prop} {kp : Kp} (h : KpOk c tot kp) {k : S × List (Nat × Int)} (hk : k.1.Ok c.nv c.na) : ∀ y ∈ kp, eKk c.nv c.na y.1 = eKk c.nv c.na k → y.1 = k := fun y hy e => by
  obtain ⟨e1, e2⟩ := eK_inj (h.ok y hy).1.1 hk e
  exact Prod.ext e1 e2
def fu (f : List S) : List (S × Unit) := f.map fun s => (s, ())
theorem fu_put (f : List S) (e : S) : kpPut (fu f) e () = fu (addS f e) := by
  have h : ((fu f).any fun x => decide (x.1 = e)) = decide (e ∈ f) := by
    rw [Bool.eq_iff_iff, List.any_eq_true, decide_eq_true_eq]
    constructor
    · rintro ⟨x, hx, z⟩
      obtain ⟨s, hs, rfl⟩ := List.mem_map.mp hx
      have : s = e := by simpa using z
      exact this ▸ hs
    · intro hx
      exact ⟨(e, ()), List.mem_map.mpr ⟨e, hx, rfl⟩, by simp⟩
  unfold kpPut addS
  rw [h]
  by_cases he : e ∈ f
  · rw [if_pos (by simpa using he), if_pos he]
    have : ∀ x ∈ fu f, (if x.1 = e then (x.1, ()) else x) = x := fun x _ => by split <;> rfl
    rw [List.map_congr_left this, List.map_id']
  · rw [if_neg (by simpa using he), if_neg he]
    unfold fu
    rw [List.map_append]
    rfl
theorem fu_inj {nv na : Bool} {f : List S} {e : S} (h : ∀ x ∈ f, x.Ok nv na) (he : e.Ok nv na) : ∀ y ∈ fu f, eS nv na y.1 = eS nv na e → y.1 = e := fun y hy z => by
  obtain ⟨s, hs, rfl⟩ := List.mem_map.mp hy
  exact eS_inj (h s hs) he z
theorem vS_len {nv na : Bool} {tot : Int → Prop} {f : List S} (h : f.Nodup) (k : ∀ x ∈ f, vS nv na tot x) : f.length ≤ 50 := nodup_len (F := allS) h fun a ha => mem_allS (k a ha).1
def bT : Hp → Unit → V → Prop := fun _ _ v => v = .bl true
theorem bT_grows : Grows bT := fun _ _ _ _ _ h => h
section
variable {P : Program} {w : World} {K : PySem.W.Frag} {mg : Str → Option Value} {base : Heap}
/-- where the loops of after stand -/
structure AfSt {c : Cf} {R : Type} (G : Prov K w c R) (M3 : List Addr) (fd kd r : Addr) (D X : List Addr) (H2 H3 : Hp) (M : List Addr) (Hx : Hp) (z : (List S × Nat) × (R × Kp)) : Prop where
  ch : Chg (fd :: kd :: D) H2 Hx
  ex : Ext M3 H3 M Hx
  ok : AftOk c G.toGives z
  fo : NDAt w M Hx fd (eS c.nv c.na) bT (fu z.1.1)
  kp : KptAt w M Hx kd c.nv c.na z.2.2
  iv : G.inv M (fd :: X) D r z.2.1 Hx
def spAfter (P : Program) (w : World) (K : PySem.W.Frag) (mg : Str → Option Value) (base : Heap) (d : Nat) : Sp := fun vs H Q _ => ∃ (c : Cf) (R : Type) (G : Prov K w c R) (wa pp e el kd r dx : Addr) (ρ : R) (kp : Kp) (p : Ps) (M X D : List Addr), vs = [.ref wa, .ref pp] ∧ C8.Met P w K mg base 7 G.C "row_of" (spRow G) [] ∧
  H wa = some (.ins (aWays K) dx (wF e el r kd)) ∧ wa ∉ kd :: D ∧ (∀ a ∈ kd :: D, a ∈ M) ∧ kd ∈ X ∧ kd ∉ D ∧ (∀ a ∈ X, a ∈ M) ∧ Thr M H ∧ c.Ok ∧ EnAt K (cut M H) e c ∧ LnOk c.nv c.na c.L ∧ KptAt w M H kd c.nv c.na kp ∧ G.inv M X D r ρ H ∧ G.good ρ ∧ KpOk c G.tot kp ∧
  PsAt K c.nv c.na (cut M H) pp p ∧ PsOk c G.tot p ∧ akP c.L p < d ∧
  ∀ v H' M', Chg (kd :: D) H H' → Ext M H M' H' → KptAt w M' H' kd c.nv c.na (aft G.row c.L d (ρ, kp) p).2.2 → G.inv M' X D r (aft G.row c.L d (ρ, kp) p).2.1 H' → VlAt c.nv c.na (cut M' H') (aft G.row c.L d (ρ, kp) p).1 v → Q v H'
theorem sc_Ways_after : FnScope ["self", "pause", "key", "found", "count", "state", "answer", "ends", "more", "end"] ["self", "pause"] (defScope s_Ways_after) := ⟨rfl, rfl, rfl, by decide +kernel, rfl, by decide +kernel, by decide +kernel⟩
theorem ok_after {f : Addr} {fd : FuncData} (F : FnP K "after" "Ways.after" s_Ways_after f fd) (T : Txt K mg) (me : Meth K (aWays K) "after" f) (m_Engine_answered : C8.Met P w K mg base 7 (aEngine K) "answered" (spAnswered K) []) :
    ∀ d : Nat, FnOk P w K mg base CX0 (d + 8) f fd ["self", "pause"] (spAfter P w K mg base d) := by
  intro d
  induction d with
  | zero =>
    refine ⟨fun vs H Q E h => ?_, fun A outer s H args us vs Q E _ _ _ _ h => ?_⟩
    · obtain ⟨c, R, G, wa, pp, e, el, kd, r, dx, ρ, kp, p, M, X, D, rfl, _⟩ := h
      rfl
    · obtain ⟨c, R, G, wa, pp, e, el, kd, r, dx, ρ, kp, p, M, X, D, _, _, _, _, _, _, _, _, _, _, _, _, _, _, _, _, _, _, hd, _⟩ := h
      omega
  | succ d ih =>
    refine F.ok sc_Ways_after (fun vs H Q E h => ?_) (fun cdv A outer s H vs Q E hr h => ?_)
    · obtain ⟨c, R, G, wa, pp, e, el, kd, r, dx, ρ, kp, p, M, X, D, rfl, _⟩ := h
      rfl
    · obtain ⟨c, R, G, wa, pp, e, el, kd, r, dx, ρ, kp, p, M, X, D, rfl, m_Prov_row_of, hw, hwD, hM, hkX, kdD, hXM, ht, co, he, lo, hk, hi, hg, ko, hp, po, hd, k⟩ := h
      have hu := hu_of hr
      have hu9 := hu9 hr
      have m_Ways_after : C8.Met P w K mg base (d + 8) (aWays K) "after" (spAfter P w K mg base d) [] := ⟨f, fd, _, [], T.clWays, me, ih, F.bindsN fun _ _ _ _ _ _ us hl => match us, hl with | [_, _], _ => rfl, .nil⟩
      refine ⟨_, PSs.nox ((pss_cons (ps_if (pt_cmpR op_eq (pe_fld (pv 1) rfl) pe_str (nomark _)) (pss_one (ps_ret (pe_tup (pa_cons (pe_lst pa_nil) (pa_cons pe_int pa_nil))))) pss_nil)
      (pss_cons (ps_if (pt_cmpR op_eq (pe_fld (pv 1) rfl) pe_str (nomark _)) (pss_one (ps_ret (pe_tup (pa_cons (pe_lst (pa_cons (pe_fld (pv 1) rfl) pa_nil)) (pa_cons pe_int pa_nil))))) pss_nil)
      (pss_cons (ps_set (i := 2) sc_Ways_after.nd rfl (Or.inl rfl) (pe_tup (pa_cons (pe_fld (pv 1) rfl) (pa_cons (pe_fld (pv 1) rfl) pa_nil))))
      (pss_cons (ps_if (pt_cmpR (op_nnotin hu9) (pv 2) (pe_fld (pv 0) rfl) (by rfl)) (pss_cons (ps_set (i := 3) sc_Ways_after.nd rfl (Or.inl rfl) pe_nnew)
      (pss_cons (ps_set (i := 4) sc_Ways_after.nd rfl (Or.inl rfl) pe_int)
      (pss_cons (ps_for PassesOwn.never rfl (pi_list (C8.pe_mt m_Prov_row_of hr (by omega) (pe_fld (pv 0) rfl) (pa_cons (pe_fld (pv 1) rfl) pa_nil))) (pg_name (i := 5) sc_Ways_after.nd rfl (Or.inl rfl)) (pss_one (ps_for PassesOwn.never rfl (pi_range1 rfl T.range (pa_cons (pe_fld (pv 1) rfl) pa_nil)) (pg_name (i := 6) sc_Ways_after.nd rfl (Or.inl rfl)) (pss_cons (ps_asg (C8.pe_mt m_Ways_after hr (by omega) (pv 0) (pa_cons (C8.pe_mt m_Engine_answered hr (by omega) (pe_fld (pv 0) rfl) (pa_cons (pv 1) (pa_cons (pv 5) (pa_cons (pv 6) pa_nil)))) pa_nil)) (pg_tup rfl (pgs_cons (pg_name (i := 7) sc_Ways_after.nd rfl (Or.inl rfl)) (pgs_cons (pg_name (i := 8) sc_Ways_after.nd rfl (Or.inl rfl)) pgs_nil))))
      (pss_cons (ps_set (i := 4) sc_Ways_after.nd rfl (Or.inl rfl) (pe_op op_add (pv 4) (pv 8)))
      (pss_one (ps_for PassesOwn.never rfl (pi_list (pv 7)) (pg_name (i := 9) sc_Ways_after.nd rfl (Or.inl rfl)) (pss_one (ps_nput hu9 (pv 3) (pv 9) pe_bl rfl)))))))))
      (pss_one (ps_nput hu9 (pe_fld (pv 0) rfl) (pv 2) (pe_tup (pa_cons (pe_callTy (call_nlist rfl) (by rfl) T.list bt_list (pa_cons (pv 3) pa_nil)) (pa_cons (pv 4) pa_nil))) rfl))))) pss_nil)
      (pss_one (ps_ret (pe_nget hu9 (pe_fld (pv 0) rfl) (pv 2) (fun _ _ => rfl))))))))), ?_⟩
      have cH := cut_le M H
      cases p with
      | fail =>
        obtain ⟨dxp, pv0, hp1⟩ := hp
        refine ⟨_, rfl, pp, _, dxp, _, _, rfl, cH _ _ hp1, T.clPause, T.nPause_kind, rfl, rfl, _, rfl, ifT rfl ?_⟩
        refine ⟨(by show 0 ≤ sizeLine; decide), fun l nl => ⟨(by show 2 ≤ sizeLine; decide), fun t nt => ?_⟩⟩
        have s1 := (new_same (o := HO.lst []) nl).trans (new_same (o := HO.tup [V.ref l, V.int 1]) nt)
        have lM := ht.new nl
        have tM : t ∉ M := ht.new (none_upd nt)
        refine k _ _ M (Chg.same s1) (Ext.same ht s1) (hk.keep VlAt.grows (Same.cut s1) (s1 _)) (G.frame hi (Same.cut s1) fun a ha hx => ⟨ha, hx, s1 a⟩) ⟨t, _, rfl, cut_of upd_same tM, l, [], rfl, cut_of (new_same nt _ _ upd_same) lM, .nil⟩
      | done s0 =>
        obtain ⟨dxp, sv, pv0, hp1, hp2⟩ := hp
        refine ⟨_, rfl, pp, _, dxp, _, _, rfl, cH _ _ hp1, T.clPause, T.nPause_kind, rfl, rfl, _, rfl, ifF rfl ?_⟩
        refine ⟨_, rfl, pp, _, dxp, _, _, rfl, cH _ _ hp1, T.clPause, T.nPause_kind, rfl, rfl, _, rfl, ifT rfl ?_⟩
        refine ⟨_, rfl, pp, _, dxp, _, _, rfl, cH _ _ hp1, T.clPause, T.nPause_state, rfl, (by show 1 ≤ sizeLine; decide), fun l nl => ⟨(by show 2 ≤ sizeLine; decide), fun t nt => ?_⟩⟩
        have s1 := (new_same (o := HO.lst [sv]) nl).trans (new_same (o := HO.tup [V.ref l, V.int 1]) nt)
        have lM := ht.new nl
        have tM : t ∉ M := ht.new (none_upd nt)
        exact k _ _ M (Chg.same s1) (Ext.same ht s1) (hk.keep VlAt.grows (Same.cut s1) (s1 _)) (G.frame hi (Same.cut s1) fun a ha hx => ⟨ha, hx, s1 a⟩) ⟨t, _, rfl, cut_of upd_same tM, l, [sv], rfl, cut_of (new_same nt _ _ upd_same) lM, .cons (NK.tx (TX.same (Same.cut s1)) _ _ hp2) .nil⟩
      | asks s0 pd n =>
        obtain ⟨dxp, sv, pv0, hp1, hp2, hp3⟩ := hp
        obtain ⟨b, rfl, hb⟩ := eD_iff.mp hp3
        obtain ⟨ov, op1, op2, op3, op4, op5, op6, on, og, orr, op7, op8⟩ := id po
        refine ⟨_, rfl, pp, _, dxp, _, _, rfl, cH _ _ hp1, T.clPause, T.nPause_kind, rfl, rfl, _, rfl, ifF rfl ?_⟩
        refine ⟨_, rfl, pp, _, dxp, _, _, rfl, cH _ _ hp1, T.clPause, T.nPause_kind, rfl, rfl, _, rfl, ifF rfl ?_⟩
        refine ⟨_, rfl, pp, _, dxp, _, _, rfl, cH _ _ hp1, T.clPause, T.nPause_state, rfl, _, rfl, pp, _, dxp, _, _, rfl, cH _ _ hp1, T.clPause, T.nPause_pending, rfl, (by show 2 ≤ sizeLine; decide), fun tk ntk => ?_⟩
        have s1 := new_same (o := HO.tup [sv, V.ref b]) ntk
        have tkM := ht.new ntk
        have tku := upd_same (H := H) (a := tk) (o := HO.tup [sv, V.ref b])
        generalize upd H tk (HO.tup [sv, V.ref b]) = H1 at s1 tku ⊢
        have c1 := Same.cut (M := M) s1
        replace hk := hk.keep VlAt.grows c1 (s1 _)
        have hi0 := hi
        replace hi := G.frame (X' := X) hi c1 fun a ha hx => ⟨ha, hx, s1 a⟩
        have ht0 := ht
        replace ht : Thr M H1 := ht.chg (D := []) (Chg.same s1)
        have hkey : NK (cut M H1) (eKk c.nv c.na (s0, pd)) (.ref tk) := .tup (cut_of tku tkM) (.cons (NK.tx (TX.same c1) _ _ hp2) (.cons (NK.tx (TX.same c1) _ _ hp3) .nil))
        have inj := ko.inj (k := (s0, pd)) ov.1
        have hw1 := s1 _ _ hw
        rcases hk.nget inj (NK.tx (TX.same (cut_le M H1)) _ _ hkey) (depth_eK _ _ _ _) with ⟨g1, g2⟩ | ⟨z, v, g1, g2, g3⟩
        · -- new
          refine ⟨_, rfl, _, rfl, wa, _, dx, _, _, rfl, hw1, T.clWays, T.nWays_kept, rfl, kd, _, rfl, g2, ?_⟩
          refine ⟨_, rfl, ifT rfl ?_⟩
          refine fun fd nfd => ?_
          dsimp only [cxOf, Cx.nox]
          have fdM := ht.new nfd
          have fkd : kd ≠ fd := fun z => by
            obtain ⟨xs, h9, _⟩ := hk
            rw [z, nfd] at h9
            cases h9
          have s2 := new_same (o := ndO w fd []) nfd
          have c2 : Same (cut M H1) (cut (fd :: M) (upd H1 fd (ndO w fd []))) := cut_new nfd
          have fu0 := upd_same (H := H1) (a := fd) (o := ndO w fd [])
          have ht2 : Thr (fd :: M) (upd H1 fd (ndO w fd [])) := fun a ha => by
            rcases List.mem_cons.mp ha with rfl | ha
            · exact ⟨_, upd_same, True.intro⟩
            · exact ht.chg (D := []) (Chg.same s2) a ha
          have hfd : H fd = none := Same.none s1 nfd
          generalize upd H1 fd (ndO w fd []) = H2 at s2 c2 fu0 ht2 ⊢
          have s12 := s1.trans s2
          replace hk : KptAt w (fd :: M) H2 kd c.nv c.na kp := hk.keep VlAt.grows c2 (s2 _)
          replace hi := G.frame (M' := fd :: M) (X' := fd :: X) hi c2 fun a ha hx => ⟨List.mem_cons_of_mem _ ha, fun z => (List.mem_cons.mp z).elim (fun z => fdM (z ▸ ha)) hx, s2 a⟩
          have hkey2 := NK.tx (TX.same c2) _ _ hkey
          have hw2 := s2 _ _ hw1
          have c12 : Same (cut M H) (cut (fd :: M) H2) := c1.trans c2
          have he2 := he.same c12
          have cH2 := cut_le (fd :: M) H2
          have hM2 : ∀ a ∈ kd :: D, a ∈ fd :: M := fun a ha => List.mem_cons_of_mem _ (hM a ha)
          have hDM : ∀ a ∈ D, a ∈ fd :: M := fun a ha => hM2 a (List.mem_cons_of_mem _ ha)
          have hpp := c12 _ _ hp1
          have hsv := NK.tx (TX.same c12) _ _ hp2
          have hpd := NK.tx (TX.same c12) _ _ hp3
          have fD : fd ∉ kd :: D := fun z => fdM (hM fd z)
          obtain ⟨dxr, fsr, hr1, hr2⟩ := G.ins hi
          have hXM2 : ∀ a ∈ fd :: X, a ∈ fd :: M := fun a ha => (List.mem_cons.mp ha).elim (fun z => by rw [z]; exact List.mem_cons_self) fun z => List.mem_cons_of_mem _ (hXM a z)
          refine ⟨_, rfl, wa, _, dx, _, _, rfl, hw2, T.clWays, T.nWays_rows, rfl, r, dxr, _, rfl, hr1, hr2, _, rfl, pp, _, dxp, _, _, rfl, cH2 _ _ hpp, T.clPause, T.nPause_state, rfl, r, sv, s0, ρ, fd :: M, fd :: X, D, rfl, hi, hDM, hXM2, ht2, hg, hsv, ov, fun l H3 lv M3 ch3 ex3 l3 l4 l5 => ?_⟩
          have k3 := hg
          obtain ⟨hg3, hrow⟩ := G.keeps ρ s0 hg ov
          have ch3k : Chg (kd :: D) H2 H3 := ch3.mono fun a ha => List.mem_cons_of_mem _ ha
          have wD : wa ∉ D := fun z => hwD (List.mem_cons_of_mem _ z)
          have fM3 : fd ∈ M3 := ex3.up fd List.mem_cons_self
          refine ⟨l, rfl, ⟨_, SqL.of (cut_le _ _ _ _ l3)⟩, for_list (K := K) (xs := lv) (fun i σ Hx => ∃ x5 x6 x7 x8 x9 z cn Mx, σ = [some (.ref wa), some (.ref pp), some (.ref tk), some (.ref fd), some (.int cn), x5, x6, x7, x8, x9] ∧ cn = ((z.1.2 : Nat) : Int) ∧ AfSt G M3 fd kd r D X H2 H3 Mx Hx z ∧
              z = foldR c.L (aft G.row c.L d) pd n.toNat ((G.row ρ s0).1.take i) (([], 0), ((G.row ρ s0).2, kp)))
            ⟨_, _, _, _, _, (([], 0), ((G.row ρ s0).2, kp)), _, M3, rfl, rfl, ⟨ch3k.mono fun a ha => List.mem_cons_of_mem _ ha, Ext.refl ex3.th, ⟨List.nodup_nil, (fun x hx => nomatch hx), hg3, ko⟩, ⟨[], ch3.keep _ _ fu0 fun z => fD (List.mem_cons_of_mem _ z), (fun x hx => nomatch hx), .nil⟩, hk.keep VlAt.grows ex3.sm fun o h => ch3.keep _ _ h kdD, l5⟩, rfl⟩
            (fun i σ Hx _ ⟨_, _, _, _, _, _, _, _, _, _, s1, _⟩ => SqL.of (cut_le _ _ _ _ (s1.ex.sm _ _ l3))) ?_ ?_⟩
          · rintro i x σ Hx hix ⟨x5, x6, x7, x8, x9, zi, cn, Mi, rfl, rfl, ai, ezi⟩
            have hil : i < (G.row ρ s0).1.length := by
              have := l4.length
              rw [List.length_map] at this
              rw [this]
              exact (List.getElem?_eq_some_iff.mp hix).1
            obtain ⟨s1', hs1⟩ : ∃ s', (G.row ρ s0).1[i]? = some s' := ⟨_, List.getElem?_eq_getElem hil⟩
            obtain ⟨x', e1, e2⟩ := l4.get (i := i) (k := eS c.nv c.na s1') (by rw [List.getElem?_map, hs1]; rfl)
            rw [hix] at e1
            cases e1
            have vs1 := hrow s1' (List.mem_of_getElem? hs1)
            have ppx := ai.ex.sm _ _ (ex3.sm _ _ hpp)
            refine ⟨_, rfl, pp, _, dxp, _, _, rfl, cut_le _ _ _ _ ppx, T.clPause, T.nPause_count, rfl, n, rfl, by omega, by omega, for_range (fun j σ Hx => ∃ x6 x7 x8 x9 z cn Mx, σ = [some (.ref wa), some (.ref pp), some (.ref tk), some (.ref fd), some (.int cn), some x, x6, x7, x8, x9] ∧ cn = ((z.1.2 : Nat) : Int) ∧ AfSt G M3 fd kd r D X H2 H3 Mx Hx z ∧
                z = (List.range j).foldl (stepA c.L (aft G.row c.L d) pd s1') zi)
              ⟨_, _, _, _, _, _, _, rfl, rfl, ai, rfl⟩ ?_ ?_⟩
            · rintro j σ Hy hj ⟨x6, x7, x8, x9, zj, cn, Mj, rfl, rfl, aj, ezj⟩
              have htj : Thr Mj Hy := aj.ex.th
              have wN : wa ∉ fd :: kd :: D := fun z => by
                rcases List.mem_cons.mp z with z | z
                · rw [z, hfd] at hw; cases hw
                · exact hwD z
              have hwy := aj.ch.keep _ _ hw2 wN
              have upj : ∀ a ∈ fd :: M, a ∈ Mj := fun a ha => aj.ex.up a (ex3.up a ha)
              have cy : Same (cut (fd :: M) H2) (cut Mj Hy) := ex3.sm.trans aj.ex.sm
              have hey := he2.same cy
              obtain ⟨dxe, hv', d1, d2, d3, l1, l2, l3', l4', d4, dp, ls, lv', pv2, bv, he3, _⟩ := hey.ex
              have leY := cut_le Mj Hy
              have hpy : PsAt K c.nv c.na Hy pp (.asks s0 ((on, og) :: orr) n) := by
                rw [← op7]
                exact ⟨dxp, sv, _, leY _ _ (cy _ _ hpp), NK.tx (TX.same (cy.trans leY)) _ _ hsv, NK.tx (TX.same (cy.trans leY)) _ _ hpd⟩
              refine ⟨_, rfl, wa, dx, _, rfl, hwy, rfl, _, rfl, wa, _, dx, _, _, rfl, hwy, T.clWays, T.nWays_engine, rfl, e, dxe, _, rfl, leY _ _ he3, rfl, _, rfl, _, rfl, _, rfl, e, pp, c, x, s1', s0, on, og, n, 0 + (j : Int), orr, rfl, hey.same leY, lo, NK.tx (TX.same (aj.ex.sm.trans leY)) _ _ e2, vs1.1, hpy, op3, op8, (op7 ▸ op1).tail, by rw [op7] at op2; simp only [List.length_cons] at op2; omega, fun p5 H5 s5 h5 => ?_⟩
              rw [← op7, Int.zero_add] at h5
              have c5 := Same.cut (M := Mj) s5
              have ht5 : Thr Mj H5 := htj.chg (D := []) (Chg.same s5)
              have hlt := akP_answ (s' := s1') (a := (j : Int)) po
              refine ⟨c, R, G, wa, p5, e, el, kd, r, dx, zj.2.1, zj.2.2, answ c.L pd s1' j, Mj, fd :: X, D, rfl, m_Prov_row_of, s5 _ _ hwy, hwD, fun a ha => upj a (hM2 a ha), List.mem_cons_of_mem _ hkX, kdD, fun a ha => upj a (hXM2 a ha), ht5, co, hey.same c5, lo, aj.kp.keep VlAt.grows c5 (s5 _), G.frame aj.iv c5 (fun a ha hx => ⟨ha, hx, s5 a⟩), aj.ok.good, aj.ok.kp, h5.cut ht5, answ_ok lo po vs1, by omega, fun v H6 M6 ch6 ex6 kp6 iv6 vl6 => ?_⟩
              have okz := aft_ok (G := G.toGives) lo d (zj.2.1, zj.2.2) (answ c.L pd s1' j) aj.ok.good aj.ok.kp (answ_ok lo po vs1)
              have ezj1 : stepA c.L (aft G.row c.L d) pd s1' zj j = ((addAll zj.1.1 (aft G.row c.L d (zj.2.1, zj.2.2) (answ c.L pd s1' j)).1.1, zj.1.2 + (aft G.row c.L d (zj.2.1, zj.2.2) (answ c.L pd s1' j)).1.2), (aft G.row c.L d (zj.2.1, zj.2.2) (answ c.L pd s1' j)).2) := rfl
              generalize aft G.row c.L d (zj.2.1, zj.2.2) (answ c.L pd s1' j) = y at kp6 iv6 vl6 okz ezj1
              obtain ⟨t6, l6, rfl, t6h, lx, evs, rfl, l6h, l6n⟩ := vl6
              have le6 := cut_le M6 H6
              refine ⟨t6, _, rfl, SqT.of (le6 _ _ t6h), rfl, _, _, rfl, _, _, rfl, rfl, ?_⟩
              refine ⟨_, rfl, _, rfl, _, _, rfl, rfl, ?_⟩
              have cj6 : Same (cut Mj Hy) (cut M6 H6) := c5.trans ex6.sm
              have fM6 : fd ∈ M6 := ex6.up fd (upj fd List.mem_cons_self)
              have fdM6 : ∀ a ∈ [fd], a ∈ M6 := fun a ha => by rw [List.mem_singleton.mp ha]; exact fM6
              have fo6 : NDAt w M6 H6 fd (eS c.nv c.na) bT (fu zj.1.1) := aj.fo.keep bT_grows cj6 fun o h => ch6.keep _ _ (s5 _ _ h) fD
              refine ⟨_, rfl, lx, rfl, ⟨_, SqL.of (le6 _ _ l6h)⟩, for_list (K := K) (xs := evs) (fun m σ Hz => ∃ x9, σ = [some (.ref wa), some (.ref pp), some (.ref tk), some (.ref fd), some (.int (((zj.1.2 : Nat) : Int) + ((y.1.2 : Nat) : Int))), some x, some (.int (0 + (j : Int))), some (.ref lx), some (.int ((y.1.2 : Nat) : Int)), x9] ∧ Chg [fd] H6 Hz ∧ NDAt w M6 Hz fd (eS c.nv c.na) bT (fu (addAll zj.1.1 (y.1.1.take m))))
                ⟨_, rfl, Chg.refl _ _, fo6⟩ (fun m σ Hz _ ⟨_, _, s1, _⟩ => SqL.of (cut_le _ _ _ _ (s1.cut fdM6 _ _ l6h))) ?_ ?_⟩
              · rintro m xm σ Hz hm ⟨x9, rfl, chz, foz⟩
                have hml : m < y.1.1.length := by
                  have := l6n.length
                  rw [List.length_map] at this
                  rw [this]
                  exact (List.getElem?_eq_some_iff.mp hm).1
                obtain ⟨sE, hsE⟩ : ∃ s', y.1.1[m]? = some s' := ⟨_, List.getElem?_eq_getElem hml⟩
                obtain ⟨x', e1', e2'⟩ := l6n.get (i := m) (k := eS c.nv c.na sE) (by rw [List.getElem?_map, hsE]; rfl)
                rw [hm] at e1'
                cases e1'
                have vE := okz.vs sE (List.mem_of_getElem? hsE)
                have cz : Same (cut M6 H6) (cut M6 Hz) := chz.cut fdM6
                have e3' := NK.tx (TX.same cz) _ _ e2'
                obtain ⟨bE, rfl⟩ : ∃ b, xm = V.ref b := by
                  cases e3' with
                  | tup _ _ => exact ⟨_, rfl⟩
                have fnd : (addAll zj.1.1 (y.1.1.take m)).Nodup := addAll_nodup aj.ok.nd
                have fvs : ∀ x ∈ addAll zj.1.1 (y.1.1.take m), vS c.nv c.na G.tot x := fun x hx => (mem_addAll.mp hx).elim (aj.ok.vs x) fun h => okz.vs x (List.mem_of_mem_take h)
                obtain ⟨xs', np, nd⟩ := foz.nput (k := sE) (z := ()) (v := .bl true) (fu_inj (fun x hx => (fvs x hx).1) vE.1) e3' (depth_eS _ _ _) fM6 (by unfold fu; rw [List.length_map]; exact Nat.lt_of_le_of_lt (vS_len fnd fvs) (by decide)) rfl
                refine ⟨_, rfl, _, rfl, fd, _, rfl, np, ?_⟩
                refine ⟨_, rfl, chz.put (List.mem_singleton_self fd) True.intro, ?_⟩
                rw [fu_put] at nd
                have e5 : addAll zj.1.1 (y.1.1.take (m + 1)) = addS (addAll zj.1.1 (y.1.1.take m)) sE := by
                  rw [List.take_succ, hsE]
                  unfold addAll
                  rw [List.foldl_append]
                  rfl
                rw [e5]
                exact nd
              · rintro σ Hz ⟨x9, rfl, chz, foz⟩
                have e6 : y.1.1.take evs.length = y.1.1 := by rw [← l6n.length, List.length_map, List.take_length]
                rw [e6] at foz
                have cz : Same (cut M6 H6) (cut M6 Hz) := chz.cut fdM6
                have nfd' : ∀ {a : Addr}, a ∈ kd :: D → a ∉ [fd] := fun ha z => fD (List.mem_singleton.mp z ▸ ha)
                refine ⟨_, _, _, _, stepA c.L (aft G.row c.L d) pd s1' zj j, _, M6, rfl, ?_, ⟨?_, ?_, ?_, ?_, ?_, ?_⟩, ?_⟩
                · rw [ezj1]
                  exact (Int.natCast_add _ _).symm
                · exact (((aj.ch.trans (Chg.same s5)).trans (ch6.mono fun a ha => List.mem_cons_of_mem _ ha)).trans (chz.mono fun a ha => by rw [List.mem_singleton.mp ha]; exact List.mem_cons_self))
                · exact ((aj.ex.trans (Ext.same htj s5)).trans ex6).trans (Ext.chg ex6.th chz fdM6)
                · rw [ezj1]
                  exact ⟨addAll_nodup aj.ok.nd, fun x hx => (mem_addAll.mp hx).elim (aj.ok.vs x) (okz.vs x), okz.good, okz.kp⟩
                · rw [ezj1]
                  exact foz
                · rw [ezj1]
                  exact kp6.keep VlAt.grows cz fun o h => chz.keep _ _ h (nfd' List.mem_cons_self)
                · rw [ezj1]
                  exact G.frame iv6 cz fun a ha hx => ⟨ha, hx, fun o h => chz.keep _ _ h fun z => hx (by rw [List.mem_singleton.mp z]; exact List.mem_cons_self)⟩
                · rw [List.range_succ, List.foldl_append, ← ezj]
                  rfl
            · rintro σ Hy ⟨x6, x7, x8, x9, zj, cn, Mj, rfl, rfl, aj, ezj⟩
              refine ⟨_, _, _, _, _, _, _, Mj, rfl, rfl, aj, ?_⟩
              rw [List.take_succ, hs1]
              unfold foldR
              have ezi' : zi = List.foldl (stepS c.L (aft G.row c.L d) pd n.toNat) (([], 0), ((G.row ρ s0).2, kp)) ((G.row ρ s0).1.take i) := ezi
              rw [List.foldl_append, ← ezi']
              exact ezj
          · rintro σ Hx ⟨x5, x6, x7, x8, x9, z, cn, Mx, rfl, rfl, az, ez⟩
            have el : (G.row ρ s0).1.take lv.length = (G.row ρ s0).1 := by
              rw [← l4.length, List.length_map, List.take_length]
            rw [el] at ez
            have htx : Thr Mx Hx := az.ex.th
            have upx : ∀ a ∈ fd :: M, a ∈ Mx := fun a ha => az.ex.up a (ex3.up a ha)
            have kdMx : kd ∈ Mx := upx kd (hM2 kd List.mem_cons_self)
            obtain ⟨fxs, f1, f2, f3⟩ := az.fo
            refine ⟨_, rfl, fd, fxs, rfl, .inl f1, f2.tx (TX.same (cut_le _ _)), fun p np => ⟨_, rfl, (by show 2 ≤ sizeLine; decide), fun t nt => ?_⟩⟩
            have sp := new_same (o := HO.lst (refsN fxs)) np
            have st := new_same (o := HO.tup [V.ref p, V.int ((z.1.2 : Nat) : Int)]) nt
            have pM := htx.new np
            have tM := (htx.chg (D := []) (Chg.same sp)).new nt
            have tu := upd_same (H := upd Hx p (HO.lst (refsN fxs))) (a := t) (o := HO.tup [V.ref p, V.int ((z.1.2 : Nat) : Int)])
            have pu := st _ _ (upd_same (H := Hx) (a := p) (o := HO.lst (refsN fxs)))
            have s7 := sp.trans st
            generalize upd (upd Hx p (HO.lst (refsN fxs))) t (HO.tup [V.ref p, V.int ((z.1.2 : Nat) : Int)]) = Hy at s7 tu pu ⊢
            have c7 := Same.cut (M := Mx) s7
            have c2y := (ex3.sm.trans az.ex.sm).trans c7
            have hty : Thr Mx Hy := htx.chg (D := []) (Chg.same s7)
            have wN : wa ∉ fd :: kd :: D := fun z => by
              rcases List.mem_cons.mp z with z | z
              · rw [z, hfd] at hw; cases hw
              · exact hwD z
            have hwy := s7 _ _ (az.ch.keep _ _ hw2 wN)
            have keyy := NK.tx (TX.same c2y) _ _ hkey2
            have vly : VlAt c.nv c.na (cut Mx Hy) z.1 (.ref t) := ⟨t, _, rfl, cut_of tu tM, p, refsN fxs, rfl, cut_of pu pM, by
              have := f3.refs f2
              rw [show (fu z.1.1).map (fun y => eS c.nv c.na y.1) = z.1.1.map (eS c.nv c.na) by unfold fu; rw [List.map_map]; rfl] at this
              exact NKs.tx (TX.same c7) _ _ this⟩
            have kpy : KptAt w Mx Hy kd c.nv c.na z.2.2 := az.kp.keep VlAt.grows c7 (s7 _)
            obtain ⟨xs', np', nd'⟩ := kpy.nput (k := (s0, pd)) (z := z.1) (az.ok.kp.inj ov.1) keyy (depth_eK _ _ _ _) kdMx (Nat.lt_of_le_of_lt (az.ok.kp.len co) (by decide)) vly
            refine ⟨_, rfl, wa, _, dx, _, _, rfl, hwy, T.clWays, T.nWays_kept, rfl, _, rfl, kd, _, rfl, np', ?_⟩
            have wkd : wa ≠ kd := fun z => hwD (by rw [z]; exact List.mem_cons_self)
            have ko' := az.ok.kp.put ov op6 az.ok.nd az.ok.vs
            have ch8 : Chg [kd] Hy (upd Hy kd (ndO w kd xs')) := (Chg.refl _ _).put (List.mem_singleton_self kd) True.intro
            have kd1 : ∀ a ∈ [kd], a ∈ Mx := fun a ha => by rw [List.mem_singleton.mp ha]; exact kdMx
            have c8 : Same (cut Mx Hy) (cut Mx (upd Hy kd (ndO w kd xs'))) := ch8.cut kd1
            have key8 := NK.tx (TX.same c8) _ _ keyy
            rcases nd'.nget (k := (s0, pd)) (ko'.inj ov.1) (NK.tx (TX.same (cut_le _ _)) _ _ key8) (depth_eK _ _ _ _) with ⟨m1, _⟩ | ⟨z', v', m1, m2, m3⟩
            · rw [kpGet_put, if_pos rfl] at m1
              cases m1
            · rw [kpGet_put, if_pos rfl] at m1
              cases m1
              refine ⟨_, rfl, wa, _, dx, _, _, rfl, by rw [upd_ne wkd]; exact hwy, T.clWays, T.nWays_kept, rfl, _, rfl, kd, _, rfl, m2, ?_⟩
              have ea : aft G.row c.L (d + 1) (ρ, kp) (.asks s0 pd n) = (z.1, (z.2.1, kpPut z.2.2 (s0, pd) z.1)) := by
                rw [aft, show kpGet (ρ, kp).2 (s0, pd) = none from g1, ez]
              rw [ea] at k
              have chA : Chg (fd :: kd :: D) H (upd Hy kd (ndO w kd xs')) := (((Chg.same s12).trans az.ch).trans (Chg.same s7)).put (List.mem_cons_of_mem _ List.mem_cons_self) True.intro
              have exA : Ext M H Mx (upd Hy kd (ndO w kd xs')) := ⟨fun a ha => upx a (List.mem_cons_of_mem _ ha), (c12.trans (ex3.sm.trans az.ex.sm)).trans (c7.trans c8), hty.chg ch8, fun a ha => by
                rcases (ex3.trans az.ex).nw a ha with z | z
                · rcases List.mem_cons.mp z with z | z
                  · exact .inr (by rw [z]; exact hfd)
                  · exact .inl z
                · exact .inr (Same.none s12 z)⟩
              refine k v' _ Mx (chA.less hfd) exA nd' (G.frame (M := Mx) (X := fd :: X) (H := Hx) az.iv (c7.trans c8) fun a ha hx => ⟨ha, fun z => hx (List.mem_cons_of_mem _ z), fun o h => ?_⟩) m3
              rw [upd_ne fun z => hx (List.mem_cons_of_mem _ (by rw [z]; exact hkX))]
              exact s7 _ _ h
        · -- kept
          refine ⟨_, rfl, _, rfl, wa, _, dx, _, _, rfl, hw1, T.clWays, T.nWays_kept, rfl, kd, _, rfl, g2, ?_⟩
          refine ⟨_, rfl, ifF rfl ?_⟩
          have ea : aft G.row c.L (d + 1) (ρ, kp) (.asks s0 pd n) = (z, (ρ, kp)) := by
            rw [aft, show kpGet (ρ, kp).2 (s0, pd) = some z from g1]
          rw [ea] at k
          exact ⟨_, rfl, wa, _, dx, _, _, rfl, hw1, T.clWays, T.nWays_kept, rfl, _, rfl, kd, _, rfl, g2, k v H1 M (Chg.same s1) (Ext.same ht0 s1) hk hi g3⟩
theorem met_after {f : Addr} {fd : FuncData} (F : FnP K "after" "Ways.after" s_Ways_after f fd) (T : Txt K mg) (me : Meth K (aWays K) "after" f) (m_Engine_answered : C8.Met P w K mg base 7 (aEngine K) "answered" (spAnswered K) []) : C8.Met P w K mg base 11 (aWays K) "after" (spAfter P w K mg base 3) [] :=
  ⟨f, fd, _, [], T.clWays, me, ok_after F T me m_Engine_answered 3, F.bindsN fun _ _ _ _ _ _ us hl => match us, hl with | [_, _], _ => rfl, .nil⟩
end
end NC
set_option Elab.async false
set_option linter.all false
set_option maxRecDepth 100000
set_option maxHeartbeats 4000000
/-! Walks of Ways: __init__, forget, of. -/
namespace NC
open PySem PySem.Spec PyProof.Rows L2
/-! ### a house that is well formed has well formed lines -/
theorem LnOk.nil {nv na : Bool} : LnOk nv na [] := ⟨fun n t h => by simp at h, fun n e a b h => by simp at h, fun n e a p h => by simp at h⟩
theorem LnOk.app {nv na : Bool} {A B : List Sm} (h : LnOk nv na A) (k : LnOk nv na B) : LnOk nv na (A ++ B) := by
  have lt : ∀ {n : Nat} {t : Sm}, A[n]? = some t → n < A.length := fun e => (List.getElem?_eq_some_iff.mp e).1
  refine ⟨fun n t e => ?_, fun n e a b g => ?_, fun n e a p g => ?_⟩
  · rw [List.getElem?_append] at e
    split at e
    · exact h.ok n t e
    · exact k.ok _ t e
  · rw [List.getElem?_append] at g
    split at g
    · have := h.fst n e a b g
      rw [List.getElem?_append_left (lt this)]
      exact this
    · rename_i hn
      have := k.fst _ e a b g
      rw [List.getElem?_append_right (by omega), show n + 1 - A.length = n - A.length + 1 by omega]
      exact this
  · rw [List.getElem?_append] at g
    split at g
    · have := h.snd n e a p g
      rw [List.getElem?_append_left (lt this)]
      exact this
    · rename_i hn
      have := k.snd _ e a p g
      rw [List.getElem?_append_right (by omega), show n + 2 - A.length = n - A.length + 2 by omega]
      exact this
theorem LnOk.one {nv na : Bool} {t : Sm} (h : t.ok nv na = true) : LnOk nv na (t :: t.inner) := by
  cases t with
  | pl p =>
    refine ⟨fun n t e => ?_, fun n e a b g => ?_, fun n e a p g => ?_⟩
    · cases n with
      | zero => cases e; exact h
      | succ n => simp [Sm.inner] at e
    · cases n with
      | zero => cases g
      | succ n => simp [Sm.inner] at g
    · cases n with
      | zero => cases g
      | succ n => simp [Sm.inner] at g
  | ask k =>
    refine ⟨fun n t e => ?_, fun n e a b g => ?_, fun n e a p g => ?_⟩
    · cases n with
      | zero => cases e; exact h
      | succ n => simp [Sm.inner] at e
    · cases n with
      | zero => cases g
      | succ n => simp [Sm.inner] at g
    · cases n with
      | zero => cases g
      | succ n => simp [Sm.inner] at g
  | ite x y z =>
    simp only [Sm.ok, Bool.and_eq_true] at h
    cases z with
    | none =>
      refine ⟨fun n t e => ?_, fun n e a b g => ?_, fun n e a p g => ?_⟩
      · match n, e with
        | 0, e => cases e; simp only [Sm.ok, Bool.and_eq_true]; exact ⟨h.1, h.2.1, trivial⟩
        | 1, e => cases e; exact h.2.1
        | n + 2, e => simp [Sm.inner] at e
      · match n, g with
        | 0, e => cases e; rfl
        | 1, e => cases e
        | n + 2, e => simp [Sm.inner] at e
      · match n, g with
        | 0, e => cases e
        | 1, e => cases e
        | n + 2, e => simp [Sm.inner] at e
    | some q =>
      refine ⟨fun n t e => ?_, fun n e a b g => ?_, fun n e a p g => ?_⟩
      · match n, e with
        | 0, e => cases e; simp only [Sm.ok, Bool.and_eq_true]; exact ⟨h.1, h.2.1, h.2.2⟩
        | 1, e => cases e; exact h.2.1
        | 2, e => cases e; exact h.2.2
        | n + 3, e => simp [Sm.inner] at e
      · match n, g with
        | 0, e => cases e; rfl
        | 1, e => cases e
        | 2, e => cases e
        | n + 3, e => simp [Sm.inner] at e
      · match n, g with
        | 0, e => cases e; rfl
        | 1, e => cases e
        | 2, e => cases e
        | n + 3, e => simp [Sm.inner] at e
theorem LnOk.flat {nv na : Bool} : ∀ {b : List Sm}, (∀ t ∈ b, t.ok nv na = true) → LnOk nv na (flatB b)
  | [], _ => .nil
  | t :: r, h => by
    show LnOk nv na (List.flatMap (fun t => t :: t.inner) (t :: r))
    rw [List.flatMap_cons]
    exact (LnOk.one (h t List.mem_cons_self)).app (LnOk.flat fun x hx => h x (List.mem_cons_of_mem _ hx))
theorem LnOk.lines {nv na : Bool} : ∀ {ps : List Pr}, (∀ p ∈ ps, ∀ t ∈ p.blk, t.ok nv na = true) → LnOk nv na (linesOf ps)
  | [], _ => .nil
  | p :: r, h => by
    show LnOk nv na (List.flatMap (fun p => flatB p.blk) (p :: r))
    rw [List.flatMap_cons]
    exact (LnOk.flat (h p List.mem_cons_self)).app (LnOk.lines fun x hx => h x (List.mem_cons_of_mem _ hx))
theorem Cf.Ok.ln {c : Cf} (co : c.Ok) : LnOk c.nv c.na c.L := LnOk.lines fun p hp => (co.pr p hp).2.2.2
theorem nums_lt : ∀ (n : Nat) (b : List Sm), ∀ m ∈ numsB n b, m < n + (flatB b).length
  | _, [], m, h => nomatch h
  | n, t :: r, m, h => by
    show m < n + (List.flatMap (fun t => t :: t.inner) (t :: r)).length
    rw [List.flatMap_cons, List.length_append, List.length_cons]
    rcases List.mem_cons.mp h with rfl | h
    · omega
    · have := nums_lt _ r m h
      show m < n + (t.inner.length + 1 + (flatB r).length)
      omega
theorem body_lt {c : Cf} {i : Nat} {m : Nat} (h : m ∈ bodyOf c i) : m < c.L.length := by
  unfold bodyOf at h
  cases e : c.prs[i]? with
  | none => rw [e] at h; cases h
  | some p =>
    rw [e] at h
    have h1 := nums_lt _ _ m h
    have h2 : (linesOf (c.prs.take (i + 1))).length ≤ c.L.length := by
      have : c.L = linesOf (c.prs.take (i + 1)) ++ linesOf (c.prs.drop (i + 1)) := by
        unfold Cf.L linesOf
        rw [← List.flatMap_append, List.take_append_drop]
      rw [this, List.length_append]
      omega
    rw [lines_take e, List.length_append] at h2
    unfold begins at h1
    omega
theorem ents_mem : ∀ {n : Nat} {ps : List Pr} {i : Nat} {g : Int}, (i, g) ∈ entOf n ps → ∃ j p, i = n + j ∧ ps[j]? = some p ∧ p.shown = true ∧ 0 ≤ g ∧ g < p.size
  | n, [], i, g, h => nomatch h
  | n, p :: r, i, g, h => by
    have h' : (i, g) ∈ entP n p ++ entOf (n + 1) r := h
    rcases List.mem_append.mp h' with h | h
    · unfold entP at h
      split at h
      · rename_i hs
        obtain ⟨a, ha, e⟩ := List.mem_map.mp h
        cases e
        have := List.mem_range.mp ha
        exact ⟨0, p, rfl, rfl, hs, by omega, by omega⟩
      · cases h
    · obtain ⟨j, q, e, h1, h2⟩ := ents_mem h
      exact ⟨j + 1, q, by omega, h1, h2⟩
theorem Cf.Ok.ent {c : Cf} (co : c.Ok) {i : Nat} {g : Int} (h : (i, g) ∈ c.ents) : (∃ p, c.prs[i]? = some p) ∧ 0 ≤ g ∧ g ≤ 2 ∧ PdOk c.L (withG (bodyOf c i) g []) ∧ withG (bodyOf c i) g [] ∈ allPd c := by
  obtain ⟨j, p, e, h1, h2, h3, h4⟩ := ents_mem h
  rw [Nat.zero_add] at e
  subst e
  have := (co.pr p (List.mem_of_getElem? h1)).2.1
  refine ⟨⟨p, h1⟩, h3, by omega, fun q hq => ?_, ?_⟩
  · unfold withG at hq
    rw [List.append_nil] at hq
    obtain ⟨m, hm, rfl⟩ := List.mem_map.mp hq
    exact ⟨body_lt hm, h3, by show g ≤ 65535; omega⟩
  · refine List.mem_flatMap.mpr ⟨i, List.mem_range.mpr (List.getElem?_eq_some_iff.mp h1).1, List.mem_flatMap.mpr ⟨g, ?_, tls_self _⟩⟩
    have : g = 0 ∨ g = 1 ∨ g = 2 := by omega
    simpa using this
theorem Cf.Ok.begun {c : Cf} (co : c.Ok) {tot : Int → Prop} {s : S} (hs : vS c.nv c.na tot s) {i : Nat} {g : Int} (h : (i, g) ∈ c.ents) : PsOk c tot (begun c s i g) := by
  obtain ⟨_, _, _, h1, h2⟩ := co.ent h
  exact go_ok co.ln _ _ hs h1 (by unfold withG; simp only [List.length_append, List.length_map, List.length_nil]; have := body_len co i; omega) h2
/-! ### the engine in the part that stays -/
def engO : HO → Prop
  | .ext _ => False
  | .ins _ _ fs => (fs.lookup ("assets" : Str)).isSome = true
  | _ => True
theorem EnAt.cut {K : PySem.W.Frag} {H : Hp} {e : Addr} {c : Cf} {M : List Addr} (x : EnAt K H e c) (hm : ∀ m ∈ M, ∀ o, H m = some o → ¬ engO o) : EnAt K (NC.cut M H) e c := by
  have k : ∀ {a : Addr} {o : HO}, H a = some o → engO o → NC.cut M H a = some o := fun h g => cut_of h fun z => hm _ z _ h g
  have t : TX H (NC.cut M H) := fun a xs h => k h True.intro
  obtain ⟨dx, hv, d1, d2, d3, l1, l2, l3, l4, d4, dp, ls, lv, pv, bv, h1, ⟨ha, hdx, as, cs, ct, vs, rfl, g1, g2, g3, g4, g5⟩, h3, h4, h5, h6, h7, h8, h9, h10, h11, h12, h13⟩ := x.ex
  refine ⟨dx, _, d1, d2, d3, l1, l2, l3, l4, d4, dp, ls, lv, pv, bv, k h1 rfl, ⟨ha, hdx, as, cs, ct, vs, rfl, k g1 rfl, t _ _ g2, NKs.tx t _ _ g3, t _ _ g4, g5.tx t fun a xs ⟨o, h, d⟩ => ⟨o, k h True.intro, d⟩⟩, k h3 True.intro, k h4 True.intro, k h5 True.intro, k h6 True.intro, k h7 True.intro, k h8 True.intro, fun i t' q => ?_, k h10 True.intro, fun i t' q => ?_, k h12 True.intro, fun i p q => ?_⟩
  · obtain ⟨a, b, g1, g2, g3⟩ := h9 i t' q
    exact ⟨a, b, g1, t _ _ g2, NK.tx t _ _ g3⟩
  · obtain ⟨a, t1, t2, g1, g2, g3, g4⟩ := h11 i t' q
    exact ⟨a, t1, t2, g1, t _ _ g2, t _ _ g3, t _ _ g4⟩
  · obtain ⟨a, g1, g2⟩ := h13 i p q
    exact ⟨a, g1, t _ _ g2⟩
theorem EnAt.but {K : PySem.W.Frag} {H H' : Hp} {e x : Addr} {c : Cf} (h : EnAt K H e c) (s : SameBut x H H') (n : ∀ o, H x = some o → ¬ engO o) : EnAt K H' e c :=
  (h.cut (M := [x]) fun m hm o ho => by rw [List.mem_singleton.mp hm] at ho; exact n o ho).same fun a o g => s a o (cut_le _ _ _ _ g) fun z => cut_not g (by rw [z]; exact List.mem_singleton_self x)
section
variable {P : Program} {w : World} {K : PySem.W.Frag} {mg : Str → Option Value} {base : Heap}
def spWays (w : World) (K : PySem.W.Frag) : Sp := fun vs H Q _ => ∃ (x dx r : Addr) (hv : V) (c : Cf), vs = [.ref x, hv, .ref r] ∧ H x = some (.ins (aWays K) dx []) ∧ HsAt K H c hv ∧ c.Ok ∧
  ∀ H' e el kd evs, SameBut x H H' → H' x = some (.ins (aWays K) dx (wF e el r kd)) → EnAt K H' e c → H' el = some (.lst evs) → NKs H' (c.ents.map entK) evs → H' kd = some (ndO w kd []) → H kd = none → Q .non H'
theorem sc_Ways_init : FnScope ["self", "house", "rows"] ["self", "house", "rows"] (defScope s_Ways_init) := ⟨rfl, rfl, rfl, by decide +kernel, rfl, by decide +kernel, by decide +kernel⟩
theorem ok_Ways {f : Addr} {fd : FuncData} (F : FnP K "__init__" "Ways.__init__" s_Ways_init f fd) (T : Txt K mg) (k_Engine : C8.Mak P w K mg base 4 "Engine" (aEngine K) (spEngine K) []) (m_Engine_entries : C8.Met P w K mg base 1 (aEngine K) "entries" (spEntries K) []) : FnOk P w K mg base CX0 6 f fd ["self", "house", "rows"] (spWays w K) := by
  refine F.ok sc_Ways_init (fun vs H Q E h => ?_) (fun cdv A outer s H vs Q E hr h => ?_)
  · obtain ⟨x, dx, r, hv, c, rfl, _⟩ := h
    rfl
  · obtain ⟨x, dx, r, hv, c, rfl, hx, hh, co, k⟩ := h
    refine ⟨_, PSs.nox ((pss_cons (ps_fld (pv 0) (C8.pe_mk k_Engine hr (by decide) (by rfl) (pa_cons (pv 1) pa_nil)) rfl)
      (pss_cons (ps_fld (pv 0) (C8.pe_mt0 m_Engine_entries hr (by decide) (pe_fld (pv 0) rfl)) rfl)
      (pss_cons (ps_fld (pv 0) (pv 2) rfl)
      (pss_one (ps_fld (pv 0) pe_nnew rfl)))))), ?_⟩
    dsimp only [cxOf, Cx.nox]
    refine ⟨_, rfl, fun e de ne nde nee => ?_⟩
    refine ⟨e, de, _, c, rfl, upd_same, hh.same ((new_same nde).trans (new_same (by rw [upd_ne (Ne.symm nee)]; exact ne))), co, fun H1 s1 en => ⟨rfl, ?_⟩⟩
    have s01 : Same H H1 := same_made ne nde s1
    have hx1 := s01 _ _ hx
    refine ⟨_, rfl, x, _, dx, _, rfl, hx1, T.clWays, T.nWays_engine, dok rfl, ?_⟩
    have nx0 : ∀ o, H1 x = some o → ¬ engO o := fun o ho z => by rw [hx1] at ho; cases ho; cases z
    have s2 := (SameBut.refl x H1).upd (o := .ins (aWays K) dx (putF "engine" (.ref e) []))
    have x2 := upd_same (H := H1) (a := x) (o := HO.ins (aWays K) dx (putF "engine" (.ref e) []))
    have e2 := en.but s2 nx0
    generalize upd H1 x (HO.ins (aWays K) dx (putF "engine" (.ref e) [])) = H2 at s2 x2 e2 ⊢
    obtain ⟨dxe, hv', d1, d2, d3, l1, l2, l3, l4, d4, dp, ls, lv, pv2, bv, h1, _⟩ := e2.ex
    refine ⟨_, rfl, x, _, dx, _, _, rfl, x2, T.clWays, T.nWays_engine, rfl, e, dxe, _, rfl, h1, rfl, e, c, rfl, e2, co, fun el H3 evs s3 q3 n3 => ?_⟩
    have x3 := s3 _ _ x2
    refine ⟨_, rfl, x, _, dx, _, rfl, x3, T.clWays, T.nWays_entries, dok rfl, ?_⟩
    refine ⟨_, rfl, _, rfl, x, _, dx, _, rfl, upd_same, T.clWays, T.nWays_rows, dok rfl, ?_⟩
    refine fun kd nkd => ⟨_, rfl, x, _, dx, _, rfl, new_same nkd _ _ upd_same, T.clWays, T.nWays_kept, dok rfl, ?_⟩
    have nkx : kd ≠ x := fun z => by rw [z, upd_same] at nkd; cases nkd
    have nk3 : H3 kd = none := none_upd (none_upd nkd)
    have nx3 : ∀ o, H3 x = some o → ¬ engO o := fun o ho z => by rw [x3] at ho; cases ho; cases z
    have s4 : SameBut x H3 (upd (upd (upd (upd H3 x (.ins (aWays K) dx (putF "entries" (.ref el) (putF "engine" (.ref e) [])))) x (.ins (aWays K) dx (putF "rows" (.ref r) (putF "entries" (.ref el) (putF "engine" (.ref e) []))))) kd (ndO w kd [])) x (.ins (aWays K) dx (putF "kept" (.ref kd) (putF "rows" (.ref r) (putF "entries" (.ref el) (putF "engine" (.ref e) [])))))) := fun a o h n => by
      rw [upd_ne n, upd_ne (ne_of_none h nk3), upd_ne n, upd_ne n]
      exact h
    have elx : el ≠ x := fun z => by rw [z, x3] at q3; cases q3
    have t4 : TX H3 (upd (upd (upd (upd H3 x (.ins (aWays K) dx (putF "entries" (.ref el) (putF "engine" (.ref e) [])))) x (.ins (aWays K) dx (putF "rows" (.ref r) (putF "entries" (.ref el) (putF "engine" (.ref e) []))))) kd (ndO w kd [])) x (.ins (aWays K) dx (putF "kept" (.ref kd) (putF "rows" (.ref r) (putF "entries" (.ref el) (putF "engine" (.ref e) [])))))) := fun a xs h => s4 _ _ h fun z => by rw [z, x3] at h; cases h
    refine k _ e el kd evs (fun a o h n => s4 _ _ (s3 _ _ (s2 _ _ (s01 _ _ h) n)) n) upd_same ((e2.same s3).but s4 nx3) (s4 _ _ q3 elx) (NKs.tx t4 _ _ n3) (by rw [upd_ne nkx, upd_same]) ?_
    cases z : H kd with
    | none => rfl
    | some o =>
      have := s3 _ _ (s2 _ _ (s01 _ _ z) nkx)
      rw [nk3] at this
      cases this
theorem mak_Ways {f : Addr} {fd : FuncData} (F : FnP K "__init__" "Ways.__init__" s_Ways_init f fd) (T : Txt K mg) (M : Mk K (aWays K) f) (g : mg "Ways" = some (.ref (aWays K))) (k_Engine : C8.Mak P w K mg base 4 "Engine" (aEngine K) (spEngine K) []) (m_Engine_entries : C8.Met P w K mg base 1 (aEngine K) "entries" (spEntries K) []) : C8.Mak P w K mg base 6 "Ways" (aWays K) (spWays w K) [] :=
  ⟨f, fd, _, [], M, ok_Ways F T k_Engine m_Engine_entries, g, F.bindsN fun _ _ _ _ _ _ us hl => match us, hl with | [_, _, _], _ => rfl, .nil⟩
/-! ### forget -/
def spForget (w : World) (K : PySem.W.Frag) : Sp := fun vs H Q _ => ∃ (x dx e el r kd : Addr), vs = [.ref x] ∧ H x = some (.ins (aWays K) dx (wF e el r kd)) ∧
  ∀ H' kd', SameBut x H H' → H' x = some (.ins (aWays K) dx (wF e el r kd')) → H' kd' = some (ndO w kd' []) → H kd' = none → Q .non H'
theorem sc_Ways_forget : FnScope ["self"] ["self"] (defScope s_Ways_forget) := ⟨rfl, rfl, rfl, by decide +kernel, rfl, by decide +kernel, by decide +kernel⟩
theorem ok_forget {f : Addr} {fd : FuncData} (F : FnP K "forget" "Ways.forget" s_Ways_forget f fd) (T : Txt K mg) : FnOk P w K mg base CX0 1 f fd ["self"] (spForget w K) := by
  refine F.ok sc_Ways_forget (fun vs H Q E h => ?_) (fun cdv A outer s H vs Q E hr h => ?_)
  · obtain ⟨x, dx, e, el, r, kd, rfl, _⟩ := h
    rfl
  · obtain ⟨x, dx, e, el, r, kd, rfl, hx, k⟩ := h
    refine ⟨_, PSs.nox ((pss_one (ps_fld (pv 0) pe_nnew rfl))), ?_⟩
    dsimp only [cxOf, Cx.nox]
    refine fun kd' nkd => ⟨_, rfl, x, _, dx, _, rfl, new_same nkd _ _ hx, T.clWays, T.nWays_kept, dok rfl, ?_⟩
    have nkx : kd' ≠ x := fun z => by rw [z, hx] at nkd; cases nkd
    exact k _ kd' (fun a o h n => by rw [upd_ne n, upd_ne (ne_of_none h nkd)]; exact h) upd_same (by rw [upd_ne nkx, upd_same]) nkd
theorem met_forget {f : Addr} {fd : FuncData} (F : FnP K "forget" "Ways.forget" s_Ways_forget f fd) (T : Txt K mg) (me : Meth K (aWays K) "forget" f) : C8.Met P w K mg base 1 (aWays K) "forget" (spForget w K) [] :=
  ⟨f, fd, _, [], T.clWays, me, ok_forget F T, F.bindsN fun _ _ _ _ _ _ us hl => match us, hl with | [_], _ => rfl, .nil⟩
/-! ### of -/
/-- a Ways object in use -/
structure WyAt {w : World} {c : Cf} {R : Type} (G : Prov K w c R) (M X D : List Addr) (wa r : Addr) (ρ : R) (kp : Kp) (e el kd dx : Addr) (H : Hp) : Prop where
  hw : H wa = some (.ins (aWays K) dx (wF e el r kd))
  wD : wa ∉ kd :: D
  dM : ∀ a ∈ kd :: D, a ∈ M
  kX : kd ∈ X
  kD : kd ∉ D
  xM : ∀ a ∈ X, a ∈ M
  th : Thr M H
  en : EnAt K (cut M H) e c
  kq : KptAt w M H kd c.nv c.na kp
  iv : G.inv M X D r ρ H
  gd : G.good ρ
  ko : KpOk c G.tot kp
def spOf (P : Program) (w : World) (K : PySem.W.Frag) (mg : Str → Option Value) (base : Heap) : Sp := fun vs H Q _ => ∃ (c : Cf) (R : Type) (G : Prov K w c R) (wa r : Addr) (sv ev : V) (s : S) (i : Nat) (g : Int) (ρ : R) (kp : Kp) (e el kd dx : Addr) (M X D : List Addr), vs = [.ref wa, sv, ev] ∧ C8.Met P w K mg base 7 G.C "row_of" (spRow G) [] ∧
  c.Ok ∧ WyAt G M X D wa r ρ kp e el kd dx H ∧ NK (cut M H) (eS c.nv c.na s) sv ∧ vS c.nv c.na G.tot s ∧ (i, g) ∈ c.ents ∧ NK (cut M H) (entK (i, g)) ev ∧ akP c.L (begun c s i g) < 3 ∧ (aft G.row c.L 3 (ρ, kp) (begun c s i g)).1.2 ≤ 2000 ∧
  ∀ v H' M', Chg (kd :: D) H H' → Ext M H M' H' → WyAt G M' X D wa r (aft G.row c.L 3 (ρ, kp) (begun c s i g)).2.1 (aft G.row c.L 3 (ρ, kp) (begun c s i g)).2.2 e el kd dx H' → LsAt c.nv c.na (cut M' H') (aft G.row c.L 3 (ρ, kp) (begun c s i g)).1.1 v → Q v H'
theorem sc_Ways_of : FnScope ["self", "state", "entry", "ends", "count"] ["self", "state", "entry"] (defScope s_Ways_of) := ⟨rfl, rfl, rfl, by decide +kernel, rfl, by decide +kernel, by decide +kernel⟩
theorem ok_of {f : Addr} {fd : FuncData} (F : FnP K "of" "Ways.of" s_Ways_of f fd) (T : Txt K mg) (m_Engine_begun : C8.Met P w K mg base 7 (aEngine K) "begun" (spBegun K) []) (m_Ways_after : C8.Met P w K mg base 11 (aWays K) "after" (spAfter P w K mg base 3) []) : FnOk P w K mg base CX0 12 f fd ["self", "state", "entry"] (spOf P w K mg base) := by
  refine F.ok sc_Ways_of (fun vs H Q E h => ?_) (fun cdv A outer s H vs Q E hr h => ?_)
  · obtain ⟨c, R, G, wa, r, sv, ev, s, i, g, ρ, kp, e, el, kd, dx, M, X, D, rfl, _⟩ := h
    rfl
  · obtain ⟨c, R, G, wa, r, sv, ev, s, i, g, ρ, kp, e, el, kd, dx, M, X, D, rfl, m_Prov_row_of, co, wy, hs, vs, hig, hev, hak, hle, k⟩ := h
    refine ⟨_, PSs.nox ((pss_cons (ps_asg (C8.pe_mt m_Ways_after hr (by decide) (pv 0) (pa_cons (C8.pe_mt m_Engine_begun hr (by decide) (pe_fld (pv 0) rfl) (pa_cons (pv 1) (pa_cons (pe_ix ix_tup (pv 2) pe_int (fun _ _ => rfl)) (pa_cons (pe_ix ix_tup (pv 2) pe_int (fun _ _ => rfl)) (pa_cons (pe_ix ix_tup (pv 2) pe_int (fun _ _ => rfl)) pa_nil))))) pa_nil)) (pg_tup rfl (pgs_cons (pg_name (i := 3) sc_Ways_of.nd rfl (Or.inl rfl)) (pgs_cons (pg_name (i := 4) sc_Ways_of.nd rfl (Or.inl rfl)) pgs_nil))))
      (pss_cons (ps_if (pt_cmpR op_gt (pv 4) (pe_gi T.gMOST_WAYS) (nomark _)) (pss_one ps_never) pss_nil)
      (pss_one (ps_ret (pv 3)))))), ?_⟩
    dsimp only [cxOf, Cx.nox]
    obtain ⟨dxe, hv', d1, d2, d3, l1, l2, l3, l4, d4, dp, ls, lv, pv2, bv, h1, _⟩ := wy.en.ex
    have le := cut_le M H
    cases hev with
    | @tup te _ _ t1 t2 =>
      cases t2 with
      | cons t3 t4 =>
        cases t3
        cases t4 with
        | cons t5 t6 =>
          cases t5
          cases t6 with
          | cons t7 t8 =>
            cases t7
            cases t8
            obtain ⟨⟨pr, hpr⟩, g0, g2, hpd, hall⟩ := co.ent hig
            refine ⟨_, rfl, wa, dx, _, rfl, wy.hw, rfl, _, rfl, wa, _, dx, _, _, rfl, wy.hw, T.clWays, T.nWays_engine, rfl, e, dxe, _, rfl, le _ _ h1, rfl, _, rfl, _, rfl, te, _, 0, _, rfl, rfl, SqT.of (le _ _ t1), at_of (j := 0) rfl rfl, _, rfl, te, _, 1, _, rfl, rfl, SqT.of (le _ _ t1), at_of (j := 1) rfl rfl, _, rfl, te, _, 2, _, rfl, rfl, SqT.of (le _ _ t1), at_of (j := 2) rfl rfl,
              e, c, sv, s, i, pr, g, rfl, wy.en.same le, co.ln, NK.tx (TX.same le) _ _ hs, vs.1, hpr, hpd, Nat.le_trans (body_len co i) (by decide), fun p5 H5 s5 h5 => ?_⟩
            have c5 := Same.cut (M := M) s5
            have ht5 : Thr M H5 := wy.th.chg (D := []) (Chg.same s5)
            refine ⟨c, R, G, wa, p5, e, el, kd, r, dx, ρ, kp, _, M, X, D, rfl, m_Prov_row_of, s5 _ _ wy.hw, wy.wD, wy.dM, wy.kX, wy.kD, wy.xM, ht5, co, wy.en.same c5, co.ln, wy.kq.keep VlAt.grows c5 (s5 _), G.frame wy.iv c5 (fun a ha hx => ⟨ha, hx, s5 a⟩), wy.gd, wy.ko, h5.cut ht5, co.begun vs hig, hak, fun v H6 M6 ch6 ex6 kp6 iv6 vl6 => ?_⟩
            have ok := aft_ok (G := G.toGives) co.ln 3 (ρ, kp) (begun c s i g) wy.gd wy.ko (co.begun vs hig)
            obtain ⟨t6, l6, rfl, t6h, ls6⟩ := vl6
            have le6 := cut_le M6 H6
            refine ⟨t6, _, rfl, SqT.of (le6 _ _ t6h), rfl, _, _, rfl, _, _, rfl, rfl, ?_⟩
            refine ⟨_, rfl, _, _, rfl, rfl, _, rfl, ifF ?_ ?_⟩
            · exact decide_eq_false (by omega)
            · have cc := (Chg.same (D := kd :: D) s5).trans ch6
              have ee := (Ext.same wy.th s5).trans ex6
              exact ⟨_, rfl, k _ _ M6 cc ee ⟨cc.keep _ _ wy.hw wy.wD, wy.wD, fun a ha => ee.up a (wy.dM a ha), wy.kX, wy.kD, fun a ha => ee.up a (wy.xM a ha), ee.th, wy.en.same ee.sm, kp6, iv6, ok.good, ok.kp⟩ ls6⟩
theorem met_of {f : Addr} {fd : FuncData} (F : FnP K "of" "Ways.of" s_Ways_of f fd) (T : Txt K mg) (me : Meth K (aWays K) "of" f) (m_Engine_begun : C8.Met P w K mg base 7 (aEngine K) "begun" (spBegun K) []) (m_Ways_after : C8.Met P w K mg base 11 (aWays K) "after" (spAfter P w K mg base 3) []) : C8.Met P w K mg base 12 (aWays K) "of" (spOf P w K mg base) [] :=
  ⟨f, fd, _, [], T.clWays, me, ok_of F T m_Engine_begun m_Ways_after, F.bindsN fun _ _ _ _ _ _ us hl => match us, hl with | [_, _, _], _ => rfl, .nil⟩
end
end NC
set_option Elab.async false
set_option linter.all false
set_option maxRecDepth 100000
set_option maxHeartbeats 4000000
/-! Walks of Rows. -/
namespace NC
open PySem PySem.Spec PyProof.Rows L2
/-- {k: v for .. in l} over a list -/
theorem nd_list {K : PySem.W.Frag} {w : World} {a : Addr} {xs : List V} {g : TG} {tk tv : TE} {vs : List Nat} {σ : L2.St} {H1 : Hp} {D : Addr} {Qd : Hp → Prop} (Pv : Nat → Hp → Prop) (h0 : Pv 0 (upd H1 D (ndO w D []))) (hl : ∀ i H, i ≤ xs.length → Pv i H → SqL K H a xs)
    (hs : ∀ i x H, xs[i]? = some x → Pv i H → g x (wipe σ vs) H fun σ2 H2 => wipe σ2 vs = wipe σ vs ∧ tNStep w tk tv D (Pv (i + 1)) σ2 H2) (hd : ∀ H, Pv xs.length H → Qd H) :
    ∃ W : Nat → Nat → Hp → Prop, (∃ m, W 0 m (upd H1 D (ndO w D []))) ∧ ∀ i m H, W i m H →
      ((Itl K a).stop i H ∧ Qd H) ∨ ((Itl K a).go i H ∧ ∃ Nx : Hp → Prop, (∀ H', Nx H' → ∃ m', m' < m ∧ W (i + 1) m' H') ∧ ∀ x H', (Itl K a).yld i H x H' → g x (wipe σ vs) H' fun σ2 H2 => wipe σ2 vs = wipe σ vs ∧ tNStep w tk tv D Nx σ2 H2) := by
  refine ⟨fun i m H => m = xs.length - i ∧ i ≤ xs.length ∧ Pv i H, ⟨xs.length, by simp, Nat.zero_le _, h0⟩, ?_⟩
  rintro i m H ⟨rfl, hi, p⟩
  have q := hl i H hi p
  by_cases hlt : i < xs.length
  · refine .inr ⟨⟨xs, xs[i], q, by simp [hlt]⟩, Pv (i + 1), fun H' p' => ⟨xs.length - (i + 1), by omega, rfl, hlt, p'⟩, fun x H' y => ?_⟩
    obtain ⟨e, y⟩ := y
    subst e
    exact hs i x _ (y xs q) p
  · have e : i = xs.length := by omega
    subst e
    exact .inl ⟨⟨xs, q, Nat.le_refl _⟩, hd H p⟩
abbrev Tab := List (S × List S)
def rowT (ρ : Tab × Bool) (s : S) : List S × (Tab × Bool) := match kpGet ρ.1 s with
  | some l => (l, ρ)
  | none => ([], (ρ.1, false))
def tabOk (nv na : Bool) (t : Tab) : Prop := (t.map (·.1)).Nodup ∧ ∀ y ∈ t, y.1.Ok nv na ∧ (y.2.Nodup ∧ y.2.length ≤ 22) ∧ ∀ x ∈ y.2, x.Ok nv na
def rowsG (c : Cf) : Gives c (Tab × Bool) where
  row := rowT
  tot := fun _ => True
  good := fun ρ => tabOk c.nv c.na ρ.1
  keeps := fun ρ s h _ => by
    unfold rowT
    cases e : kpGet ρ.1 s with
    | none => exact ⟨h, fun x hx => nomatch hx⟩
    | some l => exact ⟨h, fun x hx => ⟨(h.2 _ (kpGet_mem e)).2.2 x hx, True.intro⟩⟩
def rwF (td : Addr) (b : Bool) : List (Str × V) := [("table", .ref td), ("complete", .bl b)]
def rowsP (K : PySem.W.Frag) (w : World) (c : Cf) (cl : Cls K (aRows K)) (td : Addr) : Prov K w c (Tab × Bool) where
  toGives := rowsG c
  C := aRows K
  cl := cl
  inv := fun M X D r ρ H => ∃ dx, D = [r] ∧ r ∈ M ∧ r ∉ X ∧ td ∈ M ∧ td ∉ X ∧ H r = some (.ins (aRows K) dx (rwF td ρ.2)) ∧ NDR w M H td (eS c.nv c.na) (LsAt c.nv c.na) ρ.1
  ins := fun ⟨dx, _, _, _, _, _, h, _⟩ => ⟨dx, _, h, rfl⟩
  frame := fun ⟨dx, e1, e2, e3, e4, e5, h1, h2⟩ s k => ⟨dx, e1, (k _ e2 e3).1, (k _ e2 e3).2.1, (k _ e4 e5).1, (k _ e4 e5).2.1, (k _ e2 e3).2.2 _ h1, h2.keep LsAt.grows s (k _ e4 e5).2.2⟩
theorem tabOk.inj {nv na : Bool} {t : Tab} (h : tabOk nv na t) {s : S} (hs : s.Ok nv na) : ∀ y ∈ t, eS nv na y.1 = eS nv na s → y.1 = s := fun y hy e => eS_inj (h.2 y hy).1 hs e
theorem tabOk.len {nv na : Bool} {t : Tab} (h : tabOk nv na t) : t.length ≤ 50 := by
  have := nodup_len (F := allS) h.1 fun a ha => by
    obtain ⟨y, hy, rfl⟩ := List.mem_map.mp ha
    exact mem_allS (h.2 y hy).1
  rwa [List.length_map] at this
section
variable {P : Program} {w : World} {K : PySem.W.Frag} {mg : Str → Option Value} {base : Heap}
theorem sc_Rows_row_of : FnScope ["self", "state"] ["self", "state"] (defScope s_Rows_row_of) := ⟨rfl, rfl, rfl, by decide +kernel, rfl, by decide +kernel, by decide +kernel⟩
theorem ok_rows_row {f : Addr} {fd : FuncData} (F : FnP K "row_of" "Rows.row_of" s_Rows_row_of f fd) (T : Txt K mg) (c : Cf) (td : Addr) : FnOk P w K mg base CX0 7 f fd ["self", "state"] (spRow (rowsP K w c T.clRows td)) := by
  refine F.ok sc_Rows_row_of (fun vs H Q E h => ?_) (fun cdv A outer s H vs Q E hr h => ?_)
  · obtain ⟨r, sv, s, ρ, M, X, D, rfl, _⟩ := h
    rfl
  · obtain ⟨r, sv, s, ρ, M, X, D, rfl, ⟨dx, rfl, rM, rX, tM, tX, hr1, hn⟩, hM, hX, ht, hg, hs, vs, k⟩ := h
    have hu9 := hu9 hr
    refine ⟨_, PSs.nox ((pss_cons (ps_if (pt_cmpR (op_nnotin hu9) (pv 1) (pe_fld (pv 0) rfl) (by rfl)) (pss_cons (ps_fld (pv 0) pe_bl rfl)
      (pss_one (ps_ret (pe_lst pa_nil)))) pss_nil)
      (pss_one (ps_ret (pe_nget hu9 (pe_fld (pv 0) rfl) (pv 1) (fun _ _ => rfl)))))), ?_⟩
    dsimp only [cxOf, Cx.nox]
    obtain ⟨b, rfl⟩ : ∃ b, sv = V.ref b := by
      cases hs with
      | tup _ _ => exact ⟨_, rfl⟩
    have le := cut_le M H
    have hrM : r ∈ M := hM r List.mem_cons_self
    have rtd : r ≠ td := fun z => by
      obtain ⟨xs, h9, _⟩ := hn
      rcases h9 with h9 | ⟨o, h9⟩
      · rw [← z, hr1] at h9; cases h9
      · rw [← z, hr1] at h9; cases h9
    rcases hn.nget (tabOk.inj hg vs.1) (NK.tx (TX.same le) _ _ hs) (depth_eS _ _ _) with ⟨g1, g2⟩ | ⟨z, v, g1, g2, l, evs, rfl, g3, g4⟩
    · have er : (rowsP K w c T.clRows td).row ρ s = ([], (ρ.1, false)) := by
        show rowT ρ s = _
        unfold rowT
        rw [g1]
      rw [er] at k
      refine ⟨_, rfl, _, rfl, r, _, dx, _, _, rfl, hr1, T.clRows, T.nRows_table, rfl, td, _, rfl, g2, _, rfl, ifT rfl ?_⟩
      refine ⟨_, rfl, r, _, dx, _, rfl, hr1, T.clRows, T.nRows_complete, dok rfl, ?_⟩
      refine ⟨(by show 0 ≤ sizeLine; decide), fun l nl => ?_⟩
      have c1 : Chg [r] H (upd H r (.ins (aRows K) dx (rwF td false))) := (Chg.refl _ H).put List.mem_cons_self (by show List.lookup _ _ = none; rfl)
      have eF : putF "complete" (V.bl false) (rwF td ρ.2) = rwF td false := rfl
      have nl' : upd H r (.ins (aRows K) dx (rwF td false)) l = none := nl
      have s2 := new_same (o := HO.lst []) nl'
      have lM := (ht.chg c1).new nl'
      refine k l _ [] M (c1.trans (Chg.same s2)) ((Ext.chg ht c1 hM).trans (Ext.same (ht.chg c1) s2)) (cut_of upd_same lM) .nil ⟨dx, rfl, rM, rX, tM, tX, s2 _ _ upd_same, ?_⟩
      · refine hn.keep LsAt.grows ((c1.cut hM).trans (Same.cut s2)) fun o h => s2 _ _ ?_
        rw [upd_ne (Ne.symm rtd)]
        exact h
    · have er : (rowsP K w c T.clRows td).row ρ s = (z, ρ) := by
        show rowT ρ s = _
        unfold rowT
        rw [g1]
      rw [er] at k
      refine ⟨_, rfl, _, rfl, r, _, dx, _, _, rfl, hr1, T.clRows, T.nRows_table, rfl, td, _, rfl, g2, _, rfl, ifF rfl ?_⟩
      exact ⟨_, rfl, r, _, dx, _, _, rfl, hr1, T.clRows, T.nRows_table, rfl, _, rfl, td, _, rfl, g2, k l H evs M (Chg.refl _ H) (Ext.refl ht) g3 g4 ⟨dx, rfl, rM, rX, tM, tX, hr1, hn⟩⟩
theorem met_rows_row {f : Addr} {fd : FuncData} (F : FnP K "row_of" "Rows.row_of" s_Rows_row_of f fd) (T : Txt K mg) (me : Meth K (aRows K) "row_of" f) (c : Cf) (td : Addr) : C8.Met P w K mg base 7 (aRows K) "row_of" (spRow (rowsP K w c T.clRows td)) [] :=
  ⟨f, fd, _, [], T.clRows, me, ok_rows_row F T c td, F.bindsN fun _ _ _ _ _ _ us hl => match us, hl with | [_, _], _ => rfl, .nil⟩
/-! ### Rows.__init__ -/
/-- a pair of a state and a row -/
def PrR (nv na : Bool) (H : Hp) (p : S × List S) (v : V) : Prop := ∃ t sv l, v = .ref t ∧ H t = some (.tup [sv, l]) ∧ NK H (eS nv na p.1) sv ∧ LsAt nv na H p.2 l
theorem PrR.grows {nv na : Bool} : Grows (PrR nv na) := fun H H' p v s ⟨t, sv, l, e, h1, h2, h3⟩ => ⟨t, sv, l, e, s _ _ h1, NK.tx (TX.same s) _ _ h2, LsAt.grows _ _ _ _ s h3⟩
def PsR (nv na : Bool) (H : Hp) (ps : Tab) (vs : List V) : Prop := Paired (fun p v => PrR nv na H p v) ps vs
theorem PsR.same {nv na : Bool} {H H' : Hp} (s : Same H H') {ps : Tab} {vs : List V} (h : PsR nv na H ps vs) : PsR nv na H' ps vs := Paired.mapP h fun p v q => PrR.grows _ _ _ _ s q
theorem Paired.at {α β : Type} {F : α → β → Prop} {l : List α} {m : List β} (h : Paired F l m) : ∀ {i : Nat} {b : β}, m[i]? = some b → ∃ a, l[i]? = some a ∧ F a b := by
  induction h with
  | nil => intro i b e; simp at e
  | cons h1 _ ih =>
    intro i b e
    cases i with
    | zero => cases e; exact ⟨_, rfl, h1⟩
    | succ i => exact ih (i := i) (by simpa using e)
def tabStep (t : Tab) (p : S × List S) : Tab := match kpGet t p.1 with
  | some _ => t
  | none => kpPut t p.1 (addAll [] p.2)
def tabOf (ps : Tab) : Tab := ps.foldl tabStep []
def prsOk (nv na : Bool) (ps : Tab) : Prop := ∀ p ∈ ps, p.1.Ok nv na ∧ (∀ s ∈ p.2, s.Ok nv na) ∧ p.2.length ≤ 22
theorem addAll_len : ∀ (E f : List S), (addAll f E).length ≤ f.length + E.length
  | [], f => Nat.le_refl _
  | e :: r, f => by
    have h := addAll_len r (addS f e)
    have h2 : (addS f e).length ≤ f.length + 1 := by
      unfold addS
      split
      · omega
      · rw [List.length_append]; exact Nat.le_refl _
    show (addAll (addS f e) r).length ≤ _
    rw [List.length_cons]
    omega
theorem tabStep_ok {nv na : Bool} {t : Tab} {p : S × List S} (h : tabOk nv na t) (hp : p.1.Ok nv na) (hs : ∀ s ∈ p.2, s.Ok nv na) (hl : p.2.length ≤ 22) : tabOk nv na (tabStep t p) := by
  unfold tabStep
  cases e : kpGet t p.1 with
  | some _ => exact h
  | none =>
    refine ⟨?_, fun y hy => ?_⟩
    · show ((kpPut t p.1 (addAll [] p.2)).map (·.1)).Nodup
      rw [kpPut_keys]
      split
      · exact h.1
      · rename_i hn
        exact List.nodup_append.mpr ⟨h.1, nd1 _, fun a ha b hb => by rw [List.mem_singleton.mp hb]; exact fun z => hn (z ▸ ha)⟩
    · have hy' : y ∈ kpPut t p.1 (addAll [] p.2) := hy
      have new : ((addAll [] p.2).Nodup ∧ (addAll [] p.2).length ≤ 22) ∧ ∀ x ∈ addAll [] p.2, x.Ok nv na := ⟨⟨addAll_nodup List.nodup_nil, Nat.le_trans (addAll_len _ _) (by rw [List.length_nil]; omega)⟩, fun x hx => (mem_addAll.mp hx).elim (fun z => nomatch z) (hs x)⟩
      unfold kpPut at hy'
      split at hy'
      · obtain ⟨x, hx, rfl⟩ := List.mem_map.mp hy'
        split
        · exact ⟨(h.2 x hx).1, new⟩
        · exact h.2 x hx
      · rcases List.mem_append.mp hy' with hy' | hy'
        · exact h.2 y hy'
        · rw [List.mem_singleton.mp hy']
          exact ⟨hp, new⟩
theorem tabOf_ok {nv na : Bool} {ps : Tab} (h : prsOk nv na ps) : tabOk nv na (tabOf ps) :=
  foldl_inv ps [] ⟨List.nodup_nil, fun y hy => nomatch hy⟩ fun t p hp ht => tabStep_ok ht (h p hp).1 (h p hp).2.1 (h p hp).2.2
def spRows (w : World) (K : PySem.W.Frag) : Sp := fun vs H Q _ => ∃ (x dx pl : Addr) (nv na : Bool) (ps : Tab) (pvs : List V), vs = [.ref x, .ref pl] ∧ H x = some (.ins (aRows K) dx []) ∧ H pl = some (.lst pvs) ∧ PsR nv na H ps pvs ∧ prsOk nv na ps ∧
  ∀ H' td, SameBut x H H' → H' x = some (.ins (aRows K) dx (rwF td true)) → H td = none → NDAt w [x, td] H' td (eS nv na) (LsAt nv na) (tabOf ps) → Q .non H'
theorem sc_Rows_init : FnScope ["self", "pairs", "state", "row", "other"] ["self", "pairs"] (defScope s_Rows_init) := ⟨rfl, rfl, rfl, by decide +kernel, rfl, by decide +kernel, by decide +kernel⟩
theorem ok_Rows {f : Addr} {fd : FuncData} (F : FnP K "__init__" "Rows.__init__" s_Rows_init f fd) (T : Txt K mg) : FnOk P w K mg base CX0 1 f fd ["self", "pairs"] (spRows w K) := by
  refine F.ok sc_Rows_init (fun vs H Q E h => ?_) (fun cdv A outer s H vs Q E hr h => ?_)
  · obtain ⟨x, dx, pl, nv, na, ps, pvs, rfl, _⟩ := h
    rfl
  · obtain ⟨x, dx, pl, nv, na, ps, pvs, rfl, hx, hp, hps, ok, k⟩ := h
    have hu9 := hu9 hr
    refine ⟨_, PSs.nox ((pss_cons (ps_fld (pv 0) pe_nnew rfl)
      (pss_cons (ps_fld (pv 0) pe_bl rfl)
      (pss_one (ps_for PassesOwn.never rfl (pi_list (pv 1)) (pg_tup rfl (pgs_cons (pg_name (i := 2) sc_Rows_init.nd rfl (Or.inl rfl)) (pgs_cons (pg_name (i := 3) sc_Rows_init.nd rfl (Or.inl rfl)) pgs_nil))) (pss_one (ps_if (pt_cmpR (op_nnotin hu9) (pv 2) (pe_fld (pv 0) rfl) (by rfl)) (pss_one (ps_nput hu9 (pe_fld (pv 0) rfl) (pv 2) (pe_callTy (call_nlist rfl) (by rfl) T.list bt_list (pa_cons (pe_ndc (own := [("other", 4)]) hu9 rfl sc_Rows_init.nd (pi_list (pv 3)) (blkOk_by (own := [("other", 4)]) (N := ["self", "pairs", "state", "row", "other"]) (sc := defScope s_Rows_init) (by decide +kernel)) (fun _ _ _ _ _ => (pg_name (i := 4) sc_Rows_init.nd rfl (Or.inl rfl))) (fun _ _ _ _ _ => (pv 4)) (fun _ _ _ _ _ => pe_bl)) pa_nil)) rfl)) pss_nil))))))), ?_⟩
    dsimp only [cxOf, Cx.nox]
    refine fun td ntd => ⟨_, rfl, x, _, dx, _, rfl, new_same ntd _ _ hx, T.clRows, T.nRows_table, dok rfl, ?_⟩
    refine ⟨_, rfl, x, _, dx, _, rfl, upd_same, T.clRows, T.nRows_complete, dok rfl, ?_⟩
    have tdx : td ≠ x := fun z => by rw [z, hx] at ntd; cases ntd
    have b1 : SameBut x H (upd (upd (upd H td (ndO w td [])) x (HO.ins (aRows K) dx (putF "table" (V.ref td) []))) x (HO.ins (aRows K) dx (putF "complete" (V.bl true) (putF "table" (V.ref td) [])))) := fun a o h n => by rw [upd_ne n, upd_ne n, upd_ne (ne_of_none h ntd)]; exact h
    have x1 : upd (upd (upd H td (ndO w td [])) x (HO.ins (aRows K) dx (putF "table" (V.ref td) []))) x (HO.ins (aRows K) dx (putF "complete" (V.bl true) (putF "table" (V.ref td) []))) x = some (.ins (aRows K) dx (rwF td true)) := upd_same
    have d1 : upd (upd (upd H td (ndO w td [])) x (HO.ins (aRows K) dx (putF "table" (V.ref td) []))) x (HO.ins (aRows K) dx (putF "complete" (V.bl true) (putF "table" (V.ref td) []))) td = some (ndO w td []) := by rw [upd_ne tdx, upd_ne tdx, upd_same]
    generalize upd (upd (upd H td (ndO w td [])) x (HO.ins (aRows K) dx (putF "table" (V.ref td) []))) x (HO.ins (aRows K) dx (putF "complete" (V.bl true) (putF "table" (V.ref td) []))) = H1 at b1 x1 d1 ⊢
    have plx : pl ≠ x := fun z => by rw [z, hx] at hp; cases hp
    have th1 : Thr [x, td] H1 := fun a ha => by
      rcases List.mem_cons.mp ha with rfl | ha
      · exact ⟨_, x1, by show List.lookup _ _ = none; rfl⟩
      · rw [List.mem_singleton.mp ha]
        exact ⟨_, d1, True.intro⟩
    -- the pairs stay
    have sB : Same (cut [x] H) (cut [x, td] H1) := fun a o h => by
      have h' := cut_le _ _ _ _ h
      have ax : a ≠ x := fun z => cut_not h (by rw [z]; exact List.mem_singleton_self x)
      refine cut_of (b1 _ _ h' ax) fun z => ?_
      rcases List.mem_cons.mp z with z | z
      · exact ax z
      · exact ne_of_none h' ntd (List.mem_singleton.mp z)
    have thx : Thr [x] H := fun a ha => by rw [List.mem_singleton.mp ha]; exact ⟨_, hx, by show List.lookup _ _ = none; rfl⟩
    have lst_x : ∀ {a : Addr} {xs : List V}, H a = some (.lst xs) → cut [x] H a = some (.lst xs) := fun h => cut_of h fun z => by rw [List.mem_singleton.mp z, hx] at h; cases h
    have hps1 : PsR nv na (cut [x, td] H1) ps pvs := by
      refine Paired.mapP hps fun p v ⟨t, sv, l, e, h1, h2, l', evs, e2, h3, h4⟩ => ?_
      exact ⟨t, sv, l, e, sB _ _ (thx.tx _ _ h1), NK.tx (thx.tx.trans (TX.same sB)) _ _ h2, l', evs, e2, sB _ _ (lst_x h3), NKs.tx (thx.tx.trans (TX.same sB)) _ _ h4⟩
    have hp1 := sB _ _ (lst_x hp)
    have hlen : pvs.length = ps.length := (Paired.length hps).symm
    refine ⟨_, rfl, pl, rfl, ⟨_, SqL.of (cut_le _ _ _ _ hp1)⟩, for_list (K := K) (xs := pvs) (fun i σ Hx => ∃ x2 x3 x4, σ = [some (.ref x), some (.ref pl), x2, x3, x4] ∧ Chg [td] H1 Hx ∧ NDAt w [x, td] Hx td (eS nv na) (LsAt nv na) (tabOf (ps.take i)))
      ⟨_, _, _, rfl, Chg.refl _ _, ⟨[], d1, (fun x hx => nomatch hx), .nil⟩⟩ (fun i σ Hx _ ⟨_, _, _, _, s1, _⟩ => SqL.of (cut_le _ _ _ _ (s1.cut (M := [x, td]) (fun a ha => by rw [List.mem_singleton.mp ha]; simp) _ _ hp1))) ?_ ?_⟩
    · rintro i v σ Hx hiv ⟨x2, x3, x4, rfl, ch, nd⟩
      have cx : Same (cut [x, td] H1) (cut [x, td] Hx) := ch.cut fun a ha => by rw [List.mem_singleton.mp ha]; simp
      have thX : Thr [x, td] Hx := th1.chg ch
      obtain ⟨p, hpi, hpv⟩ := Paired.at hps1 hiv
      obtain ⟨t, sv, l, rfl, t1, t2, l', evs, rfl, t3, t4⟩ := PrR.grows _ _ _ _ cx hpv
      have le := cut_le [x, td] Hx
      have pok := ok p (List.mem_of_getElem? hpi)
      have tok : tabOk nv na (tabOf (ps.take i)) := tabOf_ok fun q hq => ok q (List.mem_of_mem_take hq)
      have xX := ch.keep _ _ x1 fun z => tdx (List.mem_singleton.mp z).symm
      obtain ⟨b, rfl⟩ : ∃ b, sv = V.ref b := by
        cases t2 with
        | tup _ _ => exact ⟨_, rfl⟩
      have etab : tabOf (ps.take (i + 1)) = tabStep (tabOf (ps.take i)) p := by
        rw [List.take_succ, hpi]
        unfold tabOf
        rw [List.foldl_append]
        rfl
      refine ⟨t, _, rfl, SqT.of (le _ _ t1), rfl, _, _, rfl, _, _, rfl, rfl, ?_⟩
      rcases nd.nget (tok.inj pok.1) (NK.tx (TX.same le) _ _ t2) (depth_eS _ _ _) with ⟨g1, g2⟩ | ⟨z, v', g1, g2, _⟩
      · refine ⟨_, rfl, _, rfl, x, _, dx, _, _, rfl, xX, T.clRows, T.nRows_table, rfl, td, _, rfl, g2, _, rfl, ifT rfl ?_⟩
        refine ⟨_, rfl, l', rfl, ⟨_, SqL.of (le _ _ t3)⟩, fun dd ndd => ?_⟩
        have dM := thX.new ndd
        refine nd_list (K := K) (xs := evs) (fun j Hy => Same Hx Hy ∧ ∃ xs, Hy dd = some (ndO w dd xs) ∧ KeysOk (cut [x, td] Hx) xs ∧ DAt (eS nv na) (bT Hx) xs (fu (addAll [] (p.2.take j)))) ⟨new_same ndd, [], upd_same, (fun x hx => nomatch hx), .nil⟩ (fun j Hy _ ⟨s1, _⟩ => SqL.of (s1 _ _ (le _ _ t3))) ?_ ?_
        · rintro j xm Hy hj ⟨sy, xs, y1, y2, y3⟩
          have hjl : j < p.2.length := by
            have := t4.length
            rw [List.length_map] at this
            rw [this]
            exact (List.getElem?_eq_some_iff.mp hj).1
          obtain ⟨sE, hsE⟩ : ∃ s', p.2[j]? = some s' := ⟨_, List.getElem?_eq_getElem hjl⟩
          obtain ⟨x', e1', e2'⟩ := t4.get (i := j) (k := eS nv na sE) (by rw [List.getElem?_map, hsE]; rfl)
          rw [hj] at e1'
          cases e1'
          have vE := pok.2.1 sE (List.mem_of_getElem? hsE)
          obtain ⟨bE, rfl⟩ : ∃ b, xm = V.ref b := by
            cases e2' with
            | tup _ _ => exact ⟨_, rfl⟩
          have fnd : (addAll [] (p.2.take j)).Nodup := addAll_nodup List.nodup_nil
          have fvs : ∀ x ∈ addAll [] (p.2.take j), x.Ok nv na := fun x hx => (mem_addAll.mp hx).elim (fun z => nomatch z) fun h => pok.2.1 x (List.mem_of_mem_take h)
          have fl : (addAll [] (p.2.take j)).length ≤ 50 := nodup_len (F := allS) fnd fun a ha => mem_allS (fvs a ha)
          refine ⟨rfl, _, rfl, xs, eS nv na sE, bE, rfl, NK.tx (TX.same (Same.trans le sy)) _ _ e2', depth_eS _ _ _, y1, y2.tx (TX.same (Same.trans le sy)), ?_, fun a o h => ?_, _, upd_same, putN_keys y2 e2' (depth_eS _ _ _), ?_⟩
          · refine szl ?_
            rw [y3.length]
            unfold fu
            rw [List.length_map]
            omega
          · rw [upd_ne (ne_of_none h ndd)]
            exact sy _ _ h
          · have e5 : addAll [] (p.2.take (j + 1)) = addS (addAll [] (p.2.take j)) sE := by
              rw [List.take_succ, hsE]
              unfold addAll
              rw [List.foldl_append]
              rfl
            rw [e5, ← fu_put]
            exact y3.put (fu_inj fvs vE) rfl
        · rintro Hy ⟨sy, xs, y1, y2, y3⟩
          have e6 : p.2.take evs.length = p.2 := by rw [← t4.length, List.length_map, List.take_length]
          rw [e6] at y3
          have ky : KeysOk Hy xs := y2.tx (TX.same (Same.trans le sy))
          refine ⟨dd, xs, rfl, .inl y1, ky, fun q nq => ?_⟩
          have sq := new_same (o := HO.lst (refsN xs)) nq
          have s7 := sy.trans sq
          have thY : Thr [x, td] Hy := thX.chg (D := []) (Chg.same sy)
          have qM := thY.new nq
          have qu := upd_same (H := Hy) (a := q) (o := HO.lst (refsN xs))
          generalize upd Hy q (HO.lst (refsN xs)) = Hz at sq s7 qu ⊢
          have c7 := Same.cut (M := [x, td]) s7
          have ndz := nd.keep LsAt.grows c7 (s7 _)
          have lsz : LsAt nv na (cut [x, td] Hz) (addAll [] p.2) (.ref q) := ⟨q, _, rfl, cut_of qu qM, by
            have := y3.refs y2
            rw [show (fu (addAll [] p.2)).map (fun y => eS nv na y.1) = (addAll [] p.2).map (eS nv na) by unfold fu; rw [List.map_map]; rfl] at this
            exact NKs.tx (TX.same c7) _ _ this⟩
          obtain ⟨xs', np', nd'⟩ := ndz.nput (k := p.1) (tok.inj pok.1) (NK.tx (TX.same c7) _ _ t2) (depth_eS _ _ _) (by simp) (Nat.lt_of_le_of_lt tok.len (by decide)) lsz
          refine ⟨_, rfl, x, _, dx, _, _, rfl, s7 _ _ xX, T.clRows, T.nRows_table, rfl, _, rfl, td, _, rfl, np', ?_⟩
          refine ⟨_, _, _, rfl, (ch.trans (Chg.same s7)).put (List.mem_singleton_self td) True.intro, ?_⟩
          rw [etab]
          unfold tabStep
          rw [g1]
          exact nd'
      · refine ⟨_, rfl, _, rfl, x, _, dx, _, _, rfl, xX, T.clRows, T.nRows_table, rfl, td, _, rfl, g2, _, rfl, ifF rfl ?_⟩
        refine ⟨_, _, _, rfl, ch, ?_⟩
        rw [etab]
        unfold tabStep
        rw [g1]
        exact nd
    · rintro σ Hx ⟨x2, x3, x4, rfl, ch, nd⟩
      rw [hlen, List.take_length] at nd
      refine k _ td (fun a o h n => ch.keep _ _ (b1 _ _ h n) fun z => ne_of_none h ntd (List.mem_singleton.mp z)) (ch.keep _ _ x1 fun z => tdx (List.mem_singleton.mp z).symm) ntd nd
theorem mak_Rows {f : Addr} {fd : FuncData} (F : FnP K "__init__" "Rows.__init__" s_Rows_init f fd) (T : Txt K mg) (M : Mk K (aRows K) f) (g : mg "Rows" = some (.ref (aRows K))) : C8.Mak P w K mg base 1 "Rows" (aRows K) (spRows w K) [] :=
  ⟨f, fd, _, [], M, ok_Rows F T, g, F.bindsN fun _ _ _ _ _ _ us hl => match us, hl with | [_, _], _ => rfl, .nil⟩
end
end NC
set_option Elab.async false
set_option linter.all false
set_option maxRecDepth 100000
set_option maxHeartbeats 4000000
/-! The plain law of after: what it finds, how many ways it counts. -/
namespace NC
open PySem PySem.Spec PyProof.Rows L2
/-- the states that a run may end in, its questions answered by the rows of T -/
inductive Ends (L : List Sm) (T : S → Option (List S)) : Ps → S → Prop
  | done (s : S) : Ends L T (.done s) s
  | ask {s : S} {pd : List (Nat × Int)} {k : Int} {row : List S} {s' : S} {a : Nat} {e : S} : T s = some row → s' ∈ row → a < k.toNat → Ends L T (answ L pd s' a) e → Ends L T (.asks s pd k) e
/-- every question of a run has its row -/
inductive Cov (L : List Sm) (T : S → Option (List S)) : Ps → Prop
  | fail : Cov L T .fail
  | done (s : S) : Cov L T (.done s)
  | ask {s : S} {pd : List (Nat × Int)} {k : Int} {row : List S} : T s = some row → (∀ s' ∈ row, ∀ a : Nat, a < k.toNat → Cov L T (answ L pd s' a)) → Cov L T (.asks s pd k)
def kOf (L : List Sm) : List (Nat × Int) → Int
  | [] => 0
  | p :: _ => match L[p.1]? with | some (.ask k) => k | _ => 0
theorem kOf_eq {c : Cf} {tot : Int → Prop} {s : S} {pd : List (Nat × Int)} {k : Int} (h : PsOk c tot (.asks s pd k)) : kOf c.L pd = k := by
  obtain ⟨_, _, _, _, _, _, _, n, g, r, rfl, h8⟩ := h
  show (match c.L[n]? with | some (.ask k) => k | _ => 0) = k
  rw [h8]
theorem foldl_pre {α β : Type} {f : β → α → β} {P : List α → β → Prop} : ∀ (l pre : List α) (b : β), P pre b → (∀ pre a b, a ∈ l → P pre b → P (pre ++ [a]) (f b a)) → P (pre ++ l) (l.foldl f b)
  | [], pre, b, h, _ => by rw [List.append_nil]; exact h
  | a :: r, pre, b, h, k => by
    have := foldl_pre r (pre ++ [a]) (f b a) (k pre a b List.mem_cons_self h) fun pre x b hx hp => k pre x b (List.mem_cons_of_mem _ hx) hp
    rw [List.append_assoc] at this
    exact this
/-- the answers that are tried -/
def stps (rs : List S) (k : Nat) : List (S × Nat) := rs.flatMap fun s => (List.range k).map fun a => (s, a)
theorem mem_stps {rs : List S} {k : Nat} {q : S × Nat} : q ∈ stps rs k ↔ q.1 ∈ rs ∧ q.2 < k := by
  unfold stps
  constructor
  · intro h
    obtain ⟨s, hs, h⟩ := List.mem_flatMap.mp h
    obtain ⟨a, ha, rfl⟩ := List.mem_map.mp h
    exact ⟨hs, List.mem_range.mp ha⟩
  · rintro ⟨h1, h2⟩
    exact List.mem_flatMap.mpr ⟨q.1, h1, List.mem_map.mpr ⟨q.2, List.mem_range.mpr h2, rfl⟩⟩
theorem stps_len (rs : List S) (k : Nat) : (stps rs k).length = rs.length * k := by
  unfold stps
  induction rs with
  | nil => simp
  | cons s r ih => rw [List.flatMap_cons, List.length_append, ih, List.length_map, List.length_range, List.length_cons, Nat.succ_mul]; omega
section
variable {R : Type} {L : List Sm} {f : R × Kp → Ps → (List S × Nat) × (R × Kp)} {pd : List (Nat × Int)}
theorem foldR_eq {k : Nat} : ∀ (rs : List S) (acc : (List S × Nat) × (R × Kp)), foldR L f pd k rs acc = (stps rs k).foldl (fun acc q => stepA L f pd q.1 acc q.2) acc
  | [], acc => rfl
  | s :: r, acc => by
    have ih := foldR_eq (k := k) r (stepS L f pd k acc s)
    show foldR L f pd k r (stepS L f pd k acc s) = _
    rw [ih]
    unfold stps
    rw [List.flatMap_cons, List.foldl_append]
    congr 1
    unfold stepS
    rw [List.foldl_map]
end
theorem mem_kpPut {κ β : Type} [DecidableEq κ] {kp : List (κ × β)} {k : κ} {v : β} {y : κ × β} (h : y ∈ kpPut kp k v) : y ∈ kp ∨ y = (k, v) := by
  unfold kpPut at h
  split at h
  · obtain ⟨x, hx, rfl⟩ := List.mem_map.mp h
    split
    · rename_i e
      exact .inr (by rw [e])
    · exact .inl hx
  · rcases List.mem_append.mp h with h | h
    · exact .inl h
    · exact .inr (List.mem_singleton.mp h)
/-! ### how many ways -/
def KN (L : List Sm) (kp : Kp) : Prop := ∀ y ∈ kp, y.2.2 ≤ 44 ^ akc L y.1.2
theorem aft_cnt {c : Cf} {R : Type} {G : Gives c R} (lo : LnOk c.nv c.na c.L) (hb : ∀ ρ s, G.good ρ → (G.row ρ s).1.length ≤ 22) : ∀ (d : Nat) (st : R × Kp) (p : Ps), G.good st.1 → KpOk c G.tot st.2 → PsOk c G.tot p → KN c.L st.2 →
    (aft G.row c.L d st p).1.2 ≤ 44 ^ akP c.L p ∧ KN c.L (aft G.row c.L d st p).2.2
  | 0, st, .fail, _, _, _, hn => ⟨Nat.le_refl _, hn⟩
  | _ + 1, st, .fail, _, _, _, hn => ⟨Nat.le_refl _, hn⟩
  | 0, st, .done s, _, _, _, hn => ⟨Nat.le_refl _, hn⟩
  | _ + 1, st, .done s, _, _, _, hn => ⟨Nat.le_refl _, hn⟩
  | 0, st, .asks _ pd _, _, _, _, hn => ⟨Nat.one_le_pow _ _ (by decide), hn⟩
  | d + 1, st, .asks s pd k, hg, hk, hp, hn => by
    rw [aft]
    cases e : kpGet st.2 (s, pd) with
    | some v => exact ⟨hn _ (kpGet_mem e), hn⟩
    | none =>
      obtain ⟨hg2, hrow⟩ := G.keeps st.1 s hg hp.1
      have hl := hb st.1 s hg
      have hk2 : k.toNat ≤ 2 := by
        obtain ⟨_, _, _, _, h5, h6, _⟩ := hp
        omega
      obtain ⟨j, hj⟩ : ∃ j, akP c.L (.asks s pd k) = j + 1 := by
        have := akP_answ (s' := s) (a := 0) hp
        exact ⟨akP c.L (.asks s pd k) - 1, by omega⟩
      have key := foldl_pre (P := fun pre (z : (List S × Nat) × (R × Kp)) => AftOk c G z ∧ z.1.2 ≤ pre.length * 44 ^ j ∧ KN c.L z.2.2) (f := fun acc (q : S × Nat) => stepA c.L (aft G.row c.L d) pd q.1 acc q.2) (stps (G.row st.1 s).1 k.toNat) []
        (([], 0), ((G.row st.1 s).2, st.2)) ⟨⟨List.nodup_nil, (fun x hx => nomatch hx), hg2, hk⟩, Nat.zero_le _, hn⟩ fun pre q b hq ⟨h1, h2, h3⟩ => by
          have hv := hrow q.1 (mem_stps.mp hq).1
          have po := answ_ok (a := (q.2 : Int)) lo hp hv
          have hlt := akP_answ (s' := q.1) (a := (q.2 : Int)) hp
          obtain ⟨i1, i2⟩ := aft_cnt lo hb d b.2 (answ c.L pd q.1 q.2) h1.good h1.kp po h3
          refine ⟨stepA_ok lo hp hv (fun st a g1 g2 => aft_ok lo d st _ g1 g2 (answ_ok lo hp hv)) h1 q.2, ?_, i2⟩
          have i3 : (aft G.row c.L d b.2 (answ c.L pd q.1 q.2)).1.2 ≤ 44 ^ j := Nat.le_trans i1 (Nat.pow_le_pow_right (by decide) (by omega))
          show b.1.2 + (aft G.row c.L d b.2 (answ c.L pd q.1 q.2)).1.2 ≤ (pre ++ [q]).length * 44 ^ j
          rw [List.length_append, List.length_singleton, Nat.succ_mul]
          omega
      rw [List.nil_append] at key
      rw [← foldR_eq] at key
      have fin : (foldR c.L (aft G.row c.L d) pd k.toNat (G.row st.1 s).1 (([], 0), ((G.row st.1 s).2, st.2))).1.2 ≤ 44 ^ akc c.L pd := by
        refine Nat.le_trans key.2.1 ?_
        show _ ≤ 44 ^ akP c.L (.asks s pd k)
        rw [hj, Nat.pow_succ, Nat.mul_comm (44 ^ j), stps_len]
        exact Nat.mul_le_mul_right _ (Nat.le_trans (Nat.mul_le_mul hl hk2) (by decide))
      exact ⟨fin, fun y hy => (mem_kpPut hy).elim (key.2.2 y) fun z => by rw [z]; exact fin⟩
/-! ### rows that are given -/
/-- what is kept is right -/
def KX (L : List Sm) (T : S → Option (List S)) (kp : Kp) : Prop := ∀ y ∈ kp, Cov L T (.asks y.1.1 y.1.2 (kOf L y.1.2)) ∧ ∀ e, e ∈ y.2.1 ↔ Ends L T (.asks y.1.1 y.1.2 (kOf L y.1.2)) e
theorem ends_done {L : List Sm} {T : S → Option (List S)} {s e : S} : Ends L T (.done s) e ↔ e = s := ⟨fun h => by cases h; rfl, fun h => by rw [h]; exact .done s⟩
theorem ends_fail {L : List Sm} {T : S → Option (List S)} {e : S} : ¬ Ends L T .fail e := fun h => by cases h
theorem ends_asks {L : List Sm} {T : S → Option (List S)} {s e : S} {pd : List (Nat × Int)} {k : Int} {row : List S} (h : T s = some row) : Ends L T (.asks s pd k) e ↔ ∃ q ∈ stps row k.toNat, Ends L T (answ L pd q.1 (q.2 : Nat)) e := by
  constructor
  · intro x
    cases x with
    | ask h1 h2 h3 h4 =>
      rw [h] at h1
      cases h1
      exact ⟨(_, _), mem_stps.mpr ⟨h2, h3⟩, h4⟩
  · rintro ⟨q, hq, x⟩
    exact .ask h (mem_stps.mp hq).1 (mem_stps.mp hq).2 x
theorem cov_asks {L : List Sm} {T : S → Option (List S)} {s : S} {pd : List (Nat × Int)} {k : Int} {row : List S} (h : T s = some row) : Cov L T (.asks s pd k) ↔ ∀ q ∈ stps row k.toNat, Cov L T (answ L pd q.1 (q.2 : Nat)) := by
  constructor
  · intro x q hq
    cases x with
    | ask h1 h2 =>
      rw [h] at h1
      cases h1
      exact h2 q.1 (mem_stps.mp hq).1 q.2 (mem_stps.mp hq).2
  · intro x
    exact .ask h fun s' hs a ha => x (s', a) (mem_stps.mpr ⟨hs, ha⟩)
/-- a gap once met stays -/
theorem aftT_false {c : Cf} : ∀ (d : Nat) (t : Tab) (kp : Kp) (p : Ps), (aft rowT c.L d ((t, false), kp) p).2.1 = (t, false)
  | 0, t, kp, .fail => rfl
  | _ + 1, t, kp, .fail => rfl
  | 0, t, kp, .done _ => rfl
  | _ + 1, t, kp, .done _ => rfl
  | 0, t, kp, .asks _ _ _ => rfl
  | d + 1, t, kp, .asks s pd k => by
    rw [aft]
    cases e : kpGet ((t, false), kp).2 (s, pd) with
    | some v => rfl
    | none =>
      have hr : (rowT (t, false) s).2 = (t, false) := by
        unfold rowT
        cases kpGet t s <;> rfl
      show (foldR c.L (aft rowT c.L d) pd k.toNat (rowT (t, false) s).1 (([], 0), ((rowT (t, false) s).2, kp))).2.1 = (t, false)
      rw [foldR_eq]
      refine foldl_inv (P := fun (z : (List S × Nat) × ((Tab × Bool) × Kp)) => z.2.1 = (t, false)) _ _ hr fun b q _ hb => ?_
      obtain ⟨b1, b2, b3⟩ := b
      obtain rfl : b2 = (t, false) := hb
      exact aftT_false d t b3 _
theorem aftT {c : Cf} (lo : LnOk c.nv c.na c.L) {t : Tab} (ht : tabOk c.nv c.na t) : ∀ (d : Nat) (kp : Kp) (p : Ps), KpOk c (fun _ => True) kp → PsOk c (fun _ => True) p → akP c.L p < d → KX c.L (kpGet t) kp →
    ((aft rowT c.L d ((t, true), kp) p).2.1 = (t, true) ∧ KX c.L (kpGet t) (aft rowT c.L d ((t, true), kp) p).2.2 ∧ Cov c.L (kpGet t) p ∧ ∀ e, e ∈ (aft rowT c.L d ((t, true), kp) p).1.1 ↔ Ends c.L (kpGet t) p e) ∨
    ((aft rowT c.L d ((t, true), kp) p).2.1 = (t, false) ∧ ¬ Cov c.L (kpGet t) p)
  | 0, _, _, _, _, h, _ => absurd h (Nat.not_lt_zero _)
  | d + 1, kp, .fail, _, _, _, hx => .inl ⟨rfl, hx, .fail, fun e => ⟨fun h => (nomatch h), fun h => absurd h ends_fail⟩⟩
  | d + 1, kp, .done s, _, _, _, hx => .inl ⟨rfl, hx, .done s, fun e => by rw [ends_done]; exact List.mem_singleton⟩
  | d + 1, kp, .asks s pd k, hk, hp, hd, hx => by
    have ek := kOf_eq hp
    rw [aft]
    cases e : kpGet ((t, true), kp).2 (s, pd) with
    | some v =>
      have := hx _ (kpGet_mem e)
      rw [ek] at this
      exact .inl ⟨rfl, hx, this.1, this.2⟩
    | none =>
      cases er : kpGet t s with
      | none =>
        right
        have hr : rowT (t, true) s = ([], (t, false)) := by unfold rowT; rw [er]
        refine ⟨?_, fun x => ?_⟩
        · show (foldR c.L (aft rowT c.L d) pd k.toNat (rowT (t, true) s).1 (([], 0), ((rowT (t, true) s).2, kp))).2.1 = _
          rw [hr]
          rfl
        · cases x with
          | ask h1 _ => rw [er] at h1; cases h1
      | some row =>
        have hr : rowT (t, true) s = (row, (t, true)) := by unfold rowT; rw [er]
        have hrow : ∀ x ∈ row, vS c.nv c.na (fun _ => True) x := fun x hx => ⟨(ht.2 _ (kpGet_mem er)).2.2 x hx, True.intro⟩
        have key := foldl_pre (P := fun pre (z : (List S × Nat) × ((Tab × Bool) × Kp)) => AftOk c (rowsG c) z ∧ ((z.2.1 = (t, true) ∧ KX c.L (kpGet t) z.2.2 ∧ (∀ q ∈ pre, Cov c.L (kpGet t) (answ c.L pd q.1 (q.2 : Nat))) ∧ ∀ e, e ∈ z.1.1 ↔ ∃ q ∈ pre, Ends c.L (kpGet t) (answ c.L pd q.1 (q.2 : Nat)) e) ∨
            (z.2.1 = (t, false) ∧ ∃ q ∈ pre, ¬ Cov c.L (kpGet t) (answ c.L pd q.1 (q.2 : Nat))))) (f := fun acc (q : S × Nat) => stepA c.L (aft rowT c.L d) pd q.1 acc q.2) (stps row k.toNat) []
          (([], 0), ((t, true), kp)) ⟨⟨List.nodup_nil, (fun x hx => nomatch hx), ht, hk⟩, .inl ⟨rfl, hx, (fun q hq => nomatch hq), fun e => ⟨fun h => (nomatch h), fun ⟨q, hq, _⟩ => (nomatch hq)⟩⟩⟩ fun pre q b hq ⟨h1, h2⟩ => by
            have hv := hrow q.1 (mem_stps.mp hq).1
            have po := answ_ok (a := (q.2 : Int)) lo hp hv
            have hlt := akP_answ (s' := q.1) (a := (q.2 : Int)) hp
            have ok := stepA_ok (G := rowsG c) lo hp hv (fun st a g1 g2 => aft_ok (G := rowsG c) lo d st _ g1 g2 (answ_ok lo hp hv)) h1 q.2
            refine ⟨ok, ?_⟩
            obtain ⟨b1, b2, b3⟩ := b
            rcases h2 with ⟨rfl, h3, h4, h5⟩ | ⟨rfl, q', hq', h3⟩
            · rcases aftT lo ht d b3 (answ c.L pd q.1 q.2) h1.kp po (by omega) h3 with ⟨j1, j2, j3, j4⟩ | ⟨j1, j2⟩
              · refine .inl ⟨j1, j2, fun x hx => ?_, fun e => ?_⟩
                · rcases List.mem_append.mp hx with hx | hx
                  · exact h4 x hx
                  · rw [List.mem_singleton.mp hx]; exact j3
                · show e ∈ addAll b1.1 (aft rowT c.L d ((t, true), b3) (answ c.L pd q.1 q.2)).1.1 ↔ _
                  rw [mem_addAll, h5, j4]
                  constructor
                  · rintro (⟨x, hx, y⟩ | y)
                    · exact ⟨x, List.mem_append_left _ hx, y⟩
                    · exact ⟨q, List.mem_append_right _ (List.mem_singleton_self q), y⟩
                  · rintro ⟨x, hx, y⟩
                    rcases List.mem_append.mp hx with hx | hx
                    · exact .inl ⟨x, hx, y⟩
                    · rw [List.mem_singleton.mp hx] at y
                      exact .inr y
              · exact .inr ⟨j1, q, List.mem_append_right _ (List.mem_singleton_self q), j2⟩
            · exact .inr ⟨aftT_false d t b3 _, q', List.mem_append_left _ hq', h3⟩
        rw [List.nil_append, ← foldR_eq] at key
        show (((foldR c.L (aft rowT c.L d) pd k.toNat (rowT (t, true) s).1 (([], 0), ((rowT (t, true) s).2, kp))).2.1 = (t, true) ∧ _) ∨ _)
        rw [hr]
        show (((foldR c.L (aft rowT c.L d) pd k.toNat row (([], 0), ((t, true), kp))).2.1 = (t, true) ∧ KX c.L (kpGet t) (kpPut (foldR c.L (aft rowT c.L d) pd k.toNat row (([], 0), ((t, true), kp))).2.2 (s, pd) (foldR c.L (aft rowT c.L d) pd k.toNat row (([], 0), ((t, true), kp))).1) ∧ Cov c.L (kpGet t) (.asks s pd k) ∧ ∀ e, e ∈ (foldR c.L (aft rowT c.L d) pd k.toNat row (([], 0), ((t, true), kp))).1.1 ↔ Ends c.L (kpGet t) (.asks s pd k) e) ∨
          ((foldR c.L (aft rowT c.L d) pd k.toNat row (([], 0), ((t, true), kp))).2.1 = (t, false) ∧ ¬ Cov c.L (kpGet t) (.asks s pd k)))
        generalize foldR c.L (aft rowT c.L d) pd k.toNat row (([], 0), ((t, true), kp)) = z at key
        rcases key.2 with ⟨h1, h2, h3, h4⟩ | ⟨h1, q, hq, h2⟩
        · have hc := (cov_asks (L := c.L) (pd := pd) (k := k) er).mpr h3
          have he : ∀ e, e ∈ z.1.1 ↔ Ends c.L (kpGet t) (.asks s pd k) e := fun e => by rw [h4, ends_asks er]
          refine .inl ⟨h1, fun y hy => ?_, hc, he⟩
          rcases mem_kpPut hy with hy | rfl
          · exact h2 y hy
          · rw [ek]
            exact ⟨hc, he⟩
        · exact .inr ⟨h1, fun x => h2 ((cov_asks er).mp x q hq)⟩
end NC
set_option Elab.async false
set_option linter.all false
set_option maxRecDepth 100000
set_option maxHeartbeats 4000000
/-! Walk of is_closed. -/
namespace NC
open PySem PySem.Spec PyProof.Rows L2
/-- rows that are closed -/
def Closed (c : Cf) (t : Tab) : Prop := (kpGet t (first c)).isSome = true ∧ ∀ b row, kpGet t b = some row → b ∈ row ∧ ∀ s ∈ row, ∀ q ∈ c.ents, Cov c.L (kpGet t) (begun c s q.1 q.2) ∧ ∀ e, Ends c.L (kpGet t) (begun c s q.1 q.2) e → e ∈ row
noncomputable def closedB (c : Cf) (t : Tab) : Bool := @decide (Closed c t) (Classical.propDecidable _)
theorem closedB_t {c : Cf} {t : Tab} (h : Closed c t) : closedB c t = true := @decide_eq_true _ (Classical.propDecidable _) h
theorem closedB_f {c : Cf} {t : Tab} (h : ¬ Closed c t) : closedB c t = false := @decide_eq_false _ (Classical.propDecidable _) h
def Cf.Few (c : Cf) : Prop := ∀ s q, q ∈ c.ents → akP c.L (begun c s q.1 q.2) < 3
theorem WyAt.same {K : PySem.W.Frag} {w : World} {c : Cf} {R : Type} {G : Prov K w c R} {M X D : List Addr} {wa r : Addr} {ρ : R} {kp : Kp} {e el kd dx : Addr} {H H' : Hp} (s : Same H H') (h : WyAt G M X D wa r ρ kp e el kd dx H) : WyAt G M X D wa r ρ kp e el kd dx H' :=
  ⟨s _ _ h.hw, h.wD, h.dM, h.kX, h.kD, h.xM, h.th.chg (D := []) (Chg.same s), h.en.same (Same.cut s), h.kq.keep VlAt.grows (Same.cut s) (s _), G.frame h.iv (Same.cut s) (fun a ha hx => ⟨ha, hx, s a⟩), h.gd, h.ko⟩
theorem kpGet_of {κ β : Type} [DecidableEq κ] {kp : List (κ × β)} (nd : (kp.map (·.1)).Nodup) {k : κ} {v : β} (h : (k, v) ∈ kp) : kpGet kp k = some v := by
  induction kp with
  | nil => cases h
  | cons x r ih =>
    rw [List.map_cons] at nd
    obtain ⟨n1, n2⟩ := List.nodup_cons.mp nd
    unfold kpGet
    rcases List.mem_cons.mp h with e | h
    · rw [← e, List.find?_cons_of_pos (by simp)]
      rfl
    · have : x.1 ≠ k := fun z => n1 (z ▸ List.mem_map.mpr ⟨(k, v), h, rfl⟩)
      rw [List.find?_cons_of_neg (by simpa using this)]
      exact ih n2 h
theorem first_ok {c : Cf} (co : c.Ok) : (first c).Ok c.nv c.na := by
  have h2 := co.o0
  have hh : 0 ≤ c.hd.getD 0 ∧ c.hd.getD 0 ≤ 2 := by
    cases e : c.hd with
    | none => exact ⟨Int.le_refl _, by show (0 : Int) ≤ 2; decide⟩
    | some n => exact (co.hd n e).2
  have hx : 0 ≤ (if c.nv then c.x0 else 0) ∧ (if c.nv then c.x0 else 0) ≤ 1 := by
    have := co.x0
    split <;> omega
  have ho : 0 ≤ (if c.na then c.o0 else 0) ∧ (if c.na then c.o0 else 0) ≤ 1 := by
    split <;> omega
  refine ⟨hx.1, hx.2, hh.1, ho.1, ?_, fun z => ?_, fun z => ⟨?_, ?_⟩⟩
  · show c.hd.getD 0 + (if c.na then c.o0 else 0) ≤ 4
    omega
  · show (if c.nv then c.x0 else 0) = 0
    rw [z]
    rfl
  · show c.hd.getD 0 = 0
    cases e : c.hd with
    | none => rfl
    | some n =>
      have := (co.hd n e).1
      rw [z] at this
      cases this
  · show (if c.na then c.o0 else 0) = 0
    rw [z]
    rfl
theorem Paired.at2 {α β : Type} {F : α → β → Prop} {l : List α} {m : List β} (h : Paired F l m) : ∀ {i : Nat} {a : α}, l[i]? = some a → ∃ b, m[i]? = some b ∧ F a b := by
  induction h with
  | nil => intro i b e; simp at e
  | cons h1 _ ih =>
    intro i b e
    cases i with
    | zero => cases e; exact ⟨_, rfl, h1⟩
    | succ i => exact ih (i := i) (by simpa using e)
theorem NKs.at {H : Hp} {α : Type} {f : α → NestedKey} {E : List α} {vs : List V} (h : NKs H (E.map f) vs) {i : Nat} {v : V} (e : vs[i]? = some v) : ∃ x, E[i]? = some x ∧ NK H (f x) v := by
  have hl : i < E.length := by
    have := h.length
    rw [List.length_map] at this
    rw [this]
    exact (List.getElem?_eq_some_iff.mp e).1
  obtain ⟨v', e1, e2⟩ := h.get (i := i) (k := f E[i]) (by rw [List.getElem?_map, List.getElem?_eq_getElem hl]; rfl)
  rw [e] at e1
  cases e1
  exact ⟨_, List.getElem?_eq_getElem hl, e2⟩
/-- a call whose rows are right -/
def GoodQ (c : Cf) (t : Tab) (row : List S) (s : S) (q : Nat × Int) : Prop := Cov c.L (kpGet t) (begun c s q.1 q.2) ∧ ∀ e, Ends c.L (kpGet t) (begun c s q.1 q.2) e → e ∈ row
/-- where the loops of is_closed stand -/
structure ClSt {K : PySem.W.Frag} {w : World} {c : Cf} (cl : Cls K (aRows K)) (t : Tab) (kd x td y e el dy : Addr) (H4 : Hp) (M : List Addr) (Hx : Hp) (kp : Kp) : Prop where
  ch : Chg [kd, x] H4 Hx
  ex : Ext [kd, x, td] H4 M Hx
  wy : WyAt (rowsP K w c cl td) M [kd] [x] y x (t, true) kp e el kd dy Hx
  kx : KX c.L (kpGet t) kp
  kn : KN c.L kp
section
variable {P : Program} {w : World} {K : PySem.W.Frag} {mg : Str → Option Value} {base : Heap}
def spClosed (w : World) (K : PySem.W.Frag) : Sp := fun vs H Q _ => ∃ (hv : V) (c : Cf) (pl : Addr) (ps : Tab) (pvs : List V), vs = [hv, .ref pl] ∧ HsAt K H c hv ∧ c.Ok ∧ c.Few ∧ H pl = some (.lst pvs) ∧ PsR c.nv c.na H ps pvs ∧ prsOk c.nv c.na ps ∧
  ∀ H', Same H H' → Q (.bl (closedB c (tabOf ps))) H'
theorem sc_is_closed : FnScope ["house", "pairs", "rows", "ways", "begin", "row", "state", "entry", "found", "end"] ["house", "pairs"] (defScope s_is_closed) := ⟨rfl, rfl, rfl, by decide +kernel, rfl, by decide +kernel, by decide +kernel⟩
theorem ok_closed {f : Addr} {fd : FuncData} (F : FnP K "is_closed" "is_closed" s_is_closed f fd) (T : Txt K mg) (k_Rows : C8.Mak P w K mg base 1 "Rows" (aRows K) (spRows w K) []) (k_Ways : C8.Mak P w K mg base 6 "Ways" (aWays K) (spWays w K) []) (c_first_state : C8.Cal P w K mg base 1 "first_state" (spFirst K) [])
    (m_Ways_of : C8.Met P w K mg base 12 (aWays K) "of" (spOf P w K mg base) []) (m_Prov_row_of : ∀ c td, C8.Met P w K mg base 7 (aRows K) "row_of" (spRow (rowsP K w c T.clRows td)) []) : FnOk P w K mg base CX0 13 f fd ["house", "pairs"] (spClosed w K) := by
  refine F.ok sc_is_closed (fun vs H Q E h => ?_) (fun cdv A outer s H vs Q E hr h => ?_)
  · obtain ⟨hv, c, pl, ps, pvs, rfl, _⟩ := h
    rfl
  · obtain ⟨hv, c, pl, ps, pvs, rfl, hh, co, few, hpl, hps, pok, k⟩ := h
    have hu9 := hu9 hr
    have hu65 := hu65 hr
    refine ⟨_, PSs.nox ((pss_cons (ps_set (i := 2) sc_is_closed.nd rfl (Or.inl rfl) (C8.pe_mk k_Rows hr (by decide) (by rfl) (pa_cons (pv 1) pa_nil)))
      (pss_cons (ps_set (i := 3) sc_is_closed.nd rfl (Or.inl rfl) (C8.pe_mk k_Ways hr (by decide) (by rfl) (pa_cons (pv 0) (pa_cons (pv 2) pa_nil))))
      (pss_cons (ps_if (pt_cmpR (op_nnotin hu9) (C8.pe_c c_first_state hr (by decide) (by rfl) (pa_cons (pv 0) pa_nil)) (pe_fld (pv 2) rfl) (by rfl)) (pss_one (ps_ret pe_bl)) pss_nil)
      (pss_cons (ps_lock (ps_for PassesOwn.never rfl (pi_nkeys (pe_fld (pv 2) rfl)) (pg_name (i := 4) sc_is_closed.nd rfl (Or.inl rfl)) (pss_cons (ps_set (i := 5) sc_is_closed.nd rfl (Or.inr rfl) (pe_nget hu9 (pe_fld (pv 2) rfl) (pv 4) (fun _ _ => rfl)))
      (pss_cons (ps_if (pt_cmpR (op_notInDK (K := K) hu65 rfl) (pv 4) (pv 5) (by rfl)) (pss_one (ps_ret pe_bl)) pss_nil)
      (pss_one (ps_for PassesOwn.never rfl (pi_list (pv 5)) (pg_name (i := 6) sc_is_closed.nd rfl (Or.inl rfl)) (pss_one (ps_for PassesOwn.never rfl (pi_list (pe_fld (pv 3) rfl)) (pg_name (i := 7) sc_is_closed.nd rfl (Or.inl rfl)) (pss_cons (ps_try_thru0 (pss_one (ps_set (i := 8) sc_is_closed.nd rfl (Or.inl rfl) (C8.pe_mt m_Ways_of hr (by decide) (pv 3) (pa_cons (pv 6) (pa_cons (pv 7) pa_nil))))))
      (pss_one (ps_if (PW.pt (pw_or (pt_not (pt_val (pe_fld (pv 2) rfl))) (pw_or1 (pt_not (pt_val (pe_callB (cr_all rfl) (by rfl) T.all bt_all (pa_cons (pe_lc (own := [("end", 9)]) rfl sc_is_closed.nd (pi_list (pv 8)) (blkOk_by (own := [("end", 9)]) (N := ["house", "pairs", "rows", "ways", "begin", "row", "state", "entry", "found", "end"]) (sc := defScope s_is_closed) (by decide +kernel)) (fun _ _ _ _ _ => (pg_name (i := 9) sc_is_closed.nd rfl (Or.inl rfl))) (fun _ _ _ _ _ => pts_nil) (fun _ _ _ _ _ => (pe_cmpR (op_inDK (K := K) hu65 rfl) (pv 9) (pv 5) (by rfl)))) pa_nil))))))) (pss_one (ps_ret pe_bl)) pss_nil)))))))))))
      (pss_one (ps_ret pe_bl))))))), ?_⟩
    dsimp only [cxOf, Cx.nox]
    -- rows, ways
    refine ⟨_, rfl, fun x dx nx ndx nex => ?_⟩
    have sx0 : Same H (upd (upd H dx (.own x)) x (.ins (aRows K) dx [])) := (new_same ndx).trans (new_same (by rw [upd_ne (Ne.symm nex)]; exact nx))
    refine ⟨x, dx, pl, c.nv, c.na, ps, pvs, rfl, upd_same, sx0 _ _ hpl, hps.same sx0, pok, fun H1 td s1 x1 ntd nd1 => ⟨rfl, ?_⟩⟩
    have ntd' : H td = none := none_upd (none_upd ntd)
    have S1 : Same H H1 := same_made nx ndx s1
    refine ⟨_, rfl, _, rfl, fun y dy ny ndy ney => ?_⟩
    have sy0 : Same H1 (upd (upd H1 dy (.own y)) y (.ins (aWays K) dy [])) := (new_same ndy).trans (new_same (by rw [upd_ne (Ne.symm ney)]; exact ny))
    refine ⟨y, dy, x, hv, c, rfl, upd_same, hh.same (S1.trans sy0), co, fun H2 e el kd evs s2 y2 en2 el2 evn2 kd2 nkd => ⟨rfl, ?_⟩⟩
    have S2 : Same H1 H2 := same_made ny ndy s2
    have nkd1 : H1 kd = none := none_upd (none_upd nkd)
    have S12 := S1.trans S2
    obtain ⟨txs, td1, tk1, tv1⟩ := nd1
    have x2 := S2 _ _ x1
    have td2 := S2 _ _ td1
    have kdx : kd ≠ x := Ne.symm (ne_of_none x1 nkd1)
    have kdt : kd ≠ td := Ne.symm (ne_of_none td1 nkd1)
    have yx : y ≠ x := Ne.symm (ne_of_none x1 ny)
    have yt : y ≠ td := Ne.symm (ne_of_none td1 ny)
    have ykd : y ≠ kd := fun z => by rw [z, kd2] at y2; cases y2
    have xtd : x ≠ td := fun z => by rw [z, td1] at x1; cases x1
    have tok := tabOf_ok pok
    have thM : Thr [kd, x, td] H2 := fun a ha => by
      rcases List.mem_cons.mp ha with rfl | ha
      · exact ⟨_, kd2, True.intro⟩
      · rcases List.mem_cons.mp ha with rfl | ha
        · exact ⟨_, x2, by show List.lookup _ _ = none; rfl⟩
        · rw [List.mem_singleton.mp ha]; exact ⟨_, td2, True.intro⟩
    have cM : Same (cut [x, td] H1) (cut [kd, x, td] H2) := fun a o h => by
      have h' := cut_le _ _ _ _ h
      refine cut_of (S2 _ _ h') fun z => ?_
      rcases List.mem_cons.mp z with z | z
      · exact ne_of_none h' nkd1 z
      · exact cut_not h z
    have enC : EnAt K (cut [kd, x, td] H2) e c := en2.cut fun m hm o ho z => by
      rcases List.mem_cons.mp hm with rfl | hm
      · rw [kd2] at ho; cases ho; exact z
      · rcases List.mem_cons.mp hm with rfl | hm
        · rw [x2] at ho; cases ho; cases z
        · rw [List.mem_singleton.mp hm, td2] at ho; cases ho; exact z
    have ndR : NDAt w [kd, x, td] H2 td (eS c.nv c.na) (LsAt c.nv c.na) (tabOf ps) := ⟨txs, td2, tk1.tx (TX.same cM), tv1.mono fun y _ v q => LsAt.grows _ _ _ _ cM q⟩
    have wy2 : WyAt (rowsP K w c T.clRows td) [kd, x, td] [kd] [x] y x (tabOf ps, true) [] e el kd dy H2 := by
      refine ⟨y2, ?_, ?_, List.mem_singleton_self kd, fun z => kdx (List.mem_singleton.mp z), fun a ha => by rw [List.mem_singleton.mp ha]; simp, thM, enC, ⟨[], kd2, (fun x hx => nomatch hx), .nil⟩, ⟨dx, rfl, by simp, fun z => kdx (List.mem_singleton.mp z).symm, by simp, fun z => kdt (List.mem_singleton.mp z).symm, x2, ndR.r⟩, tok, ⟨List.nodup_nil, fun y hy => nomatch hy⟩⟩
      · intro z
        rcases List.mem_cons.mp z with z | z
        · exact ykd z
        · exact yx (List.mem_singleton.mp z)
      · intro a ha
        rcases List.mem_cons.mp ha with rfl | ha
        · exact List.mem_cons_self
        · rw [List.mem_singleton.mp ha]; simp
    have evC : NKs (cut [kd, x, td] H2) (c.ents.map entK) evs := NKs.tx thM.tx _ _ evn2
    have elC : cut [kd, x, td] H2 el = some (.lst evs) := cut_of el2 fun z => by
      obtain ⟨o, ho, mo⟩ := thM el z
      rcases List.mem_cons.mp z with z | z
      · rw [z, kd2] at el2; cases el2
      · rcases List.mem_cons.mp z with z | z
        · rw [z, x2] at el2; cases el2
        · rw [List.mem_singleton.mp z, td2] at el2; cases el2
    clear thM cM enC s1 s2 ntd nkd
    refine ⟨_, rfl, hv, c, rfl, hh.same S12, co, fun p H3 s3 n3 => ?_⟩
    replace wy2 := wy2.same s3
    replace evC := NKs.tx (TX.same (Same.cut (M := [kd, x, td]) s3)) _ _ evC
    replace elC := Same.cut (M := [kd, x, td]) s3 _ _ elC
    replace ndR : NDAt w [kd, x, td] H3 td (eS c.nv c.na) (LsAt c.nv c.na) (tabOf ps) := ndR.keep LsAt.grows (Same.cut s3) (s3 _)
    have x3 := s3 _ _ x2
    have S3 := S12.trans s3
    have fo := first_ok co
    rcases ndR.nget (tok.inj fo) n3 (depth_eS _ _ _) with ⟨g1, g2⟩ | ⟨z, v, g1, g2, _⟩
    · refine ⟨_, rfl, x, _, dx, _, _, rfl, x3, T.clRows, T.nRows_table, rfl, td, _, rfl, g2, _, rfl, ifT rfl ?_⟩
      have := k _ S3
      rw [closedB_f fun z => by have z1 := z.1; rw [g1] at z1; cases z1] at this
      exact this
    · refine ⟨_, rfl, x, _, dx, _, _, rfl, x3, T.clRows, T.nRows_table, rfl, td, _, rfl, g2, _, rfl, ifF rfl ?_⟩
      obtain ⟨xs, t1, t2, t3⟩ := ndR
      refine ⟨td, ndO w td xs, t1, mut_nd, fun od => ?_⟩
      have tdM : td ∈ [kd, x, td] := by simp
      have ec4 : cut [kd, x, td] (upd H3 td (.frz od (ndO w td xs))) = cut [kd, x, td] H3 := cut_upd tdM
      have f4 : upd H3 td (.frz od (ndO w td xs)) td = some (.frz od (ndO w td xs)) := upd_same
      have n4 : ∀ {a : Addr} {o : HO}, H3 a = some o → a ≠ td → upd H3 td (.frz od (ndO w td xs)) a = some o := fun h n => by rw [upd_ne n]; exact h
      have ch4 : Chg [td] H3 (upd H3 td (.frz od (ndO w td xs))) := (Chg.refl _ _).put (List.mem_singleton_self td) True.intro
      have post : ∀ {Hx : Hp}, Chg [kd, x] (upd H3 td (.frz od (ndO w td xs))) Hx → Same H (upd Hx td (ndO w td xs)) := fun {Hx} ch a o h => by
        have at' : a ≠ td := ne_of_none h ntd'
        rw [upd_ne at']
        refine ch.keep _ _ (n4 (S3 _ _ h) at') fun z => ?_
        rcases List.mem_cons.mp z with z | z
        · exact ne_of_none (S1 _ _ h) nkd1 z
        · rw [List.mem_singleton.mp z, nx] at h; cases h
      generalize upd H3 td (.frz od (ndO w td xs)) = H4 at ec4 f4 n4 ch4 post ⊢
      have x4 := n4 x3 xtd
      have wy4 : WyAt (rowsP K w c T.clRows td) [kd, x, td] [kd] [x] y x (tabOf ps, true) [] e el kd dy H4 := by
        refine ⟨n4 wy2.hw yt, wy2.wD, wy2.dM, wy2.kX, wy2.kD, wy2.xM, wy2.th.chg ch4, by rw [ec4]; exact wy2.en, wy2.kq.keep VlAt.grows (by rw [ec4]; exact Same.refl _) (fun o h => n4 h kdt), ⟨dx, rfl, by simp, fun z => kdx (List.mem_singleton.mp z).symm, by simp, fun z => kdt (List.mem_singleton.mp z).symm, x4, ⟨xs, .inr ⟨od, f4⟩, by rw [ec4]; exact t2, by rw [ec4]; exact t3⟩⟩, wy2.gd, wy2.ko⟩
      have st4 : ClSt (w := w) (c := c) T.clRows (tabOf ps) kd x td y e el dy H4 [kd, x, td] H4 [] := ⟨Chg.refl _ _, Ext.refl wy4.th, wy4, (fun y hy => nomatch hy), fun y hy => nomatch hy⟩
      rw [← ec4] at evC elC t2 t3
      have dkx : ∀ a ∈ [kd, x], a ∈ [kd, x, td] := fun a ha => by
        rcases List.mem_cons.mp ha with rfl | ha
        · exact List.mem_cons_self
        · rw [List.mem_singleton.mp ha]; simp
      have tdn : td ∉ [kd, x] := fun z => by
        rcases List.mem_cons.mp z with z | z
        · exact kdt z.symm
        · exact xtd (List.mem_singleton.mp z).symm
      clear wy2 ec4 n4 ch4 S1 S2 S12 S3 s3 n3 x1 x2 x3 td1 td2 t1 tk1 tv1 y2 kd2 en2 el2 evn2 wy4 g2
      have xn : ∀ {M : List Addr} {Hx : Hp} {kp : Kp}, ClSt (w := w) (c := c) T.clRows (tabOf ps) kd x td y e el dy H4 M Hx kp → ∃ dx, Hx x = some (.ins (aRows K) dx (rwF td true)) ∧ NDR w M Hx td (eS c.nv c.na) (LsAt c.nv c.na) (tabOf ps) := fun {M Hx kp} h => by
        obtain ⟨dx', _, _, _, _, _, h1, h2⟩ := h.wy.iv
        exact ⟨dx', h1, h2⟩
      have retF : ∀ {M : List Addr} {Hx : Hp} {kp : Kp}, ClSt (w := w) (c := c) T.clRows (tabOf ps) kd x td y e el dy H4 M Hx kp → ¬ Closed c (tabOf ps) → Hx td = some (.frz od (ndO w td xs)) ∧ Q (.bl false) (upd Hx td (ndO w td xs)) := fun {M Hx kp} h n => by
        refine ⟨h.ch.keep _ _ f4 tdn, ?_⟩
        have := k _ (post h.ch)
        rw [closedB_f n] at this
        exact this
      refine ⟨_, rfl, x, _, dx, _, _, rfl, x4, T.clRows, T.nRows_table, rfl, td, od, xs, rfl, f4, t2.tx (TX.same (cut_le _ _)), for_it walk_nkeys (fun i σ Hx => ∃ x4 x5 x6 x7 x8 x9 kp Mx, σ = [some hv, some (.ref pl), some (.ref x), some (.ref y), x4, x5, x6, x7, x8, x9] ∧ ClSt (w := w) (c := c) T.clRows (tabOf ps) kd x td y e el dy H4 Mx Hx kp ∧
          ∀ j b row, j < i → (tabOf ps)[j]? = some (b, row) → b ∈ row ∧ ∀ s ∈ row, ∀ q ∈ c.ents, GoodQ c (tabOf ps) row s q)
        ⟨_, _, _, _, _, _, _, _, rfl, st4, fun j b row hj => absurd hj (Nat.not_lt_zero j)⟩ (fun i σ Hx _ ⟨_, _, _, _, _, _, _, _, _, s1, _⟩ => ⟨s1.ch.keep _ _ f4 tdn, t2.tx (TX.same (Same.trans s1.ex.sm (cut_le _ _)))⟩) ?_ ?_⟩
      · rintro i xv σ Hx H' hi ⟨x4', x5, x6, x7, x8, x9, kp, Mi, rfl, st, done⟩ ⟨rfl, en', hen, rfl⟩
        obtain ⟨⟨b, row⟩, htab, ek, l, revs, el', lh, ln⟩ := Paired.at2 t3 hen
        have cx := st.ex.sm
        have kb := (t2 en' (List.mem_of_getElem? hen)).1
        rw [ek] at kb
        have mem := List.mem_of_getElem? htab
        have gb := kpGet_of tok.1 mem
        obtain ⟨bok, _, rok⟩ := tok.2 _ mem
        obtain ⟨dx', xx, ndr⟩ := xn st
        have le := cut_le Mi H'
        have kb' := NK.tx (TX.same (cx.trans le)) _ _ kb
        rcases ndr.nget (tok.inj bok) kb' (depth_eS _ _ _) with ⟨m1, _⟩ | ⟨z', v', m1, m2, l2, revs2, rfl, lh2, ln2⟩
        · rw [gb] at m1; cases m1
        rw [gb] at m1
        cases m1
        refine ⟨_, rfl, x, _, dx', _, _, rfl, xx, T.clRows, T.nRows_table, rfl, _, rfl, td, _, rfl, m2, ?_⟩
        obtain ⟨d, ds, D1, D2, Sh1, Sh2, eqv⟩ := inD_at (K := K) kb' (SqL.of (le _ _ lh2)) (NKs.tx (TX.same le) _ _ ln2) bok rok
        refine ⟨_, rfl, _, rfl, d, ds, D1, D2, Sh1, Sh2, _, rfl, ?_⟩
        rw [eqv]
        by_cases hbr : b ∈ row
        · refine ifF (by simp [hbr]) ?_
          refine ⟨_, rfl, l2, rfl, ⟨_, SqL.of (le _ _ lh2)⟩, for_list (K := K) (xs := revs2) (fun j σ Hy => ∃ x6 x7 x8 x9 kp My, σ = [some hv, some (.ref pl), some (.ref x), some (.ref y), some (.ref en'.2.1), some (.ref l2), x6, x7, x8, x9] ∧ ClSt (w := w) (c := c) T.clRows (tabOf ps) kd x td y e el dy H4 My Hy kp ∧ Same (cut Mi H') (cut My Hy) ∧
              ∀ s ∈ row.take j, ∀ q ∈ c.ents, GoodQ c (tabOf ps) row s q)
            ⟨_, _, _, _, _, _, rfl, st, Same.refl _, fun s hs => by simp at hs⟩ (fun j σ Hy _ ⟨_, _, _, _, _, _, _, _, s1, _⟩ => SqL.of (cut_le _ _ _ _ (s1 _ _ lh2))) ?_ ?_⟩
          · rintro j sv σ Hy hj ⟨x6, x7, x8, x9, kp, My, rfl, st, sm, dn⟩
            obtain ⟨s', hs', ns'⟩ := NKs.at ln2 hj
            have os' := rok s' (List.mem_of_getElem? hs')
            have cy := st.ex.sm
            refine ⟨_, rfl, y, _, dy, _, _, rfl, st.wy.hw, T.clWays, T.nWays_entries, rfl, el, rfl, ⟨_, SqL.of (cut_le _ _ _ _ (cy _ _ elC))⟩, for_list (K := K) (xs := evs) (fun m σ Hz => ∃ x7 x8 x9 kp Mz, σ = [some hv, some (.ref pl), some (.ref x), some (.ref y), some (.ref en'.2.1), some (.ref l2), some sv, x7, x8, x9] ∧ ClSt (w := w) (c := c) T.clRows (tabOf ps) kd x td y e el dy H4 Mz Hz kp ∧ Same (cut Mi H') (cut Mz Hz) ∧
                ∀ q ∈ c.ents.take m, GoodQ c (tabOf ps) row s' q)
              ⟨_, _, _, _, _, rfl, st, sm, fun q hq => by simp at hq⟩ (fun m σ Hz _ ⟨_, _, _, _, _, _, s1, _⟩ => SqL.of (cut_le _ _ _ _ (s1.ex.sm _ _ elC))) ?_ ?_⟩
            · clear cy st sm
              rintro m ev σ Hz hm ⟨x7, x8, x9, kp, Mz, rfl, st, sm, dq⟩
              obtain ⟨q, hq, nq⟩ := NKs.at evC hm
              have mq := List.mem_of_getElem? hq
              have cz := st.ex.sm
              have svz := NK.tx (TX.same sm) _ _ ns'
              have vsz : vS c.nv c.na (fun _ => True) s' := ⟨os', True.intro⟩
              have hfew := few s' q mq
              have po := co.begun (tot := fun _ => True) vsz (i := q.1) (g := q.2) mq
              have cnt := aft_cnt (G := rowsG c) co.ln (fun ρ s hg => by
                show (rowT ρ s).1.length ≤ 22
                unfold rowT
                cases e : kpGet ρ.1 s with
                | none => exact Nat.zero_le _
                | some l => exact (hg.2 _ (kpGet_mem e)).2.1.2) 3 ((tabOf ps, true), kp) (begun c s' q.1 q.2) tok st.wy.ko po st.kn
              have cle : (aft rowT c.L 3 ((tabOf ps, true), kp) (begun c s' q.1 q.2)).1.2 ≤ 2000 := by
                refine Nat.le_trans cnt.1 (Nat.le_trans (Nat.pow_le_pow_right (by decide) (Nat.le_of_lt_succ hfew)) (by decide))
              refine ⟨_, rfl, y, dy, _, rfl, st.wy.hw, rfl, _, rfl, _, rfl, c, Tab × Bool, rowsP K w c T.clRows td, y, x, sv, ev, s', q.1, q.2, (tabOf ps, true), kp, e, el, kd, dy, Mz, [kd], [x], rfl, m_Prov_row_of c td, co, st.wy, svz, vsz, mq, NK.tx (TX.same cz) _ _ nq, hfew, cle, fun v Hw Mw chw exw wyw lsw => ?_⟩
              have aT := aftT co.ln tok 3 kp (begun c s' q.1 q.2) st.wy.ko po hfew st.kx
              have knw : KN c.L (aft rowT c.L 3 ((tabOf ps, true), kp) (begun c s' q.1 q.2)).2.2 := cnt.2
              have okw : AftOk c (rowsG c) (aft rowT c.L 3 ((tabOf ps, true), kp) (begun c s' q.1 q.2)) := aft_ok (G := rowsG c) co.ln 3 ((tabOf ps, true), kp) (begun c s' q.1 q.2) tok st.wy.ko po
              have chw2 := st.ch.trans chw
              have cw : Same (cut Mz Hz) (cut Mw Hw) := exw.sm
              have exw2 := st.ex.trans exw
              clear cnt cle
              have e9 : aft (rowsP K w c T.clRows td).row c.L 3 ((tabOf ps, true), kp) (begun c s' q.1 q.2) = aft rowT c.L 3 ((tabOf ps, true), kp) (begun c s' q.1 q.2) := rfl
              rw [e9] at wyw lsw
              generalize aft rowT c.L 3 ((tabOf ps, true), kp) (begun c s' q.1 q.2) = z at wyw lsw aT knw okw
              obtain ⟨z1, ⟨tz, bz⟩, kz⟩ := z
              rcases aT with ⟨j1, j2, j3, j4⟩ | ⟨j1, j2⟩
              · cases j1
                have stw : ClSt (w := w) (c := c) T.clRows (tabOf ps) kd x td y e el dy H4 Mw Hw kz := ⟨chw2, exw2, wyw, j2, knw⟩
                obtain ⟨dxw, xw, _⟩ := xn stw
                obtain ⟨fl, fvs, rfl, flh, fln⟩ := lsw
                have lew := cut_le Mw Hw
                refine ⟨_, rfl, x, _, dxw, _, _, rfl, xw, T.clRows, T.nRows_complete, rfl, _, rfl, ifF rfl ?_⟩
                refine ⟨_, rfl, fl, rfl, ⟨_, SqL.of (lew _ _ flh)⟩, fun D nD => ?_⟩
                refine lc_list (K := K) (xs := fvs) (fun a Ha => Same Hw Ha ∧ Ha D = some (.lst ((z1.1.take a).map fun e => V.bl (decide (e ∈ row))))) ⟨new_same nD, upd_same⟩ (fun a Ha _ ⟨sx, _⟩ => SqL.of (sx _ _ (lew _ _ flh))) ?_ ?_
                · rintro a xa Ha ha ⟨sa, qa⟩
                  obtain ⟨ea, hea, nea⟩ := NKs.at fln ha
                  have oea := (okw.vs ea (List.mem_of_getElem? hea)).1
                  have lrow := sa _ _ (lew _ _ ((sm.trans cw) _ _ lh2))
                  obtain ⟨d, ds, D1, D2, Sh1, Sh2, eqv⟩ := inD_at (K := K) (NK.tx (TX.same (Same.trans lew sa)) _ _ nea) (SqL.of lrow) (NKs.tx (TX.same (((sm.trans cw).trans lew).trans sa)) _ _ ln2) oea rok
                  refine ⟨rfl, _, rfl, _, rfl, d, ds, D1, D2, Sh1, Sh2, ?_⟩
                  rw [eqv]
                  refine ⟨_, qa, ?_, fun b o h => ?_, ?_⟩
                  · rw [List.length_map]
                    refine szl (Nat.lt_of_le_of_lt (List.length_take_le' _ _) (Nat.lt_of_le_of_lt (vS_len okw.nd okw.vs) (by decide)))
                  · rw [upd_ne (ne_of_none h nD)]; exact sa _ _ h
                  · rw [upd_same, List.take_succ, hea, List.map_append]; rfl
                · rintro Ha ⟨sa, qa⟩
                  rw [← fln.length, List.length_map, List.take_length] at qa
                  have qa' : Ha D = some (.lst ((z1.1.map fun e => decide (e ∈ row)).map V.bl)) := by rw [qa, List.map_map]; rfl
                  refine ⟨D, _, rfl, SqL.of qa', _, rfl, ?_⟩
                  have ca : Same (cut Mw Hw) (cut Mw Ha) := Same.cut sa
                  have sta : ClSt (w := w) (c := c) T.clRows (tabOf ps) kd x td y e el dy H4 Mw Ha kz := ⟨chw2.trans (Chg.same sa), exw2.trans (Ext.same exw2.th sa), wyw.same sa, j2, knw⟩
                  have eall : (z1.1.map fun e => decide (e ∈ row)).all id = true ↔ ∀ e ∈ z1.1, e ∈ row := by simp
                  by_cases hall : (z1.1.map fun e => decide (e ∈ row)).all id = true
                  · refine ifF (by rw [hall]; rfl) ?_
                    refine ⟨_, _, _, _, _, rfl, sta, (sm.trans cw).trans ca, fun q' hq' => ?_⟩
                    rw [List.take_succ, hq] at hq'
                    rcases List.mem_append.mp hq' with hq' | hq'
                    · exact dq q' hq'
                    · rw [List.mem_singleton.mp hq']
                      exact ⟨j3, fun e he => eall.mp hall e ((j4 e).mpr he)⟩
                  · refine ifT (by rw [Bool.not_eq_true] at hall; rw [hall]; rfl) ?_
                    exact retF sta fun zc => hall (eall.mpr fun e he => ((zc.2 b row gb).2 s' (List.mem_of_getElem? hs') q mq).2 e ((j4 e).mp he))
              · cases j1
                obtain ⟨dxw, _, _, _, _, _, xw, _⟩ := wyw.iv
                refine ⟨_, rfl, x, _, dxw, _, _, rfl, xw, T.clRows, T.nRows_complete, rfl, _, rfl, ifT rfl (ifT rfl ?_)⟩
                refine ⟨chw2.keep _ _ f4 tdn, ?_⟩
                have := k _ (post chw2)
                rw [closedB_f fun zc => j2 ((zc.2 b row gb).2 s' (List.mem_of_getElem? hs') q mq).1] at this
                exact this
            · rintro σ Hz ⟨x7, x8, x9, kp, Mz, rfl, st, sm, dq⟩
              rw [← evC.length, List.length_map, List.take_length] at dq
              refine ⟨_, _, _, _, _, _, rfl, st, sm, fun s hs q hq => ?_⟩
              rw [List.take_succ, hs'] at hs
              rcases List.mem_append.mp hs with hs | hs
              · exact dn s hs q hq
              · rw [List.mem_singleton.mp hs]
                exact dq q hq
          · rintro σ Hy ⟨x6, x7, x8, x9, kp, My, rfl, st, _, dn⟩
            rw [← ln2.length, List.length_map, List.take_length] at dn
            refine ⟨_, _, _, _, _, _, _, _, rfl, st, fun j b' row' hj hjt => ?_⟩
            by_cases hji : j < i
            · exact done j b' row' hji hjt
            · have : j = i := by omega
              subst this
              rw [htab] at hjt
              cases hjt
              exact ⟨hbr, dn⟩
        · refine ifT (by simp [hbr]) ?_
          exact retF st fun z => hbr (z.2 b row gb).1
      · rintro σ Hx ⟨x4', x5, x6, x7, x8, x9, kp, Mi, rfl, st, done⟩
        refine ⟨st.ch.keep _ _ f4 tdn, ?_⟩
        have := k _ (post st.ch)
        rw [closedB_t ⟨by rw [g1]; rfl, fun b row hb => ?_⟩] at this
        · exact this
        · obtain ⟨j, hj, ej⟩ := List.getElem_of_mem (kpGet_mem hb)
          have hx : xs.length = (tabOf ps).length := DAt.length t3
          exact done j b row (by rw [hx]; exact hj) (by rw [List.getElem?_eq_getElem hj, ej])
theorem cal_closed {f : Addr} {fd : FuncData} (F : FnP K "is_closed" "is_closed" s_is_closed f fd) (T : Txt K mg) (g : mg "is_closed" = some (.ref f)) (k_Rows : C8.Mak P w K mg base 1 "Rows" (aRows K) (spRows w K) []) (k_Ways : C8.Mak P w K mg base 6 "Ways" (aWays K) (spWays w K) []) (c_first_state : C8.Cal P w K mg base 1 "first_state" (spFirst K) [])
    (m_Ways_of : C8.Met P w K mg base 12 (aWays K) "of" (spOf P w K mg base) []) (m_Prov_row_of : ∀ c td, C8.Met P w K mg base 7 (aRows K) "row_of" (spRow (rowsP K w c T.clRows td)) []) : C8.Cal P w K mg base 13 "is_closed" (spClosed w K) [] :=
  ⟨f, fd, _, [], ok_closed F T k_Rows k_Ways c_first_state m_Ways_of m_Prov_row_of, g, F.kp, F.bindsN fun _ _ _ _ _ _ us hl => match us, hl with | [_, _], _ => rfl, .nil⟩
end
end NC
set_option Elab.async false
set_option linter.all false
set_option maxRecDepth 100000
set_option maxHeartbeats 4000000
/-! Walk of bound. -/
namespace NC
open PySem PySem.Spec PyProof.Rows L2
def wr (c : Cf) (prc : List Int) (s : S) : Int := if c.na then s.o * prc.headD 0 else 0
def IsMax (l : List Int) (m : Int) : Prop := m ∈ l ∧ ∀ y ∈ l, y ≤ m
section
variable {P : Program} {w : World} {K : PySem.W.Frag} {mg : Str → Option Value} {base : Heap}
def PrcAt (c : Cf) (H : Hp) (prc : List Int) (b : Addr) : Prop := H b = some (.lst (prc.map V.int)) ∧ prc.length = (if c.na then 1 else 0) ∧ ∀ p ∈ prc, 0 ≤ p ∧ p ≤ 9
def spBound (w : World) (K : PySem.W.Frag) : Sp := fun vs H Q _ => ∃ (hv : V) (c : Cf) (pl pb : Addr) (ps : Tab) (pvs : List V) (prc : List Int), vs = [hv, .ref pl, .ref pb] ∧ HsAt K H c hv ∧ c.Ok ∧ c.Few ∧ H pl = some (.lst pvs) ∧ PsR c.nv c.na H ps pvs ∧ prsOk c.nv c.na ps ∧ PrcAt c H prc pb ∧
  (¬ Closed c (tabOf ps) → ∀ H', Same H H' → Q .non H') ∧ (Closed c (tabOf ps) → ∀ row m H', Same H H' → kpGet (tabOf ps) (first c) = some row → IsMax (row.map (wr c prc)) m → Q (.int m) H')
theorem sc_bound : FnScope ["house", "pairs", "prices", "row", "state"] ["house", "pairs", "prices"] (defScope s_bound) := ⟨rfl, rfl, rfl, by decide +kernel, rfl, by decide +kernel, by decide +kernel⟩
theorem ok_bound {f : Addr} {fd : FuncData} (F : FnP K "bound" "bound" s_bound f fd) (T : Txt K mg) (c_is_closed : C8.Cal P w K mg base 13 "is_closed" (spClosed w K) []) (k_Rows : C8.Mak P w K mg base 1 "Rows" (aRows K) (spRows w K) []) (c_first_state : C8.Cal P w K mg base 1 "first_state" (spFirst K) [])
    (c_worth : C8.Cal P w K mg base 1 "worth" (spWorth K) []) : FnOk P w K mg base CX0 14 f fd ["house", "pairs", "prices"] (spBound w K) := by
  refine F.ok sc_bound (fun vs H Q E h => ?_) (fun cdv A outer s H vs Q E hr h => ?_)
  · obtain ⟨hv, c, pl, pb, ps, pvs, prc, rfl, _⟩ := h
    rfl
  · obtain ⟨hv, c, pl, pb, ps, pvs, prc, rfl, hh, co, few, hpl, hps, pok, ⟨hb1, hb2, hb3⟩, k0, k1⟩ := h
    have hu9 := hu9 hr
    refine ⟨_, PSs.nox ((pss_cons (ps_if (pt_not (pt_val (C8.pe_c c_is_closed hr (by decide) (by rfl) (pa_cons (pv 0) (pa_cons (pv 1) pa_nil))))) (pss_one (ps_ret pe_non)) pss_nil)
      (pss_cons (ps_set (i := 3) sc_bound.nd rfl (Or.inl rfl) (pe_nget hu9 (pe_fld (C8.pe_mk k_Rows hr (by decide) (by rfl) (pa_cons (pv 1) pa_nil)) rfl) (C8.pe_c c_first_state hr (by decide) (by rfl) (pa_cons (pv 0) pa_nil)) (fun _ _ => rfl)))
      (pss_one (ps_ret (pe_callB (cr_max rfl) (by rfl) T.max bt_max (pa_cons (pe_lc (own := [("state", 4)]) rfl sc_bound.nd (pi_list (pv 3)) (blkOk_by (own := [("state", 4)]) (N := ["house", "pairs", "prices", "row", "state"]) (sc := defScope s_bound) (by decide +kernel)) (fun _ _ _ _ _ => (pg_name (i := 4) sc_bound.nd rfl (Or.inl rfl))) (fun _ _ _ _ _ => pts_nil) (fun _ _ _ _ _ => (C8.pe_c c_worth hr (by decide) (by rfl) (pa_cons (pv 4) (pa_cons (pv 2) pa_nil))))) pa_nil))))))), ?_⟩
    dsimp only [cxOf, Cx.nox]
    refine ⟨_, rfl, _, rfl, hv, c, pl, ps, pvs, rfl, hh, co, few, hpl, hps, pok, fun H1 s1 => ⟨_, rfl, ?_⟩⟩
    by_cases hc : Closed c (tabOf ps)
    · rw [closedB_t hc]
      refine ifF rfl ?_
      refine ⟨_, rfl, fun x dx nx ndx nex => ?_⟩
      have sx0 : Same H1 (upd (upd H1 dx (.own x)) x (.ins (aRows K) dx [])) := (new_same ndx).trans (new_same (by rw [upd_ne (Ne.symm nex)]; exact nx))
      refine ⟨x, dx, pl, c.nv, c.na, ps, pvs, rfl, upd_same, sx0 _ _ (s1 _ _ hpl), hps.same (s1.trans sx0), pok, fun H2 td s2 x2 ntd nd2 => ⟨rfl, ?_⟩⟩
      have S2 : Same H H2 := s1.trans (same_made nx ndx s2)
      refine ⟨x, _, dx, _, _, rfl, x2, T.clRows, T.nRows_table, rfl, _, rfl, hv, c, rfl, hh.same S2, co, fun p H3 s3 n3 => ?_⟩
      have tok := tabOf_ok pok
      have fo := first_ok co
      have nd3 : NDAt w [x, td] H3 td (eS c.nv c.na) (LsAt c.nv c.na) (tabOf ps) := nd2.keep LsAt.grows (Same.cut s3) (s3 _)
      rcases nd3.nget (tok.inj fo) n3 (depth_eS _ _ _) with ⟨g1, _⟩ | ⟨row, v, g1, g2, l, evs, rfl, lh, ln⟩
      · have := hc.1
        rw [g1] at this
        cases this
      · refine ⟨td, _, rfl, g2, ?_⟩
        have le := cut_le [x, td] H3
        have rok := (tok.2 _ (kpGet_mem g1)).2
        have hb3' := s3 _ _ (S2 _ _ hb1)
        refine ⟨_, rfl, l, rfl, ⟨_, SqL.of (le _ _ lh)⟩, fun D nD => ?_⟩
        refine lc_list (K := K) (xs := evs) (fun a Ha => Same H3 Ha ∧ Ha D = some (.lst ((row.take a).map fun e => V.int (wr c prc e)))) ⟨new_same nD, upd_same⟩ (fun a Ha _ ⟨sx, _⟩ => SqL.of (sx _ _ (le _ _ lh))) ?_ ?_
        · rintro a xa Ha ha ⟨sa, qa⟩
          obtain ⟨ea, hea, nea⟩ := NKs.at ln ha
          have oea := rok.2 ea (List.mem_of_getElem? hea)
          have al : a < row.length := (List.getElem?_eq_some_iff.mp hea).1
          refine ⟨rfl, _, rfl, _, rfl, xa, c.nv, c.na, ea, pb, prc, rfl, NK.tx (TX.same (Same.trans le sa)) _ _ nea, sa _ _ hb3', hb2, ⟨oea.o0, by have := oea.top; have := oea.h0; omega⟩, hb3, fun Hb sb => ?_⟩
          refine ⟨_, sb _ _ qa, ?_, fun b o h => ?_, ?_⟩
          · rw [List.length_map]
            refine szl (Nat.lt_of_le_of_lt (List.length_take_le' _ _) (Nat.lt_of_le_of_lt rok.1.2 (by decide)))
          · rw [upd_ne (ne_of_none h nD)]; exact sb _ _ (sa _ _ h)
          · rw [upd_same, List.take_succ, hea, List.map_append]; rfl
        · rintro Ha ⟨sa, qa⟩
          rw [← ln.length, List.length_map, List.take_length] at qa
          have qa' : Ha D = some (.lst ((row.map (wr c prc)).map V.int)) := by rw [qa, List.map_map]; rfl
          have hf := (hc.2 _ _ g1).1
          refine ⟨D, _, rfl, SqL.of qa', ?_, fun m h1 h2 => k1 hc row m _ ((S2.trans s3).trans sa) g1 ⟨h1, h2⟩⟩
          rw [List.length_map]
          exact List.length_pos_of_mem hf
    · rw [closedB_f hc]
      refine ifT rfl ?_
      exact k0 hc _ s1
theorem cal_bound {f : Addr} {fd : FuncData} (F : FnP K "bound" "bound" s_bound f fd) (T : Txt K mg) (g : mg "bound" = some (.ref f)) (c_is_closed : C8.Cal P w K mg base 13 "is_closed" (spClosed w K) []) (k_Rows : C8.Mak P w K mg base 1 "Rows" (aRows K) (spRows w K) []) (c_first_state : C8.Cal P w K mg base 1 "first_state" (spFirst K) [])
    (c_worth : C8.Cal P w K mg base 1 "worth" (spWorth K) []) : C8.Cal P w K mg base 14 "bound" (spBound w K) [] :=
  ⟨f, fd, _, [], ok_bound F T c_is_closed k_Rows c_first_state c_worth, g, F.kp, F.bindsN fun _ _ _ _ _ _ us hl => match us, hl with | [_, _, _], _ => rfl, .nil⟩
end
end NC
set_option Elab.async false
set_option linter.all false
set_option maxRecDepth 100000
set_option maxHeartbeats 4000000
/-! Search as a giver of rows: meet, row_of. -/
namespace NC
open PySem PySem.Spec PyProof.Rows L2
/-- what a Search holds -/
structure Sr where
  ends : Tab
  rows : Tab
  asked : List S
def meetE (t : Tab) (s : S) : Tab := match kpGet t s with
  | some _ => t
  | none => t ++ [(s, [])]
def rowS (ρ : Sr) (s : S) : List S × Sr := if s ∈ ρ.asked then ((kpGet ρ.rows s).getD [], ρ) else ([s], ⟨meetE ρ.ends s, kpPut ρ.rows s [s], ρ.asked ++ [s]⟩)
def keys (t : Tab) : List S := t.map (·.1)
theorem kpGet_none {κ β : Type} [DecidableEq κ] {kp : List (κ × β)} {k : κ} : kpGet kp k = none ↔ k ∉ kp.map (·.1) := by
  unfold kpGet
  rw [Option.map_eq_none_iff, List.find?_eq_none]
  constructor
  · intro h z
    obtain ⟨y, hy, e⟩ := List.mem_map.mp z
    exact (by simpa using h y hy : ¬ y.1 = k) e
  · intro h y hy
    simp only [decide_eq_true_eq]
    exact fun e => h (List.mem_map.mpr ⟨y, hy, e⟩)
theorem kpGet_some {κ β : Type} [DecidableEq κ] {kp : List (κ × β)} {k : κ} (h : k ∈ kp.map (·.1)) : ∃ v, kpGet kp k = some v := by
  cases e : kpGet kp k with
  | none => exact absurd h (kpGet_none.mp e)
  | some v => exact ⟨v, rfl⟩
theorem kpPut_new {κ β : Type} [DecidableEq κ] {kp : List (κ × β)} {k : κ} {v : β} (h : k ∉ kp.map (·.1)) : kpPut kp k v = kp ++ [(k, v)] := by
  unfold kpPut
  rw [if_neg]
  intro z
  obtain ⟨x, hx, e⟩ := List.any_eq_true.mp z
  exact h (List.mem_map.mpr ⟨x, hx, by simpa using e⟩)
theorem meetE_keys (t : Tab) (s : S) : keys (meetE t s) = if s ∈ keys t then keys t else keys t ++ [s] := by
  unfold meetE
  cases e : kpGet t s with
  | none => rw [if_neg (show s ∉ keys t from kpGet_none.mp e)]; simp [keys]
  | some v => rw [if_pos (show s ∈ keys t from List.mem_map.mpr ⟨_, kpGet_mem e, rfl⟩)]
theorem mem_meetE {t : Tab} {s x : S} : x ∈ keys (meetE t s) ↔ x ∈ keys t ∨ x = s := by
  rw [meetE_keys]
  split
  · rename_i h
    exact ⟨.inl, fun z => z.elim id fun z => z ▸ h⟩
  · rw [List.mem_append, List.mem_singleton]
structure SrGood (c : Cf) (T0 : Int) (ρ : Sr) : Prop where
  e1 : (keys ρ.ends).Nodup
  e2 : ∀ s ∈ keys ρ.ends, vS c.nv c.na (fun t => t = T0) s
  e3 : ∀ y ∈ ρ.ends, y.2.Nodup ∧ ∀ x ∈ y.2, x ∈ keys ρ.ends
  r1 : keys ρ.rows = ρ.asked
  a1 : ρ.asked.Nodup
  a2 : ∀ s ∈ ρ.asked, s ∈ keys ρ.ends
  r2 : ∀ y ∈ ρ.rows, y.2.Nodup ∧ ∀ x ∈ y.2, x ∈ keys ρ.ends
theorem SrGood.row_len {c : Cf} {T0 : Int} {l : List S} (h : l.Nodup) (k : ∀ x ∈ l, vS c.nv c.na (fun t => t = T0) x) : l.length ≤ 10 := by
  have := nodup_len (F := ([0, 1] : List Int).flatMap fun x => ([0, 1, 2, 3, 4] : List Int).map fun h => (⟨x, h, T0 - h⟩ : S)) h fun a ha => by
    obtain ⟨⟨x0, x1, h0, o0, top, _, _⟩, ht⟩ := k a ha
    have hx : a.x = 0 ∨ a.x = 1 := by omega
    have hh : a.h = 0 ∨ a.h = 1 ∨ a.h = 2 ∨ a.h = 3 ∨ a.h = 4 := by omega
    refine List.mem_flatMap.mpr ⟨a.x, by simpa using hx, List.mem_map.mpr ⟨a.h, by simpa using hh, ?_⟩⟩
    have : T0 - a.h = a.o := by
      have : a.h + a.o = T0 := ht
      omega
    rw [this]
  exact this
theorem SrGood.meet {c : Cf} {T0 : Int} {ρ : Sr} (h : SrGood c T0 ρ) {s : S} (hs : vS c.nv c.na (fun t => t = T0) s) : SrGood c T0 { ρ with ends := meetE ρ.ends s } := by
  refine ⟨?_, fun x hx => ?_, fun y hy => ?_, h.r1, h.a1, fun x hx => mem_meetE.mpr (.inl (h.a2 x hx)), fun y hy => ⟨(h.r2 y hy).1, fun x hx => mem_meetE.mpr (.inl ((h.r2 y hy).2 x hx))⟩⟩
  · show (keys (meetE ρ.ends s)).Nodup
    rw [meetE_keys]
    split
    · exact h.e1
    · rename_i hn
      exact List.nodup_append.mpr ⟨h.e1, nd1 _, fun a ha b hb => by rw [List.mem_singleton.mp hb]; exact fun z => hn (z ▸ ha)⟩
  · rcases mem_meetE.mp hx with hx | rfl
    · exact h.e2 x hx
    · exact hs
  · have hy' : y ∈ meetE ρ.ends s := hy
    unfold meetE at hy'
    cases e : kpGet ρ.ends s with
    | some v =>
      rw [e] at hy'
      exact ⟨(h.e3 y hy').1, fun x hx => mem_meetE.mpr (.inl ((h.e3 y hy').2 x hx))⟩
    | none =>
      rw [e] at hy'
      rcases List.mem_append.mp hy' with hy' | hy'
      · exact ⟨(h.e3 y hy').1, fun x hx => mem_meetE.mpr (.inl ((h.e3 y hy').2 x hx))⟩
      · rw [List.mem_singleton.mp hy']
        exact ⟨List.nodup_nil, fun x hx => nomatch hx⟩
theorem rowS_good {c : Cf} {T0 : Int} {ρ : Sr} {s : S} (h : SrGood c T0 ρ) (hs : vS c.nv c.na (fun t => t = T0) s) : SrGood c T0 (rowS ρ s).2 ∧ (rowS ρ s).1.Nodup ∧ ∀ x ∈ (rowS ρ s).1, x ∈ keys (rowS ρ s).2.ends := by
  unfold rowS
  by_cases ha : s ∈ ρ.asked
  · rw [if_pos ha]
    obtain ⟨v, hv⟩ := kpGet_some (kp := ρ.rows) (k := s) (by rw [← h.r1] at ha; exact ha)
    rw [hv]
    exact ⟨h, h.r2 _ (kpGet_mem hv)⟩
  · rw [if_neg ha]
    have hm := h.meet hs
    have hk : s ∉ ρ.rows.map (·.1) := fun z => ha (by rw [← h.r1]; exact z)
    refine ⟨⟨hm.e1, hm.e2, hm.e3, ?_, ?_, fun x hx => ?_, fun y hy => ?_⟩, nd1 s, fun x hx => ?_⟩
    · show (kpPut ρ.rows s [s]).map (·.1) = ρ.asked ++ [s]
      rw [kpPut_new hk, List.map_append, show ρ.rows.map (·.1) = ρ.asked from h.r1]
      rfl
    · exact List.nodup_append.mpr ⟨h.a1, nd1 _, fun a ha' b hb => by rw [List.mem_singleton.mp hb]; exact fun z => ha (z ▸ ha')⟩
    · rcases List.mem_append.mp hx with hx | hx
      · exact mem_meetE.mpr (.inl (h.a2 x hx))
      · exact mem_meetE.mpr (.inr (List.mem_singleton.mp hx))
    · have hy' : y ∈ kpPut ρ.rows s [s] := hy
      rw [kpPut_new hk] at hy'
      rcases List.mem_append.mp hy' with hy' | hy'
      · exact hm.r2 y hy'
      · rw [List.mem_singleton.mp hy']
        exact ⟨nd1 s, fun x hx => mem_meetE.mpr (.inr (List.mem_singleton.mp hx))⟩
    · exact mem_meetE.mpr (.inr (List.mem_singleton.mp hx))
def srG (c : Cf) (T0 : Int) : Gives c Sr where
  row := rowS
  tot := fun t => t = T0
  good := SrGood c T0
  keeps := fun ρ s h hs => ⟨(rowS_good h hs).1, fun x hx => (rowS_good h hs).1.e2 x ((rowS_good h hs).2.2 x hx)⟩
def sF (wa : Addr) (sv : V) (ed rd ad : Addr) : List (Str × V) := [("ways", .ref wa), ("start", sv), ("ends", .ref ed), ("rows", .ref rd), ("asked", .ref ad)]
def adV : Hp → Addr → V → Prop := fun _ la v => v = .ref la
theorem adV_grows : Grows adV := fun _ _ _ _ _ h => h
/-- the lists of ends: cells of M -/
def ElsAt (nv na : Bool) (M X : List Addr) (H : Hp) (eas : List (S × Addr)) (t : Tab) : Prop := Paired (fun (a : S × Addr) (b : S × List S) => a.1 = b.1 ∧ a.2 ∈ M ∧ a.2 ∉ X ∧ ∃ evs, H a.2 = some (.lst evs) ∧ NKs (cut M H) (b.2.map (eS nv na)) evs) eas t
structure SrIn (K : PySem.W.Frag) (w : World) (nv na : Bool) (ed rd ad wa : Addr) (sv : V) (M X D : List Addr) (r : Addr) (ρ : Sr) (H : Hp) : Prop where
  eD : D = [ed, rd, ad]
  ins : ∃ dx, H r = some (.ins (aSearch K) dx (sF wa sv ed rd ad))
  cM : ∀ a ∈ [r, ed, rd, ad], a ∈ M ∧ a ∉ X
  d1 : ed ≠ rd
  d2 : ed ≠ ad
  d3 : rd ≠ ad
  en : ∃ eas, NDAt w M H ed (eS nv na) adV eas ∧ ElsAt nv na M X H eas ρ.ends ∧ (eas.map (·.2)).Nodup
  rw : NDAt w M H rd (eS nv na) (LsAt nv na) ρ.rows
  ak : NDAt w M H ad (eS nv na) bT (fu ρ.asked)
theorem SrIn.frame {K : PySem.W.Frag} {w : World} {nv na : Bool} {ed rd ad wa : Addr} {sv : V} {M X D M' X' : List Addr} {r : Addr} {ρ : Sr} {H H' : Hp} (h : SrIn K w nv na ed rd ad wa sv M X D r ρ H) (s : Same (cut M H) (cut M' H'))
    (k : ∀ a ∈ M, a ∉ X → a ∈ M' ∧ a ∉ X' ∧ ∀ o, H a = some o → H' a = some o) : SrIn K w nv na ed rd ad wa sv M' X' D r ρ H' := by
  have kk : ∀ a ∈ [r, ed, rd, ad], a ∈ M' ∧ a ∉ X' ∧ ∀ o, H a = some o → H' a = some o := fun a ha => k a (h.cM a ha).1 (h.cM a ha).2
  obtain ⟨dx, hi⟩ := h.ins
  obtain ⟨eas, g1, g2, g3⟩ := h.en
  refine ⟨h.eD, ⟨dx, (kk r (by simp)).2.2 _ hi⟩, fun a ha => ⟨(kk a ha).1, (kk a ha).2.1⟩, h.d1, h.d2, h.d3, ⟨eas, g1.keep adV_grows s (kk ed (by simp)).2.2, Paired.mapP g2 fun a b ⟨e1, e2, e3, evs, e4, e5⟩ => ?_, g3⟩, h.rw.keep LsAt.grows s (kk rd (by simp)).2.2, h.ak.keep bT_grows s (kk ad (by simp)).2.2⟩
  exact ⟨e1, (k _ e2 e3).1, (k _ e2 e3).2.1, evs, (k _ e2 e3).2.2 _ e4, NKs.tx (TX.same s) _ _ e5⟩
def srP (K : PySem.W.Frag) (w : World) (c : Cf) (cl : Cls K (aSearch K)) (T0 : Int) (ed rd ad wa : Addr) (sv : V) : Prov K w c Sr where
  toGives := srG c T0
  C := aSearch K
  cl := cl
  inv := SrIn K w c.nv c.na ed rd ad wa sv
  ins := fun h => let ⟨dx, hi⟩ := h.ins; ⟨dx, _, hi, rfl⟩
  frame := fun h s k => h.frame s k
theorem SrGood.inj {c : Cf} {T0 : Int} {t : Tab} (h : ∀ s ∈ keys t, vS c.nv c.na (fun t => t = T0) s) {s : S} (hs : s.Ok c.nv c.na) : ∀ y ∈ t, eS c.nv c.na y.1 = eS c.nv c.na s → y.1 = s := fun y hy e => eS_inj (h _ (List.mem_map.mpr ⟨y, hy, rfl⟩)).1 hs e
theorem ElsAt.keys {nv na : Bool} {M X : List Addr} {H : Hp} {eas : List (S × Addr)} {t : Tab} (h : ElsAt nv na M X H eas t) : eas.map (·.1) = NC.keys t := by
  induction h with
  | nil => rfl
  | @cons a b l m h1 _ ih =>
    show a.1 :: l.map (·.1) = b.1 :: NC.keys m
    rw [ih, h1.1]
section
variable {P : Program} {w : World} {K : PySem.W.Frag} {mg : Str → Option Value} {base : Heap}
def spMeet (w : World) (K : PySem.W.Frag) : Sp := fun vs H Q _ => ∃ (c : Cf) (T0 : Int) (r ed rd ad wa : Addr) (sv0 sv : V) (s : S) (ρ : Sr) (M X D : List Addr), vs = [.ref r, sv] ∧ SrIn K w c.nv c.na ed rd ad wa sv0 M X D r ρ H ∧ Thr M H ∧ (∀ a ∈ X, a ∈ M) ∧ NK (cut M H) (eS c.nv c.na s) sv ∧
  vS c.nv c.na (fun t => t = T0) s ∧ (keys ρ.ends).Nodup ∧ (∀ x ∈ keys ρ.ends, vS c.nv c.na (fun t => t = T0) x) ∧
  ∀ H' M', Chg D H H' → Ext M H M' H' → SrIn K w c.nv c.na ed rd ad wa sv0 M' X D r { ρ with ends := meetE ρ.ends s } H' → Q .non H'
theorem sc_Search_meet : FnScope ["self", "state"] ["self", "state"] (defScope s_Search_meet) := ⟨rfl, rfl, rfl, by decide +kernel, rfl, by decide +kernel, by decide +kernel⟩
theorem ok_meet {f : Addr} {fd : FuncData} (F : FnP K "meet" "Search.meet" s_Search_meet f fd) (T : Txt K mg) : FnOk P w K mg base CX0 1 f fd ["self", "state"] (spMeet w K) := by
  refine F.ok sc_Search_meet (fun vs H Q E h => ?_) (fun cdv A outer s H vs Q E hr h => ?_)
  · obtain ⟨c, T0, r, ed, rd, ad, wa, sv0, sv, s, ρ, M, X, D, rfl, _⟩ := h
    rfl
  · obtain ⟨c, T0, r, ed, rd, ad, wa, sv0, sv, s, ρ, M, X, D, rfl, hi, ht, hX, hs, vs, hn, hv, k⟩ := h
    have hu9 := hu9 hr
    refine ⟨_, PSs.nox ((pss_one (ps_if (pt_cmpR (op_nnotin hu9) (pv 1) (pe_fld (pv 0) rfl) (by rfl)) (pss_cons (ps_nput hu9 (pe_fld (pv 0) rfl) (pv 1) (pe_lst pa_nil) rfl)
      (pss_one (ps_if (pt_cmpR op_gt (pe_callB call_nlen (by rfl) T.len bt_len (pa_cons (pe_fld (pv 0) rfl) pa_nil)) (pe_gi T.gMOST_STATES) (nomark _)) (pss_one ps_never) pss_nil))) pss_nil))), ?_⟩
    dsimp only [cxOf, Cx.nox]
    obtain ⟨b, rfl⟩ : ∃ b, sv = V.ref b := by
      cases hs with
      | tup _ _ => exact ⟨_, rfl⟩
    have le := cut_le M H
    obtain ⟨dx, hr1⟩ := hi.ins
    obtain ⟨eas, g1, g2, g3⟩ := hi.en
    have ek := g2.keys
    have inj : ∀ y ∈ eas, eS c.nv c.na y.1 = eS c.nv c.na s → y.1 = s := fun y hy e => eS_inj (hv _ (by rw [← ek]; exact List.mem_map.mpr ⟨y, hy, rfl⟩)).1 vs.1 e
    have edM := (hi.cM ed (by simp)).1
    have edX := (hi.cM ed (by simp)).2
    rcases g1.nget inj (NK.tx (TX.same le) _ _ hs) (depth_eS _ _ _) with ⟨m1, m2⟩ | ⟨z, v, m1, m2, _⟩
    · have hnk : s ∉ keys ρ.ends := by rw [← ek]; exact kpGet_none.mp m1
      have em : meetE ρ.ends s = ρ.ends ++ [(s, [])] := by
        unfold meetE
        rw [kpGet_none.mpr hnk]
      refine ⟨_, rfl, _, rfl, r, _, dx, _, _, rfl, hr1, T.clSearch, T.nSearch_ends, rfl, ed, _, rfl, m2, _, rfl, ifT rfl ?_⟩
      refine ⟨(by show 0 ≤ sizeLine; decide), fun la nla => ?_⟩
      have sl := new_same (o := HO.lst []) nla
      have lM := ht.new nla
      have lu := upd_same (H := H) (a := la) (o := HO.lst [])
      have c1 : Same (cut M H) (cut (la :: M) (upd H la (.lst []))) := cut_new nla
      have th1 : Thr (la :: M) (upd H la (.lst [])) := fun a ha => by
        rcases List.mem_cons.mp ha with rfl | ha
        · exact ⟨_, upd_same, True.intro⟩
        · exact ht.chg (D := []) (Chg.same sl) a ha
      generalize upd H la (.lst []) = H1 at sl lu c1 th1 ⊢
      have lX : la ∉ X := fun z => lM (hX la z)
      have hi1 : SrIn K w c.nv c.na ed rd ad wa sv0 (la :: M) X D r ρ H1 := hi.frame c1 fun a ha hx => ⟨List.mem_cons_of_mem _ ha, hx, sl a⟩
      have g1' : NDAt w (la :: M) H1 ed (eS c.nv c.na) adV eas := g1.keep adV_grows c1 (sl _)
      have eln : eas.length ≤ 50 := by
        have := nodup_len (F := allS) hn fun a ha => mem_allS (hv a ha).1
        rw [← ek, List.length_map] at this
        exact this
      obtain ⟨xs', np', nd'⟩ := g1'.nput (k := s) (z := la) (v := .ref la) inj (NK.tx (TX.same c1) _ _ hs) (depth_eS _ _ _) (List.mem_cons_of_mem _ edM) (by omega) rfl
      refine ⟨_, rfl, r, _, dx, _, _, rfl, sl _ _ hr1, T.clSearch, T.nSearch_ends, rfl, _, rfl, ed, _, rfl, np', ?_⟩
      have hnm : s ∉ eas.map (·.1) := by rw [ek]; exact hnk
      rw [kpPut_new hnm] at nd'
      have edr : r ≠ ed := fun z => by
        obtain ⟨xs, h9, _⟩ := g1
        rw [← z, hr1] at h9
        cases h9
      have eM1 : ed ∈ la :: M := List.mem_cons_of_mem _ edM
      have e1 : cut (la :: M) (upd H1 ed (ndO w ed xs')) = cut (la :: M) H1 := cut_upd eM1
      have lae : la ≠ ed := fun z => lM (z ▸ edM)
      have ch : Chg D H (upd H1 ed (ndO w ed xs')) := (Chg.same sl).put (by rw [hi.eD]; simp) True.intro
      have ex : Ext M H (la :: M) (upd H1 ed (ndO w ed xs')) := ⟨fun a ha => List.mem_cons_of_mem _ ha, by rw [e1]; exact c1, th1.chg ((Chg.refl [ed] H1).put (List.mem_singleton_self ed) True.intro), fun a ha => (List.mem_cons.mp ha).elim (fun z => .inr (by rw [z]; exact nla)) .inl⟩
      have fin : SrIn K w c.nv c.na ed rd ad wa sv0 (la :: M) X D r { ρ with ends := meetE ρ.ends s } (upd H1 ed (ndO w ed xs')) := by
        have nee : ∀ {a : Addr} {o : HO}, H1 a = some o → a ≠ ed → upd H1 ed (ndO w ed xs') a = some o := fun h n => by rw [upd_ne n]; exact h
        refine ⟨hi.eD, ⟨dx, nee (sl _ _ hr1) edr⟩, hi1.cM, hi.d1, hi.d2, hi.d3, ⟨_, nd', ?_, ?_⟩, hi1.rw.keep LsAt.grows (by rw [e1]; exact Same.refl _) fun o h => nee h (Ne.symm hi.d1), hi1.ak.keep bT_grows (by rw [e1]; exact Same.refl _) fun o h => nee h (Ne.symm hi.d2)⟩
        · rw [em]
          refine Paired.snoc (Paired.mapP g2 fun a b ⟨k1, k2, k3, evs, k4, k5⟩ => ⟨k1, List.mem_cons_of_mem _ k2, k3, evs, nee (sl _ _ k4) fun z => ?_, by rw [e1]; exact NKs.tx (TX.same c1) _ _ k5⟩) ⟨rfl, List.mem_cons_self, lX, [], nee lu lae, .nil⟩
          obtain ⟨xs, h9, _⟩ := g1
          rw [z, h9] at k4
          cases k4
        · rw [List.map_append]
          refine List.nodup_append.mpr ⟨g3, nd1 _, fun a ha b hb => ?_⟩
          rw [List.mem_singleton.mp hb]
          rintro rfl
          obtain ⟨y, hy, e9⟩ := List.mem_map.mp ha
          obtain ⟨j, hj, ej⟩ := List.getElem_of_mem hy
          obtain ⟨t, _, _, k2, _⟩ := Paired.at2 g2 (show eas[j]? = some y by rw [List.getElem?_eq_getElem hj, ej])
          rw [e9] at k2
          exact lM k2
      have hr3 : upd H1 ed (ndO w ed xs') r = some (.ins (aSearch K) dx (sF wa sv0 ed rd ad)) := by rw [upd_ne edr]; exact sl _ _ hr1
      obtain ⟨xs2, y1, y2, y3⟩ := nd'
      have yl : xs2.length = eas.length + 1 := by rw [y3.length, List.length_append]; rfl
      refine ⟨_, rfl, r, _, dx, _, _, rfl, hr3, T.clSearch, T.nSearch_ends, rfl, ed, xs2, rfl, .inl y1, y2.tx (TX.same (cut_le _ _)), _, _, rfl, rfl, _, rfl, ifF (decide_eq_false (by omega)) ?_⟩
      exact k _ _ ch ex fin
    · have em : meetE ρ.ends s = ρ.ends := by
        unfold meetE
        obtain ⟨v', hv'⟩ := kpGet_some (kp := ρ.ends) (k := s) (by rw [show ρ.ends.map (·.1) = eas.map (·.1) from ek.symm]; exact List.mem_map.mpr ⟨_, kpGet_mem m1, rfl⟩)
        rw [hv']
      rw [em] at k
      refine ⟨_, rfl, _, rfl, r, _, dx, _, _, rfl, hr1, T.clSearch, T.nSearch_ends, rfl, ed, _, rfl, m2, _, rfl, ifF rfl ?_⟩
      exact k _ M (Chg.refl _ _) (Ext.refl ht) hi
theorem met_meet {f : Addr} {fd : FuncData} (F : FnP K "meet" "Search.meet" s_Search_meet f fd) (T : Txt K mg) (me : Meth K (aSearch K) "meet" f) : C8.Met P w K mg base 1 (aSearch K) "meet" (spMeet w K) [] :=
  ⟨f, fd, _, [], T.clSearch, me, ok_meet F T, F.bindsN fun _ _ _ _ _ _ us hl => match us, hl with | [_, _], _ => rfl, .nil⟩
end
end NC
set_option Elab.async false
set_option linter.all false
set_option maxRecDepth 100000
set_option maxHeartbeats 4000000
/-! Search.row_of. -/
namespace NC
open PySem PySem.Spec PyProof.Rows L2
section
variable {K : PySem.W.Frag} {w : World} {nv na : Bool} {ed rd ad wa : Addr} {sv : V} {M X D : List Addr} {r : Addr} {ρ : Sr} {H : Hp}
theorem SrIn.putD (h : SrIn K w nv na ed rd ad wa sv M X D r ρ H) {d : Addr} {xs xs' : NEnts} (hd : H d = some (ndO w d xs)) (dM : d ∈ M) : (∀ {a : Addr} {o : HO}, H a = some o → a ≠ d → upd H d (ndO w d xs') a = some o) ∧ cut M (upd H d (ndO w d xs')) = cut M H ∧ r ≠ d ∧
    ∀ {eas : List (S × Addr)} {t : Tab}, ElsAt nv na M X H eas t → ElsAt nv na M X (upd H d (ndO w d xs')) eas t := by
  have k : ∀ {a : Addr} {o : HO}, H a = some o → a ≠ d → upd H d (ndO w d xs') a = some o := fun h n => by rw [upd_ne n]; exact h
  have e : cut M (upd H d (ndO w d xs')) = cut M H := cut_upd dM
  refine ⟨k, e, fun z => ?_, fun g => Paired.mapP g fun a b ⟨k1, k2, k3, evs, k4, k5⟩ => ⟨k1, k2, k3, evs, k k4 fun z => ?_, by rw [e]; exact k5⟩⟩
  · obtain ⟨dx, h9⟩ := h.ins
    rw [z, hd] at h9
    cases h9
  · rw [z, hd] at k4
    cases k4
theorem SrIn.putA (h : SrIn K w nv na ed rd ad wa sv M X D r ρ H) {xs' : NEnts} {A : List S} (nd : NDAt w M (upd H ad (ndO w ad xs')) ad (eS nv na) bT (fu A)) : SrIn K w nv na ed rd ad wa sv M X D r { ρ with asked := A } (upd H ad (ndO w ad xs')) := by
  obtain ⟨xs, h1, _⟩ := id h.ak
  obtain ⟨k, e, n, g⟩ := h.putD (xs' := xs') h1 (h.cM ad (by simp)).1
  obtain ⟨dx, hi⟩ := h.ins
  obtain ⟨eas, g1, g2, g3⟩ := h.en
  exact ⟨h.eD, ⟨dx, k hi n⟩, h.cM, h.d1, h.d2, h.d3, ⟨eas, g1.keep adV_grows (by rw [e]; exact Same.refl _) fun o z => k z h.d2, g g2, g3⟩, h.rw.keep LsAt.grows (by rw [e]; exact Same.refl _) fun o z => k z h.d3, nd⟩
theorem SrIn.putR (h : SrIn K w nv na ed rd ad wa sv M X D r ρ H) {xs' : NEnts} {A : Tab} (nd : NDAt w M (upd H rd (ndO w rd xs')) rd (eS nv na) (LsAt nv na) A) : SrIn K w nv na ed rd ad wa sv M X D r { ρ with rows := A } (upd H rd (ndO w rd xs')) := by
  obtain ⟨xs, h1, _⟩ := id h.rw
  obtain ⟨k, e, n, g⟩ := h.putD (xs' := xs') h1 (h.cM rd (by simp)).1
  obtain ⟨dx, hi⟩ := h.ins
  obtain ⟨eas, g1, g2, g3⟩ := h.en
  exact ⟨h.eD, ⟨dx, k hi n⟩, h.cM, h.d1, h.d2, h.d3, ⟨eas, g1.keep adV_grows (by rw [e]; exact Same.refl _) fun o z => k z h.d1, g g2, g3⟩, nd, h.ak.keep bT_grows (by rw [e]; exact Same.refl _) fun o z => k z (Ne.symm h.d3)⟩
end
section
variable {P : Program} {w : World} {K : PySem.W.Frag} {mg : Str → Option Value} {base : Heap}
theorem sc_Search_row_of : FnScope ["self", "state"] ["self", "state"] (defScope s_Search_row_of) := ⟨rfl, rfl, rfl, by decide +kernel, rfl, by decide +kernel, by decide +kernel⟩
theorem ok_search_row {f : Addr} {fd : FuncData} (F : FnP K "row_of" "Search.row_of" s_Search_row_of f fd) (T : Txt K mg) (m_Search_meet : C8.Met P w K mg base 1 (aSearch K) "meet" (spMeet w K) []) (c : Cf) (T0 : Int) (ed rd ad wa : Addr) (sv0 : V) :
    FnOk P w K mg base CX0 7 f fd ["self", "state"] (spRow (srP K w c T.clSearch T0 ed rd ad wa sv0)) := by
  refine F.ok sc_Search_row_of (fun vs H Q E h => ?_) (fun cdv A outer s H vs Q E hr h => ?_)
  · obtain ⟨r, sv, s, ρ, M, X, D, rfl, _⟩ := h
    rfl
  · obtain ⟨r, sv, s, ρ, M, X, D, rfl, hi', hD, hX, ht, hg', hs, vs, k⟩ := h
    have hi : SrIn K w c.nv c.na ed rd ad wa sv0 M X D r ρ H := hi'
    have hg : SrGood c T0 ρ := hg'
    have vs : vS c.nv c.na (fun t => t = T0) s := vs
    have hu9 := hu9 hr
    refine ⟨_, PSs.nox ((pss_cons (ps_if (pt_cmpR (op_nnotin hu9) (pv 1) (pe_fld (pv 0) rfl) (by rfl)) (pss_cons (ps_nput hu9 (pe_fld (pv 0) rfl) (pv 1) pe_bl rfl)
      (pss_cons (ps_expr (C8.pe_mt m_Search_meet hr (by decide) (pv 0) (pa_cons (pv 1) pa_nil)))
      (pss_one (ps_nput hu9 (pe_fld (pv 0) rfl) (pv 1) (pe_lst (pa_cons (pv 1) pa_nil)) rfl)))) pss_nil)
      (pss_one (ps_ret (pe_nget hu9 (pe_fld (pv 0) rfl) (pv 1) (fun _ _ => rfl)))))), ?_⟩
    dsimp only [cxOf, Cx.nox]
    obtain ⟨b, rfl⟩ : ∃ b, sv = V.ref b := by
      cases hs with
      | tup _ _ => exact ⟨_, rfl⟩
    have le := cut_le M H
    obtain ⟨dx, hr1⟩ := hi.ins
    have askOk : ∀ x ∈ ρ.asked, x.Ok c.nv c.na := fun x hx => (hg.e2 x (hg.a2 x hx)).1
    have inj := fu_inj askOk vs.1
    have adM := (hi.cM ad (by simp)).1
    have rdM := (hi.cM rd (by simp)).1
    have al : ρ.asked.length ≤ 50 := nodup_len (F := allS) hg.a1 fun a ha => mem_allS (askOk a ha)
    have rkey : ∀ x ∈ keys ρ.rows, vS c.nv c.na (fun t => t = T0) x := fun x hx => hg.e2 x (hg.a2 x (by rw [← hg.r1]; exact hx))
    have er : (srP K w c T.clSearch T0 ed rd ad wa sv0).row ρ s = rowS ρ s := rfl
    rw [er] at k
    rcases hi.ak.nget inj (NK.tx (TX.same le) _ _ hs) (depth_eS _ _ _) with ⟨m1, m2⟩ | ⟨z, v, m1, m2, _⟩
    · have hna : s ∉ ρ.asked := fun z => kpGet_none.mp m1 (List.mem_map.mpr ⟨(s, ()), List.mem_map.mpr ⟨s, z, rfl⟩, rfl⟩)
      have hnk : s ∉ ρ.rows.map (·.1) := fun z => hna (by rw [← hg.r1]; exact z)
      have eR : rowS ρ s = ([s], ⟨meetE ρ.ends s, kpPut ρ.rows s [s], ρ.asked ++ [s]⟩) := by
        unfold rowS
        rw [if_neg hna]
      rw [eR] at k
      refine ⟨_, rfl, _, rfl, r, _, dx, _, _, rfl, hr1, T.clSearch, T.nSearch_asked, rfl, ad, _, rfl, m2, _, rfl, ifT rfl ?_⟩
      obtain ⟨xs', np', nd'⟩ := hi.ak.nput (k := s) (z := ()) (v := .bl true) inj hs (depth_eS _ _ _) adM (by unfold fu; rw [List.length_map]; omega) rfl
      refine ⟨_, rfl, r, _, dx, _, _, rfl, hr1, T.clSearch, T.nSearch_asked, rfl, _, rfl, ad, _, rfl, np', ?_⟩
      rw [fu_put, show addS ρ.asked s = ρ.asked ++ [s] from if_neg hna] at nd'
      have hi1 := hi.putA nd'
      have ch1 : Chg D H (upd H ad (ndO w ad xs')) := (Chg.refl _ _).put (by rw [hi.eD]; simp) True.intro
      have ex1 : Ext M H M (upd H ad (ndO w ad xs')) := Ext.chg ht ch1 hD
      generalize upd H ad (ndO w ad xs') = H1 at hi1 ch1 ex1 ⊢
      obtain ⟨dx1, hr2⟩ := hi1.ins
      refine ⟨_, rfl, r, dx1, _, rfl, hr2, rfl, _, rfl, c, T0, r, ed, rd, ad, wa, sv0, _, s, _, M, X, D, rfl, hi1, ex1.th, hX, NK.tx (TX.same ex1.sm) _ _ hs, vs, hg.e1, hg.e2, fun H2 M2 ch2 ex2 hi2 => ?_⟩
      have ex12 := ex1.trans ex2
      obtain ⟨dx2, hr3⟩ := hi2.ins
      refine ⟨_, rfl, (by show 1 ≤ sizeLine; decide), fun l nl => ?_⟩
      have sl := new_same (o := HO.lst [V.ref b]) nl
      have lM := ex12.th.new nl
      have lu := upd_same (H := H2) (a := l) (o := HO.lst [V.ref b])
      generalize upd H2 l (HO.lst [V.ref b]) = H3 at sl lu ⊢
      have ex3 := ex12.trans (Ext.same ex12.th sl)
      have hs3 := NK.tx (TX.same ex3.sm) _ _ hs
      have lsv : LsAt c.nv c.na (cut M2 H3) [s] (.ref l) := ⟨l, _, rfl, cut_of lu lM, .cons hs3 .nil⟩
      have hi3 : SrIn K w c.nv c.na ed rd ad wa sv0 M2 X D r _ H3 := hi2.frame (Same.cut sl) fun a ha hx => ⟨ha, hx, sl a⟩
      have rl : ρ.rows.length ≤ 50 := by
        have : (keys ρ.rows).length ≤ 50 := nodup_len (F := allS) (by rw [hg.r1]; exact hg.a1) fun a ha => mem_allS (rkey a ha).1
        rwa [keys, List.length_map] at this
      obtain ⟨xs2, np2, nd2⟩ := hi3.rw.nput (k := s) (z := [s]) (SrGood.inj rkey vs.1) hs3 (depth_eS _ _ _) (ex12.up rd rdM) (by show ρ.rows.length < _; omega) lsv
      refine ⟨_, rfl, r, _, dx2, _, _, rfl, sl _ _ hr3, T.clSearch, T.nSearch_rows, rfl, _, rfl, rd, _, rfl, np2, ?_⟩
      have hi4 := hi3.putR nd2
      have rdM2 := ex12.up rd rdM
      have ch3 : Chg D H (upd H3 rd (ndO w rd xs2)) := (((ch1.trans ch2).trans (Chg.same sl)).put (by rw [hi.eD]; simp) True.intro)
      have chr : Chg [rd] H3 (upd H3 rd (ndO w rd xs2)) := (Chg.refl _ _).put (List.mem_singleton_self rd) True.intro
      have ex4 := ex3.trans (Ext.chg ex3.th chr fun a ha => by rw [List.mem_singleton.mp ha]; exact rdM2)
      generalize upd H3 rd (ndO w rd xs2) = H4 at hi4 ch3 ex4 nd2 ⊢
      obtain ⟨dx4, hr4⟩ := hi4.ins
      have hs4 := NK.tx (TX.same ex4.sm) _ _ hs
      have rkey' : ∀ x ∈ keys (kpPut ρ.rows s [s]), vS c.nv c.na (fun t => t = T0) x := fun x hx => by
        rw [kpPut_new hnk] at hx
        unfold keys at hx
        rw [List.map_append] at hx
        rcases List.mem_append.mp hx with hx | hx
        · exact rkey x hx
        · rw [List.mem_singleton.mp hx]; exact vs
      rcases nd2.nget (SrGood.inj rkey' vs.1) (NK.tx (TX.same (cut_le _ _)) _ _ hs4) (depth_eS _ _ _) with ⟨y1, _⟩ | ⟨z, v, y1, y2, l4, evs4, rfl, y3, y4⟩
      · rw [kpGet_put, if_pos rfl] at y1; cases y1
      · rw [kpGet_put, if_pos rfl] at y1
        cases y1
        exact ⟨_, rfl, r, _, dx4, _, _, rfl, hr4, T.clSearch, T.nSearch_rows, rfl, _, rfl, rd, _, rfl, y2, k l4 H4 evs4 M2 ch3 ex4 y3 y4 hi4⟩
    · have ha : s ∈ ρ.asked := by
        obtain ⟨x, hx, e⟩ := List.mem_map.mp (kpGet_mem m1)
        cases e
        exact hx
      have eR : rowS ρ s = ((kpGet ρ.rows s).getD [], ρ) := by
        unfold rowS
        rw [if_pos ha]
      rw [eR] at k
      refine ⟨_, rfl, _, rfl, r, _, dx, _, _, rfl, hr1, T.clSearch, T.nSearch_asked, rfl, ad, _, rfl, m2, _, rfl, ifF rfl ?_⟩
      rcases hi.rw.nget (SrGood.inj rkey vs.1) (NK.tx (TX.same le) _ _ hs) (depth_eS _ _ _) with ⟨y1, _⟩ | ⟨z, v, y1, y2, l4, evs4, rfl, y3, y4⟩
      · have := kpGet_none.mp y1
        exact absurd (by rw [show ρ.rows.map (·.1) = ρ.asked from hg.r1]; exact ha) this
      · rw [y1] at k
        exact ⟨_, rfl, r, _, dx, _, _, rfl, hr1, T.clSearch, T.nSearch_rows, rfl, _, rfl, rd, _, rfl, y2, k l4 H evs4 M (Chg.refl _ _) (Ext.refl ht) y3 y4 hi⟩
theorem met_search_row {f : Addr} {fd : FuncData} (F : FnP K "row_of" "Search.row_of" s_Search_row_of f fd) (T : Txt K mg) (me : Meth K (aSearch K) "row_of" f) (m_Search_meet : C8.Met P w K mg base 1 (aSearch K) "meet" (spMeet w K) []) (c : Cf) (T0 : Int) (ed rd ad wa : Addr) (sv0 : V) :
    C8.Met P w K mg base 7 (aSearch K) "row_of" (spRow (srP K w c T.clSearch T0 ed rd ad wa sv0)) [] :=
  ⟨f, fd, _, [], T.clSearch, me, ok_search_row F T m_Search_meet c T0 ed rd ad wa sv0, F.bindsN fun _ _ _ _ _ _ us hl => match us, hl with | [_, _], _ => rfl, .nil⟩
end
end NC
set_option Elab.async false
set_option linter.all false
set_option maxRecDepth 100000
set_option maxHeartbeats 4000000
/-! The plain law of after with Search as the giver of rows. -/
namespace NC
open PySem PySem.Spec PyProof.Rows L2
/-- nothing is held that a closed table t would not hold -/
structure Sound (t : Tab) (ρ : Sr) : Prop where
  s1 : ∀ s ∈ ρ.asked, ∃ row, kpGet t s = some row
  s2 : ∀ b row, kpGet ρ.rows b = some row → ∃ row', kpGet t b = some row' ∧ ∀ x ∈ row, x ∈ row'
  s3 : ∀ s es, kpGet ρ.ends s = some es → ∀ b row, kpGet t b = some row → s ∈ row → ∀ e ∈ es, e ∈ row
  s4 : ∀ s ∈ keys ρ.ends, ∃ b row, kpGet t b = some row ∧ s ∈ row
theorem meetE_get {t : Tab} {s x : S} : kpGet (meetE t s) x = if x = s ∧ s ∉ keys t then some [] else kpGet t x := by
  unfold meetE
  cases e : kpGet t s with
  | some v =>
    have : s ∈ keys t := List.mem_map.mpr ⟨_, kpGet_mem e, rfl⟩
    rw [if_neg (fun z => z.2 this)]
  | none =>
    have hn : s ∉ keys t := kpGet_none.mp e
    have := kpGet_put t s x []
    rw [kpPut_new hn] at this
    show kpGet (t ++ [(s, [])]) x = _
    rw [this]
    by_cases h : x = s
    · rw [if_pos h, if_pos ⟨h, hn⟩]
    · rw [if_neg h, if_neg (fun z => h z.1)]
theorem rowS_sound {c : Cf} {T0 : Int} {t : Tab} (hc : Closed c t) {ρ : Sr} (hg : SrGood c T0 ρ) (h : Sound t ρ) {s : S} {row : List S} (hr : kpGet t s = some row) : Sound t (rowS ρ s).2 ∧ ∀ x ∈ (rowS ρ s).1, x ∈ row := by
  unfold rowS
  have hs := (hc.2 s row hr).1
  by_cases ha : s ∈ ρ.asked
  · rw [if_pos ha]
    obtain ⟨v, hv⟩ := kpGet_some (kp := ρ.rows) (k := s) (by rw [← hg.r1] at ha; exact ha)
    refine ⟨h, ?_⟩
    rw [hv]
    obtain ⟨row', e1, e2⟩ := h.s2 s v hv
    rw [hr] at e1
    cases e1
    exact e2
  · rw [if_neg ha]
    refine ⟨⟨fun x hx => ?_, fun b r hb => ?_, fun x es hx b r hb hxr e he => ?_, fun x hx => ?_⟩, fun x hx => by rw [List.mem_singleton.mp hx]; exact hs⟩
    · rcases List.mem_append.mp hx with hx | hx
      · exact h.s1 x hx
      · rw [List.mem_singleton.mp hx]; exact ⟨row, hr⟩
    · have hb' : kpGet (kpPut ρ.rows s [s]) b = some r := hb
      rw [kpGet_put] at hb'
      split at hb'
      · rename_i e
        cases hb'
        exact ⟨row, by rw [e]; exact hr, fun x hx => by rw [List.mem_singleton.mp hx]; exact hs⟩
      · exact h.s2 b r hb'
    · have hx' : kpGet (meetE ρ.ends s) x = some es := hx
      rw [meetE_get] at hx'
      split at hx'
      · cases hx'; cases he
      · exact h.s3 x es hx' b r hb hxr e he
    · rcases mem_meetE.mp hx with hx | rfl
      · exact h.s4 x hx
      · exact ⟨_, row, hr, hs⟩
/-- what is kept is sound -/
def KS (L : List Sm) (T : S → Option (List S)) (kp : Kp) : Prop := ∀ y ∈ kp, Cov L T (.asks y.1.1 y.1.2 (kOf L y.1.2)) ∧ ∀ e ∈ y.2.1, Ends L T (.asks y.1.1 y.1.2 (kOf L y.1.2)) e
theorem aft_sound {c : Cf} {T0 : Int} (lo : LnOk c.nv c.na c.L) {t : Tab} (hc : Closed c t) : ∀ (d : Nat) (st : Sr × Kp) (p : Ps), SrGood c T0 st.1 → KpOk c (fun x => x = T0) st.2 → PsOk c (fun x => x = T0) p → Sound t st.1 → KS c.L (kpGet t) st.2 → Cov c.L (kpGet t) p →
    Sound t (aft rowS c.L d st p).2.1 ∧ KS c.L (kpGet t) (aft rowS c.L d st p).2.2 ∧ ∀ e ∈ (aft rowS c.L d st p).1.1, Ends c.L (kpGet t) p e
  | 0, st, .fail, _, _, _, h, k, _ => ⟨h, k, fun e he => nomatch he⟩
  | _ + 1, st, .fail, _, _, _, h, k, _ => ⟨h, k, fun e he => nomatch he⟩
  | 0, st, .done s, _, _, _, h, k, _ => ⟨h, k, fun e he => by rw [List.mem_singleton.mp he]; exact .done s⟩
  | _ + 1, st, .done s, _, _, _, h, k, _ => ⟨h, k, fun e he => by rw [List.mem_singleton.mp he]; exact .done s⟩
  | 0, st, .asks _ _ _, _, _, _, h, k, _ => ⟨h, k, fun e he => nomatch he⟩
  | d + 1, st, .asks s pd k, hg, hk, hp, h, ks, cov => by
    have ek := kOf_eq hp
    rw [aft]
    cases e : kpGet st.2 (s, pd) with
    | some v =>
      have := (ks _ (kpGet_mem e)).2
      rw [ek] at this
      exact ⟨h, ks, this⟩
    | none =>
      obtain ⟨row, hr⟩ : ∃ row, kpGet t s = some row := by
        cases cov with
        | ask h1 _ => exact ⟨_, h1⟩
      have covs := (cov_asks hr).mp cov
      obtain ⟨hg2, _, hrow2⟩ := rowS_good hg hp.1
      obtain ⟨hs2, hin⟩ := rowS_sound hc hg h hr
      have hrow : ∀ x ∈ (rowS st.1 s).1, vS c.nv c.na (fun x => x = T0) x := fun x hx => hg2.e2 x (hrow2 x hx)
      have key := foldl_pre (P := fun pre (z : (List S × Nat) × (Sr × Kp)) => AftOk c (srG c T0) z ∧ Sound t z.2.1 ∧ KS c.L (kpGet t) z.2.2 ∧ ∀ e ∈ z.1.1, Ends c.L (kpGet t) (.asks s pd k) e) (f := fun acc (q : S × Nat) => stepA c.L (aft rowS c.L d) pd q.1 acc q.2) (stps (rowS st.1 s).1 k.toNat) []
        (([], 0), ((rowS st.1 s).2, st.2)) ⟨⟨List.nodup_nil, (fun x hx => nomatch hx), hg2, hk⟩, hs2, ks, fun e he => nomatch he⟩ fun pre q b hq ⟨h1, h2, h3, h4⟩ => by
          have hv := hrow q.1 (mem_stps.mp hq).1
          have hq' : q ∈ stps row k.toNat := mem_stps.mpr ⟨hin q.1 (mem_stps.mp hq).1, (mem_stps.mp hq).2⟩
          have po := answ_ok (a := (q.2 : Int)) lo hp hv
          obtain ⟨i1, i2, i3⟩ := aft_sound lo hc d b.2 (answ c.L pd q.1 q.2) h1.good h1.kp po h2 h3 (covs q hq')
          refine ⟨stepA_ok (G := srG c T0) lo hp hv (fun st a g1 g2 => aft_ok (G := srG c T0) lo d st _ g1 g2 (answ_ok lo hp hv)) h1 q.2, i1, i2, fun e he => ?_⟩
          rcases mem_addAll.mp he with he | he
          · exact h4 e he
          · exact (ends_asks hr).mpr ⟨q, hq', i3 e he⟩
      rw [← foldR_eq] at key
      refine ⟨key.2.1, fun y hy => ?_, key.2.2.2⟩
      rcases mem_kpPut hy with hy | rfl
      · exact key.2.2.1 y hy
      · rw [ek]
        exact ⟨cov, key.2.2.2⟩
/-- nothing new, or more is asked -/
def More (ρ ρ' : Sr) : Prop := ρ' = ρ ∨ ρ.asked.length < ρ'.asked.length
theorem More.trans {a b c : Sr} (h : More a b) (k : More b c) : More a c := by
  rcases h with rfl | h
  · exact k
  · rcases k with rfl | k
    · exact .inr h
    · exact .inr (Nat.lt_trans h k)
theorem rowS_more (ρ : Sr) (s : S) : More ρ (rowS ρ s).2 := by
  unfold rowS
  split
  · exact .inl rfl
  · right
    show ρ.asked.length < (ρ.asked ++ [s]).length
    rw [List.length_append]
    exact Nat.lt_succ_self _
theorem aft_more {L : List Sm} : ∀ (d : Nat) (st : Sr × Kp) (p : Ps), More st.1 (aft rowS L d st p).2.1
  | 0, st, .fail => .inl rfl
  | _ + 1, st, .fail => .inl rfl
  | 0, st, .done _ => .inl rfl
  | _ + 1, st, .done _ => .inl rfl
  | 0, st, .asks _ _ _ => .inl rfl
  | d + 1, st, .asks s pd k => by
    rw [aft]
    cases e : kpGet st.2 (s, pd) with
    | some v => exact .inl rfl
    | none =>
      show More st.1 (foldR L (aft rowS L d) pd k.toNat (rowS st.1 s).1 (([], 0), ((rowS st.1 s).2, st.2))).2.1
      rw [foldR_eq]
      exact foldl_inv (P := fun (z : (List S × Nat) × (Sr × Kp)) => More st.1 z.2.1) _ _ (rowS_more _ _) fun b q _ hb => hb.trans (aft_more d b.2 _)
theorem aft_exact {c : Cf} {T0 : Int} (lo : LnOk c.nv c.na c.L) {ρ : Sr} (hg : SrGood c T0 ρ) : ∀ (d : Nat) (kp : Kp) (p : Ps), KpOk c (fun x => x = T0) kp → PsOk c (fun x => x = T0) p → akP c.L p < d → KX c.L (kpGet ρ.rows) kp →
    ((aft rowS c.L d (ρ, kp) p).2.1 = ρ ∧ KX c.L (kpGet ρ.rows) (aft rowS c.L d (ρ, kp) p).2.2 ∧ Cov c.L (kpGet ρ.rows) p ∧ ∀ e, e ∈ (aft rowS c.L d (ρ, kp) p).1.1 ↔ Ends c.L (kpGet ρ.rows) p e) ∨
    ρ.asked.length < (aft rowS c.L d (ρ, kp) p).2.1.asked.length
  | 0, _, _, _, _, h, _ => absurd h (Nat.not_lt_zero _)
  | d + 1, kp, .fail, _, _, _, hx => .inl ⟨rfl, hx, .fail, fun e => ⟨fun h => (nomatch h), fun h => absurd h ends_fail⟩⟩
  | d + 1, kp, .done s, _, _, _, hx => .inl ⟨rfl, hx, .done s, fun e => by rw [ends_done]; exact List.mem_singleton⟩
  | d + 1, kp, .asks s pd k, hk, hp, hd, hx => by
    have ek := kOf_eq hp
    rw [aft]
    cases e : kpGet (ρ, kp).2 (s, pd) with
    | some v =>
      have := hx _ (kpGet_mem e)
      rw [ek] at this
      exact .inl ⟨rfl, hx, this.1, this.2⟩
    | none =>
      by_cases ha : s ∈ ρ.asked
      · obtain ⟨row, er⟩ := kpGet_some (kp := ρ.rows) (k := s) (by have := ha; rw [← hg.r1] at this; exact this)
        have hr : rowS ρ s = (row, ρ) := by unfold rowS; rw [if_pos ha, er]; rfl
        have hrow : ∀ x ∈ row, vS c.nv c.na (fun x => x = T0) x := fun x hx => hg.e2 x ((hg.r2 _ (kpGet_mem er)).2 x hx)
        have key := foldl_pre (P := fun pre (z : (List S × Nat) × (Sr × Kp)) => AftOk c (srG c T0) z ∧ ((z.2.1 = ρ ∧ KX c.L (kpGet ρ.rows) z.2.2 ∧ (∀ q ∈ pre, Cov c.L (kpGet ρ.rows) (answ c.L pd q.1 (q.2 : Nat))) ∧ ∀ e, e ∈ z.1.1 ↔ ∃ q ∈ pre, Ends c.L (kpGet ρ.rows) (answ c.L pd q.1 (q.2 : Nat)) e) ∨
            ρ.asked.length < z.2.1.asked.length)) (f := fun acc (q : S × Nat) => stepA c.L (aft rowS c.L d) pd q.1 acc q.2) (stps row k.toNat) []
          (([], 0), (ρ, kp)) ⟨⟨List.nodup_nil, (fun x hx => nomatch hx), hg, hk⟩, .inl ⟨rfl, hx, (fun q hq => nomatch hq), fun e => ⟨fun h => (nomatch h), fun ⟨q, hq, _⟩ => (nomatch hq)⟩⟩⟩ fun pre q b hq ⟨h1, h2⟩ => by
            have hv := hrow q.1 (mem_stps.mp hq).1
            have po := answ_ok (a := (q.2 : Int)) lo hp hv
            have hlt := akP_answ (s' := q.1) (a := (q.2 : Int)) hp
            have ok := stepA_ok (G := srG c T0) lo hp hv (fun st a g1 g2 => aft_ok (G := srG c T0) lo d st _ g1 g2 (answ_ok lo hp hv)) h1 q.2
            refine ⟨ok, ?_⟩
            obtain ⟨b1, b2, b3⟩ := b
            rcases h2 with ⟨rfl, h3, h4, h5⟩ | h2
            · rcases aft_exact lo h1.good d b3 (answ c.L pd q.1 q.2) h1.kp po (by omega) h3 with ⟨j1, j2, j3, j4⟩ | j1
              · refine .inl ⟨j1, j2, fun x hx => ?_, fun e => ?_⟩
                · rcases List.mem_append.mp hx with hx | hx
                  · exact h4 x hx
                  · rw [List.mem_singleton.mp hx]; exact j3
                · show e ∈ addAll b1.1 _ ↔ _
                  rw [mem_addAll, h5, j4]
                  constructor
                  · rintro (⟨x, hx, y⟩ | y)
                    · exact ⟨x, List.mem_append_left _ hx, y⟩
                    · exact ⟨q, List.mem_append_right _ (List.mem_singleton_self q), y⟩
                  · rintro ⟨x, hx, y⟩
                    rcases List.mem_append.mp hx with hx | hx
                    · exact .inl ⟨x, hx, y⟩
                    · rw [List.mem_singleton.mp hx] at y
                      exact .inr y
              · exact .inr j1
            · right
              rcases aft_more (L := c.L) d (b2, b3) (answ c.L pd q.1 q.2) with e | e
              · show ρ.asked.length < (aft rowS c.L d (b2, b3) (answ c.L pd q.1 q.2)).2.1.asked.length
                rw [e]
                exact h2
              · exact Nat.lt_trans h2 e
        rw [List.nil_append, ← foldR_eq] at key
        show (((foldR c.L (aft rowS c.L d) pd k.toNat (rowS ρ s).1 (([], 0), ((rowS ρ s).2, kp))).2.1 = ρ ∧ KX c.L (kpGet ρ.rows) (kpPut (foldR c.L (aft rowS c.L d) pd k.toNat (rowS ρ s).1 (([], 0), ((rowS ρ s).2, kp))).2.2 (s, pd) (foldR c.L (aft rowS c.L d) pd k.toNat (rowS ρ s).1 (([], 0), ((rowS ρ s).2, kp))).1) ∧ Cov c.L (kpGet ρ.rows) (.asks s pd k) ∧ ∀ e, e ∈ (foldR c.L (aft rowS c.L d) pd k.toNat (rowS ρ s).1 (([], 0), ((rowS ρ s).2, kp))).1.1 ↔ Ends c.L (kpGet ρ.rows) (.asks s pd k) e) ∨
          ρ.asked.length < (foldR c.L (aft rowS c.L d) pd k.toNat (rowS ρ s).1 (([], 0), ((rowS ρ s).2, kp))).2.1.asked.length)
        rw [hr]
        generalize foldR c.L (aft rowS c.L d) pd k.toNat row (([], 0), (ρ, kp)) = z at key
        rcases key.2 with ⟨h1, h2, h3, h4⟩ | h1
        · have hcv := (cov_asks (L := c.L) (pd := pd) (k := k) er).mpr h3
          have he : ∀ e, e ∈ z.1.1 ↔ Ends c.L (kpGet ρ.rows) (.asks s pd k) e := fun e => by rw [h4, ends_asks er]
          refine .inl ⟨h1, fun y hy => ?_, hcv, he⟩
          rcases mem_kpPut hy with hy | rfl
          · exact h2 y hy
          · rw [ek]
            exact ⟨hcv, he⟩
        · exact .inr h1
      · right
        show ρ.asked.length < (foldR c.L (aft rowS c.L d) pd k.toNat (rowS ρ s).1 (([], 0), ((rowS ρ s).2, kp))).2.1.asked.length
        have hr : ρ.asked.length < (rowS ρ s).2.asked.length := by
          unfold rowS
          rw [if_neg ha]
          show ρ.asked.length < (ρ.asked ++ [s]).length
          rw [List.length_append]
          exact Nat.lt_succ_self _
        rw [foldR_eq]
        exact foldl_inv (P := fun (z : (List S × Nat) × (Sr × Kp)) => ρ.asked.length < z.2.1.asked.length) _ _ hr fun b q _ hb => by
          rcases aft_more (L := c.L) d b.2 (answ c.L pd q.1 q.2) with e | e
          · show ρ.asked.length < (aft rowS c.L d b.2 (answ c.L pd q.1 q.2)).2.1.asked.length
            rw [e]
            exact hb
          · exact Nat.lt_trans hb e
end NC
set_option Elab.async false
set_option linter.all false
set_option maxRecDepth 100000
set_option maxHeartbeats 4000000
/-! Search.closed. -/
namespace NC
open PySem PySem.Spec PyProof.Rows L2
inductive Reach (t : Tab) (b : S) : S → Prop
  | refl : Reach t b b
  | step {s e : S} {es : List S} : Reach t b s → kpGet t s = some es → e ∈ es → Reach t b e
theorem iteT' {c : Bool} {A B : Prop} (e : c = true) (h : A) : if c = true then A else B := by rw [if_pos e]; exact h
theorem iteF' {c : Bool} {A B : Prop} (e : c = false) (h : B) : if c = true then A else B := by rw [if_neg (by rw [e]; exact Bool.false_ne_true)]; exact h
section
variable {P : Program} {w : World} {K : PySem.W.Frag} {mg : Str → Option Value} {base : Heap}
def spCls (w : World) (K : PySem.W.Frag) : Sp := fun vs H Q _ => ∃ (c : Cf) (T0 : Int) (r ed rd ad wa : Addr) (sv0 bv : V) (b : S) (ρ : Sr) (M X D : List Addr), vs = [.ref r, bv] ∧ SrIn K w c.nv c.na ed rd ad wa sv0 M X D r ρ H ∧ Thr M H ∧ NK (cut M H) (eS c.nv c.na b) bv ∧
  (keys ρ.ends).Nodup ∧ (∀ x ∈ keys ρ.ends, vS c.nv c.na (fun t => t = T0) x) ∧ (∀ y ∈ ρ.ends, ∀ x ∈ y.2, x ∈ keys ρ.ends) ∧ b ∈ keys ρ.ends ∧
  ∀ H' l row, Same H H' → LsAt c.nv c.na (cut M H') row (.ref l) → row.Nodup → (∀ x, x ∈ row ↔ Reach ρ.ends b x) → Q (.ref l) H'
/-- where the loops of closed stand -/
structure CsSt (w : World) (nv na : Bool) (M : List Addr) (H : Hp) (t : Tab) (b : S) (rl sd : Addr) (Hx : Hp) (row : List S) : Prop where
  sm : Same H Hx
  rv : ∃ rvs, Hx rl = some (.lst rvs) ∧ NKs (cut M H) (row.map (eS nv na)) rvs
  sn : ∃ xs, Hx sd = some (ndO w sd xs) ∧ KeysOk (cut M H) xs ∧ DAt (eS nv na) (fun _ v => v = .bl true) xs (fu row)
  nd : row.Nodup
  ks : ∀ x ∈ row, x ∈ keys t
  re : ∀ x ∈ row, Reach t b x
  hb : b ∈ row
theorem sc_Search_closed : FnScope ["self", "begin", "row", "seen", "at", "end"] ["self", "begin"] (defScope s_Search_closed) := ⟨rfl, rfl, rfl, by decide +kernel, rfl, by decide +kernel, by decide +kernel⟩
theorem ok_cls {f : Addr} {fd : FuncData} (F : FnP K "closed" "Search.closed" s_Search_closed f fd) (T : Txt K mg) : FnOk P w K mg base CX0 1 f fd ["self", "begin"] (spCls w K) := by
  refine F.ok sc_Search_closed (fun vs H Q E h => ?_) (fun cdv A outer s H vs Q E hr h => ?_)
  · obtain ⟨c, T0, r, ed, rd, ad, wa, sv0, bv, b, ρ, M, X, D, rfl, _⟩ := h
    rfl
  · obtain ⟨c, T0, r, ed, rd, ad, wa, sv0, bv, b, ρ, M, X, D, rfl, hi, ht, hb, hn, hv, hcl, hbk, k⟩ := h
    have hu9 := hu9 hr
    refine ⟨_, PSs.nox ((pss_cons (ps_set (i := 2) sc_Search_closed.nd rfl (Or.inl rfl) (pe_lst (pa_cons (pv 1) pa_nil)))
      (pss_cons (ps_set (i := 3) sc_Search_closed.nd rfl (Or.inl rfl) (pe_nd1 hu9 (pv 1) pe_bl))
      (pss_cons (ps_set (i := 4) sc_Search_closed.nd rfl (Or.inl rfl) pe_int)
      (pss_cons (ps_while PassesOwn.never (pt_cmpR op_lt (pv 4) (pe_callB call_len (by rfl) T.len bt_len (pa_cons (pv 2) pa_nil)) (nomark _)) (pss_cons (ps_for PassesOwn.never rfl (pi_list (pe_nget hu9 (pe_fld (pv 0) rfl) (pe_ix ix_list (pv 2) (pv 4) (fun _ _ => rfl)) (fun _ _ => rfl))) (pg_name (i := 5) sc_Search_closed.nd rfl (Or.inl rfl)) (pss_one (ps_if (pt_cmpR (op_nnotin hu9) (pv 5) (pv 3) (by rfl)) (pss_cons (ps_nput hu9 (pv 3) (pv 5) pe_bl rfl)
      (pss_one (ps_expr (pe_bm PySem.F.plainAttrs_list PySem.F.slot_list_append PySem.F.type_list_append mt_append (pv 2) (pa_cons (pv 5) pa_nil))))) pss_nil)))
      (pss_one (ps_set (i := 4) sc_Search_closed.nd rfl (Or.inl rfl) (pe_op op_add (pv 4) pe_int)))))
      (pss_one (ps_ret (pv 2)))))))), ?_⟩
    dsimp only [cxOf, Cx.nox]
    obtain ⟨bb, rfl⟩ : ∃ b, bv = V.ref b := by
      cases hb with
      | tup _ _ => exact ⟨_, rfl⟩
    have le := cut_le M H
    obtain ⟨dx, hr1⟩ := hi.ins
    obtain ⟨eas, g1, g2, g3⟩ := hi.en
    have ek := g2.keys
    refine ⟨_, rfl, (by show 1 ≤ sizeLine; decide), fun rl nrl => ?_⟩
    have s1 := new_same (o := HO.lst [V.ref bb]) nrl
    refine fun sd nsd => ?_
    have rls : rl ≠ sd := ne_of_none upd_same nsd
    have nsd1 : H sd = none := none_upd nsd
    have s2 : Same H (upd (upd H rl (HO.lst [V.ref bb])) sd (ndO w sd [])) := s1.trans (new_same nsd)
    refine ⟨_, rfl, eS c.nv c.na b, bb, rfl, NK.tx (TX.same (Same.trans le s2)) _ _ hb, depth_eS _ _ _, upd_same, ?_⟩
    have st0 : CsSt w c.nv c.na M H ρ.ends b rl sd (upd (upd (upd H rl (HO.lst [V.ref bb])) sd (ndO w sd [])) sd (ndO w sd [(eS c.nv c.na b, bb, V.bl true)])) [b] := by
      refine ⟨fun a o h => ?_, ⟨[V.ref bb], ?_, .cons hb .nil⟩, ⟨_, upd_same, fun x hx => ?_, .cons ⟨rfl, rfl⟩ .nil⟩, nd1 b, fun x hx => by rw [List.mem_singleton.mp hx]; exact hbk, fun x hx => by rw [List.mem_singleton.mp hx]; exact .refl, List.mem_singleton_self b⟩
      · rw [upd_ne (ne_of_none h nsd1)]; exact s2 _ _ h
      · rw [upd_ne rls, upd_ne rls, upd_same]
      · rw [List.mem_singleton.mp hx]; exact ⟨hb, depth_eS _ _ _⟩
    generalize upd (upd (upd H rl (HO.lst [V.ref bb])) sd (ndO w sd [])) sd (ndO w sd [(eS c.nv c.na b, bb, V.bl true)]) = H1 at st0 ⊢
    have rlen : ∀ {Hx : Hp} {row : List S}, CsSt w c.nv c.na M H ρ.ends b rl sd Hx row → row.length ≤ 10 := fun h => SrGood.row_len h.nd fun x hx => hv x (h.ks x hx)
    refine ⟨fun m σ Hx => ∃ (a : Nat) (x5 : Option V) (row : List S), σ = [some (.ref r), some (.ref bb), some (.ref rl), some (.ref sd), some (.int a), x5] ∧ CsSt w c.nv c.na M H ρ.ends b rl sd Hx row ∧ a ≤ row.length ∧ m = 11 - a ∧
      ∀ i s es, i < a → row[i]? = some s → kpGet ρ.ends s = some es → ∀ e ∈ es, e ∈ row, ⟨_, 0, _, [b], rfl, st0, Nat.zero_le _, rfl, fun i s es hi => absurd hi (Nat.not_lt_zero i)⟩, ?_⟩
    rintro m σ Hx ⟨a, x5, row, rfl, st, hal, rfl, hcl2⟩
    obtain ⟨rvs, v1, v2⟩ := st.rv
    have vl : rvs.length = row.length := by rw [← v2.length, List.length_map]
    refine ⟨_, rfl, _, rfl, _, _, rfl, .inl ⟨_, SqL.of v1, rfl⟩, ?_⟩
    refine ⟨_, _, rfl, rfl, _, rfl, ?_⟩
    by_cases hlt : a < row.length
    · refine iteT' (by rw [vl]; exact decide_eq_true (by omega)) ?_
      obtain ⟨sa, hsa⟩ : ∃ s, row[a]? = some s := ⟨row[a], List.getElem?_eq_getElem hlt⟩
      have ska := st.ks sa (List.mem_of_getElem? hsa)
      obtain ⟨v, va, na⟩ := v2.get (i := a) (k := eS c.nv c.na sa) (by rw [List.getElem?_map, hsa]; rfl)
      obtain ⟨ba, rfl⟩ : ∃ b, v = V.ref b := by
        cases na with
        | tup _ _ => exact ⟨_, rfl⟩
      have inj : ∀ y ∈ eas, eS c.nv c.na y.1 = eS c.nv c.na sa → y.1 = sa := fun y hy e => eS_inj (hv _ (by rw [← ek]; exact List.mem_map.mpr ⟨y, hy, rfl⟩)).1 (hv sa ska).1 e
      have g1x : NDAt w M Hx ed (eS c.nv c.na) adV eas := g1.keep adV_grows (Same.cut st.sm) (st.sm _)
      have tx : TX (cut M H) Hx := TX.same (Same.trans le st.sm)
      refine ⟨fun σ' H' => ∃ (x5 : Option V) (row : List S), σ' = [some (.ref r), some (.ref bb), some (.ref rl), some (.ref sd), some (.int ((a : Int) + 1)), x5] ∧ CsSt w c.nv c.na M H ρ.ends b rl sd H' row ∧ a + 1 ≤ row.length ∧
          ∀ i s es, i < a + 1 → row[i]? = some s → kpGet ρ.ends s = some es → ∀ e ∈ es, e ∈ row, ?_, ?_⟩
      · rintro σ' H' ⟨x5, row', rfl, st', hl', hc'⟩
        exact ⟨11 - (a + 1), by have := rlen st; omega, a + 1, x5, row', rfl, st', hl', rfl, hc'⟩
      rcases g1x.nget inj (NK.tx tx _ _ na) (depth_eS _ _ _) with ⟨m1, _⟩ | ⟨la, v', m1, m2, rfl⟩
      · exact absurd (by rw [ek]; exact ska) (kpGet_none.mp m1)
      -- the list of its ends
      obtain ⟨j, hj, ej⟩ := List.getElem_of_mem (kpGet_mem m1)
      obtain ⟨⟨y1, es⟩, hy, k1, k2, k3, evs, k4, k5⟩ := Paired.at2 g2 (show eas[j]? = some (sa, la) by rw [List.getElem?_eq_getElem hj, ej])
      cases k1
      have hes : kpGet ρ.ends sa = some es := kpGet_of hn (List.mem_of_getElem? hy)
      have k4x := st.sm _ _ k4
      refine ⟨_, rfl, r, _, dx, _, _, rfl, st.sm _ _ hr1, T.clSearch, T.nSearch_ends, rfl, _, rfl, _, rfl, rl, _, a, _, rfl, rfl, SqL.of v1, at_of (j := a) rfl va, ed, _, rfl, m2, la, rfl, ⟨_, SqL.of k4x⟩, for_list (K := K) (xs := evs) (fun m σ Hy => ∃ (x5 : Option V) (ext : List S), σ = [some (.ref r), some (.ref bb), some (.ref rl), some (.ref sd), some (.int a), x5] ∧ CsSt w c.nv c.na M H ρ.ends b rl sd Hy (row ++ ext) ∧ ∀ e ∈ es.take m, e ∈ row ++ ext)
        ⟨_, [], rfl, by rw [List.append_nil]; exact st, fun e he => by simp at he⟩ (fun m σ Hy _ ⟨_, _, _, s1, _⟩ => SqL.of (s1.sm _ _ k4)) ?_ ?_⟩
      · rintro m xv σ Hy hm ⟨x5, ext, rfl, sy, hin⟩
        obtain ⟨e, he, ne⟩ := NKs.at k5 hm
        have eK := hcl (sa, es) (kpGet_mem hes) e (List.mem_of_getElem? he)
        obtain ⟨be, rfl⟩ : ∃ b, xv = V.ref b := by
          cases ne with
          | tup _ _ => exact ⟨_, rfl⟩
        have txy : TX (cut M H) Hy := TX.same (Same.trans le sy.sm)
        obtain ⟨xs, x1, x2, x3⟩ := sy.sn
        have inj2 := fu_inj (f := row ++ ext) (fun x hx => (hv x (sy.ks x hx)).1) (hv e eK).1
        have takeS : ∀ x ∈ es.take (m + 1), x ∈ es.take m ∨ x = e := fun x hx => by
          rw [List.take_succ, he] at hx
          exact (List.mem_append.mp hx).imp id List.mem_singleton.mp
        rcases x3.get inj2 with ⟨q1, q2⟩ | ⟨z, v, q1, q2, _⟩
        · have hne : e ∉ row ++ ext := fun z => kpGet_none.mp q1 (List.mem_map.mpr ⟨(e, ()), List.mem_map.mpr ⟨e, z, rfl⟩, rfl⟩)
          refine ⟨_, rfl, _, rfl, sd, none, rfl, ⟨xs, _, be, .inl x1, x2.tx txy, rfl, NK.tx txy _ _ ne, depth_eS _ _ _, q2.symm⟩, _, rfl, ifT rfl ?_⟩
          have xl : xs.length ≤ 10 := by
            rw [x3.length]
            unfold fu
            rw [List.length_map]
            exact rlen sy
          refine ⟨_, rfl, _, rfl, sd, _, rfl, ⟨xs, _, be, x1, x2.tx txy, rfl, NK.tx txy _ _ ne, depth_eS _ _ _, szl (by omega), rfl⟩, ?_⟩
          obtain ⟨rvs2, w1, w2⟩ := sy.rv
          have rvl : rvs2.length ≤ 10 := by
            have := rlen sy
            rw [← w2.length, List.length_map]
            exact this
          have rl' : upd Hy sd (ndO w sd (putN xs (eS c.nv c.na e) be (V.bl true))) rl = some (.lst rvs2) := by rw [upd_ne rls]; exact w1
          refine ⟨_, rfl, .inl ⟨rfl, _, SqL.of rl'⟩, _, rfl, rl, _, _, rfl, rfl, rl', szl (by omega), ?_⟩
          refine ⟨_, ext ++ [e], rfl, ⟨fun a o h => ?_, ⟨_, upd_same, ?_⟩, ⟨_, ?_, putN_keys (v := V.bl true) x2 ne (depth_eS _ _ _), ?_⟩, ?_, ?_, ?_, List.mem_append_left _ (by have := st.hb; exact this)⟩, fun x hx => ?_⟩
          · rw [upd_ne (ne_of_none h nrl), upd_ne (ne_of_none h nsd1)]; exact sy.sm _ _ h
          · rw [← List.append_assoc, List.map_append]
            exact NKs.append w2 (.cons ne .nil)
          · rw [upd_ne (Ne.symm rls), upd_same]
          · have := x3.put inj2 (b := be) (v := V.bl true) (z := ()) rfl
            rw [fu_put, show addS (row ++ ext) e = row ++ (ext ++ [e]) by unfold addS; rw [if_neg hne, List.append_assoc]] at this
            exact this
          · rw [← List.append_assoc]
            exact List.nodup_append.mpr ⟨sy.nd, nd1 _, fun a ha b hb => by rw [List.mem_singleton.mp hb]; exact fun z => hne (z ▸ ha)⟩
          · intro x hx
            rw [← List.append_assoc] at hx
            rcases List.mem_append.mp hx with hx | hx
            · exact sy.ks x hx
            · rw [List.mem_singleton.mp hx]; exact eK
          · intro x hx
            rw [← List.append_assoc] at hx
            rcases List.mem_append.mp hx with hx | hx
            · exact sy.re x hx
            · rw [List.mem_singleton.mp hx]; exact .step (st.re sa (List.mem_of_getElem? hsa)) hes (List.mem_of_getElem? he)
          · rw [← List.append_assoc]
            rcases takeS x hx with hx | rfl
            · exact List.mem_append_left _ (hin x hx)
            · exact List.mem_append_right _ (List.mem_singleton_self x)
        · have hne : e ∈ row ++ ext := by
            obtain ⟨x, hx, e9⟩ := List.mem_map.mp (kpGet_mem q1)
            cases e9
            exact hx
          refine ⟨_, rfl, _, rfl, sd, some v, rfl, ⟨xs, _, be, .inl x1, x2.tx txy, rfl, NK.tx txy _ _ ne, depth_eS _ _ _, q2.symm⟩, _, rfl, ifF rfl ?_⟩
          refine ⟨_, ext, rfl, sy, fun x hx => ?_⟩
          rcases takeS x hx with hx | rfl
          · exact hin x hx
          · exact hne
      · rintro σ Hy ⟨x5, ext, rfl, sy, hin⟩
        rw [← k5.length, List.length_map, List.take_length] at hin
        refine ⟨_, rfl, _, _, rfl, rfl, ?_⟩
        refine ⟨_, row ++ ext, rfl, sy, by rw [List.length_append]; omega, fun i s es' hi' hs' hes' e he => ?_⟩
        have il : i < row.length := by omega
        rw [List.getElem?_append_left il] at hs'
        by_cases hia : i < a
        · exact List.mem_append_left _ (hcl2 i s es' hia hs' hes' e he)
        · have : i = a := by omega
          subst this
          rw [hsa] at hs'
          cases hs'
          rw [hes] at hes'
          cases hes'
          exact hin e he
    · refine iteF' (by rw [vl]; exact decide_eq_false (by omega)) ?_
      have rM : rl ∉ M := ht.new nrl
      refine ⟨_, rfl, k _ rl row st.sm ⟨rl, rvs, rfl, cut_of v1 rM, NKs.tx (TX.same (Same.cut st.sm)) _ _ v2⟩ st.nd fun x => ⟨st.re x, fun hx => ?_⟩⟩
      have hae : a = row.length := by omega
      subst hae
      clear k
      induction hx with
      | refl => exact st.hb
      | step h1 h2 h3 ih =>
        obtain ⟨i, hi, ei⟩ := List.getElem_of_mem ih
        exact hcl2 i _ _ hi (by rw [List.getElem?_eq_getElem hi, ei]) h2 _ h3
theorem met_cls {f : Addr} {fd : FuncData} (F : FnP K "closed" "Search.closed" s_Search_closed f fd) (T : Txt K mg) (me : Meth K (aSearch K) "closed" f) : C8.Met P w K mg base 1 (aSearch K) "closed" (spCls w K) [] :=
  ⟨f, fd, _, [], T.clSearch, me, ok_cls F T, F.bindsN fun _ _ _ _ _ _ us hl => match us, hl with | [_, _], _ => rfl, .nil⟩
end
end NC
set_option Elab.async false
set_option linter.all false
set_option maxRecDepth 100000
set_option maxHeartbeats 4000000
/-! The plain law of Search's growing. -/
namespace NC
open PySem PySem.Spec PyProof.Rows L2
def n3 (t : Tab) : Nat := (t.map fun y => y.2.length).sum
def size (ρ : Sr) : Nat := ρ.ends.length + ρ.asked.length + n3 ρ.ends
structure SrLe (ρ ρ' : Sr) : Prop where
  l1 : ρ.ends.length ≤ ρ'.ends.length
  l2 : ρ.asked.length ≤ ρ'.asked.length
  l3 : n3 ρ.ends ≤ n3 ρ'.ends
  ks : ∀ x ∈ keys ρ.ends, x ∈ keys ρ'.ends
  as : ∃ l, ρ'.asked = ρ.asked ++ l
theorem SrLe.refl (ρ : Sr) : SrLe ρ ρ := ⟨Nat.le_refl _, Nat.le_refl _, Nat.le_refl _, fun _ h => h, [], (List.append_nil _).symm⟩
theorem SrLe.trans {a b c : Sr} (h : SrLe a b) (k : SrLe b c) : SrLe a c := ⟨Nat.le_trans h.l1 k.l1, Nat.le_trans h.l2 k.l2, Nat.le_trans h.l3 k.l3, fun x hx => k.ks x (h.ks x hx), by
  obtain ⟨l, e1⟩ := h.as
  obtain ⟨m, e2⟩ := k.as
  exact ⟨l ++ m, by rw [e2, e1, List.append_assoc]⟩⟩
theorem meetE_le (t : Tab) (s : S) : t.length ≤ (meetE t s).length ∧ n3 (meetE t s) = n3 t := by
  unfold meetE
  cases kpGet t s with
  | some _ => exact ⟨Nat.le_refl _, rfl⟩
  | none =>
    refine ⟨by show _ ≤ (t ++ [(s, [])]).length; rw [List.length_append]; omega, ?_⟩
    show n3 (t ++ [(s, [])]) = n3 t
    unfold n3
    rw [List.map_append, List.sum_append]
    rfl
theorem rowS_le (ρ : Sr) (s : S) : SrLe ρ (rowS ρ s).2 := by
  unfold rowS
  split
  · exact SrLe.refl _
  · have := meetE_le ρ.ends s
    exact ⟨this.1, by show ρ.asked.length ≤ (ρ.asked ++ [s]).length; rw [List.length_append]; omega, Nat.le_of_eq this.2.symm, fun x hx => mem_meetE.mpr (.inl hx), [s], rfl⟩
theorem aft_le {L : List Sm} : ∀ (d : Nat) (st : Sr × Kp) (p : Ps), SrLe st.1 (aft rowS L d st p).2.1
  | 0, st, .fail => SrLe.refl _
  | _ + 1, st, .fail => SrLe.refl _
  | 0, st, .done _ => SrLe.refl _
  | _ + 1, st, .done _ => SrLe.refl _
  | 0, st, .asks _ _ _ => SrLe.refl _
  | d + 1, st, .asks s pd k => by
    rw [aft]
    cases e : kpGet st.2 (s, pd) with
    | some v => exact SrLe.refl _
    | none =>
      show SrLe st.1 (foldR L (aft rowS L d) pd k.toNat (rowS st.1 s).1 (([], 0), ((rowS st.1 s).2, st.2))).2.1
      rw [foldR_eq]
      exact foldl_inv (P := fun (z : (List S × Nat) × (Sr × Kp)) => SrLe st.1 z.2.1) _ _ (rowS_le _ _) fun b q _ hb => hb.trans (aft_le d b.2 _)
/-- one end more -/
def addE (ρ : Sr) (s : S) (E : List S) (e : S) : Sr := { ρ with ends := meetE (kpPut ρ.ends s (E ++ [e])) e }
theorem kpPut_same_keys {t : Tab} {s : S} {v : List S} (h : s ∈ keys t) : keys (kpPut t s v) = keys t := by
  unfold keys
  rw [kpPut_keys, if_pos (show s ∈ t.map (·.1) from h)]
theorem kpPut_n3 : ∀ {t : Tab} {s : S} {E : List S} {e : S}, (keys t).Nodup → kpGet t s = some E → n3 (kpPut t s (E ++ [e])) = n3 t + 1
  | [], s, E, e, _, h => by cases h
  | y :: r, s, E, e, nd, h => by
    have nd' : (y.1 :: keys r).Nodup := nd
    obtain ⟨n1, n2⟩ := List.nodup_cons.mp nd'
    have key : kpPut (y :: r) s (E ++ [e]) = (if y.1 = s then (y.1, E ++ [e]) else y) :: (if y.1 = s then r else kpPut r s (E ++ [e])) := by
      have hs : s ∈ keys (y :: r) := List.mem_map.mpr ⟨_, kpGet_mem h, rfl⟩
      have ht : ((y :: r).any fun x => decide (x.1 = s)) = true := by
        obtain ⟨x, hx, ex⟩ := List.mem_map.mp hs
        exact List.any_eq_true.mpr ⟨x, hx, by simp [ex]⟩
      unfold kpPut
      rw [if_pos ht, List.map_cons]
      congr 1
      by_cases hy : y.1 = s
      · rw [if_pos hy]
        have : ∀ x ∈ r, (if x.1 = s then (x.1, E ++ [e]) else x) = x := fun x hx => by
          rw [if_neg]
          intro z
          exact n1 (by rw [hy, ← z]; exact List.mem_map.mpr ⟨x, hx, rfl⟩)
        rw [List.map_congr_left this, List.map_id']
      · rw [if_neg hy]
        have : (r.any fun x => decide (x.1 = s)) = true := by
          rw [List.any_cons] at ht
          simpa [hy] using ht
        rw [if_pos this]
    rw [key]
    by_cases hy : y.1 = s
    · rw [if_pos hy, if_pos hy]
      have : y.2 = E := by
        have := kpGet_of (kp := y :: r) nd (k := y.1) (v := y.2) List.mem_cons_self
        rw [hy, h] at this
        exact (Option.some.inj this).symm
      show ((E ++ [e]).length + (r.map fun y => y.2.length).sum) = (y.2.length + (r.map fun y => y.2.length).sum) + 1
      rw [this, List.length_append]
      show E.length + 1 + _ = _
      omega
    · rw [if_neg hy, if_neg hy]
      have h' : kpGet r s = some E := by
        unfold kpGet at h ⊢
        rw [List.find?_cons_of_neg (by simpa using hy)] at h
        exact h
      have ih := kpPut_n3 (e := e) n2 h'
      show (y.2.length + n3 (kpPut r s (E ++ [e]))) = (y.2.length + n3 r) + 1
      rw [ih]
      omega
theorem addE_le {ρ : Sr} {s e : S} {E : List S} (nd : (keys ρ.ends).Nodup) (h : kpGet ρ.ends s = some E) : SrLe ρ (addE ρ s E e) ∧ n3 (addE ρ s E e).ends = n3 ρ.ends + 1 := by
  have hs : s ∈ keys ρ.ends := List.mem_map.mpr ⟨_, kpGet_mem h, rfl⟩
  have hk := kpPut_same_keys (v := E ++ [e]) hs
  have hl : (kpPut ρ.ends s (E ++ [e])).length = ρ.ends.length := by
    have := congrArg List.length hk
    unfold keys at this
    rwa [List.length_map, List.length_map] at this
  have hm := meetE_le (kpPut ρ.ends s (E ++ [e])) e
  have h3 : n3 (addE ρ s E e).ends = n3 ρ.ends + 1 := by
    show n3 (meetE (kpPut ρ.ends s (E ++ [e])) e) = _
    rw [hm.2, kpPut_n3 nd h]
  refine ⟨⟨by rw [← hl]; exact hm.1, Nat.le_refl _, by rw [h3]; omega, fun x hx => mem_meetE.mpr (.inl (by rw [hk]; exact hx)), [], (List.append_nil _).symm⟩, h3⟩
theorem addE_good {c : Cf} {T0 : Int} {ρ : Sr} (hg : SrGood c T0 ρ) {s e : S} {E : List S} (h : kpGet ρ.ends s = some E) (he : vS c.nv c.na (fun t => t = T0) e) (hn : e ∉ E) : SrGood c T0 (addE ρ s E e) := by
  have hs : s ∈ keys ρ.ends := List.mem_map.mpr ⟨_, kpGet_mem h, rfl⟩
  have hk := kpPut_same_keys (v := E ++ [e]) hs
  have mk : ∀ x, x ∈ keys (meetE (kpPut ρ.ends s (E ++ [e])) e) ↔ x ∈ keys ρ.ends ∨ x = e := fun x => by rw [mem_meetE, hk]
  have hE := hg.e3 _ (kpGet_mem h)
  refine ⟨?_, fun x hx => ?_, fun y hy => ?_, hg.r1, hg.a1, fun x hx => (mk x).mpr (.inl (hg.a2 x hx)), fun y hy => ⟨(hg.r2 y hy).1, fun x hx => (mk x).mpr (.inl ((hg.r2 y hy).2 x hx))⟩⟩
  · show (keys (meetE (kpPut ρ.ends s (E ++ [e])) e)).Nodup
    rw [meetE_keys, hk]
    split
    · exact hg.e1
    · rename_i hne
      exact List.nodup_append.mpr ⟨hg.e1, nd1 _, fun a ha b hb => by rw [List.mem_singleton.mp hb]; exact fun z => hne (z ▸ ha)⟩
  · rcases (mk x).mp hx with hx | rfl
    · exact hg.e2 x hx
    · exact he
  · have good : ∀ y ∈ kpPut ρ.ends s (E ++ [e]), y.2.Nodup ∧ ∀ x ∈ y.2, x ∈ keys (meetE (kpPut ρ.ends s (E ++ [e])) e) := fun y hy => by
      rcases mem_kpPut hy with hy | rfl
      · exact ⟨(hg.e3 y hy).1, fun x hx => (mk x).mpr (.inl ((hg.e3 y hy).2 x hx))⟩
      · refine ⟨List.nodup_append.mpr ⟨hE.1, nd1 _, fun a ha b hb => by rw [List.mem_singleton.mp hb]; exact fun z => hn (z ▸ ha)⟩, fun x hx => ?_⟩
        rcases List.mem_append.mp hx with hx | hx
        · exact (mk x).mpr (.inl (hE.2 x hx))
        · exact (mk x).mpr (.inr (List.mem_singleton.mp hx))
    have hy' : y ∈ meetE (kpPut ρ.ends s (E ++ [e])) e := hy
    unfold meetE at hy'
    cases e9 : kpGet (kpPut ρ.ends s (E ++ [e])) e with
    | some v => rw [e9] at hy'; exact good y hy'
    | none =>
      rw [e9] at hy'
      rcases List.mem_append.mp hy' with hy' | hy'
      · exact good y hy'
      · rw [List.mem_singleton.mp hy']
        exact ⟨List.nodup_nil, fun x hx => nomatch hx⟩
theorem addE_sound {c : Cf} {t : Tab} {ρ : Sr} (h : Sound t ρ) {s e : S} {E : List S} (hE : kpGet ρ.ends s = some E) (he : ∀ b row, kpGet t b = some row → s ∈ row → e ∈ row) : Sound t (addE ρ s E e) := by
  have hs : s ∈ keys ρ.ends := List.mem_map.mpr ⟨_, kpGet_mem hE, rfl⟩
  have hk := kpPut_same_keys (v := E ++ [e]) hs
  refine ⟨h.s1, h.s2, fun x es hx b r hb hxr y hy => ?_, fun x hx => ?_⟩
  · have hx' : kpGet (meetE (kpPut ρ.ends s (E ++ [e])) e) x = some es := hx
    rw [meetE_get] at hx'
    split at hx'
    · cases hx'; cases hy
    · rw [kpGet_put] at hx'
      split at hx'
      · rename_i _ exs
        cases hx'
        subst exs
        rcases List.mem_append.mp hy with hy | hy
        · exact h.s3 _ E hE b r hb hxr y hy
        · rw [List.mem_singleton.mp hy]
          exact he b r hb hxr
      · exact h.s3 x es hx' b r hb hxr y hy
  · rcases mem_meetE.mp hx with hx | rfl
    · rw [hk] at hx
      exact h.s4 x hx
    · obtain ⟨b, r, h1, h2⟩ := h.s4 s hs
      exact ⟨b, r, h1, he b r h1 h2⟩
/-- nothing more is to be found -/
def Final (c : Cf) (ρ : Sr) : Prop := ∀ s ∈ keys ρ.ends, ∀ q ∈ c.ents, Cov c.L (kpGet ρ.rows) (begun c s q.1 q.2) ∧ ∀ e, Ends c.L (kpGet ρ.rows) (begun c s q.1 q.2) e → ∃ E, kpGet ρ.ends s = some E ∧ e ∈ E
theorem sum_le {α : Type} {f : α → Nat} {n : Nat} : ∀ l : List α, (∀ x ∈ l, f x ≤ n) → (l.map f).sum ≤ l.length * n
  | [], _ => by simp
  | x :: r, h => by
    have h1 := h x List.mem_cons_self
    have h2 := sum_le r fun y hy => h y (List.mem_cons_of_mem _ hy)
    rw [List.map_cons, List.sum_cons, List.length_cons, Nat.succ_mul]
    omega
theorem size_le {c : Cf} {T0 : Int} {ρ : Sr} (hg : SrGood c T0 ρ) : size ρ ≤ 120 := by
  have h1 : (keys ρ.ends).length ≤ 10 := SrGood.row_len hg.e1 hg.e2
  have h1' : ρ.ends.length ≤ 10 := by unfold keys at h1; rwa [List.length_map] at h1
  have h2 : ρ.asked.length ≤ 10 := SrGood.row_len hg.a1 fun x hx => hg.e2 x (hg.a2 x hx)
  have h3 : n3 ρ.ends ≤ ρ.ends.length * 10 := sum_le _ fun y hy => SrGood.row_len (hg.e3 y hy).1 fun x hx => hg.e2 x ((hg.e3 y hy).2 x hx)
  unfold size
  have : ρ.ends.length * 10 ≤ 100 := by omega
  omega
/-- the rows are the closures of the ends -/
def RowsCl (ρ : Sr) : Prop := ∀ b row, kpGet ρ.rows b = some row → ∀ x, x ∈ row ↔ Reach ρ.ends b x
theorem reach_keys {c : Cf} {T0 : Int} {ρ : Sr} (hg : SrGood c T0 ρ) {b x : S} (hb : b ∈ keys ρ.ends) (h : Reach ρ.ends b x) : x ∈ keys ρ.ends := by
  induction h with
  | refl => exact hb
  | step h1 h2 h3 ih => exact (hg.e3 _ (kpGet_mem h2)).2 _ h3
theorem final_closed {c : Cf} {T0 : Int} {ρ : Sr} (hg : SrGood c T0 ρ) (hf : Final c ρ) (hr : RowsCl ρ) (h0 : first c ∈ ρ.asked) : Closed c ρ.rows := by
  refine ⟨?_, fun b row hb => ⟨(hr b row hb b).mpr .refl, fun s hs q hq => ?_⟩⟩
  · obtain ⟨v, hv⟩ := kpGet_some (kp := ρ.rows) (k := first c) (by have := h0; rw [← hg.r1] at this; exact this)
    rw [hv]
    rfl
  · have hbk : b ∈ keys ρ.ends := hg.a2 b (by rw [← hg.r1]; exact List.mem_map.mpr ⟨_, kpGet_mem hb, rfl⟩)
    have hrs := (hr b row hb s).mp hs
    obtain ⟨h1, h2⟩ := hf s (reach_keys hg hbk hrs) q hq
    refine ⟨h1, fun e he => ?_⟩
    obtain ⟨E, e1, e2⟩ := h2 e he
    exact (hr b row hb e).mpr (.step hrs e1 e2)
theorem reach_sound {c : Cf} {t : Tab} (hc : Closed c t) {ρ : Sr} (h : Sound t ρ) {b x : S} {row : List S} (hb : kpGet t b = some row) (hx : Reach ρ.ends b x) : x ∈ row := by
  induction hx with
  | refl => exact (hc.2 b row hb).1
  | step h1 h2 h3 ih => exact h.s3 _ _ h2 b row hb ih _ h3
end NC
set_option Elab.async false
set_option linter.all false
set_option maxRecDepth 100000
set_option maxHeartbeats 4000000
/-! Search.grow. -/
namespace NC
open PySem PySem.Spec PyProof.Rows L2
theorem Paired.mapM {α β : Type} {F G : α → β → Prop} {f : β → β} {l : List α} {m : List β} (h : Paired F l m) (k : ∀ a b, a ∈ l → b ∈ m → F a b → G a (f b)) : Paired G l (m.map f) := by
  induction h with
  | nil => exact .nil
  | @cons a b l m h1 _ ih =>
    rw [List.map_cons]
    exact .cons (k a b List.mem_cons_self List.mem_cons_self h1) (ih fun a' b' ha hb h => k a' b' (List.mem_cons_of_mem _ ha) (List.mem_cons_of_mem _ hb) h)
theorem kpPut_old {κ β : Type} [DecidableEq κ] {kp : List (κ × β)} {k : κ} {v : β} (h : k ∈ kp.map (·.1)) : kpPut kp k v = kp.map fun x => if x.1 = k then (x.1, v) else x := by
  obtain ⟨x, hx, e⟩ := List.mem_map.mp h
  unfold kpPut
  rw [if_pos (List.any_eq_true.mpr ⟨x, hx, by simp [e]⟩)]
theorem nd_uniq {α β : Type} {l : List (α × β)} (h : (l.map (·.1)).Nodup) {a b : α × β} (ha : a ∈ l) (hb : b ∈ l) (e : a.1 = b.1) : a = b := by
  induction l with
  | nil => cases ha
  | cons x r ih =>
    rw [List.map_cons] at h
    obtain ⟨n1, n2⟩ := List.nodup_cons.mp h
    rcases List.mem_cons.mp ha with ea | ha2
    · rcases List.mem_cons.mp hb with eb | hb2
      · rw [ea, eb]
      · exact absurd (List.mem_map.mpr ⟨b, hb2, by rw [← e, ea]⟩) n1
    · rcases List.mem_cons.mp hb with eb | hb2
      · exact absurd (List.mem_map.mpr ⟨a, ha2, by rw [e, eb]⟩) n1
      · exact ih n2 ha2 hb2
theorem nd_uniq2 {α β : Type} {l : List (α × β)} (h : (l.map (·.2)).Nodup) {a b : α × β} (ha : a ∈ l) (hb : b ∈ l) (e : a.2 = b.2) : a = b := by
  have := nd_uniq (l := l.map fun x => (x.2, x.1)) (by rw [List.map_map]; exact h) (a := (a.2, a.1)) (b := (b.2, b.1)) (List.mem_map.mpr ⟨a, ha, rfl⟩) (List.mem_map.mpr ⟨b, hb, rfl⟩) e
  have h1 := congrArg Prod.fst this
  have h2 := congrArg Prod.snd this
  exact Prod.ext h2 h1
section
variable {K : PySem.W.Frag} {w : World} {nv na : Bool} {ed rd ad wa : Addr} {sv : V} {M X D : List Addr} {r : Addr} {ρ : Sr} {H : Hp}
/-- an end more in the list at la -/
theorem SrIn.app (h : SrIn K w nv na ed rd ad wa sv M X D r ρ H) (nk : (keys ρ.ends).Nodup) {eas : List (S × Addr)} {s e : S} {la : Addr} {E : List S} {evs : List V} {ev : V} (g1 : NDAt w M H ed (eS nv na) adV eas) (g2 : ElsAt nv na M X H eas ρ.ends) (g3 : (eas.map (·.2)).Nodup)
    (m : (s, la) ∈ eas) (hE : kpGet ρ.ends s = some E) (hl : H la = some (.lst evs)) (he : NKs (cut M H) (E.map (eS nv na)) evs) (ne : NK (cut M H) (eS nv na e) ev) (lM : la ∈ M) :
    SrIn K w nv na ed rd ad wa sv M X D r { ρ with ends := kpPut ρ.ends s (E ++ [e]) } (upd H la (.lst (evs ++ [ev]))) := by
  have ec : cut M (upd H la (.lst (evs ++ [ev]))) = cut M H := cut_upd lM
  have k : ∀ {a : Addr} {o : HO}, H a = some o → a ≠ la → upd H la (.lst (evs ++ [ev])) a = some o := fun h n => by rw [upd_ne n]; exact h
  have kd : ∀ {d : Addr} {xs : NEnts}, H d = some (ndO w d xs) → d ≠ la := fun h z => by rw [z, hl] at h; cases h
  obtain ⟨dx, hi⟩ := h.ins
  have nr : r ≠ la := fun z => by rw [z, hl] at hi; cases hi
  have ek := g2.keys
  have nk' : (eas.map (·.1)).Nodup := by rw [ek]; exact nk
  obtain ⟨x1, x2, _⟩ := id g1
  obtain ⟨x3, x4, _⟩ := id h.rw
  obtain ⟨x5, x6, _⟩ := id h.ak
  refine ⟨h.eD, ⟨dx, k hi nr⟩, h.cM, h.d1, h.d2, h.d3, ⟨eas, g1.keep adV_grows (by rw [ec]; exact Same.refl _) fun o z => k z (kd x2), ?_, g3⟩, h.rw.keep LsAt.grows (by rw [ec]; exact Same.refl _) fun o z => k z (kd x4), h.ak.keep bT_grows (by rw [ec]; exact Same.refl _) fun o z => k z (kd x6)⟩
  have hs : s ∈ ρ.ends.map (·.1) := List.mem_map.mpr ⟨_, kpGet_mem hE, rfl⟩
  show ElsAt nv na M X _ eas (kpPut ρ.ends s (E ++ [e]))
  rw [kpPut_old hs]
  refine Paired.mapM g2 fun a b ha hb ⟨k1, k2, k3, evs', k4, k5⟩ => ?_
  by_cases hbs : b.1 = s
  · rw [if_pos hbs]
    have hae : a = (s, la) := nd_uniq nk' ha m (k1.trans hbs)
    subst hae
    refine ⟨hbs.symm, k2, k3, evs ++ [ev], upd_same, ?_⟩
    rw [ec, List.map_append]
    exact NKs.append he (.cons ne .nil)
  · rw [if_neg hbs]
    have hal : a.2 ≠ la := fun z => hbs (by
      have := nd_uniq2 g3 ha m z
      rw [this] at k1
      exact k1.symm)
    exact ⟨k1, k2, k3, evs', k k4 hal, by rw [ec]; exact k5⟩
end
theorem WyAt.step {K : PySem.W.Frag} {w : World} {c : Cf} {R : Type} {G : Prov K w c R} {M X D M' N : List Addr} {wa r : Addr} {ρ ρ' : R} {kp : Kp} {e el kd dx : Addr} {H H' : Hp} (h : WyAt G M X D wa r ρ kp e el kd dx H) (ch : Chg N H H') (ex : Ext M H M' H') (hw : wa ∉ N) (hk : kd ∉ N)
    (iv : G.inv M' X D r ρ' H') (gd : G.good ρ') : WyAt G M' X D wa r ρ' kp e el kd dx H' :=
  ⟨ch.keep _ _ h.hw hw, h.wD, fun a ha => ex.up a (h.dM a ha), h.kX, h.kD, fun a ha => ex.up a (h.xM a ha), ex.th, h.en.same ex.sm, h.kq.keep VlAt.grows ex.sm fun o z => ch.keep _ _ z hk, iv, gd, h.ko⟩
theorem Chg.putN {M : List Addr} {H H' : Hp} {d : Addr} {o : HO} (s : Chg M H H') (hd : d ∈ M ∨ H d = none) (m : mutO o) : Chg M H (upd H' d o) := by
  rcases hd with hd | hd
  · exact s.put hd m
  · refine ⟨fun a u h n => by rw [upd_ne (ne_of_none h hd)]; exact s.keep a u h n, fun a ha ⟨u, h, mu⟩ => ?_⟩
    rw [upd_ne (ne_of_none h hd)]
    exact s.mu a ha ⟨u, h, mu⟩
def DoneQ (c : Cf) (ρ : Sr) (s : S) (q : Nat × Int) : Prop := Cov c.L (kpGet ρ.rows) (begun c s q.1 q.2) ∧ ∀ e, Ends c.L (kpGet ρ.rows) (begun c s q.1 q.2) e → ∃ E, kpGet ρ.ends s = some E ∧ e ∈ E
section
variable {P : Program} {w : World} {K : PySem.W.Frag} {mg : Str → Option Value} {base : Heap}
abbrev SrWy (K : PySem.W.Frag) (w : World) (c : Cf) (cl : Cls K (aSearch K)) (T0 : Int) (ed rd ad wa : Addr) (sv0 : V) (M X D : List Addr) (r : Addr) (ρ : Sr) (kp : Kp) (e el kd dx : Addr) (H : Hp) : Prop := WyAt (srP K w c cl T0 ed rd ad wa sv0) M X D wa r ρ kp e el kd dx H
def spGrow (w : World) (K : PySem.W.Frag) (cl : Cls K (aSearch K)) : Sp := fun vs H Q _ => ∃ (c : Cf) (T0 : Int) (r ed rd ad wa : Addr) (sv0 : V) (ρ : Sr) (e el kd dx : Addr) (M X D : List Addr) (evs : List V), vs = [.ref r] ∧ c.Ok ∧ c.Few ∧ SrWy K w c cl T0 ed rd ad wa sv0 M X D r ρ [] e el kd dx H ∧
  cut M H el = some (.lst evs) ∧ NKs (cut M H) (c.ents.map entK) evs ∧
  ∀ (nf : Bool) (ρ' : Sr) (kp' : Kp) H' M', Chg M H H' → Ext M H M' H' → SrWy K w c cl T0 ed rd ad wa sv0 M' X D r ρ' kp' e el kd dx H' → (∀ t, Closed c t → Sound t ρ → Sound t ρ') → SrLe ρ ρ' → (nf = false ∧ ρ' = ρ ∧ Final c ρ ∨ nf = true ∧ size ρ < size ρ') → Q (.bl nf) H'
/-- where the loops of grow stand -/
structure GrSt (w : World) (K : PySem.W.Frag) (c : Cf) (cl : Cls K (aSearch K)) (T0 : Int) (ed rd ad wa : Addr) (sv0 : V) (M X D : List Addr) (r : Addr) (ρ : Sr) (e el kd dx : Addr) (H : Hp) (Mx : List Addr) (Hx : Hp) (ρx : Sr) (kpx : Kp) (nf : Bool) (Pd : Prop) : Prop where
  ch : Chg M H Hx
  ex : Ext M H Mx Hx
  wy : SrWy K w c cl T0 ed rd ad wa sv0 Mx X D r ρx kpx e el kd dx Hx
  kn : KN c.L kpx
  sd : ∀ t, Closed c t → Sound t ρ → Sound t ρx ∧ KS c.L (kpGet t) kpx
  le : SrLe ρ ρx
  dj : (nf = false ∧ ρx = ρ ∧ KX c.L (kpGet ρ.rows) kpx ∧ Pd) ∨ (nf = true ∧ n3 ρ.ends < n3 ρx.ends) ∨ ρ.asked.length < ρx.asked.length
theorem sc_Search_grow : FnScope ["self", "count", "new", "state", "entry", "end"] ["self"] (defScope s_Search_grow) := ⟨rfl, rfl, rfl, by decide +kernel, rfl, by decide +kernel, by decide +kernel⟩
theorem ok_grow {f : Addr} {fd : FuncData} (F : FnP K "grow" "Search.grow" s_Search_grow f fd) (T : Txt K mg) (m_Ways_of : C8.Met P w K mg base 12 (aWays K) "of" (spOf P w K mg base) []) (m_Search_meet : C8.Met P w K mg base 1 (aSearch K) "meet" (spMeet w K) [])
    (m_row : ∀ c T0 ed rd ad wa sv0, C8.Met P w K mg base 7 (aSearch K) "row_of" (spRow (srP K w c T.clSearch T0 ed rd ad wa sv0)) []) : FnOk P w K mg base CX0 13 f fd ["self"] (spGrow w K T.clSearch) := by
  refine F.ok sc_Search_grow (fun vs H Q E h => ?_) (fun cdv A outer s H vs Q E hr h => ?_)
  · obtain ⟨c, T0, r, ed, rd, ad, wa, sv0, ρ, e, el, kd, dx, M, X, D, evs, rfl, _⟩ := h
    rfl
  · obtain ⟨c, T0, r, ed, rd, ad, wa, sv0, ρ, e, el, kd, dx, M, X, D, evs, rfl, co, few, wy, helC, hevC, k⟩ := h
    have hu9 := hu9 hr
    have hu65 := hu65 hr
    refine ⟨_, PSs.nox ((pss_cons (ps_set (i := 1) sc_Search_grow.nd rfl (Or.inl rfl) (pe_op op_add (pe_callB call_nlen (by rfl) T.len bt_len (pa_cons (pe_fld (pv 0) rfl) pa_nil)) (pe_callB call_nlen (by rfl) T.len bt_len (pa_cons (pe_fld (pv 0) rfl) pa_nil))))
      (pss_cons (ps_set (i := 2) sc_Search_grow.nd rfl (Or.inl rfl) pe_bl)
      (pss_cons (ps_for PassesOwn.never rfl (pi_list (pe_callTy (call_nlist rfl) (by rfl) T.list bt_list (pa_cons (pe_fld (pv 0) rfl) pa_nil))) (pg_name (i := 3) sc_Search_grow.nd rfl (Or.inl rfl)) (pss_one (ps_for PassesOwn.never rfl (pi_list (pe_fld (pe_fld (pv 0) rfl) rfl)) (pg_name (i := 4) sc_Search_grow.nd rfl (Or.inl rfl)) (pss_one (ps_for PassesOwn.never rfl (pi_list (C8.pe_mt m_Ways_of hr (by decide) (pe_fld (pv 0) rfl) (pa_cons (pv 3) (pa_cons (pv 4) pa_nil)))) (pg_name (i := 5) sc_Search_grow.nd rfl (Or.inl rfl)) (pss_one (ps_if (pt_cmpR (op_notInDK (K := K) hu65 rfl) (pv 5) (pe_nget hu9 (pe_fld (pv 0) rfl) (pv 3) (fun _ _ => rfl)) (by rfl)) (pss_cons (ps_expr (pe_bm PySem.F.plainAttrs_list PySem.F.slot_list_append PySem.F.type_list_append mt_append (pe_nget hu9 (pe_fld (pv 0) rfl) (pv 3) (fun _ _ => rfl)) (pa_cons (pv 5) pa_nil)))
      (pss_cons (ps_expr (C8.pe_mt m_Search_meet hr (by decide) (pv 0) (pa_cons (pv 5) pa_nil)))
      (pss_one (ps_set (i := 2) sc_Search_grow.nd rfl (Or.inl rfl) pe_bl)))) pss_nil)))))))
      (pss_one (ps_ret (pe_or (pv 2) (pe_one (pe_cmpR op_gt (pe_op op_add (pe_callB call_nlen (by rfl) T.len bt_len (pa_cons (pe_fld (pv 0) rfl) pa_nil)) (pe_callB call_nlen (by rfl) T.len bt_len (pa_cons (pe_fld (pv 0) rfl) pa_nil))) (pv 1) (nomark _)))))))))), ?_⟩
    dsimp only [cxOf, Cx.nox]
    have hg : SrGood c T0 ρ := wy.gd
    have hi : SrIn K w c.nv c.na ed rd ad wa sv0 M X D r ρ H := wy.iv
    obtain ⟨dxr, hr1⟩ := hi.ins
    obtain ⟨eas, g1, g2, g3⟩ := hi.en
    have ek := g2.keys
    obtain ⟨xs, x1, x2, x3⟩ := g1
    obtain ⟨ys, y1, y2, y3⟩ := hi.ak
    have lex := cut_le M H
    have xl : xs.length = ρ.ends.length := by rw [x3.length, ← List.length_map (f := fun x : S × Addr => x.1), ek]; unfold keys; rw [List.length_map]
    have yl : ys.length = ρ.asked.length := by rw [y3.length]; unfold fu; rw [List.length_map]
    refine ⟨_, rfl, r, _, dxr, _, _, rfl, hr1, T.clSearch, T.nSearch_ends, rfl, ed, xs, rfl, .inl x1, x2.tx (TX.same lex), ?_⟩
    refine ⟨_, rfl, r, _, dxr, _, _, rfl, hr1, T.clSearch, T.nSearch_asked, rfl, ad, ys, rfl, .inl y1, y2.tx (TX.same lex), _, _, rfl, rfl, ?_⟩
    refine ⟨_, rfl, r, _, dxr, _, _, rfl, hr1, T.clSearch, T.nSearch_ends, rfl, ed, xs, rfl, .inl x1, x2.tx (TX.same lex), fun p0 np0 => ?_⟩
    have s1 := new_same (o := HO.lst (refsN xs)) np0
    have p0M := wy.th.new np0
    have p0u := upd_same (H := H) (a := p0) (o := HO.lst (refsN xs))
    generalize upd H p0 (HO.lst (refsN xs)) = H1 at s1 p0u ⊢
    have p0C := cut_of (M := M) p0u p0M
    have c1 := Same.cut (M := M) s1
    have p0N : NKs (cut M H1) ((keys ρ.ends).map (eS c.nv c.na)) (refsN xs) := by
      have := x3.refs (H := cut M H) x2
      rw [← ek, List.map_map]
      exact NKs.tx (TX.same c1) _ _ this
    have wy1 := WyAt.same s1 wy
    have helC1 := c1 _ _ helC
    have hevC1 := NKs.tx (TX.same c1) _ _ hevC
    have st0 : GrSt w K c T.clSearch T0 ed rd ad wa sv0 M X D r ρ e el kd dx H1 M H1 ρ [] false (∀ s ∈ (keys ρ.ends).take 0, ∀ q ∈ c.ents, DoneQ c ρ s q) := ⟨Chg.refl _ _, Ext.refl wy1.th, wy1, (fun y hy => nomatch hy), fun t _ hs => ⟨hs, fun y hy => nomatch hy⟩, SrLe.refl ρ, .inl ⟨rfl, rfl, (fun y hy => nomatch hy), fun s hs => by simp at hs⟩⟩
    have fin : ∀ {Mx : List Addr} {Hx : Hp} {ρx : Sr} {kpx : Kp} {nf : Bool} {Pd : Prop}, GrSt w K c T.clSearch T0 ed rd ad wa sv0 M X D r ρ e el kd dx H1 Mx Hx ρx kpx nf Pd → (Pd → Final c ρ) → ∀ (bv : Bool), (nf = true → bv = true) → (nf = false → (bv = true ↔ ρ.ends.length + ρ.asked.length < ρx.ends.length + ρx.asked.length)) → Q (.bl bv) Hx := by
      intro Mx Hx ρx kpx nf Pd g hpd bv h1 h2
      refine k bv ρx kpx Hx Mx ((Chg.same s1).trans g.ch) ((Ext.same wy.th s1).trans g.ex) g.wy (fun t hc hs => (g.sd t hc hs).1) g.le ?_
      have l1 := g.le.l1
      have l2 := g.le.l2
      have l3 := g.le.l3
      rcases g.dj with ⟨a1, a2, a3, a4⟩ | ⟨a1, a2⟩ | a1
      · left
        refine ⟨?_, a2, hpd a4⟩
        have := h2 a1
        subst a2
        cases bv with
        | false => rfl
        | true => exact absurd (this.mp rfl) (Nat.lt_irrefl _)
      · right
        exact ⟨h1 a1, by unfold size; omega⟩
      · right
        refine ⟨?_, by unfold size; omega⟩
        cases hn : nf with
        | true => exact h1 hn
        | false => exact (h2 hn).mpr (by omega)
    refine ⟨p0, rfl, ⟨_, SqL.of p0u⟩, for_list (K := K) (xs := refsN xs) (fun i σ Hx => ∃ x3 x4 x5 Mx ρx kpx nf, σ = [some (.ref r), some (.int ((xs.length : Nat) + (ys.length : Nat) : Int)), some (.bl nf), x3, x4, x5] ∧ GrSt w K c T.clSearch T0 ed rd ad wa sv0 M X D r ρ e el kd dx H1 Mx Hx ρx kpx nf (∀ s ∈ (keys ρ.ends).take i, ∀ q ∈ c.ents, DoneQ c ρ s q))
      ⟨_, _, _, M, ρ, [], false, rfl, st0⟩ (fun i σ Hx _ ⟨_, _, _, _, _, _, _, _, g⟩ => SqL.of (cut_le _ _ _ _ (g.ex.sm _ _ p0C))) ?_ ?_⟩
    · rintro i sv σ Hx hisv ⟨x3, x4, x5, Mx, ρx, kpx, nf, rfl, g⟩
      obtain ⟨s0, hs0, ns0⟩ := NKs.at p0N hisv
      have ks0 := List.mem_of_getElem? hs0
      have ns0x := NK.tx (TX.same g.ex.sm) _ _ ns0
      have hix : SrIn K w c.nv c.na ed rd ad wa sv0 Mx X D r ρx Hx := g.wy.iv
      obtain ⟨dxx, hrx⟩ := hix.ins
      refine ⟨_, rfl, r, _, dxx, _, _, rfl, hrx, T.clSearch, T.nSearch_ways, rfl, wa, _, dx, _, _, rfl, g.wy.hw, T.clWays, T.nWays_entries, rfl, el, rfl, ⟨_, SqL.of (cut_le _ _ _ _ (g.ex.sm _ _ helC1))⟩, for_list (K := K) (xs := evs) (fun m σ Hy => ∃ x4 x5 My ρy kpy nf, σ = [some (.ref r), some (.int ((xs.length : Nat) + (ys.length : Nat) : Int)), some (.bl nf), some sv, x4, x5] ∧ GrSt w K c T.clSearch T0 ed rd ad wa sv0 M X D r ρ e el kd dx H1 My Hy ρy kpy nf ((∀ s ∈ (keys ρ.ends).take i, ∀ q ∈ c.ents, DoneQ c ρ s q) ∧ ∀ q ∈ c.ents.take m, DoneQ c ρ s0 q))
        ⟨_, _, Mx, ρx, kpx, nf, rfl, ⟨g.ch, g.ex, g.wy, g.kn, g.sd, g.le, g.dj.imp (fun ⟨a1, a2, a3, a4⟩ => ⟨a1, a2, a3, a4, fun q hq => by simp at hq⟩) id⟩⟩ (fun i σ Hy _ ⟨_, _, _, _, _, _, _, g⟩ => SqL.of (cut_le _ _ _ _ (g.ex.sm _ _ helC1))) ?_ ?_⟩
      · clear ns0x hix hrx g
        rintro m ev σ Hy hm ⟨x4, x5, My, ρy, kpy, nf, rfl, g⟩
        obtain ⟨q, hq, nq⟩ := NKs.at hevC1 hm
        have mq := List.mem_of_getElem? hq
        have hiy : SrIn K w c.nv c.na ed rd ad wa sv0 My X D r ρy Hy := g.wy.iv
        have hgy : SrGood c T0 ρy := g.wy.gd
        obtain ⟨dxy, hry⟩ := hiy.ins
        have vs0 := hg.e2 s0 ks0
        have po := co.begun (tot := fun t => t = T0) vs0 (i := q.1) (g := q.2) mq
        have hfew := few s0 q mq
        have cnt := aft_cnt (G := srG c T0) co.ln (fun ρ s hg => by
          show (rowS ρ s).1.length ≤ 22
          unfold rowS
          split
          · cases e : kpGet ρ.rows s with
            | none => exact Nat.zero_le _
            | some l => exact Nat.le_trans (SrGood.row_len (hg.r2 _ (kpGet_mem e)).1 fun x hx => hg.e2 x ((hg.r2 _ (kpGet_mem e)).2 x hx)) (by decide)
          · exact (by show 1 ≤ 22; decide)) 3 (ρy, kpy) (begun c s0 q.1 q.2) hgy g.wy.ko po g.kn
        have cle : (aft rowS c.L 3 (ρy, kpy) (begun c s0 q.1 q.2)).1.2 ≤ 2000 := Nat.le_trans cnt.1 (Nat.le_trans (Nat.pow_le_pow_right (by decide) (Nat.le_of_lt_succ hfew)) (by decide))
        refine ⟨_, rfl, r, _, dxy, _, _, rfl, hry, T.clSearch, T.nSearch_ways, rfl, wa, dx, _, rfl, g.wy.hw, rfl, _, rfl, _, rfl, c, Sr, srP K w c T.clSearch T0 ed rd ad wa sv0, wa, r, sv, ev, s0, q.1, q.2, ρy, kpy, e, el, kd, dx, My, X, D, rfl, m_row c T0 ed rd ad wa sv0, co, g.wy, NK.tx (TX.same g.ex.sm) _ _ ns0, vs0, mq, NK.tx (TX.same g.ex.sm) _ _ nq, hfew, cle, fun v Hw Mw chw exw wyw lsw => ?_⟩
        have okz : AftOk c (srG c T0) (aft rowS c.L 3 (ρy, kpy) (begun c s0 q.1 q.2)) := aft_ok (G := srG c T0) co.ln 3 (ρy, kpy) (begun c s0 q.1 q.2) hgy g.wy.ko po
        have knz : KN c.L (aft rowS c.L 3 (ρy, kpy) (begun c s0 q.1 q.2)).2.2 := cnt.2
        have lez := aft_le (L := c.L) 3 (ρy, kpy) (begun c s0 q.1 q.2)
        have sdz : ∀ t, Closed c t → Sound t ρ → Sound t (aft rowS c.L 3 (ρy, kpy) (begun c s0 q.1 q.2)).2.1 ∧ KS c.L (kpGet t) (aft rowS c.L 3 (ρy, kpy) (begun c s0 q.1 q.2)).2.2 ∧ ∀ e ∈ (aft rowS c.L 3 (ρy, kpy) (begun c s0 q.1 q.2)).1.1, ∀ b row, kpGet t b = some row → s0 ∈ row → e ∈ row := fun t hc hs => by
          obtain ⟨b, row, hb, hbs⟩ := hs.s4 s0 ks0
          obtain ⟨h1, h2⟩ := g.sd t hc hs
          obtain ⟨j1, j2, j3⟩ := aft_sound co.ln hc 3 (ρy, kpy) (begun c s0 q.1 q.2) hgy g.wy.ko po h1 h2 ((hc.2 b row hb).2 s0 hbs q mq).1
          exact ⟨j1, j2, fun e he b' row' hb' hbs' => ((hc.2 b' row' hb').2 s0 hbs' q mq).2 e (j3 e he)⟩
        have exz : ρy = ρ → KX c.L (kpGet ρ.rows) kpy → ((aft rowS c.L 3 (ρy, kpy) (begun c s0 q.1 q.2)).2.1 = ρ ∧ KX c.L (kpGet ρ.rows) (aft rowS c.L 3 (ρy, kpy) (begun c s0 q.1 q.2)).2.2 ∧ Cov c.L (kpGet ρ.rows) (begun c s0 q.1 q.2) ∧ ∀ e, e ∈ (aft rowS c.L 3 (ρy, kpy) (begun c s0 q.1 q.2)).1.1 ↔ Ends c.L (kpGet ρ.rows) (begun c s0 q.1 q.2) e) ∨
            ρ.asked.length < (aft rowS c.L 3 (ρy, kpy) (begun c s0 q.1 q.2)).2.1.asked.length := fun e1 e2 => by
          subst e1
          exact aft_exact co.ln hg 3 kpy (begun c s0 q.1 q.2) g.wy.ko po hfew e2
        have e9 : aft (srP K w c T.clSearch T0 ed rd ad wa sv0).row c.L 3 (ρy, kpy) (begun c s0 q.1 q.2) = aft rowS c.L 3 (ρy, kpy) (begun c s0 q.1 q.2) := rfl
        rw [e9] at wyw lsw
        clear cnt cle e9
        generalize aft rowS c.L 3 (ρy, kpy) (begun c s0 q.1 q.2) = z at wyw lsw okz knz lez sdz exz
        obtain ⟨⟨zE, zn⟩, ρ1, kp1⟩ := z
        obtain ⟨fl, fvs, rfl, flh, fln⟩ := lsw
        -- after the call
        have g1st : GrSt w K c T.clSearch T0 ed rd ad wa sv0 M X D r ρ e el kd dx H1 Mw Hw ρ1 kp1 nf (((∀ s ∈ (keys ρ.ends).take i, ∀ q ∈ c.ents, DoneQ c ρ s q) ∧ ∀ q ∈ c.ents.take m, DoneQ c ρ s0 q) ∧ Cov c.L (kpGet ρ.rows) (begun c s0 q.1 q.2) ∧ (∀ e, e ∈ zE ↔ Ends c.L (kpGet ρ.rows) (begun c s0 q.1 q.2) e) ∧ ∀ e ∈ zE.take 0, ∃ E, kpGet ρ.ends s0 = some E ∧ e ∈ E) := by
          refine ⟨g.ch.trans (chw.mono wy1.dM), g.ex.trans exw, wyw, knz, fun t hc hs => ⟨(sdz t hc hs).1, (sdz t hc hs).2.1⟩, g.le.trans lez, ?_⟩
          · rcases g.dj with ⟨a1, a2, a3, a4⟩ | ⟨a1, a2⟩ | a1
            · rcases exz a2 a3 with ⟨b1, b2, b3, b4⟩ | b1
              · exact .inl ⟨a1, b1, b2, a4, b3, b4, fun e he => by simp at he⟩
              · exact .inr (.inr b1)
            · exact .inr (.inl ⟨a1, Nat.lt_of_lt_of_le a2 lez.l3⟩)
            · exact .inr (.inr (Nat.lt_of_lt_of_le a1 lez.l2))
        refine ⟨fl, rfl, ⟨_, SqL.of (cut_le _ _ _ _ flh)⟩, for_list (K := K) (xs := fvs) (fun j σ Hz => ∃ x5 Mz ρz nfz, σ = [some (.ref r), some (.int ((xs.length : Nat) + (ys.length : Nat) : Int)), some (.bl nfz), some sv, some ev, x5] ∧ Same (cut Mw Hw) (cut Mz Hz) ∧ GrSt w K c T.clSearch T0 ed rd ad wa sv0 M X D r ρ e el kd dx H1 Mz Hz ρz kp1 nfz (((∀ s ∈ (keys ρ.ends).take i, ∀ q ∈ c.ents, DoneQ c ρ s q) ∧ ∀ q ∈ c.ents.take m, DoneQ c ρ s0 q) ∧ Cov c.L (kpGet ρ.rows) (begun c s0 q.1 q.2) ∧ (∀ e, e ∈ zE ↔ Ends c.L (kpGet ρ.rows) (begun c s0 q.1 q.2) e) ∧ ∀ e ∈ zE.take j, ∃ E, kpGet ρ.ends s0 = some E ∧ e ∈ E))
          ⟨_, Mw, ρ1, nf, rfl, Same.refl _, g1st⟩ (fun j σ Hz _ ⟨_, _, _, _, _, sm, _⟩ => SqL.of (cut_le _ _ _ _ (sm _ _ flh))) ?_ ?_⟩
        · clear g1st wyw chw exw hiy hry g
          rintro j xv σ Hz hj ⟨x5, Mz, ρz, nfz, rfl, sm, g⟩
          obtain ⟨e', he', ne'⟩ := NKs.at fln hj
          have ve : vS c.nv c.na (fun t => t = T0) e' := okz.vs e' (List.mem_of_getElem? he')
          have hiz : SrIn K w c.nv c.na ed rd ad wa sv0 Mz X D r ρz Hz := g.wy.iv
          have hgz : SrGood c T0 ρz := g.wy.gd
          obtain ⟨dxz, hrz⟩ := hiz.ins
          obtain ⟨eaz, q1, q2, q3⟩ := hiz.en
          have ekz := q2.keys
          have s0z := g.le.ks s0 ks0
          have le := cut_le Mz Hz
          have ns0z := NK.tx (TX.same g.ex.sm) _ _ ns0
          have nez := NK.tx (TX.same sm) _ _ ne'
          obtain ⟨sb, rfl⟩ : ∃ b, sv = V.ref b := by
            cases ns0z with
            | tup _ _ => exact ⟨_, rfl⟩
          have inj : ∀ y ∈ eaz, eS c.nv c.na y.1 = eS c.nv c.na s0 → y.1 = s0 := fun y hy z => eS_inj (hgz.e2 _ (by rw [← ekz]; exact List.mem_map.mpr ⟨y, hy, rfl⟩)).1 vs0.1 z
          rcases q1.nget inj (NK.tx (TX.same le) _ _ ns0z) (depth_eS _ _ _) with ⟨m1, _⟩ | ⟨la, v', m1, m2, rfl⟩
          · exact absurd (by rw [ekz]; exact s0z) (kpGet_none.mp m1)
          have mla := kpGet_mem m1
          obtain ⟨j2, hj2, ej2⟩ := List.getElem_of_mem mla
          obtain ⟨⟨y1', es⟩, hy, k1, k2, k3, evs', k4, k5⟩ := Paired.at2 q2 (show eaz[j2]? = some (s0, la) by rw [List.getElem?_eq_getElem hj2, ej2])
          cases k1
          have hes : kpGet ρz.ends s0 = some es := kpGet_of hgz.e1 (List.mem_of_getElem? hy)
          have hE := hgz.e3 _ (kpGet_mem hes)
          obtain ⟨d, ds, D1, D2, Sh1, Sh2, eqv⟩ := inD_at (K := K) (NK.tx (TX.same le) _ _ nez) (SqL.of k4) (NKs.tx (TX.same le) _ _ k5) ve.1 (fun x hx => (hgz.e2 x (hE.2 x hx)).1)
          have takeS : ∀ x ∈ zE.take (j + 1), x ∈ zE.take j ∨ x = e' := fun x hx => by
            rw [List.take_succ, he'] at hx
            exact (List.mem_append.mp hx).imp id List.mem_singleton.mp
          refine ⟨_, rfl, _, rfl, r, _, dxz, _, _, rfl, hrz, T.clSearch, T.nSearch_ends, rfl, _, rfl, ed, _, rfl, m2, d, ds, D1, D2, Sh1, Sh2, _, rfl, ?_⟩
          rw [eqv]
          by_cases hin : e' ∈ es
          · refine ifF (by simp [hin]) ?_
            refine ⟨_, Mz, ρz, nfz, rfl, sm, ⟨g.ch, g.ex, g.wy, g.kn, g.sd, g.le, g.dj.imp (fun ⟨a1, a2, a3, a4, a5, a6, a7⟩ => ⟨a1, a2, a3, a4, a5, a6, fun x hx => ?_⟩) id⟩⟩
            rcases takeS x hx with hx | rfl
            · exact a7 x hx
            · rw [a2] at hes
              exact ⟨es, hes, hin⟩
          · refine ifT (by simp [hin]) ?_
            have esl : es.length ≤ 10 := SrGood.row_len hE.1 fun x hx => hgz.e2 x (hE.2 x hx)
            have evl : evs'.length = es.length := by rw [← k5.length, List.length_map]
            refine ⟨_, rfl, r, _, dxz, _, _, rfl, hrz, T.clSearch, T.nSearch_ends, rfl, _, rfl, ed, _, rfl, m2, .inl ⟨rfl, _, SqL.of k4⟩, _, rfl, la, evs', _, rfl, rfl, k4, szl (by omega), ?_⟩
            have hia := hiz.app hgz.e1 q1 q2 q3 mla hes k4 k5 nez k2
            have cha : Chg [la] Hz (upd Hz la (.lst (evs' ++ [xv]))) := (Chg.refl _ _).put (List.mem_singleton_self la) True.intro
            have laM : ∀ a ∈ [la], a ∈ Mz := fun a ha => by rw [List.mem_singleton.mp ha]; exact k2
            have exa : Ext Mz Hz Mz (upd Hz la (.lst (evs' ++ [xv]))) := Ext.chg g.wy.th cha laM
            have chM : Chg M H1 (upd Hz la (.lst (evs' ++ [xv]))) := g.ch.putN (g.ex.nw la k2) True.intro
            have nwl : wa ≠ la := fun z => by have := g.wy.hw; rw [z, k4] at this; cases this
            have nkl : kd ≠ la := fun z => by
              obtain ⟨xs, h9, _⟩ := g.wy.kq
              rw [z, k4] at h9
              cases h9
            generalize upd Hz la (.lst (evs' ++ [xv])) = Ha at hia cha exa chM ⊢
            obtain ⟨dxa, hra⟩ := hia.ins
            have hsk := kpPut_same_keys (v := es ++ [e']) s0z
            refine ⟨_, rfl, r, dxa, _, rfl, hra, rfl, _, rfl, c, T0, r, ed, rd, ad, wa, sv0, xv, e', _, Mz, X, D, rfl, hia, exa.th, g.wy.xM, NK.tx (TX.same exa.sm) _ _ nez, ve, ?_, ?_, fun Hm Mm chm exm him => ?_⟩
            · show (keys (kpPut ρz.ends s0 (es ++ [e']))).Nodup
              rw [hsk]; exact hgz.e1
            · intro x hx
              have hx' : x ∈ keys (kpPut ρz.ends s0 (es ++ [e'])) := hx
              rw [hsk] at hx'
              exact hgz.e2 x hx'
            obtain ⟨lea, ln3⟩ := addE_le (e := e') hgz.e1 hes
            have exam := exa.trans exm
            have wym : SrWy K w c T.clSearch T0 ed rd ad wa sv0 Mm X D r (addE ρz s0 es e') kp1 e el kd dx Hm := g.wy.step (N := la :: D) ((cha.mono fun a ha => by rw [List.mem_singleton.mp ha]; exact List.mem_cons_self).trans (chm.mono fun a ha => List.mem_cons_of_mem _ ha)) exam (fun z => (List.mem_cons.mp z).elim nwl fun z => g.wy.wD (List.mem_cons_of_mem _ z)) (fun z => (List.mem_cons.mp z).elim nkl g.wy.kD) him (addE_good hgz hes ve hin)
            refine ⟨_, Mm, addE ρz s0 es e', true, rfl, sm.trans exam.sm, ⟨chM.trans (chm.mono fun a ha => wy1.dM a (List.mem_cons_of_mem _ ha)), g.ex.trans exam, wym, g.kn, fun t hc hs => ⟨addE_sound (c := c) (g.sd t hc hs).1 hes ((sdz t hc hs).2.2 e' (List.mem_of_getElem? he')), (g.sd t hc hs).2⟩, g.le.trans lea, .inr (.inl ⟨rfl, ?_⟩)⟩⟩
            have := g.le.l3
            omega
        · rintro σ Hz ⟨x5, Mz, ρz, nfz, rfl, sm, g⟩
          rw [← fln.length, List.length_map, List.take_length] at g
          refine ⟨_, _, Mz, ρz, kp1, nfz, rfl, ⟨g.ch, g.ex, g.wy, g.kn, g.sd, g.le, g.dj.imp (fun ⟨a1, a2, a3, ⟨a4, a5⟩, a6, a7, a8⟩ => ⟨a1, a2, a3, a4, fun q' hq' => ?_⟩) id⟩⟩
          rw [List.take_succ, hq] at hq'
          rcases List.mem_append.mp hq' with hq' | hq'
          · exact a5 q' hq'
          · rw [List.mem_singleton.mp hq']
            exact ⟨a6, fun e he => a8 e ((a7 e).mpr he)⟩
      · rintro σ Hy ⟨x4, x5, My, ρy, kpy, nf, rfl, g⟩
        rw [← hevC1.length, List.length_map, List.take_length] at g
        refine ⟨_, _, _, My, ρy, kpy, nf, rfl, ⟨g.ch, g.ex, g.wy, g.kn, g.sd, g.le, g.dj.imp (fun ⟨a1, a2, a3, a4, a5⟩ => ⟨a1, a2, a3, fun s hs q hq => ?_⟩) id⟩⟩
        rw [List.take_succ, hs0] at hs
        rcases List.mem_append.mp hs with hs | hs
        · exact a4 s hs q hq
        · rw [List.mem_singleton.mp hs]
          exact a5 q hq
    · rintro σ Hx ⟨x3, x4, x5, Mx, ρx, kpx, nf, rfl, g⟩
      rw [← p0N.length, List.length_map, List.take_length] at g
      have hix : SrIn K w c.nv c.na ed rd ad wa sv0 Mx X D r ρx Hx := g.wy.iv
      obtain ⟨dxx, hrx⟩ := hix.ins
      obtain ⟨eas', g1', g2', _⟩ := hix.en
      obtain ⟨xs', x1', x2', x3'⟩ := g1'
      obtain ⟨ys', y1', y2', y3'⟩ := hix.ak
      have lex' := cut_le Mx Hx
      have xl' : xs'.length = ρx.ends.length := by
        have := congrArg List.length g2'.keys
        rw [List.length_map] at this
        rw [x3'.length, this]
        unfold keys
        rw [List.length_map]
      have yl' : ys'.length = ρx.asked.length := by rw [y3'.length]; unfold fu; rw [List.length_map]
      have hpd : (∀ s ∈ keys ρ.ends, ∀ q ∈ c.ents, DoneQ c ρ s q) → Final c ρ := fun h => h
      cases nf with
      | true => exact ⟨_, rfl, true, rfl, ifT rfl (fin g hpd true (fun _ => rfl) fun z => nomatch z)⟩
      | false =>
        refine ⟨_, rfl, false, rfl, ifF rfl ?_⟩
        refine ⟨_, rfl, r, _, dxx, _, _, rfl, hrx, T.clSearch, T.nSearch_ends, rfl, ed, xs', rfl, .inl x1', x2'.tx (TX.same lex'), ?_⟩
        refine ⟨_, rfl, r, _, dxx, _, _, rfl, hrx, T.clSearch, T.nSearch_asked, rfl, ad, ys', rfl, .inl y1', y2'.tx (TX.same lex'), _, _, rfl, rfl, ?_⟩
        refine ⟨_, rfl, _, _, rfl, rfl, fin g hpd _ (fun z => nomatch z) fun _ => ?_⟩
        rw [decide_eq_true_eq]
        omega
theorem met_grow {f : Addr} {fd : FuncData} (F : FnP K "grow" "Search.grow" s_Search_grow f fd) (T : Txt K mg) (me : Meth K (aSearch K) "grow" f) (m_Ways_of : C8.Met P w K mg base 12 (aWays K) "of" (spOf P w K mg base) []) (m_Search_meet : C8.Met P w K mg base 1 (aSearch K) "meet" (spMeet w K) [])
    (m_row : ∀ c T0 ed rd ad wa sv0, C8.Met P w K mg base 7 (aSearch K) "row_of" (spRow (srP K w c T.clSearch T0 ed rd ad wa sv0)) []) : C8.Met P w K mg base 13 (aSearch K) "grow" (spGrow w K T.clSearch) [] :=
  ⟨f, fd, _, [], T.clSearch, me, ok_grow F T m_Ways_of m_Search_meet m_row, F.bindsN fun _ _ _ _ _ _ us hl => match us, hl with | [_], _ => rfl, .nil⟩
end
end NC
set_option Elab.async false
set_option linter.all false
set_option maxRecDepth 100000
set_option maxHeartbeats 4000000
/-! Search.__init__. -/
namespace NC
open PySem PySem.Spec PyProof.Rows L2
abbrev sF0 (y p : Addr) : List (Str × V) := [("ways", .ref y), ("start", .ref p)]
def tot0 (c : Cf) : Int := (first c).h + (first c).o
theorem HsAt.but {K : PySem.W.Frag} {H H' : Hp} {x : Addr} {c : Cf} {v : V} (h : HsAt K H c v) (s : SameBut x H H') (n : ∀ o, H x = some o → ¬ engO o) : HsAt K H' c v := by
  have k : ∀ {a : Addr} {o : HO}, H a = some o → engO o → H' a = some o := fun h g => s _ _ h fun z => n _ (by rw [← z]; exact h) g
  have t : TX H H' := fun a xs h => k h True.intro
  obtain ⟨ha, hdx, as, cs, ct, vs, rfl, g1, g2, g3, g4, g5⟩ := h
  exact ⟨ha, hdx, as, cs, ct, vs, rfl, k g1 rfl, t _ _ g2, NKs.tx t _ _ g3, t _ _ g4, g5.tx t fun a xs ⟨o, h, d⟩ => ⟨o, k h True.intro, d⟩⟩
section
variable {P : Program} {w : World} {K : PySem.W.Frag} {mg : Str → Option Value} {base : Heap}
def spSearch (w : World) (K : PySem.W.Frag) : Sp := fun vs H Q _ => ∃ (x dx : Addr) (hv : V) (c : Cf), vs = [.ref x, hv, .non] ∧ H x = some (.ins (aSearch K) dx []) ∧ HsAt K H c hv ∧ c.Ok ∧ c.Few ∧
  ∀ H' M X D ρ ed rd ad wa sv, SameBut x H H' → SrIn K w c.nv c.na ed rd ad wa sv M X D x ρ H' → NK (cut M H') (eS c.nv c.na (first c)) sv → Thr M H' → SrGood c (tot0 c) ρ → Closed c ρ.rows → (∀ t, Closed c t → Sound t ρ) → (∃ l, ρ.asked = first c :: l) → (∀ a ∈ M, a = x ∨ H a = none) → Q .non H'
/-- where the loop of Search.__init__ stands -/
structure SiSt (w : World) (K : PySem.W.Frag) (c : Cf) (cl : Cls K (aSearch K)) (ed rd ad y : Addr) (sv : V) (x : Addr) (e el dy : Addr) (evs : List V) (H : Hp) (M X D : List Addr) (kd : Addr) (kp : Kp) (ρ : Sr) (Hx : Hp) : Prop where
  bs : SameBut x H Hx
  nw : ∀ a ∈ M, a = x ∨ H a = none
  wy : SrWy K w c cl (tot0 c) ed rd ad y sv M X D x ρ kp e el kd dy Hx
  yM : y ∈ M
  yX : y ∈ X
  xx : x ∉ X
  hel : cut M Hx el = some (.lst evs)
  hev : NKs (cut M Hx) (c.ents.map entK) evs
  hsv : NK (cut M Hx) (eS c.nv c.na (first c)) sv
  sd : ∀ t, Closed c t → Sound t ρ
  hd : ∃ l, ρ.asked = first c :: l
theorem SiSt.same {w : World} {K : PySem.W.Frag} {c : Cf} {cl : Cls K (aSearch K)} {ed rd ad y : Addr} {sv : V} {x e el dy : Addr} {evs : List V} {H : Hp} {M X D : List Addr} {kd : Addr} {kp : Kp} {ρ : Sr} {Hx Hy : Hp} (s : Same Hx Hy) (h : SiSt w K c cl ed rd ad y sv x e el dy evs H M X D kd kp ρ Hx) :
    SiSt w K c cl ed rd ad y sv x e el dy evs H M X D kd kp ρ Hy :=
  ⟨fun a o z n => s _ _ (h.bs a o z n), h.nw, WyAt.same s h.wy, h.yM, h.yX, h.xx, Same.cut s _ _ h.hel, NKs.tx (TX.same (Same.cut s)) _ _ h.hev, NK.tx (TX.same (Same.cut s)) _ _ h.hsv, h.sd, h.hd⟩
theorem sc_Search_init : FnScope ["self", "house", "state", "begin"] ["self", "house", "state"] (defScope s_Search_init) := ⟨rfl, rfl, rfl, by decide +kernel, rfl, by decide +kernel, by decide +kernel⟩
theorem ok_Search {f : Addr} {fd : FuncData} (F : FunD K "__init__" "Search.__init__" (defArgs s_Search_init) (defBody s_Search_init) (defScope s_Search_init) [V.non] [] f fd) (T : Txt K mg) (k_Ways : C8.Mak P w K mg base 6 "Ways" (aWays K) (spWays w K) []) (c_first_state : C8.Cal P w K mg base 1 "first_state" (spFirst K) []) (m_Search_grow : C8.Met P w K mg base 13 (aSearch K) "grow" (spGrow w K T.clSearch) [])
    (m_Search_closed : C8.Met P w K mg base 1 (aSearch K) "closed" (spCls w K) []) (m_Ways_forget : C8.Met P w K mg base 1 (aWays K) "forget" (spForget w K) []) : FnOk P w K mg base CX0 14 f fd ["self", "house", "state"] (spSearch w K) := by
  refine F.ok sc_Search_init (fun vs H Q E h => ?_) (fun cdv A outer s H vs Q E hr h => ?_)
  · obtain ⟨x, dx, hv, c, rfl, _⟩ := h
    rfl
  · obtain ⟨x, dx, hv, c, rfl, hx, hh, co, few, k⟩ := h
    have hu9 := hu9 hr
    refine ⟨_, PSs.nox ((pss_cons (ps_fld (pv 0) (C8.pe_mk k_Ways hr (by decide) (by rfl) (pa_cons (pv 1) (pa_cons (pv 0) pa_nil))) rfl)
      (pss_cons (ps_fld (pv 0) (pv 2) rfl)
      (pss_cons (ps_if (pt_cmpR op_isN (pv 2) pe_non (nomark _)) (pss_one (ps_fld (pv 0) (C8.pe_c c_first_state hr (by decide) (by rfl) (pa_cons (pv 1) pa_nil)) rfl)) pss_nil)
      (pss_cons (ps_fld (pv 0) (pe_nd1 hu9 (pe_fld (pv 0) rfl) (pe_lst pa_nil)) rfl)
      (pss_cons (ps_fld (pv 0) (pe_nd1 hu9 (pe_fld (pv 0) rfl) (pe_lst (pa_cons (pe_fld (pv 0) rfl) pa_nil))) rfl)
      (pss_cons (ps_fld (pv 0) (pe_nd1 hu9 (pe_fld (pv 0) rfl) pe_bl) rfl)
      (pss_one (ps_while PassesOwn.never (pt_val (C8.pe_mt0 m_Search_grow hr (by decide) (pv 0))) (pss_cons (ps_for PassesOwn.never rfl (pi_list (pe_callTy (call_nlist rfl) (by rfl) T.list bt_list (pa_cons (pe_fld (pv 0) rfl) pa_nil))) (pg_name (i := 3) sc_Search_init.nd rfl (Or.inl rfl)) (pss_one (ps_nput hu9 (pe_fld (pv 0) rfl) (pv 3) (C8.pe_mt m_Search_closed hr (by decide) (pv 0) (pa_cons (pv 3) pa_nil)) rfl)))
      (pss_one (ps_expr (C8.pe_mt0 m_Ways_forget hr (by decide) (pe_fld (pv 0) rfl)))))))))))))), ?_⟩
    dsimp only [cxOf, Cx.nox]
    refine ⟨_, rfl, _, rfl, fun y dy ny ndy ney => ?_⟩
    have sy0 : Same H (upd (upd H dy (.own y)) y (.ins (aWays K) dy [])) := (new_same ndy).trans (new_same (by rw [upd_ne (Ne.symm ney)]; exact ny))
    refine ⟨y, dy, x, hv, c, rfl, upd_same, hh.same sy0, co, fun H1 e el kd evs s1 y1 en1 el1 evn1 kd1 nkd => ⟨rfl, ?_⟩⟩
    have S1 : Same H H1 := same_made ny ndy s1
    have nkd0 : H kd = none := none_upd (none_upd nkd)
    have hx1 := S1 _ _ hx
    refine ⟨_, rfl, x, _, dx, _, rfl, hx1, T.clSearch, T.nSearch_ways, dok rfl, ?_⟩
    refine ⟨_, rfl, _, rfl, x, _, dx, _, rfl, upd_same, T.clSearch, T.nSearch_start, dok rfl, ?_⟩
    refine ⟨_, rfl, rfl, _, rfl, ifT rfl ?_⟩
    have hxe : x ≠ y := fun z => by rw [z, ny] at hx; cases hx
    have xkd : x ≠ kd := fun z => by rw [z, nkd0] at hx; cases hx
    have b2 : SameBut x H1 (upd (upd H1 x (HO.ins (aSearch K) dx (putF "ways" (V.ref y) []))) x (HO.ins (aSearch K) dx (putF "start" V.non (putF "ways" (V.ref y) [])))) := ((SameBut.refl x H1).upd).upd
    have x2 : upd (upd H1 x (HO.ins (aSearch K) dx (putF "ways" (V.ref y) []))) x (HO.ins (aSearch K) dx (putF "start" V.non (putF "ways" (V.ref y) []))) x = some (HO.ins (aSearch K) dx (putF "start" V.non (putF "ways" (V.ref y) []))) := upd_same
    generalize upd (upd H1 x (HO.ins (aSearch K) dx (putF "ways" (V.ref y) []))) x (HO.ins (aSearch K) dx (putF "start" V.non (putF "ways" (V.ref y) []))) = H2 at b2 x2 ⊢
    have nx1 : ∀ o, H1 x = some o → ¬ engO o := fun o ho z => by rw [hx1] at ho; cases ho; cases z
    have tb2 : TX H1 H2 := fun a xs h => b2 _ _ h fun z => by rw [z, hx1] at h; cases h
    refine ⟨_, rfl, hv, c, rfl, (hh.same S1).but b2 nx1, co, fun p H3 s3 n3 => ?_⟩
    refine ⟨_, rfl, x, _, dx, _, rfl, s3 _ _ x2, T.clSearch, T.nSearch_start, dok rfl, ?_⟩
    have b4 : SameBut x H3 (upd H3 x (HO.ins (aSearch K) dx (putF "start" (V.ref p) (putF "start" V.non (putF "ways" (V.ref y) []))))) := (SameBut.refl x H3).upd
    have x4 : upd H3 x (HO.ins (aSearch K) dx (putF "start" (V.ref p) (putF "start" V.non (putF "ways" (V.ref y) [])))) x = some (HO.ins (aSearch K) dx (sF0 y p)) := upd_same
    have efs : putF "start" (V.ref p) (putF "start" V.non (putF "ways" (V.ref y) [])) = (sF0 y p) := rfl
    rw [efs] at b4 x4 ⊢
    have x3 := s3 _ _ x2
    have nx3 : ∀ o, H3 x = some o → ¬ engO o := fun o ho z => by rw [x3] at ho; cases ho; cases z
    have tb4 : TX H3 (upd H3 x (HO.ins (aSearch K) dx (sF0 y p))) := fun a xs h => b4 _ _ h fun z => by rw [z, x3] at h; cases h
    have en4 := (((en1.but b2 nx1).same s3)).but b4 nx3
    have k14 : ∀ {a : Addr} {o : HO}, H1 a = some o → a ≠ x → upd H3 x (HO.ins (aSearch K) dx (sF0 y p)) a = some o := fun h n => b4 _ _ (s3 _ _ (b2 _ _ h n)) n
    have y4 := k14 y1 (Ne.symm hxe)
    have kd4 := k14 kd1 (Ne.symm xkd)
    have elx : el ≠ x := fun z => by rw [z, hx1] at el1; cases el1
    have el4 := k14 el1 elx
    have ev4 := NKs.tx (tb2.trans ((TX.same s3).trans tb4)) _ _ evn1
    have sv4 := NK.tx tb4 _ _ n3
    have B4 : SameBut x H (upd H3 x (HO.ins (aSearch K) dx (sF0 y p))) := fun a o h n => k14 (S1 _ _ h) n
    generalize upd H3 x (HO.ins (aSearch K) dx (sF0 y p)) = H4 at b4 x4 en4 y4 kd4 el4 ev4 sv4 B4 ⊢
    clear b2 x2 s3 n3 tb2 tb4 k14 x3 nx3 nx1 en1 el1 evn1 y1 kd1 hx1 sy0 hh s1 efs b4
    -- ends
    refine fun ed ned => ⟨_, rfl, x, _, dx, _, _, rfl, new_same ned _ _ x4, T.clSearch, T.nSearch_start, rfl, (by show 0 ≤ sizeLine; decide), fun la nla => ?_⟩
    have lae : la ≠ ed := fun z => by rw [z, upd_same] at nla; cases nla
    have nla4 : H4 la = none := none_upd nla
    have edx : ed ≠ x := fun z => by rw [z, x4] at ned; cases ned
    have lax : la ≠ x := fun z => by rw [z, x4] at nla4; cases nla4
    refine ⟨eS c.nv c.na (first c), p, rfl, NK.tx ((TX.new ned).trans (TX.new nla)) _ _ sv4, depth_eS _ _ _, by rw [upd_ne (Ne.symm lae), upd_same], ?_⟩
    refine ⟨_, rfl, x, _, dx, _, rfl, by rw [upd_ne (Ne.symm edx), upd_ne (Ne.symm lax), upd_ne (Ne.symm edx)]; exact x4, T.clSearch, T.nSearch_ends, dok rfl, ?_⟩
    obtain ⟨H5, w5⟩ : ∃ X, X = upd (upd (upd (upd H4 ed (ndO w ed [])) la (.lst [])) ed (ndO w ed [(eS c.nv c.na (first c), p, .ref la)])) x (HO.ins (aSearch K) dx (putF "ends" (.ref ed) (sF0 y p))) := ⟨_, rfl⟩
    have k5 : ∀ {a : Addr} {o : HO}, H4 a = some o → a ≠ x → H5 a = some o := fun h n => by rw [w5, upd_ne n, upd_ne (ne_of_none h ned), upd_ne (ne_of_none h nla4), upd_ne (ne_of_none h ned)]; exact h
    have x5 : H5 x = some (HO.ins (aSearch K) dx (putF "ends" (.ref ed) (sF0 y p))) := by rw [w5, upd_same]
    have e5 : H5 ed = some (ndO w ed [(eS c.nv c.na (first c), p, .ref la)]) := by rw [w5, upd_ne edx, upd_same]
    have l5 : H5 la = some (.lst []) := by rw [w5, upd_ne lax, upd_ne lae, upd_same]
    have t5 : TX H4 H5 := fun a xs h => k5 h fun z => by rw [z, x4] at h; cases h
    rw [← w5]
    clear w5
    -- rows
    refine fun rd nrd => ⟨_, rfl, x, _, dx, _, _, rfl, new_same nrd _ _ x5, T.clSearch, T.nSearch_start, rfl, _, rfl, x, _, dx, _, _, rfl, new_same nrd _ _ x5, T.clSearch, T.nSearch_start, rfl, (by show 1 ≤ sizeLine; decide), fun l1 nl1 => ?_⟩
    have l1r : l1 ≠ rd := fun z => by rw [z, upd_same] at nl1; cases nl1
    have nl15 : H5 l1 = none := none_upd nl1
    have rdx : rd ≠ x := fun z => by rw [z, x5] at nrd; cases nrd
    have l1x : l1 ≠ x := fun z => by rw [z, x5] at nl15; cases nl15
    refine ⟨eS c.nv c.na (first c), p, rfl, NK.tx (t5.trans ((TX.new nrd).trans (TX.new nl1))) _ _ sv4, depth_eS _ _ _, by rw [upd_ne (Ne.symm l1r), upd_same], ?_⟩
    refine ⟨_, rfl, x, _, dx, _, rfl, by rw [upd_ne (Ne.symm rdx), upd_ne (Ne.symm l1x), upd_ne (Ne.symm rdx)]; exact x5, T.clSearch, T.nSearch_rows, dok rfl, ?_⟩
    obtain ⟨H6, w6⟩ : ∃ X, X = upd (upd (upd (upd H5 rd (ndO w rd [])) l1 (.lst [V.ref p])) rd (ndO w rd [(eS c.nv c.na (first c), p, .ref l1)])) x (HO.ins (aSearch K) dx (putF "rows" (.ref rd) (putF "ends" (.ref ed) (sF0 y p)))) := ⟨_, rfl⟩
    have k6 : ∀ {a : Addr} {o : HO}, H5 a = some o → a ≠ x → H6 a = some o := fun h n => by rw [w6, upd_ne n, upd_ne (ne_of_none h nrd), upd_ne (ne_of_none h nl15), upd_ne (ne_of_none h nrd)]; exact h
    have x6 : H6 x = some (HO.ins (aSearch K) dx (putF "rows" (.ref rd) (putF "ends" (.ref ed) (sF0 y p)))) := by rw [w6, upd_same]
    have r6 : H6 rd = some (ndO w rd [(eS c.nv c.na (first c), p, .ref l1)]) := by rw [w6, upd_ne rdx, upd_same]
    have l6 : H6 l1 = some (.lst [V.ref p]) := by rw [w6, upd_ne l1x, upd_ne l1r, upd_same]
    have e6 := k6 e5 edx
    have la6 := k6 l5 lax
    have t6 : TX H4 H6 := t5.trans fun a xs h => k6 h fun z => by rw [z, x5] at h; cases h
    have edr : ed ≠ rd := ne_of_none e5 nrd
    have lar : la ≠ rd := ne_of_none l5 nrd
    have l1e : l1 ≠ ed := Ne.symm (ne_of_none e5 nl15)
    have l1a : l1 ≠ la := Ne.symm (ne_of_none l5 nl15)
    rw [← w6]
    clear w6
    -- asked
    refine fun ad nad => ⟨_, rfl, x, _, dx, _, _, rfl, new_same nad _ _ x6, T.clSearch, T.nSearch_start, rfl, ?_⟩
    have adx : ad ≠ x := fun z => by rw [z, x6] at nad; cases nad
    refine ⟨eS c.nv c.na (first c), p, rfl, NK.tx (t6.trans (TX.new nad)) _ _ sv4, depth_eS _ _ _, upd_same, ?_⟩
    refine ⟨_, rfl, x, _, dx, _, rfl, by rw [upd_ne (Ne.symm adx), upd_ne (Ne.symm adx)]; exact x6, T.clSearch, T.nSearch_asked, dok rfl, ?_⟩
    obtain ⟨H7, w7⟩ : ∃ X, X = upd (upd (upd H6 ad (ndO w ad [])) ad (ndO w ad [(eS c.nv c.na (first c), p, .bl true)])) x (HO.ins (aSearch K) dx (putF "asked" (.ref ad) (putF "rows" (.ref rd) (putF "ends" (.ref ed) (sF0 y p))))) := ⟨_, rfl⟩
    have k7 : ∀ {a : Addr} {o : HO}, H6 a = some o → a ≠ x → H7 a = some o := fun h n => by rw [w7, upd_ne n, upd_ne (ne_of_none h nad), upd_ne (ne_of_none h nad)]; exact h
    have x7 : H7 x = some (HO.ins (aSearch K) dx (sF y (.ref p) ed rd ad)) := by rw [w7, upd_same]; rfl
    have a7 : H7 ad = some (ndO w ad [(eS c.nv c.na (first c), p, .bl true)]) := by rw [w7, upd_ne adx, upd_same]
    have e7 := k7 e6 edx
    have la7 := k7 la6 lax
    have r7 := k7 r6 rdx
    have l7 := k7 l6 l1x
    have ade : ed ≠ ad := ne_of_none e6 nad
    have adr : rd ≠ ad := ne_of_none r6 nad
    have ada : la ≠ ad := ne_of_none la6 nad
    have adl : l1 ≠ ad := ne_of_none l6 nad
    have K7 : ∀ {a : Addr} {o : HO}, H4 a = some o → a ≠ x → H7 a = some o := fun h n => k7 (k6 (k5 h n) n) n
    rw [← w7]
    clear w7
    have nH : ∀ {a : Addr}, (H6 a = none ∨ H5 a = none ∨ H4 a = none) → a ≠ x → H a = none := fun {a} z n => by
      cases e9 : H a with
      | none => rfl
      | some o =>
        have h4 := B4 _ _ e9 n
        rcases z with z | z | z
        · rw [k6 (k5 h4 n) n] at z; cases z
        · rw [k5 h4 n] at z; cases z
        · rw [h4] at z; cases z
    have nad4 : H4 ad = none := by
      cases e9 : H4 ad with
      | none => rfl
      | some o => rw [k6 (k5 e9 adx) adx] at nad; cases nad
    have nrd4 : H4 rd = none := by
      cases e9 : H4 rd with
      | none => rfl
      | some o => rw [k5 e9 rdx] at nrd; cases nrd
    have M4 : ∀ m ∈ [ad, rd, la, ed, x, y, kd], ∀ o, H4 m = some o → ¬ engO o := fun m hm o ho z => by
      simp only [List.mem_cons, List.not_mem_nil, or_false] at hm
      rcases hm with rfl | rfl | rfl | rfl | rfl | rfl | rfl
      · rw [nad4] at ho; cases ho
      · rw [nrd4] at ho; cases ho
      · rw [nla4] at ho; cases ho
      · rw [ned] at ho; cases ho
      · rw [x4] at ho; cases ho; cases z
      · rw [y4] at ho; cases ho; cases z
      · rw [kd4] at ho; cases ho; exact z
    have cK : ∀ {a : Addr} {o : HO}, H4 a = some o → engO o → cut [ad, rd, la, ed, x, y, kd] H7 a = some o := fun {a o} h g => by
      have nm : a ∉ [ad, rd, la, ed, x, y, kd] := fun z => M4 a z o h g
      exact cut_of (K7 h fun z => nm (by rw [z]; simp)) nm
    have tC : TX H4 (cut [ad, rd, la, ed, x, y, kd] H7) := fun a xs h => cK h True.intro
    have enC : EnAt K (cut [ad, rd, la, ed, x, y, kd] H7) e c := (en4.cut M4).same fun a o h => cut_of (K7 (cut_le _ _ _ _ h) fun z => cut_not h (by rw [z]; simp)) (cut_not h)
    have svC := NK.tx tC _ _ sv4
    have yx : y ≠ x := Ne.symm hxe
    have kdx : kd ≠ x := Ne.symm xkd
    have ykd : y ≠ kd := fun z => by rw [z, kd4] at y4; cases y4
    have ked : kd ≠ ed := ne_of_none kd4 ned
    have krd : kd ≠ rd := ne_of_none kd4 nrd4
    have kad : kd ≠ ad := ne_of_none kd4 nad4
    have kla : kd ≠ la := ne_of_none kd4 nla4
    have yed : y ≠ ed := ne_of_none y4 ned
    have yrd : y ≠ rd := ne_of_none y4 nrd4
    have yad : y ≠ ad := ne_of_none y4 nad4
    have yla : y ≠ la := ne_of_none y4 nla4
    have fo := first_ok co
    have vf : vS c.nv c.na (fun t => t = tot0 c) (first c) := ⟨fo, rfl⟩
    have l1M : l1 ∉ [ad, rd, la, ed, x, y, kd] := by
      simp only [List.mem_cons, List.not_mem_nil, or_false, not_or]
      refine ⟨adl, l1r, l1a, l1e, l1x, fun z => ?_, fun z => ?_⟩
      · have := k5 y4 yx; rw [← z, nl15] at this; cases this
      · have := k5 kd4 kdx; rw [← z, nl15] at this; cases this
    have sr0 : SrIn K w c.nv c.na ed rd ad y (.ref p) [ad, rd, la, ed, x, y, kd] [y, kd] [ed, rd, ad] x ⟨[(first c, [])], [(first c, [first c])], [first c]⟩ H7 := by
      refine ⟨rfl, ⟨dx, x7⟩, fun a ha => ?_, edr, ade, adr, ⟨[(first c, la)], ⟨_, e7, fun z hz => by rw [List.mem_singleton.mp hz]; exact ⟨svC, depth_eS _ _ _⟩, .cons ⟨rfl, rfl⟩ .nil⟩, .cons ⟨rfl, by simp, ?_, [], la7, .nil⟩ .nil, nd1 _⟩, ⟨_, r7, fun z hz => by rw [List.mem_singleton.mp hz]; exact ⟨svC, depth_eS _ _ _⟩, .cons ⟨rfl, l1, _, rfl, cut_of l7 l1M, .cons svC .nil⟩ .nil⟩, ⟨_, a7, fun z hz => by rw [List.mem_singleton.mp hz]; exact ⟨svC, depth_eS _ _ _⟩, .cons ⟨rfl, rfl⟩ .nil⟩⟩
      · simp only [List.mem_cons, List.not_mem_nil, or_false] at ha
        rcases ha with rfl | rfl | rfl | rfl
        · refine ⟨by simp, ?_⟩
          simp only [List.mem_cons, List.not_mem_nil, or_false, not_or]
          exact ⟨hxe, xkd⟩
        · refine ⟨by simp, ?_⟩
          simp only [List.mem_cons, List.not_mem_nil, or_false, not_or]
          exact ⟨Ne.symm yed, Ne.symm ked⟩
        · refine ⟨by simp, ?_⟩
          simp only [List.mem_cons, List.not_mem_nil, or_false, not_or]
          exact ⟨Ne.symm yrd, Ne.symm krd⟩
        · refine ⟨by simp, ?_⟩
          simp only [List.mem_cons, List.not_mem_nil, or_false, not_or]
          exact ⟨Ne.symm yad, Ne.symm kad⟩
      · simp only [List.mem_cons, List.not_mem_nil, or_false, not_or]
        exact ⟨Ne.symm yla, Ne.symm kla⟩
    have gd0 : SrGood c (tot0 c) ⟨[(first c, [])], [(first c, [first c])], [first c]⟩ := by
      refine ⟨nd1 _, fun s hs => ?_, fun z hz => ?_, rfl, nd1 _, fun s hs => hs, fun z hz => ?_⟩
      · rw [List.mem_singleton.mp hs]; exact vf
      · rw [List.mem_singleton.mp hz]; exact ⟨List.nodup_nil, fun x hx => nomatch hx⟩
      · rw [List.mem_singleton.mp hz]; exact ⟨nd1 _, fun x hx => hx⟩
    have th0 : Thr [ad, rd, la, ed, x, y, kd] H7 := fun a ha => by
      simp only [List.mem_cons, List.not_mem_nil, or_false] at ha
      rcases ha with rfl | rfl | rfl | rfl | rfl | rfl | rfl
      · exact ⟨_, a7, True.intro⟩
      · exact ⟨_, r7, True.intro⟩
      · exact ⟨_, la7, True.intro⟩
      · exact ⟨_, e7, True.intro⟩
      · exact ⟨_, x7, by show List.lookup _ _ = none; rfl⟩
      · exact ⟨_, K7 y4 yx, by show List.lookup _ _ = none; rfl⟩
      · exact ⟨_, K7 kd4 kdx, True.intro⟩
    have wy0 : SrWy K w c T.clSearch (tot0 c) ed rd ad y (.ref p) [ad, rd, la, ed, x, y, kd] [y, kd] [ed, rd, ad] x ⟨[(first c, [])], [(first c, [first c])], [first c]⟩ [] e el kd dy H7 := by
      refine ⟨K7 y4 yx, ?_, fun a ha => ?_, by simp, ?_, fun a ha => ?_, th0, enC, ⟨[], K7 kd4 kdx, (fun x hx => nomatch hx), .nil⟩, sr0, gd0, ⟨List.nodup_nil, fun y hy => nomatch hy⟩⟩
      · simp only [List.mem_cons, List.not_mem_nil, or_false, not_or]
        exact ⟨ykd, yed, yrd, yad⟩
      · simp only [List.mem_cons, List.not_mem_nil, or_false] at ha ⊢
        rcases ha with rfl | rfl | rfl | rfl <;> simp
      · simp only [List.mem_cons, List.not_mem_nil, or_false, not_or]
        exact ⟨ked, krd, kad⟩
      · simp only [List.mem_cons, List.not_mem_nil, or_false] at ha ⊢
        rcases ha with rfl | rfl <;> simp
    have si0 : SiSt w K c T.clSearch ed rd ad y (.ref p) x e el dy evs H [ad, rd, la, ed, x, y, kd] [y, kd] [ed, rd, ad] kd [] ⟨[(first c, [])], [(first c, [first c])], [first c]⟩ H7 := by
      refine ⟨fun a o h n => K7 (B4 _ _ h n) n, fun a ha => ?_, wy0, by simp, by simp, ?_, cK el4 True.intro, NKs.tx tC _ _ ev4, svC, fun t hc => ?_, [], rfl⟩
      · simp only [List.mem_cons, List.not_mem_nil, or_false] at ha
        rcases ha with rfl | rfl | rfl | rfl | rfl | rfl | rfl
        · exact .inr (nH (.inl nad) adx)
        · exact .inr (nH (.inr (.inl nrd)) rdx)
        · exact .inr (nH (.inr (.inr nla4)) lax)
        · exact .inr (nH (.inr (.inr ned)) edx)
        · exact .inl rfl
        · exact .inr ny
        · exact .inr nkd0
      · simp only [List.mem_cons, List.not_mem_nil, or_false, not_or]
        exact ⟨hxe, xkd⟩
      · obtain ⟨row, hrow⟩ := Option.isSome_iff_exists.mp hc.1
        have hfr := (hc.2 _ _ hrow).1
        refine ⟨fun s hs => ?_, fun b r hb => ?_, fun s es hs b r hb hsr e' he' => ?_, fun s hs => ?_⟩
        · rw [List.mem_singleton.mp hs]; exact ⟨row, hrow⟩
        · have := kpGet_mem hb
          have e8 := List.mem_singleton.mp this
          cases e8
          exact ⟨row, hrow, fun x hx => by rw [List.mem_singleton.mp hx]; exact hfr⟩
        · have := kpGet_mem hs
          have e8 := List.mem_singleton.mp this
          cases e8
          cases he'
        · rw [List.mem_singleton.mp hs]; exact ⟨_, row, hrow, hfr⟩
    have rc0 : RowsCl ⟨[(first c, [])], [(first c, [first c])], [first c]⟩ := fun b row hb z => by
      have e8 := List.mem_singleton.mp (kpGet_mem hb)
      cases e8
      rw [List.mem_singleton]
      constructor
      · rintro rfl; exact .refl
      · intro h
        induction h with
        | refl => rfl
        | step h1 h2 h3 ih =>
          have e7 := List.mem_singleton.mp (kpGet_mem h2)
          cases e7
          cases h3
    clear sr0 gd0 th0 wy0 enC tC cK M4 K7 k7 k6 k5 x7 a7 e7 la7 r7 l7 x6 r6 l6 e6 la6 x5 e5 l5 t5 t6 nH B4 x4 y4 kd4 el4 ev4 sv4 en4
    refine ⟨fun m σ Hx => ∃ x3 M X D kd ρ, σ = [some (.ref x), some hv, some .non, x3] ∧ SiSt w K c T.clSearch ed rd ad y (.ref p) x e el dy evs H M X D kd [] ρ Hx ∧ RowsCl ρ ∧ m = 121 - size ρ, ⟨_, _, _, _, _, kd, _, rfl, si0, rc0, rfl⟩, ?_⟩
    clear si0 rc0
    rintro m σ Hx ⟨x3, M, X, D, kd, ρ, rfl, si, rc, rfl⟩
    have hiS : SrIn K w c.nv c.na ed rd ad y (.ref p) M X D x ρ Hx := si.wy.iv
    obtain ⟨dxx, hxx⟩ := hiS.ins
    refine ⟨_, rfl, x, dxx, _, rfl, hxx, rfl, c, tot0 c, x, ed, rd, ad, y, .ref p, ρ, e, el, kd, dy, M, X, D, evs, rfl, co, few, si.wy, si.hel, si.hev, fun nf ρ1 kp1 Hg Mg chg exg wyg sdg leg dj => ⟨_, rfl, ?_⟩⟩
    have bsg : SameBut x H Hg := fun a o h n => chg.keep _ _ (si.bs a o h n) fun z => (si.nw a z).elim n fun z' => ne_of_none h z' rfl
    have nwg : ∀ a ∈ Mg, a = x ∨ H a = none := fun a ha => by
      rcases exg.nw a ha with z | z
      · exact si.nw a z
      · by_cases hax : a = x
        · exact .inl hax
        · right
          cases e9 : H a with
          | none => rfl
          | some o => rw [si.bs a o e9 hax] at z; cases z
    have sig : SiSt w K c T.clSearch ed rd ad y (.ref p) x e el dy evs H Mg X D kd kp1 ρ1 Hg :=
      ⟨bsg, nwg, wyg, exg.up y si.yM, si.yX, si.xx, exg.sm _ _ si.hel, NKs.tx (TX.same exg.sm) _ _ si.hev, NK.tx (TX.same exg.sm) _ _ si.hsv, fun t hc => sdg t hc (si.sd t hc), by
        obtain ⟨l, e1⟩ := si.hd
        obtain ⟨l2, e2⟩ := leg.as
        exact ⟨l ++ l2, by rw [e2, e1]; rfl⟩⟩
    rcases dj with ⟨rfl, rfl, hf⟩ | ⟨rfl, hsz⟩
    · -- done
      refine iteF' rfl ?_
      have gd : SrGood c (tot0 c) ρ1 := wyg.gd
      obtain ⟨l, hl⟩ := sig.hd
      exact k Hg Mg X D ρ1 ed rd ad y _ bsg wyg.iv sig.hsv wyg.th gd (final_closed gd hf rc (by rw [hl]; exact List.mem_cons_self)) sig.sd ⟨l, hl⟩ sig.nw
    · refine iteT' rfl ?_
      refine ⟨fun σ' H' => ∃ x3 M X D kd ρ', σ' = [some (.ref x), some hv, some .non, x3] ∧ SiSt w K c T.clSearch ed rd ad y (.ref p) x e el dy evs H M X D kd [] ρ' H' ∧ RowsCl ρ' ∧ size ρ < size ρ', ?_, ?_⟩
      · rintro σ' H' ⟨x3, M, X, D, kd, ρ', rfl, s1, r1, l1⟩
        have := size_le (T0 := tot0 c) (show SrGood c (tot0 c) ρ' from s1.wy.gd)
        exact ⟨121 - size ρ', by omega, x3, M, X, D, kd, ρ', rfl, s1, r1, rfl⟩
      clear hiS hxx si rc chg exg wyg sdg leg bsg nwg
      have hiG : SrIn K w c.nv c.na ed rd ad y (.ref p) Mg X D x ρ1 Hg := sig.wy.iv
      have gdG : SrGood c (tot0 c) ρ1 := sig.wy.gd
      obtain ⟨dxg, hxg⟩ := hiG.ins
      obtain ⟨ys, y1, y2, y3⟩ := hiG.ak
      refine ⟨_, rfl, x, _, dxg, _, _, rfl, hxg, T.clSearch, T.nSearch_asked, rfl, ad, ys, rfl, .inl y1, y2.tx (TX.same (cut_le _ _)), fun p0 np0 => ?_⟩
      have sp := new_same (o := HO.lst (refsN ys)) np0
      have p0M := sig.wy.th.new np0
      have p0u := upd_same (H := Hg) (a := p0) (o := HO.lst (refsN ys))
      have sip := sig.same sp
      have cp := Same.cut (M := Mg) sp
      generalize upd Hg p0 (HO.lst (refsN ys)) = Hp at sp p0u sip cp ⊢
      have p0C := cut_of (M := Mg) p0u p0M
      have p0N : NKs (cut Mg Hp) (ρ1.asked.map (eS c.nv c.na)) (refsN ys) := by
        have := y3.refs (H := cut Mg Hg) y2
        rw [show (fu ρ1.asked).map (fun y => eS c.nv c.na y.1) = ρ1.asked.map (eS c.nv c.na) by unfold fu; rw [List.map_map]; rfl] at this
        exact NKs.tx (TX.same cp) _ _ this
      refine ⟨p0, rfl, ⟨_, SqL.of p0u⟩, for_list (K := K) (xs := refsN ys) (fun i σ Hy => ∃ x3 R, σ = [some (.ref x), some hv, some .non, x3] ∧ SiSt w K c T.clSearch ed rd ad y (.ref p) x e el dy evs H Mg X D kd kp1 { ρ1 with rows := R } Hy ∧ Same (cut Mg Hp) (cut Mg Hy) ∧ ∀ b ∈ ρ1.asked.take i, ∀ row, kpGet R b = some row → ∀ z, z ∈ row ↔ Reach ρ1.ends b z)
        ⟨_, ρ1.rows, rfl, sip, Same.refl _, fun b hb => by simp at hb⟩ (fun i σ Hy _ ⟨_, _, _, _, sm, _⟩ => SqL.of (cut_le _ _ _ _ (sm _ _ p0C))) ?_ ?_⟩
      · rintro i bv σ Hy hi ⟨x3, R, rfl, sy, sm, hR⟩
        obtain ⟨b, hb, nb⟩ := NKs.at p0N hi
        have hba := List.mem_of_getElem? hb
        have gdY : SrGood c (tot0 c) { ρ1 with rows := R } := sy.wy.gd
        have hiY : SrIn K w c.nv c.na ed rd ad y (.ref p) Mg X D x { ρ1 with rows := R } Hy := sy.wy.iv
        obtain ⟨dxy, hxy⟩ := hiY.ins
        have nby := NK.tx (TX.same sm) _ _ nb
        have hbk := gdG.a2 b hba
        obtain ⟨bb, rfl⟩ : ∃ b, bv = V.ref b := by
          cases nby with
          | tup _ _ => exact ⟨_, rfl⟩
        refine ⟨_, rfl, x, dxy, _, rfl, hxy, rfl, _, rfl, c, tot0 c, x, ed, rd, ad, y, .ref p, _, b, { ρ1 with rows := R }, Mg, X, D, rfl, hiY, sy.wy.th, nby, gdY.e1, gdY.e2, fun z hz x hx => (gdY.e3 z hz).2 x hx, hbk, fun Hz l row sz lz rn rr => ?_⟩
        have siz := sy.same sz
        have cz := Same.cut (M := Mg) sz
        have hiZ : SrIn K w c.nv c.na ed rd ad y (.ref p) Mg X D x { ρ1 with rows := R } Hz := siz.wy.iv
        obtain ⟨dxz, hxz⟩ := hiZ.ins
        have rkey : ∀ s ∈ keys R, vS c.nv c.na (fun t => t = tot0 c) s := fun s hs => gdY.e2 s (gdY.a2 s (by rw [← gdY.r1]; exact hs))
        have rlen : R.length ≤ 10 := by
          have := SrGood.row_len (c := c) (T0 := tot0 c) (l := keys R) (by rw [show keys R = ρ1.asked from gdY.r1]; exact gdY.a1) rkey
          unfold keys at this
          rwa [List.length_map] at this
        have rdM := (hiZ.cM rd (by simp)).1
        obtain ⟨xs', np', nd'⟩ := hiZ.rw.nput (k := b) (z := row) (SrGood.inj rkey (rkey b (by rw [show keys R = ρ1.asked from gdY.r1]; exact hba)).1) (NK.tx (TX.same cz) _ _ nby) (depth_eS _ _ _) rdM (by show R.length < _; omega) lz
        refine ⟨_, rfl, x, _, dxz, _, _, rfl, hxz, T.clSearch, T.nSearch_rows, rfl, _, rfl, rd, _, rfl, np', ?_⟩
        have hiR := hiZ.putR nd'
        have chr : Chg [rd] Hz (upd Hz rd (ndO w rd xs')) := (Chg.refl _ _).put (List.mem_singleton_self rd) True.intro
        have rdl : ∀ a ∈ [rd], a ∈ Mg := fun a ha => by rw [List.mem_singleton.mp ha]; exact rdM
        have exr : Ext Mg Hz Mg (upd Hz rd (ndO w rd xs')) := Ext.chg siz.wy.th chr rdl
        have hbR : b ∈ keys R := by rw [show keys R = ρ1.asked from gdY.r1]; exact hba
        have gdR : SrGood c (tot0 c) { ρ1 with rows := kpPut R b row } := by
          refine ⟨gdY.e1, gdY.e2, gdY.e3, by show keys (kpPut R b row) = ρ1.asked; rw [kpPut_same_keys hbR]; exact gdY.r1, gdY.a1, gdY.a2, fun z hz => ?_⟩
          rcases mem_kpPut hz with hz | rfl
          · exact gdY.r2 z hz
          · exact ⟨rn, fun s hs => reach_keys gdG hbk ((rr s).mp hs)⟩
        have wyR : SrWy K w c T.clSearch (tot0 c) ed rd ad y (.ref p) Mg X D x { ρ1 with rows := kpPut R b row } kp1 e el kd dy (upd Hz rd (ndO w rd xs')) :=
          siz.wy.step (N := [rd]) chr exr (fun z => siz.wy.wD (by rw [List.mem_singleton.mp z, hiZ.eD]; simp)) (fun z => siz.wy.kD (by rw [List.mem_singleton.mp z, hiZ.eD]; simp)) hiR gdR
        refine ⟨_, kpPut R b row, rfl, ⟨fun a o h n => chr.keep _ _ (siz.bs a o h n) fun z => ?_, siz.nw, wyR, siz.yM, siz.yX, siz.xx, exr.sm _ _ siz.hel, NKs.tx (TX.same exr.sm) _ _ siz.hev, NK.tx (TX.same exr.sm) _ _ siz.hsv, fun t hc => ?_, siz.hd⟩, (sm.trans cz).trans exr.sm, fun b' hb' row' hr' z => ?_⟩
        · rcases siz.nw rd rdM with z2 | z2
          · exact n (by rw [List.mem_singleton.mp z]; exact z2)
          · rw [List.mem_singleton.mp z, z2] at h; cases h
        · have ss := siz.sd t hc
          refine ⟨ss.s1, fun b' r' hb' => ?_, ss.s3, ss.s4⟩
          have hb'' : kpGet (kpPut R b row) b' = some r' := hb'
          rw [kpGet_put] at hb''
          split at hb''
          · rename_i e8
            cases hb''
            obtain ⟨rw', hrw⟩ := ss.s1 b hba
            exact ⟨rw', by rw [e8]; exact hrw, fun z hz => reach_sound hc ss hrw ((rr z).mp hz)⟩
          · exact ss.s2 b' r' hb''
        · rw [kpGet_put] at hr'
          split at hr'
          · rename_i e8
            cases hr'
            rw [e8]
            exact rr z
          · rename_i e8
            rw [List.take_succ, hb] at hb'
            rcases List.mem_append.mp hb' with hb' | hb'
            · exact hR b' hb' row' hr' z
            · exact absurd (List.mem_singleton.mp hb') e8
      · rintro σ Hy ⟨x3, R, rfl, sy, sm, hR⟩
        rw [← p0N.length, List.length_map, List.take_length] at hR
        have gdY : SrGood c (tot0 c) { ρ1 with rows := R } := sy.wy.gd
        have hiY : SrIn K w c.nv c.na ed rd ad y (.ref p) Mg X D x { ρ1 with rows := R } Hy := sy.wy.iv
        obtain ⟨dxy, hxy⟩ := hiY.ins
        refine ⟨_, rfl, x, _, dxy, _, _, rfl, hxy, T.clSearch, T.nSearch_ways, rfl, y, dy, _, rfl, sy.wy.hw, rfl, y, dy, e, el, x, kd, rfl, sy.wy.hw, fun Hf kd' sf yf kf nkf => ?_⟩
        have nkM := sy.wy.th.new nkf
        have ykd' : kd' ≠ y := fun z => by have := sy.wy.hw; rw [← z, nkf] at this; cases this
        have cf : Same (cut Mg Hy) (cut (kd' :: Mg) Hf) := fun a o h => by
          have h' := cut_le _ _ _ _ h
          refine cut_of (sf _ _ h' fun z => cut_not h (by rw [z]; exact sy.yM)) fun z => ?_
          rcases List.mem_cons.mp z with z | z
          · exact ne_of_none h' nkf z
          · exact cut_not h z
        have sfk : ∀ a ∈ Mg, a ∉ X → a ∈ kd' :: Mg ∧ a ∉ kd' :: X ∧ ∀ o, Hy a = some o → Hf a = some o := fun a ha hx => ⟨List.mem_cons_of_mem _ ha, fun z => (List.mem_cons.mp z).elim (fun z => nkM (z ▸ ha)) hx, fun o h => sf _ _ h fun z => hx (by rw [z]; exact sy.yX)⟩
        have hiF : SrIn K w c.nv c.na ed rd ad y (.ref p) (kd' :: Mg) (kd' :: X) D x { ρ1 with rows := R } Hf := hiY.frame cf sfk
        have thF : Thr (kd' :: Mg) Hf := fun a ha => by
          rcases List.mem_cons.mp ha with rfl | ha
          · exact ⟨_, kf, True.intro⟩
          · by_cases z : a = y
            · rw [z]; exact ⟨_, yf, by show List.lookup _ _ = none; rfl⟩
            · obtain ⟨o, h, mo⟩ := sy.wy.th a ha
              exact ⟨o, sf _ _ h z, mo⟩
        have wyF : SrWy K w c T.clSearch (tot0 c) ed rd ad y (.ref p) (kd' :: Mg) (kd' :: X) D x { ρ1 with rows := R } [] e el kd' dy Hf := by
          refine ⟨yf, fun z => ?_, fun a ha => ?_, List.mem_cons_self, fun z => nkM (sy.wy.dM kd' (List.mem_cons_of_mem _ z)), fun a ha => ?_, thF, sy.wy.en.same cf, ⟨[], kf, (fun x hx => nomatch hx), .nil⟩, hiF, gdY, ⟨List.nodup_nil, fun y hy => nomatch hy⟩⟩
          · rcases List.mem_cons.mp z with z | z
            · exact ykd' z.symm
            · exact sy.wy.wD (List.mem_cons_of_mem _ z)
          · rcases List.mem_cons.mp ha with rfl | ha
            · exact List.mem_cons_self
            · exact List.mem_cons_of_mem _ (sy.wy.dM a (List.mem_cons_of_mem _ ha))
          · rcases List.mem_cons.mp ha with rfl | ha
            · exact List.mem_cons_self
            · exact List.mem_cons_of_mem _ (sy.wy.xM a ha)
        refine ⟨_, kd' :: Mg, kd' :: X, D, kd', { ρ1 with rows := R }, rfl, ⟨fun a o h n => sf _ _ (sy.bs a o h n) fun z => ?_, fun a ha => ?_, wyF, List.mem_cons_of_mem _ sy.yM, List.mem_cons_of_mem _ sy.yX, ?_, cf _ _ sy.hel, NKs.tx (TX.same cf) _ _ sy.hev, NK.tx (TX.same cf) _ _ sy.hsv, sy.sd, sy.hd⟩, fun b row hb z => hR b ?_ row hb z, ?_⟩
        · rw [z, ny] at h; cases h
        · rcases List.mem_cons.mp ha with rfl | ha
          · by_cases hax : a = x
            · exact .inl hax
            · right
              cases e9 : H a with
              | none => rfl
              | some o => rw [sy.bs a o e9 hax] at nkf; cases nkf
          · exact sy.nw a ha
        · intro z
          rcases List.mem_cons.mp z with z | z
          · rw [← z, hxy] at nkf; cases nkf
          · exact sy.xx z
        · rw [← show keys R = ρ1.asked from gdY.r1]
          exact List.mem_map.mpr ⟨_, kpGet_mem hb, rfl⟩
        · exact hsz
theorem mak_Search {f : Addr} {fd : FuncData} (F : FunD K "__init__" "Search.__init__" (defArgs s_Search_init) (defBody s_Search_init) (defScope s_Search_init) [V.non] [] f fd) (T : Txt K mg) (M : Mk K (aSearch K) f) (g : mg "Search" = some (.ref (aSearch K))) (k_Ways : C8.Mak P w K mg base 6 "Ways" (aWays K) (spWays w K) []) (c_first_state : C8.Cal P w K mg base 1 "first_state" (spFirst K) []) (m_Search_grow : C8.Met P w K mg base 13 (aSearch K) "grow" (spGrow w K T.clSearch) [])
    (m_Search_closed : C8.Met P w K mg base 1 (aSearch K) "closed" (spCls w K) []) (m_Ways_forget : C8.Met P w K mg base 1 (aWays K) "forget" (spForget w K) []) : C8.Mak P w K mg base 14 "Search" (aSearch K) (spSearch w K) [V.non] := by
  obtain ⟨ds, vds, bd⟩ := F.binds1 (ps := ["self", "house", "state"]) 2 0 (fun z => nomatch z) rfl fun T kV doc pm an cdv ct us its hu hi => match us, its, hu, hi with
    | [a, b], [d], _, _ => ⟨_, rfl, rfl⟩
  exact ⟨f, fd, _, ds, M, ok_Search F T k_Ways c_first_state m_Search_grow m_Search_closed m_Ways_forget, g, bd, vds⟩
end
end NC
set_option Elab.async false
set_option linter.all false
set_option maxRecDepth 100000
set_option maxHeartbeats 4000000
/-! least_rows, reachable, most. -/
namespace NC
open PySem PySem.Spec PyProof.Rows L2
/-- the least closed rows -/
structure LeastT (c : Cf) (ps : Tab) : Prop where
  nd : (keys ps).Nodup
  ky : ∀ s ∈ keys ps, vS c.nv c.na (fun t => t = tot0 c) s
  rw : ∀ y ∈ ps, y.2.Nodup ∧ ∀ x ∈ y.2, vS c.nv c.na (fun t => t = tot0 c) x
  cl : Closed c ps
  ls : ∀ t, Closed c t → ∀ b row, kpGet ps b = some row → ∃ row', kpGet t b = some row' ∧ ∀ x ∈ row, x ∈ row'
  hd : ∃ row l, ps = (first c, row) :: l
theorem LeastT.of {c : Cf} {ρ : Sr} (g : SrGood c (tot0 c) ρ) (cl : Closed c ρ.rows) (sd : ∀ t, Closed c t → Sound t ρ) (hd : ∃ l, ρ.asked = first c :: l) : LeastT c ρ.rows := by
  refine ⟨by rw [g.r1]; exact g.a1, fun s hs => g.e2 s (g.a2 s (by rw [← g.r1]; exact hs)), fun y hy => ⟨(g.r2 y hy).1, fun x hx => g.e2 x ((g.r2 y hy).2 x hx)⟩, cl, fun t hc b row hb => (sd t hc).s2 b row hb, ?_⟩
  obtain ⟨l, hl⟩ := hd
  have := g.r1
  rw [hl] at this
  cases hr : ρ.rows with
  | nil => rw [hr] at this; cases this
  | cons y r =>
    rw [hr] at this
    obtain ⟨y1, y2⟩ := y
    have h1 : y1 = first c := (List.cons.inj this).1
    exact ⟨y2, r, by rw [h1]⟩
section
variable {P : Program} {w : World} {K : PySem.W.Frag} {mg : Str → Option Value} {base : Heap}
def spLeast (K : PySem.W.Frag) : Sp := fun vs H Q _ => ∃ (hv : V) (c : Cf), vs = [hv] ∧ HsAt K H c hv ∧ c.Ok ∧ c.Few ∧ ∀ H' l ps pvs, Same H H' → H' l = some (.lst pvs) → H l = none → PsR c.nv c.na H' ps pvs → LeastT c ps → Q (.ref l) H'
theorem sc_least_rows : FnScope ["house", "search", "state"] ["house"] (defScope s_least_rows) := ⟨rfl, rfl, rfl, by decide +kernel, rfl, by decide +kernel, by decide +kernel⟩
theorem ok_least {f : Addr} {fd : FuncData} (F : FnP K "least_rows" "least_rows" s_least_rows f fd) (T : Txt K mg) (k_Search : C8.Mak P w K mg base 14 "Search" (aSearch K) (spSearch w K) [V.non]) : FnOk P w K mg base CX0 16 f fd ["house"] (spLeast K) := by
  refine F.ok sc_least_rows (fun vs H Q E h => ?_) (fun cdv A outer s H vs Q E hr h => ?_)
  · obtain ⟨hv, c, rfl, _⟩ := h
    rfl
  · obtain ⟨hv, c, rfl, hh, co, few, k⟩ := h
    have hu9 := hu9 hr
    refine ⟨_, PSs.nox ((pss_cons (ps_set (i := 1) sc_least_rows.nd rfl (Or.inr rfl) (C8.pe_mk k_Search hr (by decide) (by rfl) (pa_cons (pv 0) pa_nil)))
      (pss_one (ps_ret (pe_lock (pe_lc (own := [("state", 2)]) rfl sc_least_rows.nd (pi_nkeys (pe_fld (pv 1) rfl)) (blkOk_by (own := [("state", 2)]) (N := ["house", "search", "state"]) (sc := defScope s_least_rows) (by decide +kernel)) (fun _ _ _ _ _ => (pg_name (i := 2) sc_least_rows.nd rfl (Or.inl rfl))) (fun _ _ _ _ _ => pts_nil) (fun _ _ _ _ _ => (pe_tup (pa_cons (pv 2) (pa_cons (pe_callTy (call_list_ofK (K := K) rfl) (by rfl) T.list bt_list (pa_cons (pe_ngetK (w := w) rfl hu9 (pe_fldK (K := K) rfl (pv 1) rfl) (pv 2) (fun _ _ => rfl)) pa_nil)) pa_nil)))))))))), ?_⟩
    dsimp only [cxOf, Cx.nox]
    refine ⟨_, rfl, fun x dx nx ndx nex => ?_⟩
    have sx0 : Same H (upd (upd H dx (.own x)) x (.ins (aSearch K) dx [])) := (new_same ndx).trans (new_same (by rw [upd_ne (Ne.symm nex)]; exact nx))
    refine ⟨x, dx, hv, c, rfl, upd_same, hh.same sx0, co, few, fun H1 M X D ρ ed rd ad wa sv s1 hi hsv th gd cl sd hd nw => ⟨rfl, ?_⟩⟩
    have S1 : Same H H1 := same_made nx ndx s1
    obtain ⟨dxx, hxx⟩ := hi.ins
    obtain ⟨ys, y1, y2, y3⟩ := id hi.ak
    have adM := (hi.cM ad (by simp)).1
    have adH : H ad = none := by
      rcases nw ad adM with z | z
      · rw [z, hxx] at y1; cases y1
      · exact none_upd (none_upd z)
    refine ⟨ad, ndO w ad ys, y1, mut_nd, fun od => ?_⟩
    have xad : x ≠ ad := fun z => by rw [z, y1] at hxx; cases hxx
    have ec : cut M (upd H1 ad (.frz od (ndO w ad ys))) = cut M H1 := cut_upd adM
    have f2 : upd H1 ad (.frz od (ndO w ad ys)) ad = some (.frz od (ndO w ad ys)) := upd_same
    have n2 : ∀ {a : Addr} {o : HO}, H1 a = some o → a ≠ ad → upd H1 ad (.frz od (ndO w ad ys)) a = some o := fun h n => by rw [upd_ne n]; exact h
    have th2 : Thr M (upd H1 ad (.frz od (ndO w ad ys))) := th.chg ((Chg.refl [ad] H1).put (List.mem_singleton_self ad) True.intro)
    generalize upd H1 ad (.frz od (ndO w ad ys)) = H2 at ec f2 n2 th2 ⊢
    have x2 := n2 hxx xad
    rw [← ec] at y2
    have rw2 : NDAt w M H2 rd (eS c.nv c.na) (LsAt c.nv c.na) ρ.rows := hi.rw.keep LsAt.grows (by rw [ec]; exact Same.refl _) fun o z => n2 z hi.d3
    have ls := LeastT.of gd cl sd hd
    have rkey := ls.ky
    have rlen : ρ.rows.length ≤ 10 := by
      have := SrGood.row_len (c := c) ls.nd ls.ky
      unfold keys at this
      rwa [List.length_map] at this
    have post : ∀ {Hx : Hp} {o : HO}, Same H2 Hx → Same H (upd Hx ad o) := fun {Hx o} sx a u h => by
      have na : a ≠ ad := ne_of_none h adH
      rw [upd_ne na]
      exact sx _ _ (n2 (S1 _ _ h) na)
    refine ⟨_, rfl, x, _, dxx, _, _, rfl, x2, T.clSearch, T.nSearch_asked, rfl, ad, od, ys, rfl, f2, y2.tx (TX.same (cut_le _ _)), fun Dl nD => ?_⟩
    refine lc_it walk_nkeys (fun i Hx => Same H2 Hx ∧ ∃ acc, Hx Dl = some (.lst acc) ∧ PsR c.nv c.na (cut (Dl :: M) Hx) (ρ.rows.take i) acc) ⟨new_same nD, [], upd_same, .nil⟩ (fun i Hx _ ⟨sx, _⟩ => ⟨sx _ _ f2, y2.tx (TX.same (Same.trans (cut_le M H2) sx))⟩) ?_ ?_
    · rintro i xv Hx H' hil ⟨sx, acc, qa, pr⟩ ⟨rfl, en', hen, rfl⟩
      obtain ⟨⟨s0, u⟩, hs0, ek, _⟩ := Paired.at2 y3 hen
      have cx := Same.cut (M := M) sx
      have hk := (y2 en' (List.mem_of_getElem? hen)).1
      have hs0' : ρ.asked[i]? = some s0 := by
        have : (fu ρ.asked)[i]? = some (s0, u) := hs0
        unfold fu at this
        rw [List.getElem?_map] at this
        cases e9 : ρ.asked[i]? with
        | none => rw [e9] at this; cases this
        | some z => rw [e9] at this; cases this; rfl
      rw [ek] at hk
      have hkx := NK.tx (TX.same cx) _ _ hk
      have le := cut_le M H'
      have hik : (keys ρ.rows)[i]? = some s0 := by rw [show keys ρ.rows = ρ.asked from gd.r1]; exact hs0'
      obtain ⟨y, hy, ey⟩ : ∃ y, ρ.rows[i]? = some y ∧ y.1 = s0 := by
        unfold keys at hik
        rw [List.getElem?_map] at hik
        cases e9 : ρ.rows[i]? with
        | none => rw [e9] at hik; cases hik
        | some z => rw [e9] at hik; cases hik; exact ⟨z, rfl, rfl⟩
      have hsk : s0 ∈ keys ρ.rows := List.mem_of_getElem? hik
      have rwx : NDAt w M H' rd (eS c.nv c.na) (LsAt c.nv c.na) ρ.rows := rw2.keep LsAt.grows cx (sx _)
      rcases rwx.nget (SrGood.inj rkey (rkey s0 hsk).1) (NK.tx (TX.same le) _ _ hkx) (depth_eS _ _ _) with ⟨m1, _⟩ | ⟨z, v, m1, m2, l, evs, rfl, lh, ln⟩
      · exact absurd hsk (kpGet_none.mp m1)
      have ez : z = y.2 := by
        have := kpGet_of ls.nd (k := y.1) (v := y.2) (List.mem_of_getElem? hy)
        rw [ey, m1] at this
        exact Option.some.inj this
      refine ⟨rfl, _, rfl, _, rfl, x, _, dxx, _, _, rfl, sx _ _ x2, T.clSearch, T.nSearch_rows, rfl, _, rfl, rd, _, rfl, m2, l, evs, rfl, .inl (SqL.of (le _ _ lh)), fun l' nl' => ?_⟩
      have sl := new_same (o := HO.lst evs) nl'
      have thx : Thr M H' := th2.chg (D := []) (Chg.same sx)
      have lM := thx.new nl'
      refine ⟨(by show 2 ≤ sizeLine; decide), fun t nt => ?_⟩
      have st := sl.trans (new_same (o := HO.tup [V.ref en'.2.1, V.ref l']) nt)
      have tM := (thx.chg (D := []) (Chg.same sl)).new nt
      have lu := new_same (o := HO.tup [V.ref en'.2.1, V.ref l']) nt _ _ (upd_same (H := H') (a := l') (o := HO.lst evs))
      have tu := upd_same (H := upd H' l' (HO.lst evs)) (a := t) (o := HO.tup [V.ref en'.2.1, V.ref l'])
      generalize upd (upd H' l' (HO.lst evs)) t (HO.tup [V.ref en'.2.1, V.ref l']) = H5 at st lu tu ⊢
      have qa5 := st _ _ qa
      have c5 := Same.cut (M := Dl :: M) st
      have lD : l' ≠ Dl := fun z => by rw [z, qa] at nl'; cases nl'
      have tD : t ≠ Dl := fun z => by
        have := sl _ _ qa
        rw [← z, nt] at this
        cases this
      have ec6 : cut (Dl :: M) (upd H5 Dl (.lst (acc ++ [V.ref t]))) = cut (Dl :: M) H5 := cut_upd List.mem_cons_self
      have cD : Same (cut M H2) (cut (Dl :: M) H5) := fun a o h => by
        have h' := cut_le _ _ _ _ h
        refine cut_of (st _ _ (sx _ _ h')) fun z => ?_
        rcases List.mem_cons.mp z with z | z
        · exact ne_of_none h' nD z
        · exact cut_not h z
      refine ⟨acc, qa5, szl ?_, fun a o h => by rw [upd_ne (ne_of_none h nD)]; exact st _ _ (sx _ _ h), _, upd_same, ?_⟩
      · have := Paired.length pr
        rw [← this]
        have := List.length_take_le i ρ.rows
        have h9 : (ρ.rows.take i).length ≤ ρ.rows.length := List.length_take_le' i _
        omega
      · rw [ec6, List.take_succ, hy]
        refine Paired.snoc (PsR.same c5 pr) ⟨t, _, _, rfl, cut_of tu fun z => (List.mem_cons.mp z).elim tD tM, ?_, l', evs, rfl, cut_of lu fun z => (List.mem_cons.mp z).elim lD lM, ?_⟩
        · rw [ey]
          exact NK.tx (TX.same cD) _ _ hk
        · rw [← ez]
          refine NKs.tx (fun a xs h => ?_) _ _ ln
          have h' := cut_le _ _ _ _ h
          refine cut_of (st _ _ h') fun z => ?_
          rcases List.mem_cons.mp z with z | z
          · rw [z, qa] at h'; cases h'
          · exact cut_not h z
    · rintro Hx ⟨sx, acc, qa, pr⟩
      have el : ρ.rows.take ys.length = ρ.rows := by
        have h1 : ys.length = ρ.asked.length := by rw [y3.length]; unfold fu; rw [List.length_map]
        have h2 : ρ.rows.length = ρ.asked.length := by rw [← gd.r1]; unfold keys; rw [List.length_map]
        rw [h1, ← h2, List.take_length]
      rw [el] at pr
      refine ⟨sx _ _ f2, ?_⟩
      have aD : ad ≠ Dl := ne_of_none f2 nD
      refine k _ Dl ρ.rows acc (post sx) (by rw [upd_ne (Ne.symm aD)]; exact qa) ?_ (Paired.mapP pr fun p v h => PrR.grows _ _ _ _ (fun a o h => ?_) h) ls
      · cases e9 : H Dl with
        | none => rfl
        | some o => have := n2 (S1 _ _ e9) (fun z => by rw [z, adH] at e9; cases e9); rw [nD] at this; cases this
      · rw [upd_ne fun z => cut_not h (by rw [z]; exact List.mem_cons_of_mem _ adM)]
        exact cut_le _ _ _ _ h
theorem cal_least {f : Addr} {fd : FuncData} (F : FnP K "least_rows" "least_rows" s_least_rows f fd) (T : Txt K mg) (g : mg "least_rows" = some (.ref f)) (k_Search : C8.Mak P w K mg base 14 "Search" (aSearch K) (spSearch w K) [V.non]) : C8.Cal P w K mg base 16 "least_rows" (spLeast K) [] :=
  ⟨f, fd, _, [], ok_least F T k_Search, g, F.kp, F.bindsN fun _ _ _ _ _ _ us hl => match us, hl with | [_], _ => rfl, .nil⟩
/-! ### reachable -/
def spReach (K : PySem.W.Frag) : Sp := fun vs H Q _ => ∃ (hv : V) (c : Cf), vs = [hv] ∧ HsAt K H c hv ∧ c.Ok ∧ c.Few ∧ ∀ H' l ps row, Same H H' → LsAt c.nv c.na H' row (.ref l) → LeastT c ps → kpGet ps (first c) = some row → Q (.ref l) H'
theorem sc_reachable : FnScope ["house", "search"] ["house"] (defScope s_reachable) := ⟨rfl, rfl, rfl, by decide +kernel, rfl, by decide +kernel, by decide +kernel⟩
theorem ok_reach {f : Addr} {fd : FuncData} (F : FnP K "reachable" "reachable" s_reachable f fd) (T : Txt K mg) (k_Search : C8.Mak P w K mg base 14 "Search" (aSearch K) (spSearch w K) [V.non]) : FnOk P w K mg base CX0 16 f fd ["house"] (spReach K) := by
  refine F.ok sc_reachable (fun vs H Q E h => ?_) (fun cdv A outer s H vs Q E hr h => ?_)
  · obtain ⟨hv, c, rfl, _⟩ := h
    rfl
  · obtain ⟨hv, c, rfl, hh, co, few, k⟩ := h
    have hu9 := hu9 hr
    refine ⟨_, PSs.nox ((pss_cons (ps_set (i := 1) sc_reachable.nd rfl (Or.inl rfl) (C8.pe_mk k_Search hr (by decide) (by rfl) (pa_cons (pv 0) pa_nil)))
      (pss_one (ps_ret (pe_callTy call_list_of (by rfl) T.list bt_list (pa_cons (pe_nget hu9 (pe_fld (pv 1) rfl) (pe_fld (pv 1) rfl) (fun _ _ => rfl)) pa_nil)))))), ?_⟩
    dsimp only [cxOf, Cx.nox]
    refine ⟨_, rfl, fun x dx nx ndx nex => ?_⟩
    have sx0 : Same H (upd (upd H dx (.own x)) x (.ins (aSearch K) dx [])) := (new_same ndx).trans (new_same (by rw [upd_ne (Ne.symm nex)]; exact nx))
    refine ⟨x, dx, hv, c, rfl, upd_same, hh.same sx0, co, few, fun H1 M X D ρ ed rd ad wa sv s1 hi hsv th gd cl sd hd nw => ⟨rfl, ?_⟩⟩
    have S1 : Same H H1 := same_made nx ndx s1
    obtain ⟨dxx, hxx⟩ := hi.ins
    have ls := LeastT.of gd cl sd hd
    obtain ⟨b, rfl⟩ : ∃ b, sv = V.ref b := by
      cases hsv with
      | tup _ _ => exact ⟨_, rfl⟩
    have le := cut_le M H1
    obtain ⟨row, l0, hps⟩ := ls.hd
    have hfk : first c ∈ keys ρ.rows := by rw [hps]; exact List.mem_cons_self
    rcases hi.rw.nget (SrGood.inj ls.ky (ls.ky _ hfk).1) (NK.tx (TX.same le) _ _ hsv) (depth_eS _ _ _) with ⟨m1, _⟩ | ⟨z, v, m1, m2, l, evs, rfl, lh, ln⟩
    · exact absurd hfk (kpGet_none.mp m1)
    refine ⟨_, rfl, x, _, dxx, _, _, rfl, hxx, T.clSearch, T.nSearch_rows, rfl, _, rfl, x, _, dxx, _, _, rfl, hxx, T.clSearch, T.nSearch_start, rfl, rd, _, rfl, m2, l, evs, rfl, .inl (SqL.of (le _ _ lh)), fun l' nl' => ?_⟩
    have sl := new_same (o := HO.lst evs) nl'
    exact k _ l' ρ.rows z (S1.trans sl) ⟨l', evs, rfl, upd_same, NKs.tx (TX.same (Same.trans le sl)) _ _ ln⟩ ls m1
theorem cal_reach {f : Addr} {fd : FuncData} (F : FnP K "reachable" "reachable" s_reachable f fd) (T : Txt K mg) (g : mg "reachable" = some (.ref f)) (k_Search : C8.Mak P w K mg base 14 "Search" (aSearch K) (spSearch w K) [V.non]) : C8.Cal P w K mg base 16 "reachable" (spReach K) [] :=
  ⟨f, fd, _, [], ok_reach F T k_Search, g, F.kp, F.bindsN fun _ _ _ _ _ _ us hl => match us, hl with | [_], _ => rfl, .nil⟩
/-! ### most -/
def spMost (K : PySem.W.Frag) : Sp := fun vs H Q _ => ∃ (hv : V) (c : Cf) (pb : Addr) (prc : List Int), vs = [hv, .ref pb] ∧ HsAt K H c hv ∧ c.Ok ∧ c.Few ∧ PrcAt c H prc pb ∧ ∀ H' ps row m, Same H H' → LeastT c ps → kpGet ps (first c) = some row → IsMax (row.map (wr c prc)) m → Q (.int m) H'
theorem sc_most : FnScope ["house", "prices", "state"] ["house", "prices"] (defScope s_most) := ⟨rfl, rfl, rfl, by decide +kernel, rfl, by decide +kernel, by decide +kernel⟩
theorem ok_most {f : Addr} {fd : FuncData} (F : FnP K "most" "most" s_most f fd) (T : Txt K mg) (c_reachable : C8.Cal P w K mg base 16 "reachable" (spReach K) []) (c_worth : C8.Cal P w K mg base 1 "worth" (spWorth K) []) : FnOk P w K mg base CX0 17 f fd ["house", "prices"] (spMost K) := by
  refine F.ok sc_most (fun vs H Q E h => ?_) (fun cdv A outer s H vs Q E hr h => ?_)
  · obtain ⟨hv, c, pb, prc, rfl, _⟩ := h
    rfl
  · obtain ⟨hv, c, pb, prc, rfl, hh, co, few, ⟨hb1, hb2, hb3⟩, k⟩ := h
    refine ⟨_, PSs.nox ((pss_one (ps_ret (pe_callB (cr_max rfl) (by rfl) T.max bt_max (pa_cons (pe_lc (own := [("state", 2)]) rfl sc_most.nd (pi_list (C8.pe_c c_reachable hr (by decide) (by rfl) (pa_cons (pv 0) pa_nil))) (blkOk_by (own := [("state", 2)]) (N := ["house", "prices", "state"]) (sc := defScope s_most) (by decide +kernel)) (fun _ _ _ _ _ => (pg_name (i := 2) sc_most.nd rfl (Or.inl rfl))) (fun _ _ _ _ _ => pts_nil) (fun _ _ _ _ _ => (C8.pe_c c_worth hr (by decide) (by rfl) (pa_cons (pv 2) (pa_cons (pv 1) pa_nil))))) pa_nil))))), ?_⟩
    dsimp only [cxOf, Cx.nox]
    refine ⟨_, rfl, hv, c, rfl, hh, co, few, fun H3 l ps row s3 lsl ls g1 => ?_⟩
    obtain ⟨l', evs, e9, lh, ln⟩ := lsl
    cases e9
    have rok := ls.rw _ (kpGet_mem g1)
    have rl : row.length ≤ 10 := SrGood.row_len rok.1 rok.2
    have hb3' := s3 _ _ hb1
    refine ⟨l, rfl, ⟨_, SqL.of lh⟩, fun D nD => ?_⟩
    refine lc_list (K := K) (xs := evs) (fun a Ha => Same H3 Ha ∧ Ha D = some (.lst ((row.take a).map fun e => V.int (wr c prc e)))) ⟨new_same nD, upd_same⟩ (fun a Ha _ ⟨sx, _⟩ => SqL.of (sx _ _ lh)) ?_ ?_
    · rintro a xa Ha ha ⟨sa, qa⟩
      obtain ⟨ea, hea, nea⟩ := NKs.at ln ha
      have oea := (rok.2 ea (List.mem_of_getElem? hea)).1
      refine ⟨rfl, _, rfl, _, rfl, xa, c.nv, c.na, ea, pb, prc, rfl, NK.tx (TX.same sa) _ _ nea, sa _ _ hb3', hb2, ⟨oea.o0, by have := oea.top; have := oea.h0; omega⟩, hb3, fun Hb sb => ?_⟩
      refine ⟨_, sb _ _ qa, ?_, fun b o h => ?_, ?_⟩
      · rw [List.length_map]
        refine szl (Nat.lt_of_le_of_lt (List.length_take_le' _ _) (Nat.lt_of_le_of_lt rl (by decide)))
      · rw [upd_ne (ne_of_none h nD)]; exact sb _ _ (sa _ _ h)
      · rw [upd_same, List.take_succ, hea, List.map_append]; rfl
    · rintro Ha ⟨sa, qa⟩
      rw [← ln.length, List.length_map, List.take_length] at qa
      have qa' : Ha D = some (.lst ((row.map (wr c prc)).map V.int)) := by rw [qa, List.map_map]; rfl
      have hf := (ls.cl.2 _ _ g1).1
      refine ⟨D, _, rfl, SqL.of qa', ?_, fun m h1 h2 => k _ ps row m (s3.trans sa) ls g1 ⟨h1, h2⟩⟩
      rw [List.length_map]
      exact List.length_pos_of_mem hf
theorem cal_most {f : Addr} {fd : FuncData} (F : FnP K "most" "most" s_most f fd) (T : Txt K mg) (g : mg "most" = some (.ref f)) (c_reachable : C8.Cal P w K mg base 16 "reachable" (spReach K) []) (c_worth : C8.Cal P w K mg base 1 "worth" (spWorth K) []) : C8.Cal P w K mg base 17 "most" (spMost K) [] :=
  ⟨f, fd, _, [], ok_most F T c_reachable c_worth, g, F.kp, F.bindsN fun _ _ _ _ _ _ us hl => match us, hl with | [_, _], _ => rfl, .nil⟩
end
end NC
set_option Elab.async false
set_option linter.all false
set_option maxRecDepth 100000
set_option maxHeartbeats 4000000
/-! The law's drawing of a house: cell, row, expression. -/
namespace NC
open PySem PySem.Spec PyProof.Rows L2
theorem SqL.same {K : PySem.W.Frag} {H H' : Hp} {a : Addr} {xs : List V} (s : Same H H') (h : SqL K H a xs) : SqL K H' a xs := by
  rcases h with h | h
  · rcases h with h | ⟨o, h⟩
    · exact .inl (.inl (s _ _ h))
    · exact .inl (.inr ⟨o, s _ _ h⟩)
  · exact .inr h
section
variable {P : Program} {w : World} {K : PySem.W.Frag} {mg : Str → Option Value} {base : Heap}
def spLCell (K : PySem.W.Frag) : Sp := fun vs H Q _ => ∃ (l : Addr) (ns : List Int) (j : Nat), vs = [.ref l, .int (j : Nat)] ∧ SqL K H l (ns.map V.int) ∧ ∀ i, Q (.int i) H
theorem sc_law_cell : FnScope ["_law_script", "_law_k"] ["_law_script", "_law_k"] (defScope s_law_cell) := ⟨rfl, rfl, rfl, by decide +kernel, rfl, by decide +kernel, by decide +kernel⟩
theorem ok_lcell {f : Addr} {fd : FuncData} (F : FnP K "_law_cell" "_law_cell" s_law_cell f fd) (T : Txt K mg) : FnOk P w K mg base CX0 1 f fd ["_law_script", "_law_k"] (spLCell K) := by
  refine F.ok sc_law_cell (fun vs H Q E h => ?_) (fun cdv A outer s H vs Q E hr h => ?_)
  · obtain ⟨l, ns, j, rfl, _⟩ := h
    rfl
  · obtain ⟨l, ns, j, rfl, hl, k⟩ := h
    refine ⟨_, PSs.nox ((pss_cons (ps_if (pt_cmpR op_lt (pv 1) (pe_callB call_len (by rfl) T.len bt_len (pa_cons (pv 0) pa_nil)) (nomark _)) (pss_one (ps_ret (pe_ix ix_list (pv 0) (pv 1) (fun _ _ => rfl)))) pss_nil)
      (pss_one (ps_ret pe_int)))), ?_⟩
    dsimp only [cxOf, Cx.nox]
    refine ⟨_, rfl, _, rfl, _, _, rfl, .inl ⟨_, hl, rfl⟩, _, _, rfl, rfl, _, rfl, ?_⟩
    by_cases hlt : j < ns.length
    · refine iteT' (by rw [List.length_map]; exact decide_eq_true (by omega)) ?_
      exact ⟨_, rfl, _, rfl, l, _, j, V.int ns[j], rfl, rfl, hl, at_of (j := j) rfl (by rw [List.getElem?_map, List.getElem?_eq_getElem hlt]; rfl), k _⟩
    · refine iteF' (by rw [List.length_map]; exact decide_eq_false (by omega)) ?_
      exact k 0
theorem cal_lcell {f : Addr} {fd : FuncData} (F : FnP K "_law_cell" "_law_cell" s_law_cell f fd) (T : Txt K mg) (g : mg "_law_cell" = some (.ref f)) : C8.Cal P w K mg base 1 "_law_cell" (spLCell K) [] :=
  ⟨f, fd, _, [], ok_lcell F T, g, F.kp, F.bindsN fun _ _ _ _ _ _ us hl => match us, hl with | [_, _], _ => rfl, .nil⟩
def spLRow : Sp := fun vs H Q _ => ∃ (c n z : Int), vs = [.int c, .int n, .int z] ∧ 0 ≤ n ∧ n ≤ 1000 ∧ 1 ≤ z ∧ z < 1073741824 ∧ ∀ (l : Addr) (H' : Hp) (ns : List Int), Same H H' → H' l = some (.lst (ns.map V.int)) → ns.length = n.toNat → (∀ i ∈ ns, 0 ≤ i ∧ i < z) → Q (.ref l) H'
theorem sc_law_row : FnScope ["_law_cell_here", "_law_count", "_law_size", "_law_state", "_law_row_here", "_law_k"] ["_law_cell_here", "_law_count", "_law_size"] (defScope s_law_row) := ⟨rfl, rfl, rfl, by decide +kernel, rfl, by decide +kernel, by decide +kernel⟩
theorem ok_lrow {f : Addr} {fd : FuncData} (F : FnP K "_law_row" "_law_row" s_law_row f fd) (T : Txt K mg) : FnOk P w K mg base CX0 1 f fd ["_law_cell_here", "_law_count", "_law_size"] spLRow := by
  refine F.ok sc_law_row (fun vs H Q E h => ?_) (fun cdv A outer s H vs Q E hr h => ?_)
  · obtain ⟨c, n, z, rfl, _⟩ := h
    rfl
  · obtain ⟨c, n, z, rfl, n0, n1, z0, z1, k⟩ := h
    refine ⟨_, PSs.nox ((pss_cons (ps_set (i := 3) sc_law_row.nd rfl (Or.inl rfl) (pv 0))
      (pss_cons (ps_set (i := 4) sc_law_row.nd rfl (Or.inl rfl) (pe_lst pa_nil))
      (pss_cons (ps_for PassesOwn.never rfl (pi_range1 rfl T.range (pa_cons (pv 1) pa_nil)) (pg_name (i := 5) sc_law_row.nd rfl (Or.inl rfl)) (pss_one (ps_if (pt_cmpR op_ge (pv 0) (pe_op op_pow pe_int pe_int) (nomark _)) (pss_cons (ps_expr (pe_bm PySem.F.plainAttrs_list PySem.F.slot_list_append PySem.F.type_list_append mt_append (pv 4) (pa_cons (pe_op op_mod (pe_callTy call_int1 (by rfl) T.int bt_int (pa_cons (pv 3) pa_nil)) (pv 2)) pa_nil)))
      (pss_one (ps_set (i := 3) sc_law_row.nd rfl (Or.inl rfl) (pe_op op_fdiv (pv 3) (pv 2))))) (pss_cons (ps_set (i := 3) sc_law_row.nd rfl (Or.inl rfl) (pe_op op_mod (pe_op op_add (pe_op op_mul (pv 3) pe_int) pe_int) pe_int))
      (pss_one (ps_expr (pe_bm PySem.F.plainAttrs_list PySem.F.slot_list_append PySem.F.type_list_append mt_append (pv 4) (pa_cons (pe_op op_mod (pe_op op_mod (pe_callTy call_int1 (by rfl) T.int bt_int (pa_cons (pe_op op_add (pe_op op_mul (pv 3) pe_int) (pe_op op_mul (pv 5) pe_int)) pa_nil)) pe_int) (pv 2)) pa_nil))))))))
      (pss_one (ps_ret (pv 4))))))), ?_⟩
    dsimp only [cxOf, Cx.nox]
    refine ⟨_, rfl, (by show 0 ≤ sizeLine; decide), fun l nl => ?_⟩
    refine ⟨_, rfl, n, rfl, by omega, by omega, for_range (fun i σ Hx => ∃ (st : Int) (x5 : Option V) (ns : List Int), σ = [some (.int c), some (.int n), some (.int z), some (.int st), some (.ref l), x5] ∧ Same H Hx ∧ Hx l = some (.lst (ns.map V.int)) ∧ ns.length = i ∧ ∀ i ∈ ns, 0 ≤ i ∧ i < z)
      ⟨c, _, [], rfl, new_same nl, upd_same, rfl, fun i hi => nomatch hi⟩ ?_ ?_⟩
    · rintro i σ Hx hi ⟨st, x5, ns, rfl, sx, hl, hn, hz⟩
      have app : ∀ (v : Int), 0 ≤ v → v < z → Same H (upd Hx l (.lst (ns.map V.int ++ [V.int v]))) ∧ upd Hx l (.lst (ns.map V.int ++ [V.int v])) l = some (.lst ((ns ++ [v]).map V.int)) ∧ (ns ++ [v]).length = i + 1 ∧ ∀ i ∈ ns ++ [v], 0 ≤ i ∧ i < z := fun v v0 v1 => by
        refine ⟨fun a o h => by rw [upd_ne (ne_of_none h nl)]; exact sx _ _ h, by rw [upd_same, List.map_append]; rfl, by rw [List.length_append, hn]; rfl, fun i hi => ?_⟩
        rcases List.mem_append.mp hi with hi | hi
        · exact hz i hi
        · rw [List.mem_singleton.mp hi]; exact ⟨v0, v1⟩
      have hlen : (ns.map V.int).length < sizeLine := by rw [List.length_map]; exact szl (by omega)
      refine ⟨_, rfl, 10, 18, rfl, rfl, ⟨by omega, by omega, by decide⟩, ?_⟩
      refine ⟨_, _, rfl, rfl, _, rfl, ifb (fun _ => ?_) fun _ => ?_⟩
      · have m0 := Int.emod_nonneg st (by omega : z ≠ 0)
        have m1 := Int.emod_lt_of_pos st (by omega : 0 < z)
        obtain ⟨a1, a2, a3, a4⟩ := app (st % z) m0 m1
        refine ⟨_, rfl, .inl ⟨rfl, _, SqL.of hl⟩, _, rfl, .inl ⟨st, rfl, _, rfl, _, _, rfl, rfl, by show 0 < z; omega, l, _, _, rfl, rfl, hl, hlen, ?_⟩⟩
        exact ⟨_, rfl, _, rfl, _, _, rfl, rfl, ⟨by omega, z1⟩, _, _, ns ++ [st % z], rfl, a1, a2, a3, a4⟩
      · refine ⟨_, rfl, _, _, rfl, rfl, .inr ⟨by decide, by decide⟩, _, _, rfl, rfl, _, _, rfl, rfl, by show (0 : Int) < 2147483647; decide, ?_⟩
        refine ⟨_, rfl, .inl ⟨rfl, _, SqL.of hl⟩, ?_⟩
        refine ⟨_, rfl, _, _, rfl, rfl, .inr ⟨by decide, by decide⟩, _, rfl, _, _, rfl, rfl, .inr ⟨by decide, by decide⟩, _, _, rfl, rfl, .inl ⟨_, rfl, _, _, rfl, rfl, by show (0 : Int) < 2147483647; decide, ?_⟩⟩
        refine ⟨_, rfl, _, _, rfl, rfl, by show 0 < z; omega, l, _, _, rfl, rfl, hl, hlen, ?_⟩
        obtain ⟨a1, a2, a3, a4⟩ := app _ (Int.emod_nonneg _ (by omega : z ≠ 0)) (Int.emod_lt_of_pos _ (by omega : 0 < z))
        exact ⟨_, _, ns ++ [_], rfl, a1, a2, a3, a4⟩
    · rintro σ Hx ⟨st, x5, ns, rfl, sx, hl, hn, hz⟩
      exact ⟨_, rfl, k l Hx ns sx hl hn hz⟩
theorem cal_lrow {f : Addr} {fd : FuncData} (F : FnP K "_law_row" "_law_row" s_law_row f fd) (T : Txt K mg) (g : mg "_law_row" = some (.ref f)) : C8.Cal P w K mg base 1 "_law_row" spLRow [] :=
  ⟨f, fd, _, [], ok_lrow F T, g, F.kp, F.bindsN fun _ _ _ _ _ _ us hl => match us, hl with | [_, _, _], _ => rfl, .nil⟩
/-! ### expression -/
def cOk : Nat → Int → Prop
  | 0, _ => False
  | 1, c => 0 ≤ c ∧ c ≤ 1
  | 2, c => 0 ≤ c ∧ c < 60
  | _ + 3, _ => True
def nmL (nv : Bool) : List V := if nv then [.str "x"] else []
def asL (na : Bool) : List V := if na then [.str "a"] else []
theorem nm_len {nv : Bool} (h : decide ((0 : Int) < ((nmL nv).length : Int)) = true) : nv = true := by
  cases nv with
  | true => rfl
  | false => exact absurd (of_decide_eq_true h) (by show ¬ ((0 : Int) < 0); decide)
theorem as_len {na : Bool} (h : decide ((0 : Int) < ((asL na).length : Int)) = true) : na = true := by
  cases na with
  | true => rfl
  | false => exact absurd (of_decide_eq_true h) (by show ¬ ((0 : Int) < 0); decide)
theorem andG {A B T : Prop} {b1 b2 : Bool} (ht : (if b2 = true then A else B) → T) (ha : b1 = true → b2 = true → A) (hb : (b1 = false ∨ b2 = false) → B) : if b1 = true then T else (if false = true then A else B) := by
  cases b1 with
  | false => exact iteF (iteF (hb (.inl rfl)))
  | true =>
    refine iteT (ht ?_)
    cases b2 with
    | false => exact iteF (hb (.inr rfl))
    | true => exact iteT (ha rfl rfl)
def spLExp (d : Nat) : Sp := fun vs H Q _ => ∃ (c : Int) (ln la : Addr) (nv na : Bool), vs = [.int c, .ref ln, .ref la] ∧ H ln = some (.lst (nmL nv)) ∧ H la = some (.lst (asL na)) ∧ cOk d c ∧ ∀ (x : Xp) v H', Same H H' → NK H' (eX x) v → x.ok nv na = true → x.dp ≤ d → Q v H'
theorem sc_law_expression : FnScope ["_law_cell_here", "_law_names", "_law_assets", "_law_kind", "_law_rest", "_law_left"] ["_law_cell_here", "_law_names", "_law_assets"] (defScope s_law_expression) := ⟨rfl, rfl, rfl, by decide +kernel, rfl, by decide +kernel, by decide +kernel⟩
theorem ok_lexp {f : Addr} {fd : FuncData} (F : FnP K "_law_expression" "_law_expression" s_law_expression f fd) (T : Txt K mg) (g : mg "_law_expression" = some (.ref f)) : ∀ d : Nat, FnOk P w K mg base CX0 (d + 1) f fd ["_law_cell_here", "_law_names", "_law_assets"] (spLExp d) := by
  intro d
  induction d with
  | zero =>
    refine ⟨fun vs H Q E h => ?_, fun A outer s H args us vs Q E _ _ _ _ h => ?_⟩
    · obtain ⟨c, ln, la, nv, na, rfl, _⟩ := h
      rfl
    · obtain ⟨c, ln, la, nv, na, _, _, _, hc, _⟩ := h
      exact hc.elim
  | succ d ih =>
    refine F.ok sc_law_expression (fun vs H Q E h => ?_) (fun cdv A outer s H vs Q E hr h => ?_)
    · obtain ⟨c, ln, la, nv, na, rfl, _⟩ := h
      rfl
    · obtain ⟨c, ln, la, nv, na, rfl, hn, ha, hc, k⟩ := h
      have c_law_expression : C8.Cal P w K mg base (d + 1) "_law_expression" (spLExp d) [] := ⟨f, fd, _, [], ih, g, F.kp, F.bindsN fun _ _ _ _ _ _ us hl => match us, hl with | [_, _, _], _ => rfl, .nil⟩
      refine ⟨_, PSs.nox ((pss_cons (ps_set (i := 3) sc_law_expression.nd rfl (Or.inl rfl) (pe_op op_mod (pe_callTy call_int1 (by rfl) T.int bt_int (pa_cons (pv 0) pa_nil)) pe_int))
      (pss_cons (ps_set (i := 4) sc_law_expression.nd rfl (Or.inl rfl) (pe_op op_fdiv (pe_callTy call_int1 (by rfl) T.int bt_int (pa_cons (pv 0) pa_nil)) pe_int))
      (pss_cons (ps_if (PW.pt (pw_and (pt_cmpR op_lt (pv 3) pe_int (nomark _)) (pw_and1 (pt_cmpR op_gt (pe_callB call_len (by rfl) T.len bt_len (pa_cons (pv 1) pa_nil)) pe_int (nomark _))))) (pss_one (ps_ret (pe_tup (pa_cons pe_str (pa_cons (pe_ix ix_list (pv 1) (pe_op op_mod (pv 4) (pe_callB call_len (by rfl) T.len bt_len (pa_cons (pv 1) pa_nil))) (fun _ _ => rfl)) pa_nil))))) pss_nil)
      (pss_cons (ps_if (pt_cmpR op_eq (pv 3) pe_int (nomark _)) (pss_one (ps_ret (pe_tup (pa_cons pe_str pa_nil)))) pss_nil)
      (pss_cons (ps_if (PW.pt (pw_and (pt_cmpR op_eq (pv 3) pe_int (nomark _)) (pw_and1 (pt_cmpR op_gt (pe_callB call_len (by rfl) T.len bt_len (pa_cons (pv 2) pa_nil)) pe_int (nomark _))))) (pss_one (ps_ret (pe_tup (pa_cons (pe_ix ix_tup (pe_tup (pa_cons pe_str (pa_cons pe_str pa_nil))) (pe_op op_mod (pv 4) pe_int) (fun _ _ => rfl)) (pa_cons (pe_ix ix_list (pv 2) (pe_op op_mod (pe_op op_fdiv (pv 4) pe_int) (pe_callB call_len (by rfl) T.len bt_len (pa_cons (pv 2) pa_nil))) (fun _ _ => rfl)) pa_nil))))) pss_nil)
      (pss_cons (ps_if (pt_cmpR op_eq (pv 3) pe_int (nomark _)) (pss_cons (ps_set (i := 5) sc_law_expression.nd rfl (Or.inl rfl) (C8.pe_c c_law_expression hr (by omega) (by rfl) (pa_cons (pe_op op_mod (pe_op op_fdiv (pv 4) pe_int) pe_int) (pa_cons (pv 1) (pa_cons (pv 2) pa_nil)))))
      (pss_one (ps_ret (pe_tup (pa_cons (pe_ix ix_tup (pe_tup (pa_cons pe_str (pa_cons pe_str (pa_cons pe_str (pa_cons pe_str (pa_cons pe_str (pa_cons pe_str (pa_cons pe_str pa_nil)))))))) (pe_op op_mod (pv 4) pe_int) (fun _ _ => rfl)) (pa_cons (pv 5) (pa_cons (C8.pe_c c_law_expression hr (by omega) (by rfl) (pa_cons (pe_op op_mod (pe_op op_fdiv (pv 4) pe_int) pe_int) (pa_cons (pv 1) (pa_cons (pv 2) pa_nil)))) pa_nil))))))) pss_nil)
      (pss_one (ps_ret (pe_tup (pa_cons pe_str (pa_cons (pe_op op_mod (pv 4) pe_int) pa_nil)))))))))))), ?_⟩
      dsimp only [cxOf, Cx.nox]
      refine ⟨_, rfl, .inl ⟨c, rfl, _, _, rfl, rfl, by show (0 : Int) < 8; decide, ?_⟩⟩
      refine ⟨_, rfl, .inl ⟨c, rfl, _, _, rfl, rfl, ⟨by decide, by decide⟩, ?_⟩⟩
      have kk := k
      refine ⟨_, rfl, _, _, rfl, rfl, _, rfl, andG (fun h => ⟨_, rfl, _, _, rfl, .inl ⟨_, SqL.of hn, rfl⟩, _, _, rfl, rfl, _, rfl, h⟩) (fun h1 h2 => ?_) fun _ => ?_⟩
      · obtain rfl := nm_len h2
        refine ⟨_, rfl, _, rfl, _, rfl, _, _, rfl, .inl ⟨_, SqL.of hn, rfl⟩, _, _, rfl, rfl, by show (0 : Int) < 1; decide, ln, _, _, V.str "x", rfl, rfl, SqL.of hn, at_of (j := 0) (Int.emod_one _) rfl, (by show 2 ≤ sizeLine; decide), fun p np => ?_⟩
        exact k .var _ _ (new_same np) (.tup upd_same (.cons (.text _) (.cons (.text _) .nil))) rfl (Nat.le_add_left _ _)
      refine ⟨_, rfl, rfl, _, rfl, ifb (fun h1 => ?_) fun h1 => ?_⟩
      · refine ⟨(by show 1 ≤ sizeLine; decide), fun p np => ?_⟩
        exact k .giv _ _ (new_same np) (.tup upd_same (.cons (.text _) .nil)) rfl (Nat.le_add_left _ _)
      refine ⟨_, rfl, rfl, _, rfl, andG (fun h => ⟨_, rfl, _, _, rfl, .inl ⟨_, SqL.of ha, rfl⟩, _, _, rfl, rfl, _, rfl, h⟩) (fun h1 h2 => ?_) fun _ => ?_⟩
      · obtain rfl := as_len h2
        refine ⟨(by show 2 ≤ sizeLine; decide), fun q nq => ?_⟩
        have sq := new_same (o := HO.tup [V.str "have", V.str "out"]) nq
        have m0 := Int.emod_nonneg (c / 8) (by decide : (2 : Int) ≠ 0)
        have m1 := Int.emod_lt_of_pos (c / 8) (by decide : (0 : Int) < 2)
        by_cases hm : c / 8 % 2 = 0
        · refine ⟨_, rfl, _, _, rfl, rfl, by show (0 : Int) < 2; decide, q, _, _, V.str "have", rfl, rfl, SqT.of upd_same, at_of (j := 0) hm rfl, ?_⟩
          refine ⟨_, rfl, _, rfl, _, _, rfl, rfl, ⟨by decide, by decide⟩, _, rfl, _, _, rfl, .inl ⟨_, SqL.of (sq _ _ ha), rfl⟩, _, _, rfl, rfl, by show (0 : Int) < 1; decide, la, _, _, V.str "a", rfl, rfl, SqL.of (sq _ _ ha), at_of (j := 0) (Int.emod_one _) rfl, (by show 2 ≤ sizeLine; decide), fun p np => ?_⟩
          exact k .hav _ _ (sq.trans (new_same np)) (.tup upd_same (.cons (.text _) (.cons (.text _) .nil))) rfl (Nat.le_add_left _ _)
        · have hm1 : c / 8 % 2 = 1 := by omega
          refine ⟨_, rfl, _, _, rfl, rfl, by show (0 : Int) < 2; decide, q, _, _, V.str "out", rfl, rfl, SqT.of upd_same, at_of (j := 1) hm1 rfl, ?_⟩
          refine ⟨_, rfl, _, rfl, _, _, rfl, rfl, ⟨by decide, by decide⟩, _, rfl, _, _, rfl, .inl ⟨_, SqL.of (sq _ _ ha), rfl⟩, _, _, rfl, rfl, by show (0 : Int) < 1; decide, la, _, _, V.str "a", rfl, rfl, SqL.of (sq _ _ ha), at_of (j := 0) (Int.emod_one _) rfl, (by show 2 ≤ sizeLine; decide), fun p np => ?_⟩
          exact k .out _ _ (sq.trans (new_same np)) (.tup upd_same (.cons (.text _) (.cons (.text _) .nil))) rfl (Nat.le_add_left _ _)
      refine ⟨_, rfl, rfl, _, rfl, ifb (fun h1 => ?_) fun h1 => ?_⟩
      · have h4 : c % 8 = 4 := V.int.inj (of_decide_eq_true h1)
        have hd : cOk d (c / 8 / 7 % 60) ∧ cOk d (c / 8 / 420 % 60) := by
          match d, hc with
          | 0, hc => 
            have hc : 0 ≤ c ∧ c ≤ 1 := hc
            omega
          | 1, hc =>
            have hc : 0 ≤ c ∧ c < 60 := hc
            exact ⟨⟨by omega, by omega⟩, ⟨by omega, by omega⟩⟩
          | 2, _ => exact ⟨⟨by omega, by omega⟩, ⟨by omega, by omega⟩⟩
          | d + 3, _ => exact ⟨True.intro, True.intro⟩
        refine ⟨_, rfl, _, _, rfl, rfl, ⟨by decide, by decide⟩, _, _, rfl, rfl, by show (0 : Int) < 60; decide, _, rfl, _, rfl, _, ln, la, nv, na, rfl, hn, ha, hd.1, fun x1 v1 H1 s1 n1 o1 p1 => ?_⟩
        refine ⟨(by show 7 ≤ sizeLine; decide), fun q nq => ?_⟩
        have sq := new_same (o := HO.tup [V.str "+", V.str "-", V.str "*", V.str "/", V.str "mod", V.str "<", V.str "="]) nq
        have m0 := Int.emod_nonneg (c / 8) (by decide : (7 : Int) ≠ 0)
        have m1 := Int.emod_lt_of_pos (c / 8) (by decide : (0 : Int) < 7)
        obtain ⟨j, hj⟩ : ∃ j : Nat, c / 8 % 7 = (j : Int) := ⟨(c / 8 % 7).toNat, (Int.toNat_of_nonneg m0).symm⟩
        have hj7 : j < 7 := by omega
        have hsg : ([V.str "+", V.str "-", V.str "*", V.str "/", V.str "mod", V.str "<", V.str "="] : List V)[j]? = some (V.str (sgn j)) := by
          match j, hj7 with
          | 0, _ => rfl
          | 1, _ => rfl
          | 2, _ => rfl
          | 3, _ => rfl
          | 4, _ => rfl
          | 5, _ => rfl
          | 6, _ => rfl
        refine ⟨_, rfl, _, _, rfl, rfl, by show (0 : Int) < 7; decide, q, _, _, V.str (sgn j), rfl, rfl, SqT.of upd_same, at_of (j := j) hj hsg, ?_⟩
        have s2 := s1.trans sq
        refine ⟨_, rfl, _, rfl, _, _, rfl, rfl, ⟨by decide, by decide⟩, _, _, rfl, rfl, by show (0 : Int) < 60; decide, _, rfl, _, rfl, _, ln, la, nv, na, rfl, s2 _ _ hn, s2 _ _ ha, hd.2, fun x2 v2 H2 s3 n2 o2 p2 => ?_⟩
        refine ⟨(by show 3 ≤ sizeLine; decide), fun p np => ?_⟩
        have sp := new_same (o := HO.tup [V.str (sgn j), v1, v2]) np
        refine k (.op j x1 x2) _ _ ((s2.trans s3).trans sp) (.tup upd_same (.cons (.text _) (.cons (NK.tx (TX.same ((sq.trans s3).trans sp)) _ _ n1) (.cons (NK.tx (TX.same sp) _ _ n2) .nil)))) ?_ ?_
        · simp only [Xp.ok, Bool.and_eq_true, decide_eq_true_eq]
          exact ⟨hj7, o1, o2⟩
        · simp only [Xp.dp]
          omega
      · refine ⟨_, rfl, _, _, rfl, rfl, by show (0 : Int) < 4; decide, (by show 2 ≤ sizeLine; decide), fun p np => ?_⟩
        have m0 := Int.emod_nonneg (c / 8) (by decide : (4 : Int) ≠ 0)
        have m1 := Int.emod_lt_of_pos (c / 8) (by decide : (0 : Int) < 4)
        refine k (.num (c / 8 % 4)) _ _ (new_same np) (.tup upd_same (.cons (.text _) (.cons (.num _) .nil))) ?_ (Nat.le_add_left _ _)
        simp only [Xp.ok, Bool.and_eq_true, decide_eq_true_eq]
        omega
theorem cal_lexp {f : Addr} {fd : FuncData} (F : FnP K "_law_expression" "_law_expression" s_law_expression f fd) (T : Txt K mg) (g : mg "_law_expression" = some (.ref f)) : C8.Cal P w K mg base 4 "_law_expression" (spLExp 3) [] :=
  ⟨f, fd, _, [], ok_lexp F T g 3, g, F.kp, F.bindsN fun _ _ _ _ _ _ us hl => match us, hl with | [_, _, _], _ => rfl, .nil⟩
end
end NC
set_option Elab.async false
set_option linter.all false
set_option maxRecDepth 100000
set_option maxHeartbeats 4000000
/-! The law's drawing of a house: statement. -/
namespace NC
open PySem PySem.Spec PyProof.Rows L2
theorem andG3 {A B T : Prop} {b1 b2 b3 : Bool} {T2 : Prop} (ht : (if b2 = true then T2 else (if false = true then A else B)) → T) (ht2 : (if b3 = true then A else B) → T2) (ha : b1 = true → b2 = true → b3 = true → A) (hb : (b1 = false ∨ b2 = false ∨ b3 = false) → B) : if b1 = true then T else (if false = true then A else B) := by
  cases b1 with
  | false => exact iteF (iteF (hb (.inl rfl)))
  | true =>
    refine iteT (ht ?_)
    cases b2 with
    | false => exact iteF (iteF (hb (.inr (.inl rfl))))
    | true =>
      refine iteT (ht2 ?_)
      cases b3 with
      | false => exact iteF (hb (.inr (.inr rfl)))
      | true => exact iteT (ha rfl rfl rfl)
section
variable {P : Program} {w : World} {K : PySem.W.Frag} {mg : Str → Option Value} {base : Heap}
def spLSt (K : PySem.W.Frag) : Sp := fun vs H Q _ => ∃ (c : Int) (ln la kv : Addr) (nv na : Bool) (asks : Int), vs = [.int c, .ref ln, .ref la, .ref kv, .int asks] ∧ H ln = some (.lst (nmL nv)) ∧ H la = some (.lst (asL na)) ∧ (H kv = some (.lst []) ∨ H kv = some (.tup [])) ∧
  ∀ (t : Sm) v H', Same H H' → NK H' (eM t) v → t.ok nv na = true → ((∃ p, t = .pl p) ∨ (∃ k, t = .ask k) ∧ 0 < asks) → Q v H'
theorem sc_law_statement : FnScope ["_law_cell_here", "_law_names", "_law_assets", "_law_known", "_law_asks", "_law_kind", "_law_rest", "_law_pair"] ["_law_cell_here", "_law_names", "_law_assets", "_law_known", "_law_asks"] (defScope s_law_statement) := ⟨rfl, rfl, rfl, by decide +kernel, rfl, by decide +kernel, by decide +kernel⟩
theorem ok_lst {f : Addr} {fd : FuncData} (F : FnP K "_law_statement" "_law_statement" s_law_statement f fd) (T : Txt K mg) (c_law_expression : C8.Cal P w K mg base 4 "_law_expression" (spLExp 3) []) : FnOk P w K mg base CX0 5 f fd ["_law_cell_here", "_law_names", "_law_assets", "_law_known", "_law_asks"] (spLSt K) := by
  refine F.ok sc_law_statement (fun vs H Q E h => ?_) (fun cdv A outer s H vs Q E hr h => ?_)
  · obtain ⟨c, ln, la, kv, nv, na, asks, rfl, _⟩ := h
    rfl
  · obtain ⟨c, ln, la, kv, nv, na, asks, rfl, hn, ha, hk, k⟩ := h
    refine ⟨_, PSs.nox ((pss_cons (ps_set (i := 5) sc_law_statement.nd rfl (Or.inl rfl) (pe_op op_mod (pe_callTy call_int1 (by rfl) T.int bt_int (pa_cons (pv 0) pa_nil)) pe_int))
      (pss_cons (ps_set (i := 6) sc_law_statement.nd rfl (Or.inl rfl) (pe_op op_fdiv (pe_callTy call_int1 (by rfl) T.int bt_int (pa_cons (pv 0) pa_nil)) pe_int))
      (pss_cons (ps_if (PW.pt (pw_and (pt_cmpR op_eq (pv 5) pe_int (nomark _)) (pw_and1 (pt_cmpR op_gt (pe_callB call_len (by rfl) T.len bt_len (pa_cons (pv 1) pa_nil)) pe_int (nomark _))))) (pss_one (ps_ret (pe_tup (pa_cons pe_str (pa_cons (pe_ix ix_list (pv 1) (pe_op op_mod (pv 6) (pe_callB call_len (by rfl) T.len bt_len (pa_cons (pv 1) pa_nil))) (fun _ _ => rfl)) (pa_cons (C8.pe_c c_law_expression hr (by decide) (by rfl) (pa_cons (pe_op op_fdiv (pv 6) pe_int) (pa_cons (pv 1) (pa_cons (pv 2) pa_nil)))) pa_nil)))))) pss_nil)
      (pss_cons (ps_if (pt_cmpR op_eq (pv 5) pe_int (nomark _)) (pss_one (ps_ret (pe_tup (pa_cons pe_str (pa_cons (C8.pe_c c_law_expression hr (by decide) (by rfl) (pa_cons (pv 6) (pa_cons (pv 1) (pa_cons (pv 2) pa_nil)))) pa_nil))))) pss_nil)
      (pss_cons (ps_if (PW.pt (pw_and (pt_cmpR op_lt (pv 5) pe_int (nomark _)) (pw_and1 (pt_cmpR op_gt (pe_callB call_len (by rfl) T.len bt_len (pa_cons (pv 2) pa_nil)) pe_int (nomark _))))) (pss_one (ps_ret (pe_tup (pa_cons (pe_ix ix_tup (pe_tup (pa_cons pe_str (pa_cons pe_str pa_nil))) (pe_op op_mod (pv 6) pe_int) (fun _ _ => rfl)) (pa_cons (pe_ix ix_list (pv 2) (pe_op op_mod (pe_op op_fdiv (pv 6) pe_int) (pe_callB call_len (by rfl) T.len bt_len (pa_cons (pv 2) pa_nil))) (fun _ _ => rfl)) (pa_cons (C8.pe_c c_law_expression hr (by decide) (by rfl) (pa_cons (pe_op op_fdiv (pv 6) pe_int) (pa_cons (pv 1) (pa_cons (pv 2) pa_nil)))) pa_nil)))))) pss_nil)
      (pss_cons (ps_if (PW.pt (pw_and (pt_cmpR op_eq (pv 5) pe_int (nomark _)) (pw_and (pt_cmpR op_gt (pe_callB call_len (by rfl) T.len bt_len (pa_cons (pv 1) pa_nil)) pe_int (nomark _)) (pw_and1 (pt_cmpR op_gt (pv 4) pe_int (nomark _)))))) (pss_one (ps_ret (pe_tup (pa_cons pe_str (pa_cons (pe_ix ix_list (pv 1) (pe_op op_mod (pv 6) (pe_callB call_len (by rfl) T.len bt_len (pa_cons (pv 1) pa_nil))) (fun _ _ => rfl)) (pa_cons (pe_op op_add pe_int (pe_op op_mod (pe_op op_fdiv (pv 6) pe_int) pe_int)) pa_nil)))))) pss_nil)
      (pss_cons (ps_if (PW.pt (pw_and (pt_cmpR op_eq (pv 5) pe_int (nomark _)) (pw_and1 (pt_cmpR op_gt (pe_callB call_len (by rfl) T.len bt_len (pa_cons (pv 3) pa_nil)) pe_int (nomark _))))) pss_never pss_nil)
      (pss_one (ps_ret (pe_ifExp (pt_cmpR op_gt (pe_callB call_len (by rfl) T.len bt_len (pa_cons (pv 1) pa_nil)) pe_int (nomark _)) (pe_tup (pa_cons pe_str (pa_cons (pe_ix ix_list (pv 1) pe_int (fun _ _ => rfl)) (pa_cons (pe_tup (pa_cons pe_str (pa_cons (pe_op op_mod (pv 6) pe_int) pa_nil))) pa_nil)))) (pe_tup (pa_cons pe_str (pa_cons (pe_tup (pa_cons pe_str (pa_cons pe_int pa_nil))) pa_nil)))))))))))))), ?_⟩
    dsimp only [cxOf, Cx.nox]
    refine ⟨_, rfl, .inl ⟨c, rfl, _, _, rfl, rfl, by show (0 : Int) < 7; decide, ?_⟩⟩
    refine ⟨_, rfl, .inl ⟨c, rfl, _, _, rfl, rfl, ⟨by decide, by decide⟩, ?_⟩⟩
    have xk : ∀ {x : Xp}, x.ok nv na = true → x.dp ≤ 3 → xok nv na x = true := fun h1 h2 => by simp [xok, h1, h2]
    refine ⟨_, rfl, rfl, _, rfl, andG (fun h => ⟨_, rfl, _, _, rfl, .inl ⟨_, SqL.of hn, rfl⟩, _, _, rfl, rfl, _, rfl, h⟩) (fun h1 h2 => ?_) fun _ => ?_⟩
    · obtain rfl := nm_len h2
      refine ⟨_, rfl, _, rfl, _, rfl, _, _, rfl, .inl ⟨_, SqL.of hn, rfl⟩, _, _, rfl, rfl, by show (0 : Int) < 1; decide, ln, _, _, V.str "x", rfl, rfl, SqL.of hn, at_of (j := 0) (Int.emod_one _) rfl, ?_⟩
      refine ⟨_, rfl, _, _, rfl, rfl, ⟨by decide, by decide⟩, _, rfl, _, rfl, _, ln, la, true, na, rfl, hn, ha, True.intro, fun x v H1 s1 n1 o1 p1 => ?_⟩
      refine ⟨(by show 3 ≤ sizeLine; decide), fun p np => ?_⟩
      have sp := new_same (o := HO.tup [V.str "set", V.str "x", v]) np
      refine k (.pl (.set x)) _ _ (s1.trans sp) (.tup upd_same (.cons (.text _) (.cons (.text _) (.cons (NK.tx (TX.same sp) _ _ n1) .nil)))) ?_ (.inl ⟨_, rfl⟩)
      simp only [Sm.ok, Pl.ok, Bool.and_eq_true]
      exact ⟨trivial, xk o1 p1⟩
    refine ⟨_, rfl, rfl, _, rfl, ifb (fun h1 => ?_) fun h1 => ?_⟩
    · refine ⟨_, rfl, _, rfl, _, rfl, _, ln, la, nv, na, rfl, hn, ha, True.intro, fun x v H1 s1 n1 o1 p1 => ?_⟩
      refine ⟨(by show 2 ≤ sizeLine; decide), fun p np => ?_⟩
      have sp := new_same (o := HO.tup [V.str "need", v]) np
      refine k (.pl (.need x)) _ _ (s1.trans sp) (.tup upd_same (.cons (.text _) (.cons (NK.tx (TX.same sp) _ _ n1) .nil))) ?_ (.inl ⟨_, rfl⟩)
      simp only [Sm.ok, Pl.ok]
      exact xk o1 p1
    refine ⟨_, rfl, _, _, rfl, rfl, _, rfl, andG (fun h => ⟨_, rfl, _, _, rfl, .inl ⟨_, SqL.of ha, rfl⟩, _, _, rfl, rfl, _, rfl, h⟩) (fun h1 h2 => ?_) fun _ => ?_⟩
    · obtain rfl := as_len h2
      refine ⟨(by show 2 ≤ sizeLine; decide), fun q nq => ?_⟩
      have sq := new_same (o := HO.tup [V.str "give", V.str "get"]) nq
      have m0 := Int.emod_nonneg (c / 7) (by decide : (2 : Int) ≠ 0)
      have m1 := Int.emod_lt_of_pos (c / 7) (by decide : (0 : Int) < 2)
      by_cases hm : c / 7 % 2 = 0
      · refine ⟨_, rfl, _, _, rfl, rfl, by show (0 : Int) < 2; decide, q, _, _, V.str "give", rfl, rfl, SqT.of upd_same, at_of (j := 0) hm rfl, ?_⟩
        refine ⟨_, rfl, _, rfl, _, _, rfl, rfl, ⟨by decide, by decide⟩, _, rfl, _, _, rfl, .inl ⟨_, SqL.of (sq _ _ ha), rfl⟩, _, _, rfl, rfl, by show (0 : Int) < 1; decide, la, _, _, V.str "a", rfl, rfl, SqL.of (sq _ _ ha), at_of (j := 0) (Int.emod_one _) rfl, ?_⟩
        refine ⟨_, rfl, _, _, rfl, rfl, ⟨by decide, by decide⟩, _, rfl, _, rfl, _, ln, la, nv, true, rfl, sq _ _ hn, sq _ _ ha, True.intro, fun x v H1 s1 n1 o1 p1 => ?_⟩
        refine ⟨(by show 3 ≤ sizeLine; decide), fun p np => ?_⟩
        have sp := new_same (o := HO.tup [V.str "give", V.str "a", v]) np
        refine k (.pl (.give x)) _ _ ((sq.trans s1).trans sp) (.tup upd_same (.cons (.text _) (.cons (.text _) (.cons (NK.tx (TX.same sp) _ _ n1) .nil)))) ?_ (.inl ⟨_, rfl⟩)
        simp only [Sm.ok, Pl.ok, Bool.and_eq_true]
        exact ⟨trivial, xk o1 p1⟩
      · have hm1 : c / 7 % 2 = 1 := by omega
        refine ⟨_, rfl, _, _, rfl, rfl, by show (0 : Int) < 2; decide, q, _, _, V.str "get", rfl, rfl, SqT.of upd_same, at_of (j := 1) hm1 rfl, ?_⟩
        refine ⟨_, rfl, _, rfl, _, _, rfl, rfl, ⟨by decide, by decide⟩, _, rfl, _, _, rfl, .inl ⟨_, SqL.of (sq _ _ ha), rfl⟩, _, _, rfl, rfl, by show (0 : Int) < 1; decide, la, _, _, V.str "a", rfl, rfl, SqL.of (sq _ _ ha), at_of (j := 0) (Int.emod_one _) rfl, ?_⟩
        refine ⟨_, rfl, _, _, rfl, rfl, ⟨by decide, by decide⟩, _, rfl, _, rfl, _, ln, la, nv, true, rfl, sq _ _ hn, sq _ _ ha, True.intro, fun x v H1 s1 n1 o1 p1 => ?_⟩
        refine ⟨(by show 3 ≤ sizeLine; decide), fun p np => ?_⟩
        have sp := new_same (o := HO.tup [V.str "get", V.str "a", v]) np
        refine k (.pl (.get x)) _ _ ((sq.trans s1).trans sp) (.tup upd_same (.cons (.text _) (.cons (.text _) (.cons (NK.tx (TX.same sp) _ _ n1) .nil)))) ?_ (.inl ⟨_, rfl⟩)
        simp only [Sm.ok, Pl.ok, Bool.and_eq_true]
        exact ⟨trivial, xk o1 p1⟩
    refine ⟨_, rfl, rfl, _, rfl, andG3 (fun h => ⟨_, rfl, _, _, rfl, .inl ⟨_, SqL.of hn, rfl⟩, _, _, rfl, rfl, _, rfl, h⟩) (fun h => ⟨_, rfl, _, _, rfl, rfl, _, rfl, h⟩) (fun h1 h2 h3 => ?_) fun _ => ?_⟩
    · obtain rfl := nm_len h2
      have ha0 : 0 < asks := of_decide_eq_true h3
      refine ⟨_, rfl, _, rfl, _, rfl, _, _, rfl, .inl ⟨_, SqL.of hn, rfl⟩, _, _, rfl, rfl, by show (0 : Int) < 1; decide, ln, _, _, V.str "x", rfl, rfl, SqL.of hn, at_of (j := 0) (Int.emod_one _) rfl, ?_⟩
      refine ⟨_, rfl, _, _, rfl, rfl, ⟨by decide, by decide⟩, _, _, rfl, rfl, by show (0 : Int) < 2; decide, _, _, rfl, rfl, ?_⟩
      refine ⟨(by show 3 ≤ sizeLine; decide), fun p np => ?_⟩
      have m0 := Int.emod_nonneg (c / 7 / 6) (by decide : (2 : Int) ≠ 0)
      have m1 := Int.emod_lt_of_pos (c / 7 / 6) (by decide : (0 : Int) < 2)
      refine k (.ask (1 + c / 7 / 6 % 2)) _ _ (new_same np) (.tup upd_same (.cons (.text _) (.cons (.text _) (.cons (.num _) .nil)))) ?_ (.inr ⟨⟨_, rfl⟩, ha0⟩)
      simp only [Sm.ok, Bool.and_eq_true, decide_eq_true_eq]
      exact ⟨trivial, by omega, by omega⟩
    have lk : ∃ n : Nat, n = 0 ∧ LenV K (.ref kv) H n := by
      rcases hk with hk | hk
      · exact ⟨0, rfl, .inl ⟨_, SqL.of hk, rfl⟩⟩
      · exact ⟨0, rfl, .inr ⟨_, SqT.of hk, rfl⟩⟩
    obtain ⟨n0, rfl, lk⟩ := lk
    refine ⟨_, rfl, rfl, _, rfl, andG (fun h => ⟨_, rfl, _, _, rfl, lk, _, _, rfl, rfl, _, rfl, h⟩) (fun h1 h2 => ?_) fun _ => ?_⟩
    · exact absurd (of_decide_eq_true h2) (by decide)
    refine ⟨_, rfl, _, _, rfl, .inl ⟨_, SqL.of hn, rfl⟩, _, _, rfl, rfl, _, rfl, ifb (fun h1 => ?_) fun h1 => ?_⟩
    · obtain rfl := nm_len h1
      refine ⟨_, rfl, ln, _, 0, V.str "x", rfl, rfl, SqL.of hn, at_of (j := 0) rfl rfl, ?_⟩
      refine ⟨_, rfl, _, _, rfl, rfl, by show (0 : Int) < 3; decide, (by show 2 ≤ sizeLine; decide), fun q nq => ⟨(by show 3 ≤ sizeLine; decide), fun p np => ?_⟩⟩
      have m0 := Int.emod_nonneg (c / 7) (by decide : (3 : Int) ≠ 0)
      have m1 := Int.emod_lt_of_pos (c / 7) (by decide : (0 : Int) < 3)
      have sq := new_same (o := HO.tup [V.str "number", V.int (c / 7 % 3)]) nq
      have sp := new_same (o := HO.tup [V.str "set", V.str "x", V.ref q]) np
      refine k (.pl (.set (.num (c / 7 % 3)))) _ _ (sq.trans sp) (.tup upd_same (.cons (.text _) (.cons (.text _) (.cons (.tup (sp _ _ upd_same) (.cons (.text _) (.cons (.num _) .nil))) .nil)))) ?_ (.inl ⟨_, rfl⟩)
      show (true && ((decide (0 ≤ c / 7 % 3) && decide (c / 7 % 3 ≤ 3)) && decide (1 ≤ 3))) = true
      rw [decide_eq_true (show 0 ≤ c / 7 % 3 from m0), decide_eq_true (show c / 7 % 3 ≤ 3 by omega)]
      rfl
    · refine ⟨(by show 2 ≤ sizeLine; decide), fun q nq => ⟨(by show 2 ≤ sizeLine; decide), fun p np => ?_⟩⟩
      have sq := new_same (o := HO.tup [V.str "number", V.int 1]) nq
      have sp := new_same (o := HO.tup [V.str "need", V.ref q]) np
      exact k (.pl (.need (.num 1))) _ _ (sq.trans sp) (.tup upd_same (.cons (.text _) (.cons (.tup (sp _ _ upd_same) (.cons (.text _) (.cons (.num _) .nil))) .nil))) rfl (.inl ⟨_, rfl⟩)
theorem cal_lst {f : Addr} {fd : FuncData} (F : FnP K "_law_statement" "_law_statement" s_law_statement f fd) (T : Txt K mg) (g : mg "_law_statement" = some (.ref f)) (c_law_expression : C8.Cal P w K mg base 4 "_law_expression" (spLExp 3) []) : C8.Cal P w K mg base 5 "_law_statement" (spLSt K) [] :=
  ⟨f, fd, _, [], ok_lst F T c_law_expression, g, F.kp, F.bindsN fun _ _ _ _ _ _ us hl => match us, hl with | [_, _, _, _, _], _ => rfl, .nil⟩
end
end NC
set_option Elab.async false
set_option linter.all false
set_option maxRecDepth 100000
set_option maxHeartbeats 4000000
/-! The law's drawing of a house: body. -/
namespace NC
open PySem PySem.Spec PyProof.Rows L2
def akS : Sm → Nat
  | .ask _ => 1
  | _ => 0
def akB (b : List Sm) : Nat := (b.map akS).sum
theorem akB_snoc (b : List Sm) (t : Sm) : akB (b ++ [t]) = akB b + akS t := by
  unfold akB
  rw [List.map_append, List.sum_append]
  simp
section
variable {P : Program} {w : World} {K : PySem.W.Frag} {mg : Str → Option Value} {base : Heap}
def spLBody (K : PySem.W.Frag) : Sp := fun vs H Q _ => ∃ (lc ln la kv : Addr) (cs : List Int) (nv na : Bool) (asks : Int), vs = [.ref lc, .ref ln, .ref la, .ref kv, .int asks] ∧ H lc = some (.lst (cs.map V.int)) ∧ H ln = some (.lst (nmL nv)) ∧ H la = some (.lst (asL na)) ∧ (H kv = some (.lst []) ∨ H kv = some (.tup [])) ∧ cs.length ≤ 4 ∧ 0 ≤ asks ∧
  ∀ (b : List Sm) (left : Int) (t : Addr) (bv : V) (H' : Hp), Same H H' → H' t = some (.tup [bv, .int left]) → NK H' (eB b) bv → b.length ≤ 4 → (∀ t ∈ b, t.ok nv na = true) → (akB b : Int) + left = asks → 0 ≤ left → Q (.ref t) H'
theorem sc_law_body : FnScope ["_law_cells", "_law_names", "_law_assets", "_law_known", "_law_asks", "_law_block", "_law_left", "_law_cell_here", "_law_inner", "_law_other", "_law_statement_here"] ["_law_cells", "_law_names", "_law_assets", "_law_known", "_law_asks"] (defScope s_law_body) := ⟨rfl, rfl, rfl, by decide +kernel, rfl, by decide +kernel, by decide +kernel⟩
theorem ok_lbody {f : Addr} {fd : FuncData} (F : FnP K "_law_body" "_law_body" s_law_body f fd) (T : Txt K mg) (c_law_expression : C8.Cal P w K mg base 4 "_law_expression" (spLExp 3) []) (c_law_statement : C8.Cal P w K mg base 5 "_law_statement" (spLSt K) []) : FnOk P w K mg base CX0 6 f fd ["_law_cells", "_law_names", "_law_assets", "_law_known", "_law_asks"] (spLBody K) := by
  refine F.ok sc_law_body (fun vs H Q E h => ?_) (fun cdv A outer s H vs Q E hr h => ?_)
  · obtain ⟨lc, ln, la, kv, cs, nv, na, asks, rfl, _⟩ := h
    rfl
  · obtain ⟨lc, ln, la, kv, cs, nv, na, asks, rfl, hc, hn, ha, hk, hl, h0, k⟩ := h
    refine ⟨_, PSs.nox ((pss_cons (ps_set (i := 5) sc_law_body.nd rfl (Or.inl rfl) (pe_lst pa_nil))
      (pss_cons (ps_set (i := 6) sc_law_body.nd rfl (Or.inl rfl) (pv 4))
      (pss_cons (ps_for PassesOwn.never rfl (pi_list (pv 0)) (pg_name (i := 7) sc_law_body.nd rfl (Or.inl rfl)) (pss_one (ps_if (PW.pt (pw_and (pt_cmpR op_eq (pe_op op_mod (pe_callTy call_int1 (by rfl) T.int bt_int (pa_cons (pv 7) pa_nil)) pe_int) pe_int (nomark _)) (pw_and1 (pt_cmpR op_gt (pe_callB call_len (by rfl) T.len bt_len (pa_cons (pv 0) pa_nil)) pe_int (nomark _))))) (pss_cons (ps_set (i := 8) sc_law_body.nd rfl (Or.inl rfl) (C8.pe_c c_law_statement hr (by decide) (by rfl) (pa_cons (pe_op op_fdiv (pe_callTy call_int1 (by rfl) T.int bt_int (pa_cons (pv 7) pa_nil)) pe_int) (pa_cons (pv 1) (pa_cons (pv 2) (pa_cons (pe_tup pa_nil) (pa_cons pe_int pa_nil)))))))
      (pss_cons (ps_set (i := 9) sc_law_body.nd rfl (Or.inl rfl) (pe_tup pa_nil))
      (pss_cons (ps_if (pt_cmpR op_eq (pe_op op_mod (pe_op op_fdiv (pe_callTy call_int1 (by rfl) T.int bt_int (pa_cons (pv 7) pa_nil)) pe_int) pe_int) pe_int (nomark _)) (pss_one (ps_set (i := 9) sc_law_body.nd rfl (Or.inl rfl) (pe_tup (pa_cons (C8.pe_c c_law_statement hr (by decide) (by rfl) (pa_cons (pe_op op_fdiv (pe_callTy call_int1 (by rfl) T.int bt_int (pa_cons (pv 7) pa_nil)) pe_int) (pa_cons (pv 1) (pa_cons (pv 2) (pa_cons (pe_tup pa_nil) (pa_cons pe_int pa_nil)))))) pa_nil)))) pss_nil)
      (pss_one (ps_expr (pe_bm PySem.F.plainAttrs_list PySem.F.slot_list_append PySem.F.type_list_append mt_append (pv 5) (pa_cons (pe_tup (pa_cons pe_str (pa_cons (C8.pe_c c_law_expression hr (by decide) (by rfl) (pa_cons (pe_op op_fdiv (pe_callTy call_int1 (by rfl) T.int bt_int (pa_cons (pv 7) pa_nil)) pe_int) (pa_cons (pv 1) (pa_cons (pv 2) pa_nil)))) (pa_cons (pe_tup (pa_cons (pv 8) pa_nil)) (pa_cons (pv 9) pa_nil))))) pa_nil))))))) (pss_cons (ps_set (i := 10) sc_law_body.nd rfl (Or.inl rfl) (C8.pe_c c_law_statement hr (by decide) (by rfl) (pa_cons (pe_op op_fdiv (pe_callTy call_int1 (by rfl) T.int bt_int (pa_cons (pv 7) pa_nil)) pe_int) (pa_cons (pv 1) (pa_cons (pv 2) (pa_cons (pv 3) (pa_cons (pv 6) pa_nil)))))))
      (pss_cons (ps_set (i := 6) sc_law_body.nd rfl (Or.inl rfl) (pe_op op_sub (pv 6) (pe_callTy call_int1 (by rfl) T.int bt_int (pa_cons (pe_cmpR op_eq (pe_ix ix_tup (pv 10) pe_int (fun _ _ => rfl)) pe_str (nomark _)) pa_nil))))
      (pss_one (ps_expr (pe_bm PySem.F.plainAttrs_list PySem.F.slot_list_append PySem.F.type_list_append mt_append (pv 5) (pa_cons (pv 10) pa_nil)))))))))
      (pss_one (ps_ret (pe_tup (pa_cons (pe_callTy call_tuple_of (by rfl) T.tuple bt_tuple (pa_cons (pv 5) pa_nil)) (pa_cons (pv 6) pa_nil))))))))), ?_⟩
    dsimp only [cxOf, Cx.nox]
    refine ⟨(by show 0 ≤ sizeLine; decide), fun bl nb => ?_⟩
    have sb := new_same (o := HO.lst []) nb
    refine ⟨_, rfl, _, rfl, lc, rfl, ⟨_, SqL.of (sb _ _ hc)⟩, for_list (K := K) (xs := cs.map V.int) (fun i σ Hx => ∃ (x7 x8 x9 x10 : Option V) (b : List Sm) (left : Int) (vs : List V), σ = [some (.ref lc), some (.ref ln), some (.ref la), some (.ref kv), some (.int asks), some (.ref bl), some (.int left), x7, x8, x9, x10] ∧ Same H Hx ∧ Hx bl = some (.lst vs) ∧ NKs Hx (b.map eM) vs ∧ b.length = i ∧ (∀ t ∈ b, t.ok nv na = true) ∧ (akB b : Int) + left = asks ∧ 0 ≤ left)
      ⟨_, _, _, _, [], asks, [], rfl, sb, upd_same, .nil, rfl, (fun t ht => nomatch ht), by show ((0 : Nat) : Int) + asks = asks; omega, h0⟩ (fun i σ Hx _ ⟨_, _, _, _, _, _, _, _, s1, _⟩ => SqL.of (s1 _ _ hc)) ?_ ?_⟩
    · rintro i xv σ Hx hi ⟨x7, x8, x9, x10, b, left, vs, rfl, sx, hb, hv, hlen, hok, hak, hl0⟩
      have hil : i < cs.length := by have := (List.getElem?_eq_some_iff.mp hi).1; rwa [List.length_map] at this
      obtain ⟨cc, rfl⟩ : ∃ cc, xv = V.int cc := by
        rw [List.getElem?_map, List.getElem?_eq_getElem hil] at hi
        exact ⟨_, (Option.some.inj hi).symm⟩
      have vl : vs.length = i := by rw [← hv.length, List.length_map, hlen]
      have hnx := sx _ _ hn
      have hax := sx _ _ ha
      -- a statement more
      have app : ∀ (t : Sm) (v : V) (Hy : Hp), Same Hx Hy → NK Hy (eM t) v → t.ok nv na = true → ∀ (l2 : Int), (akB b : Int) + akS t + l2 = asks → 0 ≤ l2 → Hy bl = some (.lst vs) ∧ Same H (upd Hy bl (.lst (vs ++ [v]))) ∧ upd Hy bl (.lst (vs ++ [v])) bl = some (.lst (vs ++ [v])) ∧ NKs (upd Hy bl (.lst (vs ++ [v]))) ((b ++ [t]).map eM) (vs ++ [v]) ∧ (b ++ [t]).length = i + 1 ∧ (∀ t' ∈ b ++ [t], t'.ok nv na = true) ∧ (akB (b ++ [t]) : Int) + l2 = asks ∧ 0 ≤ l2 := by
        intro t v Hy sy nt ot l2 e2 e3
        have tx : TX Hy (upd Hy bl (.lst (vs ++ [v]))) := TX.put (sy _ _ hb) fun _ z => by cases z
        refine ⟨sy _ _ hb, fun a o h => by rw [upd_ne (ne_of_none h nb)]; exact sy _ _ (sx _ _ h), upd_same, ?_, by rw [List.length_append, hlen]; rfl, fun t' ht' => ?_, by rw [akB_snoc]; omega, e3⟩
        · rw [List.map_append]
          exact NKs.append (NKs.tx ((TX.same sy).trans tx) _ _ hv) (.cons (NK.tx tx _ _ nt) .nil)
        · rcases List.mem_append.mp ht' with h | h
          · exact hok t' h
          · rw [List.mem_singleton.mp h]; exact ot
      refine ⟨_, rfl, .inl ⟨cc, rfl, _, _, rfl, rfl, by show (0 : Int) < 11; decide, rfl, _, rfl, andG (fun h => ⟨_, rfl, _, _, rfl, .inl ⟨_, SqL.of (sx _ _ hc), rfl⟩, _, _, rfl, rfl, _, rfl, h⟩) (fun h1 h2 => ?_) fun _ => ?_⟩⟩
      · refine ⟨_, rfl, .inl ⟨cc, rfl, _, _, rfl, rfl, ⟨by decide, by decide⟩, _, rfl, _, rfl, (by show 0 ≤ sizeLine; decide), fun q nq => ?_⟩⟩
        have sq := new_same (o := HO.tup []) nq
        refine ⟨_, ln, la, q, nv, na, 0, rfl, sq _ _ hnx, sq _ _ hax, .inr upd_same, fun t1 v1 H1 s1 n1 o1 p1 => ?_⟩
        obtain ⟨pa, rfl⟩ : ∃ p, t1 = .pl p := by
          rcases p1 with h | ⟨_, h⟩
          · exact h
          · exact absurd h (by decide)
        have s01 := sq.trans s1
        refine ⟨(by show 0 ≤ sizeLine; decide), fun q2 nq2 => ?_⟩
        have s2 := new_same (o := HO.tup []) nq2
        have s02 := s01.trans s2
        refine ⟨_, rfl, .inl ⟨cc, rfl, _, _, rfl, rfl, ⟨by decide, by decide⟩, _, _, rfl, rfl, by show (0 : Int) < 2; decide, rfl, _, rfl, ifb (fun hb1 => ?_) fun hb1 => ?_⟩⟩
        · refine ⟨_, rfl, .inl ⟨cc, rfl, _, _, rfl, rfl, ⟨by decide, by decide⟩, _, rfl, _, rfl, (by show 0 ≤ sizeLine; decide), fun q3 nq3 => ?_⟩⟩
          have s3 := new_same (o := HO.tup []) nq3
          have s03 := s02.trans s3
          refine ⟨_, ln, la, q3, nv, na, 0, rfl, s03 _ _ hnx, s03 _ _ hax, .inr upd_same, fun t2 v2 H4 s4 n4 o4 p4 => ?_⟩
          obtain ⟨pb, rfl⟩ : ∃ p, t2 = .pl p := by
            rcases p4 with h | ⟨_, h⟩
            · exact h
            · exact absurd h (by decide)
          refine ⟨(by show 1 ≤ sizeLine; decide), fun oa noa => ?_⟩
          have so := new_same (o := HO.tup [v2]) noa
          have s04 := (s03.trans s4).trans so
          have no : NK (upd H4 oa (.tup [v2])) (.tup [eP pb]) (.ref oa) := .tup upd_same (.cons (NK.tx (TX.same so) _ _ n4) .nil)
          refine ⟨_, rfl, .inl ⟨rfl, _, SqL.of (s04 _ _ hb)⟩, _, rfl, .inl ⟨cc, rfl, _, _, rfl, rfl, ⟨by decide, by decide⟩, _, rfl, _, rfl, _, ln, la, nv, na, rfl, s04 _ _ hnx, s04 _ _ hax, True.intro, fun x vx H5 s5 n5 o5 p5 => ?_⟩⟩
          refine ⟨_, rfl, (by show 1 ≤ sizeLine; decide), fun t1 nt1 => ⟨_, rfl, (by show 4 ≤ sizeLine; decide), fun p np => ?_⟩⟩
          have st := new_same (o := HO.tup [v1]) nt1
          have sp := new_same (o := HO.tup [V.str "if", vx, V.ref t1, V.ref oa]) np
          obtain ⟨a1, a2, a3, a4, a5, a6, a7, a8⟩ := app (.ite x pa (some pb)) (.ref p) (upd (upd H5 t1 (.tup [v1])) p (.tup [V.str "if", vx, V.ref t1, V.ref oa])) ((s04.trans s5).trans (st.trans sp)) (.tup upd_same (.cons (.text _) (.cons (NK.tx (TX.same (st.trans sp)) _ _ n5) (.cons (.tup (sp _ _ upd_same) (.cons (NK.tx (TX.same ((((s2.trans s3).trans s4).trans so).trans (s5.trans (st.trans sp)))) _ _ n1) .nil)) (.cons (NK.tx (TX.same (s5.trans (st.trans sp))) _ _ no) .nil))))) (by
            simp only [Sm.ok, Bool.and_eq_true]
            exact ⟨by simp [xok, o5, p5], o1, o4⟩) left (by show (akB b : Int) + ((0 : Nat) : Int) + left = asks; omega) hl0
          exact ⟨bl, vs, _, rfl, rfl, a1, szl (by omega), _, _, _, _, _, left, _, rfl, a2, a3, a4, a5, a6, a7, a8⟩
        · have no : NK (upd H1 q2 (.tup [])) (.tup []) (.ref q2) := .tup upd_same .nil
          refine ⟨_, rfl, .inl ⟨rfl, _, SqL.of (s02 _ _ hb)⟩, _, rfl, .inl ⟨cc, rfl, _, _, rfl, rfl, ⟨by decide, by decide⟩, _, rfl, _, rfl, _, ln, la, nv, na, rfl, s02 _ _ hnx, s02 _ _ hax, True.intro, fun x vx H5 s5 n5 o5 p5 => ?_⟩⟩
          refine ⟨_, rfl, (by show 1 ≤ sizeLine; decide), fun t1 nt1 => ⟨_, rfl, (by show 4 ≤ sizeLine; decide), fun p np => ?_⟩⟩
          have st := new_same (o := HO.tup [v1]) nt1
          have sp := new_same (o := HO.tup [V.str "if", vx, V.ref t1, V.ref q2]) np
          obtain ⟨a1, a2, a3, a4, a5, a6, a7, a8⟩ := app (.ite x pa none) (.ref p) (upd (upd H5 t1 (.tup [v1])) p (.tup [V.str "if", vx, V.ref t1, V.ref q2])) ((s02.trans s5).trans (st.trans sp)) (.tup upd_same (.cons (.text _) (.cons (NK.tx (TX.same (st.trans sp)) _ _ n5) (.cons (.tup (sp _ _ upd_same) (.cons (NK.tx (TX.same (s2.trans (s5.trans (st.trans sp)))) _ _ n1) .nil)) (.cons (NK.tx (TX.same (s5.trans (st.trans sp))) _ _ no) .nil))))) (by
            simp only [Sm.ok, Bool.and_eq_true]
            exact ⟨by simp [xok, o5, p5], o1, trivial⟩) left (by show (akB b : Int) + ((0 : Nat) : Int) + left = asks; omega) hl0
          exact ⟨bl, vs, _, rfl, rfl, a1, szl (by omega), _, _, _, _, _, left, _, rfl, a2, a3, a4, a5, a6, a7, a8⟩
      · refine ⟨_, rfl, .inl ⟨cc, rfl, _, _, rfl, rfl, ⟨by decide, by decide⟩, _, rfl, _, rfl, _, rfl, _, rfl, _, ln, la, kv, nv, na, left, rfl, hnx, hax, hk.imp (sx _ _) (sx _ _), fun t1 v1 H1 s1 n1 o1 p1 => ?_⟩⟩
        rcases p1 with ⟨p, rfl⟩ | ⟨⟨k1, rfl⟩, hpos⟩
        · obtain ⟨ta, kd, rest, rfl, z1, z2⟩ := eP_kind n1
          refine ⟨_, rfl, _, rfl, ta, _, 0, _, rfl, rfl, SqT.of z1, at_of (j := 0) rfl rfl, rfl, .inr ⟨_, rfl, ?_⟩⟩
          rw [if_neg (by rw [z2.1]; exact Bool.false_ne_true)]
          obtain ⟨a1, a2, a3, a4, a5, a6, a7, a8⟩ := app (.pl p) (.ref ta) H1 s1 n1 o1 (left - 0) (by show (akB b : Int) + ((0 : Nat) : Int) + (left - 0) = asks; omega) (by omega)
          exact ⟨_, _, rfl, rfl, _, rfl, .inl ⟨rfl, _, SqL.of a1⟩, _, rfl, bl, vs, _, rfl, rfl, a1, szl (by omega), _, _, _, _, _, left - 0, _, rfl, a2, a3, a4, a5, a6, a7, a8⟩
        · cases n1 with
          | @tup ta _ _ t1 t2 =>
            cases t2 with
            | cons t3 t4 =>
              cases t3
              refine ⟨_, rfl, _, rfl, ta, _, 0, _, rfl, rfl, SqT.of t1, at_of (j := 0) rfl rfl, rfl, .inr ⟨_, rfl, ?_⟩⟩
              rw [if_pos (by rfl)]
              obtain ⟨a1, a2, a3, a4, a5, a6, a7, a8⟩ := app (.ask k1) (.ref ta) H1 s1 (.tup t1 (.cons (.text _) t4)) o1 (left - 1) (by show (akB b : Int) + ((1 : Nat) : Int) + (left - 1) = asks; omega) (by omega)
              exact ⟨_, _, rfl, rfl, _, rfl, .inl ⟨rfl, _, SqL.of a1⟩, _, rfl, bl, vs, _, rfl, rfl, a1, szl (by omega), _, _, _, _, _, left - 1, _, rfl, a2, a3, a4, a5, a6, a7, a8⟩
    · rintro σ Hx ⟨x7, x8, x9, x10, b, left, vs, rfl, sx, hb, hv, hlen, hok, hak, hl0⟩
      rw [List.length_map] at hlen
      refine ⟨_, rfl, bl, _, rfl, .inl ⟨SqL.of hb, fun bt nbt => ?_⟩⟩
      refine ⟨_, rfl, (by show 2 ≤ sizeLine; decide), fun t nt => ?_⟩
      have s1 := new_same (o := HO.tup vs) nbt
      have s2 := new_same (o := HO.tup [V.ref bt, V.int left]) nt
      exact k b left t (.ref bt) _ ((sx.trans s1).trans s2) upd_same (.tup (s2 _ _ upd_same) (NKs.tx (TX.same (s1.trans s2)) _ _ hv)) (by omega) hok hak hl0
theorem cal_lbody {f : Addr} {fd : FuncData} (F : FnP K "_law_body" "_law_body" s_law_body f fd) (T : Txt K mg) (g : mg "_law_body" = some (.ref f)) (c_law_expression : C8.Cal P w K mg base 4 "_law_expression" (spLExp 3) []) (c_law_statement : C8.Cal P w K mg base 5 "_law_statement" (spLSt K) []) : C8.Cal P w K mg base 6 "_law_body" (spLBody K) [] :=
  ⟨f, fd, _, [], ok_lbody F T c_law_expression c_law_statement, g, F.kp, F.bindsN fun _ _ _ _ _ _ us hl => match us, hl with | [_, _, _, _, _], _ => rfl, .nil⟩
end
end NC
set_option Elab.async false
set_option linter.all false
set_option maxRecDepth 100000
set_option maxHeartbeats 4000000
/-! The law's drawing of a house: contract. -/
namespace NC
open PySem PySem.Spec PyProof.Rows L2
theorem PrsAt.snoc {H : Hp} : ∀ {n : Nat} {ps : List Pr} {vs : List V} {p : Pr} {v : V}, PrsAt H n ps vs → PrAt H (n + ps.length) p v → PrsAt H n (ps ++ [p]) (vs ++ [v])
  | n, [], vs, p, v, h, g => by
    obtain rfl : vs = [] := h
    exact ⟨v, [], rfl, g, rfl⟩
  | n, q :: r, vs, p, v, ⟨u, us, e, h1, h2⟩, g => by
    subst e
    refine ⟨u, us ++ [v], rfl, h1, PrsAt.snoc h2 ?_⟩
    rw [List.length_cons] at g
    rw [Nat.add_assoc, Nat.add_comm 1]
    exact g
theorem eM_head {H : Hp} {t : Sm} {v : V} (h : NK H (eM t) v) : ∃ a kd rest, v = .ref a ∧ H a = some (HO.tup (V.str kd :: rest)) := by
  cases t with
  | pl p =>
    obtain ⟨a, kd, rest, e, h1, _⟩ := eP_kind (show NK H (eP p) v from h)
    exact ⟨a, kd, rest, e, h1⟩
  | ask n =>
    cases h with
    | tup t1 t2 =>
      cases t2 with
      | cons t3 t4 => cases t3; exact ⟨_, _, _, rfl, t1⟩
  | ite x y z =>
    cases h with
    | tup t1 t2 =>
      cases t2 with
      | cons t3 t4 => cases t3; exact ⟨_, _, _, rfl, t1⟩
def akC (ps : List Pr) : Nat := (ps.map fun p => akB p.blk).sum
section
variable {P : Program} {w : World} {K : PySem.W.Frag} {mg : Str → Option Value} {base : Heap}
def spLCon (K : PySem.W.Frag) : Sp := fun vs H Q _ => ∃ (lc la lk : Addr) (cs : List Int) (na : Bool) (asks : Int), vs = [.str "c", .ref lc, .ref la, .ref lk, .int asks, .bl true] ∧ H lc = some (.lst (cs.map V.int)) ∧ cs.length = 3 ∧ H la = some (.lst (asL na)) ∧ H lk = some (.lst []) ∧ 0 ≤ asks ∧ asks ≤ 2 ∧
  ∀ (c : Cf) (t : Addr) (ct lk' left : V) (H' : Hp), Same H H' → H' t = some (.tup [ct, lk', left]) → CtAt H' c ct → c.na = na → c.o0 = 0 → c.Ok → akC c.prs ≤ 2 → Q (.ref t) H'
theorem sc_law_contract : FnScope ["_law_name", "_law_cells", "_law_assets", "_law_known", "_law_asks", "_law_small", "_law_digits", "_law_names", "_law_variables", "_law_k", "_law_holds", "_law_asset", "_law_procs", "_law_links", "_law_left", "_law_size", "_law_body_here", "_law_calls", "_law_statement_here"] ["_law_name", "_law_cells", "_law_assets", "_law_known", "_law_asks", "_law_small"] (defScope s_law_contract) := ⟨rfl, rfl, rfl, by decide +kernel, rfl, by decide +kernel, by decide +kernel⟩
theorem ok_lcon {f : Addr} {fd : FuncData} (F : FnP K "_law_contract" "_law_contract" s_law_contract f fd) (T : Txt K mg) (c_law_row : C8.Cal P w K mg base 1 "_law_row" spLRow []) (c_law_body : C8.Cal P w K mg base 6 "_law_body" (spLBody K) []) : FnOk P w K mg base CX0 7 f fd ["_law_name", "_law_cells", "_law_assets", "_law_known", "_law_asks", "_law_small"] (spLCon K) := by
  refine F.ok sc_law_contract (fun vs H Q E h => ?_) (fun cdv A outer s H vs Q E hr h => ?_)
  · obtain ⟨lc, la, lk, cs, na, asks, rfl, _⟩ := h
    rfl
  · obtain ⟨lc, la, lk, cs, na, asks, rfl, hc, hcl, ha, hk, a0, a2, k⟩ := h
    refine ⟨_, PSs.nox ((pss_cons (ps_set (i := 6) sc_law_contract.nd rfl (Or.inr rfl) (C8.pe_c c_law_row hr (by decide) (by rfl) (pa_cons (pe_ix ix_list (pv 1) pe_int (fun _ _ => rfl)) (pa_cons pe_int (pa_cons pe_int pa_nil)))))
      (pss_cons (ps_set (i := 7) sc_law_contract.nd rfl (Or.inr rfl) (pe_slice sl_list (pe_lst (pa_cons pe_str (pa_cons pe_str pa_nil))) po_none (po_some (pe_op op_mod (pe_ix ix_list (pv 6) pe_int (fun _ _ => rfl)) pe_int))))
      (pss_cons (ps_if (pt_val (pv 5)) (pss_one (ps_set (i := 7) sc_law_contract.nd rfl (Or.inr rfl) (pe_slice sl_list (pv 7) po_none (po_some pe_int)))) pss_nil)
      (pss_cons (ps_setLc (i := 8) (own := [("_law_k", 9)]) rfl sc_law_contract.nd rfl rfl (sw_true rfl rfl rfl (by decide +kernel)) (pi_range1 rfl T.range (pa_cons (pe_callB call_len (by rfl) T.len bt_len (pa_cons (pv 7) pa_nil)) pa_nil)) (blkOk_by (own := [("_law_k", 9)]) (N := ["_law_name", "_law_cells", "_law_assets", "_law_known", "_law_asks", "_law_small", "_law_digits", "_law_names", "_law_variables", "_law_k", "_law_holds", "_law_asset", "_law_procs", "_law_links", "_law_left", "_law_size", "_law_body_here", "_law_calls", "_law_statement_here"]) (sc := defScope s_law_contract) (by decide +kernel)) (fun _ _ _ _ _ => (pg_name (i := 9) sc_law_contract.nd rfl (Or.inl rfl))) (fun _ _ _ _ _ => pts_nil) (fun _ _ _ _ _ => (pe_tup (pa_cons (pe_ix (ix_listK (K := K) rfl) (pv 7) (pv 9) (fun _ _ => rfl)) (pa_cons (pe_op op_add pe_int (pe_op op_mod (pe_ix (ix_listK (K := K) rfl) (pv 6) (pe_op op_add pe_int (pv 9)) (fun _ _ => rfl)) (pe_op op_sub pe_int (pe_callTy call_int1 (by rfl) T.int bt_int (pa_cons (pv 5) pa_nil))))) (pa_cons (pe_op op_mod (pe_ix (ix_listK (K := K) rfl) (pv 6) (pe_op op_add pe_int (pv 9)) (fun _ _ => rfl)) pe_int) pa_nil))))))
      (pss_cons (ps_setLc (i := 10) (own := [("_law_asset", 11)]) rfl sc_law_contract.nd rfl rfl (sw_true rfl rfl rfl (by decide +kernel)) (pi_list (pv 2)) (blkOk_by (own := [("_law_asset", 11)]) (N := ["_law_name", "_law_cells", "_law_assets", "_law_known", "_law_asks", "_law_small", "_law_digits", "_law_names", "_law_variables", "_law_k", "_law_holds", "_law_asset", "_law_procs", "_law_links", "_law_left", "_law_size", "_law_body_here", "_law_calls", "_law_statement_here"]) (sc := defScope s_law_contract) (by decide +kernel)) (fun _ _ _ _ _ => (pg_name (i := 11) sc_law_contract.nd rfl (Or.inl rfl))) (fun _ _ _ _ _ => (pts_one (pt_cmpR op_gt (pe_op op_mod (pe_ix (ix_listK (K := K) rfl) (pv 6) pe_int (fun _ _ => rfl)) pe_int) pe_int (nomark _)))) (fun _ _ _ _ _ => (pe_tup (pa_cons (pv 11) (pa_cons (pe_op op_mod (pe_ix (ix_listK (K := K) rfl) (pv 6) pe_int (fun _ _ => rfl)) (pe_op op_sub pe_int (pe_callTy call_int1 (by rfl) T.int bt_int (pa_cons (pv 5) pa_nil)))) pa_nil)))))
      (pss_cons (ps_set (i := 12) sc_law_contract.nd rfl (Or.inl rfl) (pe_lst pa_nil))
      (pss_cons (ps_set (i := 13) sc_law_contract.nd rfl (Or.inl rfl) (pe_callTy call_list_of (by rfl) T.list bt_list (pa_cons (pv 3) pa_nil)))
      (pss_cons (ps_set (i := 14) sc_law_contract.nd rfl (Or.inl rfl) (pv 4))
      (pss_cons (ps_for PassesOwn.never rfl (pi_range1 rfl T.range (pa_cons (pe_op op_mod (pe_ix ix_list (pv 6) pe_int (fun _ _ => rfl)) pe_int) pa_nil)) (pg_name (i := 9) sc_law_contract.nd rfl (Or.inl rfl)) (pss_cons (ps_set (i := 15) sc_law_contract.nd rfl (Or.inl rfl) (pe_ix ix_tup (pe_tup (pa_cons pe_int (pa_cons pe_int (pa_cons pe_int pa_nil)))) (pe_op op_mod (pe_ix ix_list (pv 6) (pe_op op_add pe_int (pv 9)) (fun _ _ => rfl)) pe_int) (fun _ _ => rfl)))
      (pss_cons (ps_if (pt_not (pt_val (pv 5))) pss_never pss_nil)
      (pss_cons (ps_set (i := 16) sc_law_contract.nd rfl (Or.inl rfl) (C8.pe_c c_law_body hr (by decide) (by rfl) (pa_cons (C8.pe_c c_law_row hr (by decide) (by rfl) (pa_cons (pe_ix ix_list (pv 1) (pe_op op_add pe_int (pv 9)) (fun _ _ => rfl)) (pa_cons (pe_op op_add pe_int (pe_op op_mod (pe_ix ix_list (pv 6) (pe_op op_add pe_int (pv 9)) (fun _ _ => rfl)) pe_int)) (pa_cons (pe_op op_pow pe_int pe_int) pa_nil)))) (pa_cons (pv 7) (pa_cons (pv 2) (pa_cons (pv 13) (pa_cons (pv 14) pa_nil)))))))
      (pss_cons (ps_set (i := 14) sc_law_contract.nd rfl (Or.inl rfl) (pe_ix ix_tup (pv 16) pe_int (fun _ _ => rfl)))
      (pss_cons (ps_expr (pe_bm PySem.F.plainAttrs_list PySem.F.slot_list_append PySem.F.type_list_append mt_append (pv 12) (pa_cons (pe_tup (pa_cons (pe_ix ix_str pe_str (pv 9) (fun _ _ => rfl)) (pa_cons (pv 15) (pa_cons (pe_cmpR op_gt (pe_op op_mod (pe_op op_fdiv (pe_ix ix_list (pv 6) (pe_op op_add pe_int (pv 9)) (fun _ _ => rfl)) pe_int) pe_int) pe_int (nomark _)) (pa_cons (pe_ix ix_tup (pv 16) pe_int (fun _ _ => rfl)) pa_nil))))) pa_nil)))
      (pss_cons (ps_setLc (i := 17) (own := [("_law_statement_here", 18)]) rfl sc_law_contract.nd rfl rfl (sw_true rfl rfl rfl (by decide +kernel)) (pi_tup (pe_ix ix_tup (pv 16) pe_int (fun _ _ => rfl))) (blkOk_by (own := [("_law_statement_here", 18)]) (N := ["_law_name", "_law_cells", "_law_assets", "_law_known", "_law_asks", "_law_small", "_law_digits", "_law_names", "_law_variables", "_law_k", "_law_holds", "_law_asset", "_law_procs", "_law_links", "_law_left", "_law_size", "_law_body_here", "_law_calls", "_law_statement_here"]) (sc := defScope s_law_contract) (by decide +kernel)) (fun _ _ _ _ _ => (pg_name (i := 18) sc_law_contract.nd rfl (Or.inl rfl))) (fun _ _ _ _ _ => (pts_one (pt_cmpR op_eq (pe_ix (ix_tupK (K := K) rfl) (pv 18) pe_int (fun _ _ => rfl)) pe_str (nomark _)))) (fun _ _ _ _ _ => (pv 18)))
      (pss_one (ps_if (PW.pt (pw_and (pt_cmpR op_eq (pe_callB call_len (by rfl) T.len bt_len (pa_cons (pv 17) pa_nil)) pe_int (nomark _)) (pw_and1 (pt_not (pt_val (pv 5)))))) pss_never pss_nil)))))))))
      (pss_one (ps_ret (pe_tup (pa_cons (pe_tup (pa_cons (pv 0) (pa_cons (pe_callTy call_tuple_of (by rfl) T.tuple bt_tuple (pa_cons (pv 8) pa_nil)) (pa_cons (pe_callTy call_tuple_frz (by rfl) T.tuple bt_tuple (pa_cons (pv 10) pa_nil)) (pa_cons (pe_callTy call_tuple_of (by rfl) T.tuple bt_tuple (pa_cons (pv 12) pa_nil)) pa_nil))))) (pa_cons (pv 13) (pa_cons (pv 14) pa_nil)))))))))))))))), ?_⟩
    dsimp only [cxOf, Cx.nox]
    obtain ⟨c0, c1, c2, rfl⟩ : ∃ c0 c1 c2, cs = [c0, c1, c2] := by
      match cs, hcl with
      | [a, b, c], _ => exact ⟨a, b, c, rfl⟩
    refine ⟨_, rfl, lc, _, 0, V.int c0, rfl, rfl, SqL.of hc, at_of (j := 0) rfl rfl, c0, 12, 60, rfl, by decide, by decide, by decide, by decide, fun ld H1 ds s1 hd hdl hdz => ?_⟩
    -- the digits
    have dg : ∀ j : Nat, j < 12 → ∃ d, ds[j]? = some d ∧ 0 ≤ d ∧ d < 60 := fun j hj => by
      have : j < ds.length := by rw [hdl]; exact hj
      exact ⟨ds[j], List.getElem?_eq_getElem this, hdz _ (List.getElem_mem this)⟩
    have dgv : ∀ {j : Nat} {d : Int}, ds[j]? = some d → (ds.map V.int)[j]? = some (V.int d) := fun h => by rw [List.getElem?_map, h]; rfl
    obtain ⟨d0, e0, d00, d01⟩ := dg 0 (by decide)
    refine ⟨(by show 2 ≤ sizeLine; decide), fun l0 nl0 => ?_⟩
    have sl0 := new_same (o := HO.lst [V.str "x", V.str "y"]) nl0
    dsimp only [tNoPart]
    refine ⟨_, rfl, ld, _, 0, V.int d0, rfl, rfl, SqL.of (sl0 _ _ hd), at_of (j := 0) rfl (dgv e0), _, _, rfl, rfl, by show (0 : Int) < 3; decide, _, rfl, l0, _, rfl, SqL.of upd_same, fun l1 nl1 => ?_⟩
    have sl1 := new_same (o := HO.lst (cutV [V.str "x", V.str "y"] none (some (d0 % 3)))) nl1
    refine ⟨_, rfl, true, rfl, ifT rfl ?_⟩
    refine ⟨_, rfl, ?_⟩
    dsimp only [tNoPart]
    refine ⟨1, rfl, l1, _, rfl, SqL.of upd_same, fun l2 nl2 => ?_⟩
    have m0 := Int.emod_nonneg d0 (by decide : (3 : Int) ≠ 0)
    have m1 := Int.emod_lt_of_pos d0 (by decide : (0 : Int) < 3)
    have enm : cutV (cutV [V.str "x", V.str "y"] none (some (d0 % 3))) none (some 1) = nmL (decide (d0 % 3 ≠ 0)) := by
      have h3 : d0 % 3 = ((0 : Nat) : Int) ∨ d0 % 3 = ((1 : Nat) : Int) ∨ d0 % 3 = ((2 : Nat) : Int) := by omega
      rcases h3 with e | e | e
      · rw [e, cut_lo _ (by decide)]
        simp [cutV, nmL]
      · rw [e, cut_lo _ (by decide)]
        exact cut_lo [V.str "x"] (i := 1) (by decide)
      · rw [e, cut_lo _ (by decide)]
        exact cut_lo [V.str "x", V.str "y"] (i := 1) (by decide)
    generalize hnv : decide (d0 % 3 ≠ 0) = nv at enm
    rw [enm] at *
    have S3 : Same H (upd (upd (upd H1 l0 (.lst [V.str "x", V.str "y"])) l1 (.lst (cutV [V.str "x", V.str "y"] none (some (d0 % 3))))) l2 (.lst (nmL nv))) := ((s1.trans sl0).trans sl1).trans (new_same nl2)
    have d3h := (sl1.trans (new_same (o := HO.lst (nmL nv)) nl2)) _ _ (sl0 _ _ hd)
    have n3h : upd (upd (upd H1 l0 (.lst [V.str "x", V.str "y"])) l1 (.lst (cutV [V.str "x", V.str "y"] none (some (d0 % 3))))) l2 (.lst (nmL nv)) l2 = some (.lst (nmL nv)) := upd_same
    generalize upd (upd (upd H1 l0 (.lst [V.str "x", V.str "y"])) l1 (.lst (cutV [V.str "x", V.str "y"] none (some (d0 % 3))))) l2 (.lst (nmL nv)) = H3 at S3 d3h n3h ⊢
    clear enm sl0 sl1 nl0 nl1 nl2 hd s1
    -- variables
    obtain ⟨d1, e1, d10, d11⟩ := dg 1 (by decide)
    obtain ⟨d3, e3, d30, d31⟩ := dg 3 (by decide)
    have nl : (nmL nv).length = if nv then 1 else 0 := by cases nv <;> rfl
    refine ⟨_, rfl, _, _, rfl, .inl ⟨_, SqL.of n3h, rfl⟩, _, rfl, by rw [nl]; cases nv <;> decide, by rw [nl]; cases nv <;> decide, fun Dv nDv => ?_⟩
    refine lc_range (fun i Hx => ∃ acc, Same H3 Hx ∧ Hx Dv = some (.lst acc) ∧ NKs Hx ((if nv then [NestedKey.tup [.text "x", .num 2, .num (d3 % 2)]] else []).take i) acc) ⟨[], new_same nDv, upd_same, .nil⟩ ?_ ?_
    · rintro i Hx hi ⟨acc, sx, qa, na'⟩
      have nvt : nv = true := by
        cases nv with
        | true => rfl
        | false => exact absurd hi (by show ¬ i < 0; omega)
      subst nvt
      have i0 : i = 0 := by have : i < 1 := hi; omega
      subst i0
      cases na'
      refine ⟨rfl, ?_⟩
      have dx := sx _ _ d3h
      refine ⟨_, rfl, _, rfl, l2, _, _, V.str "x", rfl, rfl, SqL.of (sx _ _ n3h), at_of (j := 0) rfl rfl, ?_⟩
      refine ⟨_, rfl, _, rfl, _, _, rfl, rfl, ld, _, _, V.int d1, rfl, rfl, SqL.of dx, at_of (j := 1) rfl (dgv e1), ?_⟩
      refine ⟨_, rfl, .inr ⟨true, rfl, _, _, rfl, rfl, _, _, rfl, rfl, by show (0 : Int) < 2 - (if true = true then 1 else 0); decide, _, _, rfl, rfl, ?_⟩⟩
      refine ⟨_, rfl, _, rfl, _, _, rfl, rfl, ld, _, _, V.int d3, rfl, rfl, SqL.of dx, at_of (j := 3) rfl (dgv e3), _, _, rfl, rfl, by show (0 : Int) < 2; decide, (by show 3 ≤ sizeLine; decide), fun t nt => ?_⟩
      have ev : (2 + d1 % (2 - (if true = true then 1 else 0)) : Int) = 2 := by
        show 2 + d1 % 1 = 2
        rw [Int.emod_one]
        rfl
      have st := new_same (o := HO.tup [V.str "x", V.int (2 + d1 % (2 - (if true = true then 1 else 0))), V.int (d3 % 2)]) nt
      have nDt : Dv ≠ t := ne_of_none qa nt
      refine ⟨_, st _ _ qa, (by show 0 < sizeLine; decide), _, fun a o h => by rw [upd_ne (ne_of_none h nDv)]; exact st _ _ (sx _ _ h), upd_same, ?_⟩
      exact .cons (.tup (by rw [upd_ne (Ne.symm nDt), upd_same]; exact congrArg (fun z : Int => some (HO.tup [V.str "x", V.int z, V.int (d3 % 2)])) ev) (.cons (.text _) (.cons (.num _) (.cons (.num _) .nil)))) .nil
    rintro Hx ⟨accv, sv, qv, nvv⟩
    have etk : (if nv then [NestedKey.tup [.text "x", .num 2, .num (d3 % 2)]] else []).take (nmL nv).length = if nv then [NestedKey.tup [.text "x", .num 2, .num (d3 % 2)]] else [] := by cases nv <;> rfl
    rw [show ((↑(nmL nv).length : Int).toNat) = (nmL nv).length from Int.toNat_natCast _, etk] at nvv
    -- holds
    obtain ⟨d5, e5, d50, d51⟩ := dg 5 (by decide)
    obtain ⟨d6, e6, d60, d61⟩ := dg 6 (by decide)
    have S4 := S3.trans sv
    have d4h := sv _ _ d3h
    have n4h := sv _ _ n3h
    refine ⟨_, rfl, la, rfl, ⟨_, SqL.of (S4 _ _ ha)⟩, fun Dh nDh => ?_⟩
    refine lc_list (K := K) (xs := asL na) (fun i Hy => ∃ acc, Same Hx Hy ∧ Hy Dh = some (.lst acc) ∧ NKs Hy (if i = 0 then [] else if 0 < d6 % 4 then [NestedKey.tup [.text "a", .num (d5 % 3)]] else []) acc) ⟨[], new_same nDh, upd_same, .nil⟩ (fun i Hy _ ⟨_, sy, _⟩ => SqL.of (sy _ _ (S4 _ _ ha))) ?_ ?_
    · rintro i xa Hy hi ⟨acc, sy, qa, nac⟩
      have nat' : na = true := by
        cases na with
        | true => rfl
        | false => simp [asL] at hi
      subst nat'
      have i0 : i = 0 := by have := (List.getElem?_eq_some_iff.mp hi).1; have : i < 1 := this; omega
      subst i0
      cases hi
      cases nac
      have d5h := sy _ _ d4h
      refine ⟨rfl, ?_⟩
      refine ⟨_, rfl, ld, _, 6, V.int d6, rfl, rfl, SqL.of d5h, at_of (j := 6) rfl (dgv e6), _, _, rfl, rfl, by show (0 : Int) < 4; decide, _, _, rfl, rfl, _, rfl, ifb (fun h1 => ?_) fun h1 => ?_⟩
      · have h6 : 0 < d6 % 4 := of_decide_eq_true h1
        refine ⟨_, rfl, _, rfl, ld, _, 5, V.int d5, rfl, rfl, SqL.of d5h, at_of (j := 5) rfl (dgv e5), ?_⟩
        refine ⟨_, rfl, .inr ⟨true, rfl, _, _, rfl, rfl, _, _, rfl, rfl, by show (0 : Int) < 4 - (if true = true then 1 else 0); decide, (by show 2 ≤ sizeLine; decide), fun t nt => ?_⟩⟩
        have ev : (d5 % (4 - (if true = true then 1 else 0)) : Int) = d5 % 3 := rfl
        have st := new_same (o := HO.tup [V.str "a", V.int (d5 % 3)]) nt
        have nDt : Dh ≠ t := ne_of_none qa nt
        refine ⟨_, st _ _ qa, (by show 0 < sizeLine; decide), _, fun a o h => by rw [upd_ne (ne_of_none h nDh)]; exact st _ _ (sy _ _ h), upd_same, ?_⟩
        have hh : (if 0 + 1 = 0 then ([] : List NestedKey) else if 0 < d6 % 4 then [NestedKey.tup [.text "a", .num (d5 % 3)]] else []) = [NestedKey.tup [.text "a", .num (d5 % 3)]] := by rw [if_neg (by decide), if_pos h6]
        rw [hh]
        exact .cons (.tup (by rw [upd_ne (Ne.symm nDt), upd_same]; rfl) (.cons (.text _) (.cons (.num _) .nil))) .nil
      · have h6 : ¬ 0 < d6 % 4 := of_decide_eq_false h1
        refine ⟨[], sy, qa, ?_⟩
        rw [if_neg (by decide), if_neg h6]
        exact .nil
    rintro Hy ⟨acch, sy, qh, nhh⟩
    have ehd : (if (asL na).length = 0 then [] else if 0 < d6 % 4 then [NestedKey.tup [.text "a", .num (d5 % 3)]] else []) = (match (if na = true ∧ 0 < d6 % 4 then some (d5 % 3) else none) with | none => [] | some n => [NestedKey.tup [.text "a", .num n]]) := by
      cases na with
      | false => rfl
      | true =>
        rw [if_neg (by decide)]
        by_cases h6 : 0 < d6 % 4
        · rw [if_pos h6, if_pos ⟨rfl, h6⟩]
        · rw [if_neg h6, if_neg fun z => h6 z.2]
    rw [ehd] at nhh
    have S5 := S4.trans sy
    have d5h := sy _ _ d4h
    have n5h := sy _ _ n4h
    have v5h := sy _ _ qv
    have nv5 := NKs.tx (TX.same sy) _ _ nvv
    refine ⟨(by show 0 ≤ sizeLine; decide), fun lp nlp => ?_⟩
    have sp := new_same (o := HO.lst []) nlp
    refine ⟨_, rfl, lk, [], rfl, .inl (SqL.of (sp _ _ (S5 _ _ hk))), fun ll nll => ?_⟩
    have sll := sp.trans (new_same (o := HO.lst []) nll)
    have lpu := new_same (o := HO.lst []) nll _ _ (upd_same (H := Hy) (a := lp) (o := HO.lst []))
    have llu := upd_same (H := upd Hy lp (HO.lst [])) (a := ll) (o := HO.lst [])
    generalize upd (upd Hy lp (HO.lst [])) ll (HO.lst []) = H6 at sll lpu llu ⊢
    have S6 := S5.trans sll
    have lpl : lp ≠ ll := ne_of_none upd_same nll
    refine ⟨_, rfl, ?_⟩
    obtain ⟨d7, e7, d70, d71⟩ := dg 7 (by decide)
    have p0 := Int.emod_nonneg d7 (by decide : (3 : Int) ≠ 0)
    have p1 := Int.emod_lt_of_pos d7 (by decide : (0 : Int) < 3)
    have nH6 : H lp = none := by
      cases z : H lp with
      | none => rfl
      | some o => rw [S5 _ _ z] at nlp; cases nlp
    have lcH := S6 _ _ hc
    have d6h := sll _ _ d5h
    have n6h := sll _ _ n5h
    refine ⟨_, rfl, ld, _, 7, V.int d7, rfl, rfl, SqL.of d6h, at_of (j := 7) rfl (dgv e7), _, _, rfl, rfl, by show (0 : Int) < 3; decide, _, rfl, by omega, by omega, for_range (fun i σ Hz => ∃ (x9 x11 x15 x16 x17 x18 : Option V) (left : Int) (prs : List Pr) (pvs : List V), σ = [some (.str "c"), some (.ref lc), some (.ref la), some (.ref lk), some (.int asks), some (.bl true), some (.ref ld), some (.ref l2), some (.ref Dv), x9, some (.ref Dh), x11, some (.ref lp), some (.ref ll), some (.int left), x15, x16, x17, x18] ∧ SameBut lp H6 Hz ∧
        Hz lp = some (.lst pvs) ∧ PrsAt Hz 0 prs pvs ∧ prs.length = i ∧ (∀ p ∈ prs, 1 ≤ p.size ∧ p.size ≤ 3 ∧ p.blk.length ≤ 4 ∧ ∀ t ∈ p.blk, t.ok nv na = true) ∧ (akC prs : Int) + left = asks ∧ 0 ≤ left)
      ⟨_, _, _, _, _, _, asks, [], [], rfl, SameBut.refl _ _, lpu, rfl, rfl, (fun p hp => nomatch hp), by show ((0 : Nat) : Int) + asks = asks; omega, a0⟩ ?_ ?_⟩
    · rintro i σ Hz hi ⟨x9, x11, x15, x16, x17, x18, left, prs, pvs, rfl, bz, hlp, hpr, hpl, hok, hak, hl0⟩
      have hi2 : i < 2 := by omega
      have ld_lp : ld ≠ lp := fun z => by rw [z] at d5h; rw [d5h] at nlp; cases nlp
      have l2_lp : l2 ≠ lp := fun z => by rw [z] at n5h; rw [n5h] at nlp; cases nlp
      have old : ∀ {a : Addr} {o : HO}, H a = some o → Hz a = some o := fun h => bz _ _ (S6 _ _ h) fun z => by rw [z, nH6] at h; cases h
      have dz := bz _ _ d6h ld_lp
      have nz := bz _ _ n6h l2_lp
      have lz := bz _ _ llu (Ne.symm lpl)
      have cz := old hc
      have az := old ha
      obtain ⟨d8, e8, d80, d81⟩ := dg (8 + i) (by omega)
      obtain ⟨dd, e10, dd0, dd1⟩ := dg (10 + i) (by omega)
      obtain ⟨cc, ecc⟩ : ∃ cc, ([c0, c1, c2].map V.int)[1 + i]? = some (V.int cc) := by
        have : i = 0 ∨ i = 1 := by omega
        rcases this with rfl | rfl
        · exact ⟨c1, rfl⟩
        · exact ⟨c2, rfl⟩
      refine ⟨(by show 3 ≤ sizeLine; decide), fun q nq => ?_⟩
      have sq := new_same (o := HO.tup [V.int 1, V.int 2, V.int 3]) nq
      have z0 := Int.emod_nonneg d8 (by decide : (3 : Int) ≠ 0)
      have z1 := Int.emod_lt_of_pos d8 (by decide : (0 : Int) < 3)
      have hsz : atI [V.int 1, V.int 2, V.int 3] (d8 % 3) = some (V.int (1 + d8 % 3)) := by
        have h3 : d8 % 3 = ((0 : Nat) : Int) ∨ d8 % 3 = ((1 : Nat) : Int) ∨ d8 % 3 = ((2 : Nat) : Int) := by omega
        rcases h3 with e | e | e
        · rw [at_of (j := 0) e rfl, e]; rfl
        · rw [at_of (j := 1) e rfl, e]; rfl
        · rw [at_of (j := 2) e rfl, e]; rfl
      refine ⟨_, rfl, _, rfl, _, _, rfl, rfl, ld, _, _, V.int d8, rfl, rfl, SqL.of (sq _ _ dz), at_of (j := 8 + i) (by omega) (dgv e8), _, _, rfl, rfl, by show (0 : Int) < 3; decide, q, _, _, _, rfl, rfl, SqT.of upd_same, hsz, ?_⟩
      refine ⟨_, rfl, true, rfl, ifF rfl ?_⟩
      refine ⟨_, rfl, _, rfl, _, _, rfl, rfl, lc, _, _, V.int cc, rfl, rfl, SqL.of (sq _ _ cz), at_of (j := 1 + i) (by omega) ecc, ?_⟩
      refine ⟨_, rfl, _, rfl, _, _, rfl, rfl, ld, _, _, V.int dd, rfl, rfl, SqL.of (sq _ _ dz), at_of (j := 10 + i) (by omega) (dgv e10), _, _, rfl, rfl, by show (0 : Int) < 4; decide, _, _, rfl, rfl, 10, 9, rfl, rfl, ⟨by decide, by decide, by decide⟩, ?_⟩
      have y0 := Int.emod_nonneg dd (by decide : (4 : Int) ≠ 0)
      have y1 := Int.emod_lt_of_pos dd (by decide : (0 : Int) < 4)
      refine ⟨cc, 1 + dd % 4, 10 ^ (9 : Int).toNat, rfl, by omega, by omega, by decide, by decide, fun lr H7 rs s7 h7 l7 z7 => ?_⟩
      have s07 := sq.trans s7
      refine ⟨_, rfl, _, rfl, _, rfl, _, rfl, lr, l2, la, ll, rs, nv, na, left, rfl, h7, s07 _ _ nz, s07 _ _ az, .inl (s07 _ _ lz), by omega, hl0, fun b left' t bv H8 s8 t8 nb bl bok bak bl0 => ?_⟩
      have s08 := s07.trans s8
      refine ⟨_, rfl, t, _, 1, V.int left', rfl, rfl, SqT.of t8, rfl, ?_⟩
      have hlp8 := s08 _ _ hlp
      obtain ⟨bb, bvs, rfl, hb1, hb2⟩ := eB_open nb
      have dz8 := s08 _ _ dz
      refine ⟨_, rfl, .inl ⟨rfl, _, SqL.of hlp8⟩, ?_⟩
      have hstr : atI ("pq" : Str).cps.toList (0 + (i : Int)) = some (if i = 0 then 112 else 113) := by
        have : i = 0 ∨ i = 1 := by omega
        rcases this with rfl | rfl <;> rfl
      have epq : (⟨#[if i = 0 then 112 else 113]⟩ : Str) = pq i := by
        have : i = 0 ∨ i = 1 := by omega
        rcases this with rfl | rfl <;> rfl
      refine ⟨_, rfl, _, _, _, rfl, rfl, (by show 2 ≤ sizeLine; decide), hstr, ?_⟩
      rw [epq]
      refine ⟨_, rfl, _, rfl, _, rfl, _, _, rfl, rfl, ld, _, _, V.int d8, rfl, rfl, SqL.of dz8, at_of (j := 8 + i) (by omega) (dgv e8), _, _, rfl, rfl, ⟨by decide, by decide⟩, _, _, rfl, rfl, by show (0 : Int) < 5; decide, _, _, rfl, rfl, ?_⟩
      refine ⟨_, rfl, t, _, 0, V.ref bb, rfl, rfl, SqT.of t8, rfl, (by show 4 ≤ sizeLine; decide), fun pt npt => ?_⟩
      have spt := new_same (o := HO.tup [V.str (pq i), V.int (1 + d8 % 3), V.bl (decide (0 < d8 / 2 % 5)), V.ref bb]) npt
      have pvl : pvs.length = i := by rw [hpr.length, hpl]
      refine ⟨lp, pvs, _, rfl, rfl, spt _ _ hlp8, szl (by omega), ?_⟩
      have ptu : upd (upd H8 pt (.tup [V.str (pq i), V.int (1 + d8 % 3), V.bl (decide (0 < d8 / 2 % 5)), V.ref bb])) lp (.lst (pvs ++ [V.ref pt])) pt = some (.tup [V.str (pq i), V.int (1 + d8 % 3), V.bl (decide (0 < d8 / 2 % 5)), V.ref bb]) := by
        rw [upd_ne (fun z => by rw [z, hlp8] at npt; cases npt), upd_same]
      have lpu9 : upd (upd H8 pt (.tup [V.str (pq i), V.int (1 + d8 % 3), V.bl (decide (0 < d8 / 2 % 5)), V.ref bb])) lp (.lst (pvs ++ [V.ref pt])) lp = some (.lst (pvs ++ [V.ref pt])) := upd_same
      have b9 : SameBut lp H6 (upd (upd H8 pt (.tup [V.str (pq i), V.int (1 + d8 % 3), V.bl (decide (0 < d8 / 2 % 5)), V.ref bb])) lp (.lst (pvs ++ [V.ref pt]))) := fun a o h n => by rw [upd_ne n]; exact spt _ _ (s08 _ _ (bz _ _ h n))
      have t9 : TX H8 (upd (upd H8 pt (.tup [V.str (pq i), V.int (1 + d8 % 3), V.bl (decide (0 < d8 / 2 % 5)), V.ref bb])) lp (.lst (pvs ++ [V.ref pt]))) := (TX.same spt).trans (TX.put (spt _ _ hlp8) fun _ z => by cases z)
      generalize upd (upd H8 pt (.tup [V.str (pq i), V.int (1 + d8 % 3), V.bl (decide (0 < d8 / 2 % 5)), V.ref bb])) lp (.lst (pvs ++ [V.ref pt])) = H9 at ptu lpu9 b9 t9 ⊢
      refine ⟨_, rfl, t, _, 0, V.ref bb, rfl, rfl, SqT.of (t9 _ _ t8), rfl, bb, rfl, ⟨_, SqT.of (t9 _ _ hb1)⟩, fun Dc nDc => ?_⟩
      refine lc_tup (K := K) (xs := bvs) (fun j Ha => ∃ acc : List V, Same H9 Ha ∧ Ha Dc = some (.lst acc) ∧ acc.length ≤ j) ⟨[], new_same nDc, upd_same, Nat.le_refl _⟩ (fun j Ha _ ⟨_, sa, _⟩ => SqT.of (sa _ _ (t9 _ _ hb1))) ?_ ?_
      · rintro j xa Ha hj ⟨acc, sa, qa, la'⟩
        obtain ⟨tm, _, ntm⟩ := NKs.at hb2 hj
        obtain ⟨ta, kd, rest, rfl, hta⟩ := eM_head (NK.tx (t9.trans (TX.same sa)) _ _ ntm)
        have hjl : j < bvs.length := (List.getElem?_eq_some_iff.mp hj).1
        have bvl : bvs.length ≤ 4 := by rw [← hb2.length, List.length_map]; exact bl
        refine ⟨rfl, _, rfl, ta, _, 0, _, rfl, rfl, SqT.of hta, at_of (j := 0) rfl rfl, rfl, _, rfl, ifb (fun _ => ?_) fun _ => ?_⟩
        · exact ⟨_, rfl, acc, qa, szl (by omega), _, fun a o h => by rw [upd_ne (ne_of_none h nDc)]; exact sa _ _ h, upd_same, by rw [List.length_append]; exact Nat.succ_le_succ la'⟩
        · exact ⟨acc, sa, qa, Nat.le_succ_of_le la'⟩
      rintro Ha ⟨acc, sa, qa, _⟩
      refine ⟨_, rfl, _, _, rfl, .inl ⟨_, SqL.of qa, rfl⟩, rfl, _, rfl, andG (fun h => ⟨_, rfl, true, rfl, h⟩) (fun _ h2 => nomatch h2) fun _ => ?_⟩
      refine ⟨_, _, _, _, _, _, left', prs ++ [⟨1 + d8 % 3, decide (0 < d8 / 2 % 5), b⟩], pvs ++ [V.ref pt], rfl, fun a o h n => sa _ _ (b9 _ _ h n), sa _ _ lpu9, ?_, by rw [List.length_append, hpl]; rfl, fun p hp => ?_, ?_, bl0⟩
      · refine PrsAt.snoc (PrsAt.tx ((TX.same s08).trans (t9.trans (TX.same sa))) hpr) ?_
        rw [hpl, Nat.zero_add]
        exact ⟨pt, V.ref bb, rfl, sa _ _ ptu, NK.tx (t9.trans (TX.same sa)) _ _ (.tup hb1 hb2)⟩
      · rcases List.mem_append.mp hp with hp | hp
        · exact hok p hp
        · rw [List.mem_singleton.mp hp]
          exact ⟨by show 1 ≤ 1 + d8 % 3; omega, by show 1 + d8 % 3 ≤ 3; omega, bl, bok⟩
      · have : akC (prs ++ [⟨1 + d8 % 3, decide (0 < d8 / 2 % 5), b⟩]) = akC prs + akB b := by
          unfold akC
          rw [List.map_append, List.sum_append]
          simp
        rw [this]
        omega
    · rintro σ Hz ⟨x9, x11, x15, x16, x17, x18, left, prs, pvs, rfl, bz, hlp, hpr, hpl, hok, hak, hl0⟩
      have nDvl : Dv ≠ lp := fun z => by rw [z] at v5h; rw [v5h] at nlp; cases nlp
      have nDhl : Dh ≠ lp := fun z => by rw [z] at qh; rw [qh] at nlp; cases nlp
      have vz := bz _ _ (sll _ _ v5h) nDvl
      have hz := bz _ _ (sll _ _ qh) nDhl
      have txz : TX Hy Hz := (TX.same sll).trans fun a xs h => bz _ _ h fun z => by rw [z, lpu] at h; cases h
      have Sz : Same H Hz := fun a o h => bz _ _ (S6 _ _ h) fun z => by rw [z, nH6] at h; cases h
      refine ⟨_, rfl, _, rfl, Dv, _, rfl, .inl ⟨SqL.of vz, fun tv ntv => ?_⟩⟩
      have q1 := new_same (o := HO.tup accv) ntv
      refine ⟨_, rfl, Dh, acch, rfl, SqL.of (q1 _ _ hz), fun th fo nth fod => ?_⟩
      have q2 := new_same (o := HO.frz fo (.tup acch)) nth
      refine ⟨_, rfl, lp, _, rfl, .inl ⟨SqL.of (q2 _ _ (q1 _ _ hlp)), fun tp ntp => ?_⟩⟩
      have q3 := new_same (o := HO.tup pvs) ntp
      refine ⟨(by show 4 ≤ sizeLine; decide), fun ct nct => ?_⟩
      have q4 := new_same (o := HO.tup [V.str "c", V.ref tv, V.ref th, V.ref tp]) nct
      refine ⟨_, rfl, _, rfl, (by show 3 ≤ sizeLine; decide), fun t nt => ?_⟩
      have q5 := new_same (o := HO.tup [V.ref ct, V.ref ll, V.int left]) nt
      have t1 := TX.same (q2.trans (q3.trans (q4.trans q5)))
      have tall := TX.same (q1.trans (q2.trans (q3.trans (q4.trans q5))))
      refine k ⟨nv, na, d3 % 2, 0, if na = true ∧ 0 < d6 % 4 then some (d5 % 3) else none, prs⟩ t (.ref ct) _ _ _ (Sz.trans (q1.trans (q2.trans (q3.trans (q4.trans q5))))) upd_same ⟨ct, .ref tv, .ref th, tp, pvs, rfl, q5 _ _ upd_same, ?_, ⟨th, acch, rfl, ⟨fo, q5 _ _ (q4 _ _ (q3 _ _ upd_same)), fod⟩, ?_⟩, q5 _ _ (q4 _ _ upd_same), hpr.tx tall⟩ rfl rfl ?_ ?_
      · have e9 : eVars ⟨nv, na, d3 % 2, 0, if na = true ∧ 0 < d6 % 4 then some (d5 % 3) else none, prs⟩ = .tup (if nv then [NestedKey.tup [.text "x", .num 2, .num (d3 % 2)]] else []) := rfl
        rw [e9]
        exact .tup (t1 _ _ upd_same) (NKs.tx (txz.trans tall) _ _ nv5)
      · exact NKs.tx (txz.trans tall) _ _ nhh
      · have x0 := Int.emod_nonneg d3 (by decide : (2 : Int) ≠ 0)
        have x1 := Int.emod_lt_of_pos d3 (by decide : (0 : Int) < 2)
        have h0' := Int.emod_nonneg d5 (by decide : (3 : Int) ≠ 0)
        have h1' := Int.emod_lt_of_pos d5 (by decide : (0 : Int) < 3)
        refine ⟨?_, ⟨Int.le_refl _, by show (0 : Int) ≤ 1; decide⟩, fun n hn => ?_, ?_, hok⟩
        · show d3 % 2 = 0 ∨ d3 % 2 = 1
          omega
        · have hn' : (if na = true ∧ 0 < d6 % 4 then some (d5 % 3) else none) = some n := hn
          split at hn'
          · rename_i hc2
            cases hn'
            exact ⟨hc2.1, h0', by omega⟩
          · cases hn'
        · show prs.length ≤ 2
          omega
      · show akC prs ≤ 2
        omega
theorem cal_lcon {f : Addr} {fd : FuncData} (F : FnP K "_law_contract" "_law_contract" s_law_contract f fd) (T : Txt K mg) (g : mg "_law_contract" = some (.ref f)) (c_law_row : C8.Cal P w K mg base 1 "_law_row" spLRow []) (c_law_body : C8.Cal P w K mg base 6 "_law_body" (spLBody K) []) : C8.Cal P w K mg base 7 "_law_contract" (spLCon K) [] :=
  ⟨f, fd, _, [], ok_lcon F T c_law_row c_law_body, g, F.kp, F.bindsN fun _ _ _ _ _ _ us hl => match us, hl with | [_, _, _, _, _, _], _ => rfl, .nil⟩
end
end NC
set_option Elab.async false
set_option linter.all false
set_option maxRecDepth 100000
set_option maxHeartbeats 4000000
/-! The law's drawing of a house: house. -/
namespace NC
open PySem PySem.Spec PyProof.Rows L2
/-- the law's own house -/
def LhAt (H : Hp) (c : Cf) (v : V) : Prop := ∃ a la lc avs ct, v = .ref a ∧ H a = some (.tup [.ref la, .ref lc]) ∧ H la = some (.lst avs) ∧ NKs H (eAss c) avs ∧ H lc = some (.lst [ct]) ∧ CtAt H c ct
theorem LhAt.same {H H' : Hp} {c : Cf} {v : V} (s : Same H H') : LhAt H c v → LhAt H' c v
  | ⟨a, la, lc, avs, ct, e, h1, h2, h3, h4, h5⟩ => ⟨a, la, lc, avs, ct, e, s _ _ h1, s _ _ h2, NKs.tx (TX.same s) _ _ h3, s _ _ h4, h5.tx (TX.same s) fun _ _ => FrT.same s⟩
section
variable {P : Program} {w : World} {K : PySem.W.Frag} {mg : Str → Option Value} {base : Heap}
def spLHouse (K : PySem.W.Frag) : Sp := fun vs H Q _ => ∃ (ls : Addr) (ns : List Int), vs = [.ref ls, .int 0, .int 1, .bl true] ∧ SqL K H ls (ns.map V.int) ∧ ∀ (c : Cf) (v : V) (H' : Hp), Same H H' → LhAt H' c v → c.Ok → akC c.prs ≤ 2 → Q v H'
theorem sc_law_house : FnScope ["_law_script", "_law_at", "_law_many", "_law_small", "_law_digits", "_law_assets", "_law_contracts", "_law_known", "_law_left", "_law_k", "_law_cells", "_law_j", "_law_made_here", "_law_asset"] ["_law_script", "_law_at", "_law_many", "_law_small"] (defScope s_law_house) := ⟨rfl, rfl, rfl, by decide +kernel, rfl, by decide +kernel, by decide +kernel⟩
theorem ok_lhouse {f : Addr} {fd : FuncData} (F : FnP K "_law_house" "_law_house" s_law_house f fd) (T : Txt K mg) (c_law_cell : C8.Cal P w K mg base 1 "_law_cell" (spLCell K) []) (c_law_row : C8.Cal P w K mg base 1 "_law_row" spLRow []) (c_law_contract : C8.Cal P w K mg base 7 "_law_contract" (spLCon K) []) : FnOk P w K mg base CX0 8 f fd ["_law_script", "_law_at", "_law_many", "_law_small"] (spLHouse K) := by
  refine F.ok sc_law_house (fun vs H Q E h => ?_) (fun cdv A outer s H vs Q E hr h => ?_)
  · obtain ⟨ls, ns, rfl, _⟩ := h
    rfl
  · obtain ⟨ls, ns, rfl, hl, k⟩ := h
    refine ⟨_, PSs.nox ((pss_cons (ps_set (i := 4) sc_law_house.nd rfl (Or.inr rfl) (C8.pe_c c_law_row hr (by decide) (by rfl) (pa_cons (C8.pe_c c_law_cell hr (by decide) (by rfl) (pa_cons (pv 0) (pa_cons (pv 1) pa_nil))) (pa_cons pe_int (pa_cons pe_int pa_nil)))))
      (pss_cons (ps_set (i := 5) sc_law_house.nd rfl (Or.inl rfl) (pe_slice sl_list (pe_lst (pa_cons pe_str (pa_cons pe_str pa_nil))) po_none (po_some (pe_callB (call_min2 rfl) (by rfl) T.min bt_min (pa_cons (pe_op op_mod (pe_ix ix_list (pv 4) pe_int (fun _ _ => rfl)) pe_int) (pa_cons (pe_op op_sub pe_int (pe_callTy call_int1 (by rfl) T.int bt_int (pa_cons (pv 3) pa_nil))) pa_nil))))))
      (pss_cons (ps_set (i := 6) sc_law_house.nd rfl (Or.inl rfl) (pe_lst pa_nil))
      (pss_cons (ps_set (i := 7) sc_law_house.nd rfl (Or.inl rfl) (pe_lst pa_nil))
      (pss_cons (ps_set (i := 8) sc_law_house.nd rfl (Or.inl rfl) pe_int)
      (pss_cons (ps_if (pt_val (pv 3)) (pss_one (ps_set (i := 8) sc_law_house.nd rfl (Or.inl rfl) (pe_op op_add pe_int (pe_op op_mod (pe_ix ix_list (pv 4) pe_int (fun _ _ => rfl)) pe_int)))) pss_nil)
      (pss_cons (ps_for PassesOwn.never rfl (pi_range1 rfl T.range (pa_cons (pe_op op_add pe_int (pe_op op_mod (pe_ix ix_list (pv 4) pe_int (fun _ _ => rfl)) (pv 2))) pa_nil)) (pg_name (i := 9) sc_law_house.nd rfl (Or.inr rfl)) (pss_cons (ps_setLc (i := 10) (own := [("_law_j", 11)]) rfl sc_law_house.nd rfl rfl (sw_true rfl rfl rfl (by decide +kernel)) (pi_range1 rfl T.range (pa_cons pe_int pa_nil)) (blkOk_by (own := [("_law_j", 11)]) (N := ["_law_script", "_law_at", "_law_many", "_law_small", "_law_digits", "_law_assets", "_law_contracts", "_law_known", "_law_left", "_law_k", "_law_cells", "_law_j", "_law_made_here", "_law_asset"]) (sc := defScope s_law_house) (by decide +kernel)) (fun _ _ _ _ _ => (pg_name (i := 11) sc_law_house.nd rfl (Or.inl rfl))) (fun _ _ _ _ _ => pts_nil) (fun _ _ _ _ _ => (C8.pe_c c_law_cell hr (by decide) (by rfl) (pa_cons (pv 0) (pa_cons (pe_op op_add (pe_op op_add (pe_op op_add (pv 1) pe_int) (pe_op op_mul pe_int (pv 9))) (pv 11)) pa_nil)))))
      (pss_cons (ps_set (i := 12) sc_law_house.nd rfl (Or.inl rfl) (C8.pe_c c_law_contract hr (by decide) (by rfl) (pa_cons (pe_ix ix_str pe_str (pv 9) (fun _ _ => rfl)) (pa_cons (pv 10) (pa_cons (pv 5) (pa_cons (pv 7) (pa_cons (pv 8) (pa_cons (pv 3) pa_nil))))))))
      (pss_cons (ps_expr (pe_bm PySem.F.plainAttrs_list PySem.F.slot_list_append PySem.F.type_list_append mt_append (pv 6) (pa_cons (pe_ix ix_tup (pv 12) pe_int (fun _ _ => rfl)) pa_nil)))
      (pss_cons (ps_set (i := 7) sc_law_house.nd rfl (Or.inl rfl) (pe_ix ix_tup (pv 12) pe_int (fun _ _ => rfl)))
      (pss_one (ps_set (i := 8) sc_law_house.nd rfl (Or.inl rfl) (pe_ix ix_tup (pv 12) pe_int (fun _ _ => rfl)))))))))
      (pss_one (ps_ret (pe_tup (pa_cons (pe_lc (own := [("_law_asset", 13)]) rfl sc_law_house.nd (pi_list (pv 5)) (blkOk_by (own := [("_law_asset", 13)]) (N := ["_law_script", "_law_at", "_law_many", "_law_small", "_law_digits", "_law_assets", "_law_contracts", "_law_known", "_law_left", "_law_k", "_law_cells", "_law_j", "_law_made_here", "_law_asset"]) (sc := defScope s_law_house) (by decide +kernel)) (fun _ _ _ _ _ => (pg_name (i := 13) sc_law_house.nd rfl (Or.inl rfl))) (fun _ _ _ _ _ => pts_nil) (fun _ _ _ _ _ => (pe_tup (pa_cons (pv 13) (pa_cons (pe_op op_mod (pe_ix (ix_listK (K := K) rfl) (pv 4) pe_int (fun _ _ => rfl)) (pe_op op_sub pe_int (pe_callTy call_int1 (by rfl) T.int bt_int (pa_cons (pv 3) pa_nil)))) pa_nil))))) (pa_cons (pv 6) pa_nil))))))))))))), ?_⟩
    dsimp only [cxOf, Cx.nox]
    refine ⟨_, rfl, _, rfl, ls, ns, 0, rfl, hl, fun c0 => ?_⟩
    refine ⟨c0, 4, 60, rfl, by decide, by decide, by decide, by decide, fun ld H1 ds s1 hd hdl hdz => ?_⟩
    have dg : ∀ j : Nat, j < 4 → ∃ d, ds[j]? = some d ∧ 0 ≤ d ∧ d < 60 := fun j hj => by
      have : j < ds.length := by rw [hdl]; exact hj
      exact ⟨ds[j], List.getElem?_eq_getElem this, hdz _ (List.getElem_mem this)⟩
    have dgv : ∀ {j : Nat} {d : Int}, ds[j]? = some d → (ds.map V.int)[j]? = some (V.int d) := fun h => by rw [List.getElem?_map, h]; rfl
    obtain ⟨d0, e0, d00, d01⟩ := dg 0 (by decide)
    obtain ⟨d1, e1, d10, d11⟩ := dg 1 (by decide)
    obtain ⟨d2, e2, d20, d21⟩ := dg 2 (by decide)
    obtain ⟨d3, e3, d30, d31⟩ := dg 3 (by decide)
    refine ⟨(by show 2 ≤ sizeLine; decide), fun l0 nl0 => ?_⟩
    have sl0 := new_same (o := HO.lst [V.str "a", V.str "b"]) nl0
    dsimp only [tNoPart]
    refine ⟨_, rfl, ld, _, 0, V.int d0, rfl, rfl, SqL.of (sl0 _ _ hd), at_of (j := 0) rfl (dgv e0), _, _, rfl, rfl, by show (0 : Int) < 3; decide, ?_⟩
    refine ⟨_, rfl, .inr ⟨true, rfl, _, _, rfl, rfl, ?_⟩⟩
    have m0 := Int.emod_nonneg d0 (by decide : (3 : Int) ≠ 0)
    have m1 := Int.emod_lt_of_pos d0 (by decide : (0 : Int) < 3)
    have eas : cutV [V.str "a", V.str "b"] none (some (if (2 - (if true = true then 1 else 0) : Int) < d0 % 3 then 2 - (if true = true then 1 else 0) else d0 % 3)) = asL (decide (d0 % 3 ≠ 0)) := by
      have h3 : d0 % 3 = ((0 : Nat) : Int) ∨ d0 % 3 = ((1 : Nat) : Int) ∨ d0 % 3 = ((2 : Nat) : Int) := by omega
      rcases h3 with e | e | e
      · rw [e]
        exact cut_lo [V.str "a", V.str "b"] (i := 0) (by decide)
      · rw [e]
        exact cut_lo [V.str "a", V.str "b"] (i := 1) (by decide)
      · rw [e]
        exact cut_lo [V.str "a", V.str "b"] (i := 1) (by decide)
    refine ⟨_, _, rfl, _, rfl, l0, _, rfl, SqL.of upd_same, fun l1 nl1 => ?_⟩
    rw [eas]
    generalize hna : decide (d0 % 3 ≠ 0) = na
    have S3 : Same H (upd (upd H1 l0 (.lst [V.str "a", V.str "b"])) l1 (.lst (asL na))) := (s1.trans sl0).trans (new_same nl1)
    have d3h := new_same (o := HO.lst (asL na)) nl1 _ _ (sl0 _ _ hd)
    have a3h : upd (upd H1 l0 (.lst [V.str "a", V.str "b"])) l1 (.lst (asL na)) l1 = some (.lst (asL na)) := upd_same
    generalize upd (upd H1 l0 (.lst [V.str "a", V.str "b"])) l1 (.lst (asL na)) = H3 at S3 d3h a3h ⊢
    clear eas sl0 nl0 nl1 hd s1
    refine ⟨(by show 0 ≤ sizeLine; decide), fun lc nlc => ⟨(by show 0 ≤ sizeLine; decide), fun lk nlk => ?_⟩⟩
    have sc := (new_same (o := HO.lst []) nlc).trans (new_same (o := HO.lst []) nlk)
    have lcu := new_same (o := HO.lst []) nlk _ _ (upd_same (H := H3) (a := lc) (o := HO.lst []))
    have lku := upd_same (H := upd H3 lc (HO.lst [])) (a := lk) (o := HO.lst [])
    have lckn : lc ≠ lk := ne_of_none upd_same nlk
    generalize upd (upd H3 lc (HO.lst [])) lk (HO.lst []) = H4 at sc lcu lku ⊢
    have S4 := S3.trans sc
    have d4h := sc _ _ d3h
    have a4h := sc _ _ a3h
    have nlcH : H lc = none := by
      cases z : H lc with
      | none => rfl
      | some o => rw [S3 _ _ z] at nlc; cases nlc
    refine ⟨_, rfl, true, rfl, ifT rfl ?_⟩
    refine ⟨_, rfl, ld, _, 3, V.int d3, rfl, rfl, SqL.of d4h, at_of (j := 3) rfl (dgv e3), _, _, rfl, rfl, by show (0 : Int) < 2; decide, _, _, rfl, rfl, ?_⟩
    have w0 := Int.emod_nonneg d3 (by decide : (2 : Int) ≠ 0)
    have w1 := Int.emod_lt_of_pos d3 (by decide : (0 : Int) < 2)
    refine ⟨_, rfl, ld, _, 1, V.int d1, rfl, rfl, SqL.of d4h, at_of (j := 1) rfl (dgv e1), _, rfl, _, _, rfl, rfl, by show (0 : Int) < 1; decide, _, _, rfl, rfl, _, rfl, ?_⟩
    rw [show (1 + d1 % 1 : Int) = 1 by rw [Int.emod_one]; rfl]
    refine ⟨by decide, by decide, for_range (fun i σ Hz => ∃ (x7 x8 x9 x10 x11 x12 x13 : Option V) (cvs : List V), σ = [some (.ref ls), some (.int 0), some (.int 1), some (.bl true), some (.ref ld), some (.ref l1), some (.ref lc), x7, x8, x9, x10, x11, x12, x13] ∧ SameBut lc H4 Hz ∧ Hz lc = some (.lst cvs) ∧ (i = 0 → x7 = some (.ref lk) ∧ x8 = some (.int (1 + d3 % 2)) ∧ cvs = [] ∧ Hz = H4) ∧
        (i = 1 → ∃ c ct, cvs = [ct] ∧ CtAt Hz c ct ∧ c.na = na ∧ c.o0 = 0 ∧ c.Ok ∧ akC c.prs ≤ 2))
      ⟨_, _, _, _, _, _, _, [], rfl, SameBut.refl _ _, lcu, fun _ => ⟨rfl, rfl, rfl, rfl⟩, fun z => nomatch z⟩ ?_ ?_⟩
    · rintro i σ Hz hi ⟨x7, x8, x9, x10, x11, x12, x13, cvs, rfl, bz, hlc, h0, _⟩
      have i0 : i = 0 := by have : i < 1 := hi; omega
      subst i0
      obtain ⟨rfl, rfl, rfl, rfl⟩ := h0 rfl
      refine ⟨3, rfl, by decide, by decide, fun D nD => ?_⟩
      refine lc_range (fun j Hy => ∃ cs : List Int, Same Hz Hy ∧ Hy D = some (.lst (cs.map V.int)) ∧ cs.length = j) ⟨[], new_same nD, upd_same, rfl⟩ ?_ ?_
      · rintro j Hy hj ⟨cs, sy, qa, ql⟩
        refine ⟨rfl, _, rfl, _, rfl, _, _, rfl, rfl, _, rfl, _, _, rfl, rfl, .inr ⟨by decide, by decide⟩, _, _, rfl, rfl, _, rfl, _, _, rfl, rfl, ls, ns, 1 + 3 * 0 + j, ?_, SqL.same (S4.trans sy) hl, fun cc => ?_⟩
        · show [V.ref ls, V.int (0 + 1 + 3 * (0 + ((0 : Nat) : Int)) + (0 + (j : Int)))] = _
          rw [show (0 + 1 + 3 * (0 + ((0 : Nat) : Int)) + (0 + (j : Int)) : Int) = ((1 + 3 * 0 + j : Nat) : Int) by omega]
        · refine ⟨_, qa, by rw [List.length_map]; exact szl (by have : j < 3 := hj; omega), cs ++ [cc], fun a o h => by rw [upd_ne (ne_of_none h nD)]; exact sy _ _ h, by rw [upd_same, List.map_append]; rfl, by rw [List.length_append, ql]; rfl⟩
      · rintro Hy ⟨cs, sy, qa, ql⟩
        refine ⟨_, rfl, _, 0 + ((0 : Nat) : Int), 99, rfl, rfl, (by decide), rfl, _, rfl, _, rfl, _, rfl, _, rfl, _, rfl, D, l1, lk, cs, na, 1 + d3 % 2, rfl, qa, ql, sy _ _ (sc _ _ a3h), sy _ _ lku, by omega, by omega, ?_⟩
        intro c t ct lk' left Hw sw ht hct hcn hc0 hco hca
        have hct2 : CtAt (upd Hw lc (.lst ([] ++ [ct]))) c ct := by
          have hlw : Hw lc = some (.lst []) := sw _ _ (sy _ _ hlc)
          refine hct.tx (fun a vs h => ?_) (fun a xs ⟨o, h, d⟩ => ⟨o, ?_, d⟩)
          · rw [upd_ne (fun z => by rw [z, hlw] at h; cases h)]; exact h
          · rw [upd_ne (fun z => by rw [z, hlw] at h; cases h)]; exact h
        have htl : t ≠ lc := fun z => by rw [z, sw _ _ (sy _ _ hlc)] at ht; cases ht
        have ht2 : (upd Hw lc (.lst ([] ++ [ct]))) t = some (.tup [ct, lk', left]) := by rw [upd_ne htl]; exact ht
        refine ⟨_, rfl, .inl ⟨rfl, _, SqL.of (sw _ _ (sy _ _ hlc))⟩, _, rfl, t, _, 0, ct, rfl, rfl, SqT.of ht, rfl, lc, [], ct, rfl, rfl, sw _ _ (sy _ _ hlc), by show 0 < sizeLine; decide, ?_⟩
        refine ⟨_, rfl, t, _, 1, lk', rfl, rfl, SqT.of ht2, rfl, ?_⟩
        refine ⟨_, rfl, t, _, 2, left, rfl, rfl, SqT.of ht2, rfl, ?_⟩
        refine ⟨_, _, _, _, _, _, _, _, rfl, SameBut.upd fun a o h n => sw _ _ (sy _ _ h), upd_same, (fun z => by cases z), fun _ => ⟨c, ct, rfl, hct2, hcn, hc0, hco, hca⟩⟩
    · rintro σ Hz ⟨x7, x8, x9, x10, x11, x12, x13, cvs, rfl, bz, hlc, _, h1⟩
      obtain ⟨c, ct, rfl, hct, hcn, hc0, hco, hca⟩ := h1 rfl
      have ldlc : ld ≠ lc := ne_of_none d3h nlc
      have l1lc : l1 ≠ lc := ne_of_none a3h nlc
      have dzh := bz _ _ d4h ldlc
      have azh := bz _ _ a4h l1lc
      have Sz : Same H Hz := fun a o h => bz _ _ (S4 _ _ h) (fun z => by rw [z, nlcH] at h; cases h)
      have v0 := Int.emod_nonneg d2 (by decide : (2 : Int) ≠ 0)
      have v1 := Int.emod_lt_of_pos d2 (by decide : (0 : Int) < 2)
      refine ⟨_, rfl, l1, rfl, ⟨_, SqL.of azh⟩, fun Da nDa => ?_⟩
      refine lc_list (K := K) (xs := asL na) (fun i Hy => ∃ acc, Same Hz Hy ∧ Hy Da = some (.lst acc) ∧ NKs Hy (if i = 0 then [] else [NestedKey.tup [.text "a", .num (d2 % 2)]]) acc) ⟨[], new_same nDa, upd_same, .nil⟩ (fun i Hy _ ⟨_, sy, _⟩ => SqL.of (sy _ _ azh)) ?_ ?_
      · rintro i xa Hy hi ⟨acc, sy, qa, nac⟩
        have nat' : na = true := by
          cases na with
          | true => rfl
          | false => simp [asL] at hi
        subst nat'
        have i0 : i = 0 := by have := (List.getElem?_eq_some_iff.mp hi).1; have : i < 1 := this; omega
        subst i0
        cases hi
        cases nac
        refine ⟨rfl, ?_⟩
        refine ⟨_, rfl, _, rfl, ld, _, 2, V.int d2, rfl, rfl, SqL.of (sy _ _ dzh), at_of (j := 2) rfl (dgv e2), ?_⟩
        refine ⟨_, rfl, .inr ⟨true, rfl, _, _, rfl, rfl, _, _, rfl, rfl, by show (0 : Int) < 3 - (if true = true then 1 else 0); decide, (by show 2 ≤ sizeLine; decide), fun t nt => ?_⟩⟩
        have st := new_same (o := HO.tup [V.str "a", V.int (d2 % 2)]) nt
        have nDt : Da ≠ t := ne_of_none qa nt
        refine ⟨_, st _ _ qa, (by show 0 < sizeLine; decide), _, fun a o h => by rw [upd_ne (ne_of_none h nDa)]; exact st _ _ (sy _ _ h), upd_same, ?_⟩
        rw [if_neg (show ¬ (0 + 1 = 0) by decide)]
        exact .cons (.tup (by rw [upd_ne (Ne.symm nDt), upd_same]; rfl) (.cons (.text _) (.cons (.num _) .nil))) .nil
      rintro Hy ⟨acc, sy, qa, nac⟩
      refine ⟨_, rfl, (by show 2 ≤ sizeLine; decide), fun t nt => ?_⟩
      have st := new_same (o := HO.tup [V.ref Da, V.ref lc]) nt
      have T1 := TX.same (sy.trans st)
      refine k ⟨c.nv, c.na, c.x0, d2 % 2, c.hd, c.prs⟩ (.ref t) _ (Sz.trans (sy.trans st)) ⟨t, Da, lc, acc, ct, rfl, upd_same, st _ _ qa, ?_, st _ _ (sy _ _ hlc), ?_⟩ ⟨hco.x0, ⟨v0, by show d2 % 2 ≤ 1; omega⟩, hco.hd, hco.n2, hco.pr⟩ hca
      · have e9 : eAss ⟨c.nv, c.na, c.x0, d2 % 2, c.hd, c.prs⟩ = (if (asL na).length = 0 then [] else [NestedKey.tup [.text "a", .num (d2 % 2)]]) := by
          show (if c.na = true then [NestedKey.tup [.text "a", .num (d2 % 2)]] else []) = _
          rw [hcn]
          cases na <;> rfl
        rw [e9]
        exact NKs.tx (TX.same st) _ _ nac
      · exact CtAt.tx T1 (fun _ _ => FrT.same (sy.trans st)) hct
theorem cal_lhouse {f : Addr} {fd : FuncData} (F : FnP K "_law_house" "_law_house" s_law_house f fd) (T : Txt K mg) (g : mg "_law_house" = some (.ref f)) (c_law_cell : C8.Cal P w K mg base 1 "_law_cell" (spLCell K) []) (c_law_row : C8.Cal P w K mg base 1 "_law_row" spLRow []) (c_law_contract : C8.Cal P w K mg base 7 "_law_contract" (spLCon K) []) : C8.Cal P w K mg base 8 "_law_house" (spLHouse K) [] :=
  ⟨f, fd, _, [], ok_lhouse F T c_law_cell c_law_row c_law_contract, g, F.kp, F.bindsN fun _ _ _ _ _ _ us hl => match us, hl with | [_, _, _, _], _ => rfl, .nil⟩
end
end NC
set_option Elab.async false
set_option linter.all false
set_option maxRecDepth 100000
set_option maxHeartbeats 4000000
/-! The law's own interpreter: combine, index. -/
namespace NC
open PySem PySem.Spec PyProof.Rows L2
section
variable {P : Program} {w : World} {K : PySem.W.Frag} {mg : Str → Option Value} {base : Heap}
theorem sc_law_combine : FnScope ["_law_sign", "_law_a", "_law_b"] ["_law_sign", "_law_a", "_law_b"] (defScope s_law_combine) := ⟨rfl, rfl, rfl, by decide +kernel, rfl, by decide +kernel, by decide +kernel⟩
theorem ok_lcomb {f : Addr} {fd : FuncData} (F : FnP K "_law_combine" "_law_combine" s_law_combine f fd) (T : Txt K mg) : FnOk P w K mg base CX0 1 f fd ["_law_sign", "_law_a", "_law_b"] (spComb "") := by
  refine F.ok sc_law_combine (fun vs H Q E h => ?_) (fun cdv A outer s H vs Q E hr h => ?_)
  · obtain ⟨k, a, b, rfl, _⟩ := h
    rfl
  · obtain ⟨k, a, b, rfl, hk, a0, a1, b0, b1, kk⟩ := h
    have kk := kk H (Same.refl H)
    refine ⟨_, PSs.nox ((pss_cons (ps_if (pt_cmpR op_eq (pv 0) pe_str (nomark _)) (pss_one (ps_ret (pe_op op_mod (pe_op op_add (pv 1) (pv 2)) pe_int))) pss_nil)
      (pss_cons (ps_if (pt_cmpR op_eq (pv 0) pe_str (nomark _)) (pss_one (ps_ret (pe_callB (call_max2 rfl) (by rfl) T.max bt_max (pa_cons pe_int (pa_cons (pe_op op_sub (pv 1) (pv 2)) pa_nil))))) pss_nil)
      (pss_cons (ps_if (pt_cmpR op_eq (pv 0) pe_str (nomark _)) (pss_one (ps_ret (pe_op op_mod (pe_op op_mul (pv 1) (pv 2)) pe_int))) pss_nil)
      (pss_cons (ps_if (pt_cmpR op_eq (pv 0) pe_str (nomark _)) (pss_one (ps_ret (pe_callTy call_int1 (by rfl) T.int bt_int (pa_cons (pe_cmpR op_lt (pv 1) (pv 2) (nomark _)) pa_nil)))) pss_nil)
      (pss_cons (ps_if (pt_cmpR op_eq (pv 0) pe_str (nomark _)) (pss_one (ps_ret (pe_callTy call_int1 (by rfl) T.int bt_int (pa_cons (pe_cmpR op_eq (pv 1) (pv 2) (nomark _)) pa_nil)))) pss_nil)
      (pss_cons (ps_if (pt_cmpR op_eq (pv 2) pe_int (nomark _)) (pss_one (ps_ret pe_int)) pss_nil)
      (pss_cons (ps_if (pt_cmpR op_eq (pv 0) pe_str (nomark _)) (pss_one (ps_ret (pe_op op_fdiv (pv 1) (pv 2)))) pss_nil)
      (pss_one (ps_ret (pe_op op_mod (pv 1) (pv 2)))))))))))), ?_⟩
    have hk' : k = 0 ∨ k = 1 ∨ k = 2 ∨ k = 3 ∨ k = 4 ∨ k = 5 ∨ k = 6 := by omega
    rcases hk' with rfl | rfl | rfl | rfl | rfl | rfl | rfl
    · refine ⟨_, rfl, rfl, _, rfl, ifT rfl ?_⟩
      exact ⟨_, rfl, _, rfl, _, _, rfl, rfl, _, _, rfl, rfl, (by show (0 : Int) < 65536; decide), kk⟩
    · refine ⟨_, rfl, rfl, _, rfl, ifF rfl ⟨_, rfl, rfl, _, rfl, ifT rfl ?_⟩⟩
      exact ⟨_, rfl, _, rfl, _, _, rfl, rfl, _, _, rfl, kk⟩
    · refine ⟨_, rfl, rfl, _, rfl, ifF rfl ⟨_, rfl, rfl, _, rfl, ifF rfl ⟨_, rfl, rfl, _, rfl, ifT rfl ?_⟩⟩⟩
      exact ⟨_, rfl, _, rfl, _, _, rfl, rfl, .inl ⟨by omega, by omega⟩, _, _, rfl, rfl, (by show (0 : Int) < 65536; decide), kk⟩
    · refine ⟨_, rfl, rfl, _, rfl, ifF rfl ⟨_, rfl, rfl, _, rfl, ifF rfl ⟨_, rfl, rfl, _, rfl, ifF rfl ⟨_, rfl, rfl, _, rfl, ifF rfl ⟨_, rfl, rfl, _, rfl, ifF rfl ⟨_, rfl, rfl, _, rfl, ifb (fun hc => ?_) fun hc => ⟨_, rfl, rfl, _, rfl, ifT rfl ?_⟩⟩⟩⟩⟩⟩⟩
      · have e : b = 0 := V.int.inj (of_decide_eq_true hc)
        have e2 : comb 3 a b = 0 := if_pos e
        rw [e2] at kk
        exact kk
      · have e : ¬ b = 0 := fun z => of_decide_eq_false hc (congrArg V.int z)
        have e2 : comb 3 a b = a / b := if_neg e
        rw [e2] at kk
        exact ⟨_, rfl, _, rfl, _, _, rfl, rfl, ⟨by omega, by omega⟩, kk⟩
    · refine ⟨_, rfl, rfl, _, rfl, ifF rfl ⟨_, rfl, rfl, _, rfl, ifF rfl ⟨_, rfl, rfl, _, rfl, ifF rfl ⟨_, rfl, rfl, _, rfl, ifF rfl ⟨_, rfl, rfl, _, rfl, ifF rfl ⟨_, rfl, rfl, _, rfl, ifb (fun hc => ?_) fun hc => ⟨_, rfl, rfl, _, rfl, ifF rfl ?_⟩⟩⟩⟩⟩⟩⟩
      · have e : b = 0 := V.int.inj (of_decide_eq_true hc)
        have e2 : comb 4 a b = 0 := if_pos e
        rw [e2] at kk
        exact kk
      · have e : ¬ b = 0 := fun z => of_decide_eq_false hc (congrArg V.int z)
        have e2 : comb 4 a b = a % b := if_neg e
        rw [e2] at kk
        exact ⟨_, rfl, _, rfl, _, _, rfl, rfl, (by show 0 < b; omega), kk⟩
    · refine ⟨_, rfl, rfl, _, rfl, ifF rfl ⟨_, rfl, rfl, _, rfl, ifF rfl ⟨_, rfl, rfl, _, rfl, ifF rfl ⟨_, rfl, rfl, _, rfl, ifT rfl ?_⟩⟩⟩⟩
      refine ⟨_, rfl, _, rfl, _, _, rfl, rfl, .inr ⟨_, rfl, ?_⟩⟩
      rw [b2]
      exact kk
    · refine ⟨_, rfl, rfl, _, rfl, ifF rfl ⟨_, rfl, rfl, _, rfl, ifF rfl ⟨_, rfl, rfl, _, rfl, ifF rfl ⟨_, rfl, rfl, _, rfl, ifF rfl ⟨_, rfl, rfl, _, rfl, ifT rfl ?_⟩⟩⟩⟩⟩
      refine ⟨_, rfl, _, rfl, rfl, .inr ⟨_, rfl, ?_⟩⟩
      rw [b2]
      have e2 : (if V.int a = V.int b then (1 : Int) else 0) = comb 6 a b := by
        show _ = if a = b then (1 : Int) else 0
        by_cases h : a = b
        · rw [if_pos h, if_pos (congrArg V.int h)]
        · rw [if_neg h, if_neg (fun z => h (V.int.inj z))]
      rw [e2]
      exact kk
theorem cal_lcomb {f : Addr} {fd : FuncData} (F : FnP K "_law_combine" "_law_combine" s_law_combine f fd) (T : Txt K mg) (g : mg "_law_combine" = some (.ref f)) : C8.Cal P w K mg base 1 "_law_combine" (spComb "") [] :=
  ⟨f, fd, _, [], ok_lcomb F T, g, F.kp, F.bindsN fun _ _ _ _ _ _ us hl => match us, hl with | [_, _, _], _ => rfl, .nil⟩
/-! ### index -/
/-- pairs, each led by its name -/
def Led (H : Hp) (vs : List V) (i : Nat) (n : Str) : Prop := i < vs.length ∧ vs.length ≤ 100 ∧ ∀ j, j ≤ i → ∃ p z r, vs[j]? = some (.ref p) ∧ H p = some (.tup (.str z :: r)) ∧ (z = n ↔ j = i)
theorem rIx_sq {H : Hp} {a : Addr} {ps : List V} {j : Int} {v : V} {Q : VK} (h : SqL K H a ps ∨ SqT K H a ps) (e : atI ps j = some v) (q : Q v H) : rIx K (.ref a) (.int j) H Q := by
  rcases h with h | h
  · exact .inl ⟨_, _, _, _, rfl, rfl, h, e, q⟩
  · exact .inr (.inl ⟨_, _, _, _, rfl, rfl, h, e, q⟩)
def spLIx (K : PySem.W.Frag) : Sp := fun vs H Q _ => ∃ (a : Addr) (ps : List V) (i : Nat) (n : Str), vs = [.ref a, .str n] ∧ (SqL K H a ps ∨ SqT K H a ps) ∧ Led H ps i n ∧ ∀ H', Same H H' → Q (.int i) H'
theorem sc_law_index : FnScope ["_law_pairs", "_law_name", "_law_k"] ["_law_pairs", "_law_name"] (defScope s_law_index) := ⟨rfl, rfl, rfl, by decide +kernel, rfl, by decide +kernel, by decide +kernel⟩
theorem ok_lix {f : Addr} {fd : FuncData} (F : FnP K "_law_index" "_law_index" s_law_index f fd) (T : Txt K mg) : FnOk P w K mg base CX0 1 f fd ["_law_pairs", "_law_name"] (spLIx K) := by
  refine F.ok sc_law_index (fun vs H Q E h => ?_) (fun cdv A outer s H vs Q E hr h => ?_)
  · obtain ⟨a, ps, i, n, rfl, _⟩ := h
    rfl
  · obtain ⟨a, ps, i, n, rfl, hp, hl, k⟩ := h
    refine ⟨_, PSs.nox ((pss_cons (ps_for PassesOwn.never rfl (pi_range1 rfl T.range (pa_cons (pe_callB call_len (by rfl) T.len bt_len (pa_cons (pv 0) pa_nil)) pa_nil)) (pg_name (i := 2) sc_law_index.nd rfl (Or.inl rfl)) (pss_one (ps_if (pt_cmpR op_eq (pe_ix ix_tup (pe_ix ix_seq (pv 0) (pv 2) (fun _ _ => rfl)) pe_int (fun _ _ => rfl)) (pv 1) (nomark _)) (pss_one (ps_ret (pv 2))) pss_nil)))
      (pss_one (ps_ret pe_non)))), ?_⟩
    dsimp only [cxOf, Cx.nox]
    obtain ⟨hi, hz, hj⟩ := hl
    have hln : LenV K (.ref a) H ps.length := by
      rcases hp with h | h
      · exact .inl ⟨_, h, rfl⟩
      · exact .inr ⟨_, h, rfl⟩
    refine ⟨_, rfl, _, _, rfl, hln, _, rfl, by omega, by omega, for_range (fun j σ Hz => Hz = H ∧ j ≤ i ∧ ∃ x2, σ = [some (.ref a), some (.str n), x2]) ⟨rfl, Nat.zero_le _, _, rfl⟩ ?_ ?_⟩
    · rintro j σ Hz hj2 ⟨rfl, hji, x2, rfl⟩
      obtain ⟨p, z, r, e1, e2, e3⟩ := hj j hji
      have eat : atI ps (0 + (j : Int)) = some (.ref p) := at_of (j := j) (by omega) e1
      refine ⟨_, rfl, _, rfl, rIx_sq hp eat ⟨p, _, 0, .str z, rfl, rfl, SqT.of e2, at_of (j := 0) rfl rfl, _, rfl, rfl, _, rfl, ifb (fun hc => ?_) fun hc => ?_⟩⟩
      · have ez : z = n := V.str.inj (of_decide_eq_true hc)
        have ej : j = i := e3.mp ez
        refine ⟨_, rfl, ?_⟩
        rw [ej, show (0 + (i : Int)) = (i : Int) by omega]
        exact k Hz (Same.refl Hz)
      · have nz : ¬ z = n := fun e => of_decide_eq_false hc (congrArg V.str e)
        have nj : j ≠ i := fun e => nz (e3.mpr e)
        exact ⟨rfl, by omega, _, rfl⟩
    · rintro σ Hz ⟨rfl, hji, x2, rfl⟩
      exfalso
      omega
theorem cal_lix {f : Addr} {fd : FuncData} (F : FnP K "_law_index" "_law_index" s_law_index f fd) (T : Txt K mg) (g : mg "_law_index" = some (.ref f)) : C8.Cal P w K mg base 1 "_law_index" (spLIx K) [] :=
  ⟨f, fd, _, [], ok_lix F T, g, F.kp, F.bindsN fun _ _ _ _ _ _ us hl => match us, hl with | [_, _], _ => rfl, .nil⟩
end
end NC
set_option Elab.async false
set_option linter.all false
set_option maxRecDepth 100000
set_option maxHeartbeats 4000000
/-! The law's own interpreter: its state; value, store, pay. -/
namespace NC
open PySem PySem.Spec PyProof.Rows L2
def optV (b : Bool) (n : Int) : List V := if b then [.int n] else []
/-- the law's own state: six lists, of which the last three may change -/
structure LSt (H : Hp) (nv na : Bool) (a vv aa rv ra po : Addr) (s : S) : Prop where
  top : H a = some (.lst [.ref vv, .ref aa, .ref po])
  vs : H vv = some (.lst [.ref rv])
  am : H aa = some (.lst [.ref ra])
  v : H rv = some (.lst (optV nv s.x))
  h : H ra = some (.lst (optV na s.h))
  o : H po = some (.lst (optV na s.o))
  n1 : rv ≠ ra
  n2 : rv ≠ po
  n3 : ra ≠ po
theorem LSt.same {H H' : Hp} {nv na : Bool} {a vv aa rv ra po : Addr} {s : S} (t : Same H H') (h : LSt H nv na a vv aa rv ra po s) : LSt H' nv na a vv aa rv ra po s :=
  ⟨t _ _ h.top, t _ _ h.vs, t _ _ h.am, t _ _ h.v, t _ _ h.h, t _ _ h.o, h.n1, h.n2, h.n3⟩
theorem led1 {H : Hp} {t : Addr} {n : Str} {r : List V} (h : H t = some (.tup (.str n :: r))) : Led H [.ref t] 0 n :=
  ⟨by show 0 < 1; decide, by show 1 ≤ 100; decide, fun j hj => by
    have e : j = 0 := by omega
    subst e
    exact ⟨t, n, r, rfl, h, iff_of_true rfl rfl⟩⟩
theorem vars_open {H : Hp} {c : Cf} {v : V} (e : c.nv = true) (h : NK H (eVars c) v) : ∃ z t, v = .ref z ∧ H z = some (.tup [.ref t]) ∧ H t = some (.tup [.str "x", .int 2, .int c.x0]) := by
  unfold eVars at h
  rw [if_pos e] at h
  cases h with
  | @tup z _ _ p1 p2 =>
    cases p2 with
    | cons p3 p4 =>
      cases p4
      cases p3 with
      | @tup t _ _ p5 p6 =>
        cases p6 with
        | cons p7 p8 =>
          cases p7
          cases p8 with
          | cons p9 p10 =>
            cases p9
            cases p10 with
            | cons p11 p12 =>
              cases p11
              cases p12
              exact ⟨z, t, rfl, p1, p5⟩
theorem ass_open {H : Hp} {c : Cf} {vs : List V} (e : c.na = true) (h : NKs H (eAss c) vs) : ∃ t, vs = [.ref t] ∧ H t = some (.tup [.str "a", .int c.o0]) := by
  unfold eAss at h
  rw [if_pos e] at h
  cases h with
  | cons p3 p4 =>
    cases p4
    cases p3 with
    | @tup t _ _ p5 p6 =>
      cases p6 with
      | cons p7 p8 =>
        cases p7
        cases p8 with
        | cons p9 p10 =>
          cases p9
          cases p10
          exact ⟨t, rfl, p5⟩
section
variable {P : Program} {w : World} {K : PySem.W.Frag} {mg : Str → Option Value} {base : Heap}
def spLVal (K : PySem.W.Frag) (d : Nat) : Sp := fun vs H Q _ => ∃ (c : Cf) (hv : V) (a vv aa rv ra po : Addr) (x : Xp) (xv : V) (g : Int) (s : S), vs = [hv, .ref a, .int 0, .int g, xv] ∧ LhAt H c hv ∧ LSt H c.nv c.na a vv aa rv ra po s ∧ NK H (eX x) xv ∧ x.ok c.nv c.na = true ∧ x.dp ≤ d ∧ s.Ok c.nv c.na ∧ 0 ≤ g ∧ g ≤ 65535 ∧
  ∀ H', Same H H' → Q (.int (ev s g x)) H'
theorem sc_law_value : FnScope ["_law_house_here", "_law_state", "_law_at", "_law_given", "_law_expression_here", "_law_kind", "_law_left"] ["_law_house_here", "_law_state", "_law_at", "_law_given", "_law_expression_here"] (defScope s_law_value) := ⟨rfl, rfl, rfl, by decide +kernel, rfl, by decide +kernel, by decide +kernel⟩
theorem ok_lval {f : Addr} {fd : FuncData} (F : FnP K "_law_value" "_law_value" s_law_value f fd) (T : Txt K mg) (me : mg "_law_value" = some (.ref f)) (c_law_index : C8.Cal P w K mg base 1 "_law_index" (spLIx K) []) (c_law_combine : C8.Cal P w K mg base 1 "_law_combine" (spComb "") []) :
    ∀ d : Nat, FnOk P w K mg base CX0 (d + 1) f fd ["_law_house_here", "_law_state", "_law_at", "_law_given", "_law_expression_here"] (spLVal K d) := by
  intro d
  induction d with
  | zero =>
    refine ⟨fun vs H Q E h => ?_, fun A outer s H args us vs Q E _ _ _ _ h => ?_⟩
    · obtain ⟨c, hv, a, vv, aa, rv, ra, po, x, xv, g, s, rfl, _⟩ := h
      rfl
    · obtain ⟨c, hv, a, vv, aa, rv, ra, po, x, xv, g, s, _, _, _, _, _, hd, _⟩ := h
      have := dp_pos x
      omega
  | succ d ih =>
    refine F.ok sc_law_value (fun vs H Q E h => ?_) (fun cdv A outer s H vs Q E hr h => ?_)
    · obtain ⟨c, hv, a, vv, aa, rv, ra, po, x, xv, g, s, rfl, _⟩ := h
      rfl
    · obtain ⟨c, hv, a, vv, aa, rv, ra, po, x, xv, g, st, rfl, hh, hs, hx, xo, hd, so, g0, g1, k⟩ := h
      have hu := hu_of hr
      have c_law_value : C8.Cal P w K mg base (d + 1) "_law_value" (spLVal K d) [] := ⟨f, fd, _, [], ih, me, F.kp, F.bindsN fun _ _ _ _ _ _ us hl => match us, hl with | [_, _, _, _, _], _ => rfl, .nil⟩
      refine ⟨_, PSs.nox ((pss_cons (ps_set (i := 5) sc_law_value.nd rfl (Or.inl rfl) (pe_ix ix_tup (pv 4) pe_int (fun _ _ => rfl)))
      (pss_cons (ps_if (pt_cmpR op_eq (pv 5) pe_str (nomark _)) (pss_one (ps_ret (pe_ix ix_tup (pv 4) pe_int (fun _ _ => rfl)))) pss_nil)
      (pss_cons (ps_if (pt_cmpR op_eq (pv 5) pe_str (nomark _)) (pss_one (ps_ret (pv 3))) pss_nil)
      (pss_cons (ps_if (pt_cmpR op_eq (pv 5) pe_str (nomark _)) (pss_one (ps_ret (pe_ix ix_list (pe_ix ix_list (pe_ix ix_list (pv 1) pe_int (fun _ _ => rfl)) (pv 2) (fun _ _ => rfl)) (C8.pe_c c_law_index hr (by omega) (by rfl) (pa_cons (pe_ix ix_tup (pe_ix ix_list (pe_ix ix_tup (pv 0) pe_int (fun _ _ => rfl)) (pv 2) (fun _ _ => rfl)) pe_int (fun _ _ => rfl)) (pa_cons (pe_ix ix_tup (pv 4) pe_int (fun _ _ => rfl)) pa_nil))) (fun _ _ => rfl)))) pss_nil)
      (pss_cons (ps_if (pt_cmpR op_eq (pv 5) pe_str (nomark _)) (pss_one (ps_ret (pe_callB (call_min2 rfl) (by rfl) T.min bt_min (pa_cons pe_int (pa_cons (pe_ix ix_list (pe_ix ix_list (pe_ix ix_list (pv 1) pe_int (fun _ _ => rfl)) (pv 2) (fun _ _ => rfl)) (C8.pe_c c_law_index hr (by omega) (by rfl) (pa_cons (pe_ix ix_tup (pv 0) pe_int (fun _ _ => rfl)) (pa_cons (pe_ix ix_tup (pv 4) pe_int (fun _ _ => rfl)) pa_nil))) (fun _ _ => rfl)) pa_nil))))) pss_nil)
      (pss_cons (ps_if (pt_cmpR op_eq (pv 5) pe_str (nomark _)) (pss_one (ps_ret (pe_callB (call_min2 rfl) (by rfl) T.min bt_min (pa_cons pe_int (pa_cons (pe_ix ix_list (pe_ix ix_list (pv 1) pe_int (fun _ _ => rfl)) (C8.pe_c c_law_index hr (by omega) (by rfl) (pa_cons (pe_ix ix_tup (pv 0) pe_int (fun _ _ => rfl)) (pa_cons (pe_ix ix_tup (pv 4) pe_int (fun _ _ => rfl)) pa_nil))) (fun _ _ => rfl)) pa_nil))))) pss_nil)
      (pss_cons (ps_set (i := 6) sc_law_value.nd rfl (Or.inl rfl) (C8.pe_c c_law_value hr (by omega) (by rfl) (pa_cons (pv 0) (pa_cons (pv 1) (pa_cons (pv 2) (pa_cons (pv 3) (pa_cons (pe_ix ix_tup (pv 4) pe_int (fun _ _ => rfl)) pa_nil)))))))
      (pss_one (ps_ret (C8.pe_c c_law_combine hr (by omega) (by rfl) (pa_cons (pv 5) (pa_cons (pv 6) (pa_cons (C8.pe_c c_law_value hr (by omega) (by rfl) (pa_cons (pv 0) (pa_cons (pv 1) (pa_cons (pv 2) (pa_cons (pv 3) (pa_cons (pe_ix ix_tup (pv 4) pe_int (fun _ _ => rfl)) pa_nil)))))) pa_nil)))))))))))))), ?_⟩
      dsimp only [cxOf, Cx.nox]
      have kk := k H (Same.refl H)
      obtain ⟨b, la, lc, avs, ct, rfl, q1, q2, q3, q4, q5⟩ := id hh
      obtain ⟨ca, av, ah, ap, cvs, rfl, u1, u2, u3, u4, u5⟩ := q5
      cases x with
      | num n =>
        cases hx with
        | @tup p _ _ p1 p2 =>
          cases p2 with
          | cons p3 p4 =>
            cases p3
            cases p4 with
            | cons p5 p6 =>
              cases p5
              cases p6
              refine ⟨_, rfl, p, _, 0, _, rfl, rfl, SqT.of p1, rfl, _, rfl, rfl, _, rfl, ifT rfl ?_⟩
              exact ⟨_, rfl, p, _, 1, _, rfl, rfl, SqT.of p1, rfl, kk⟩
      | giv =>
        cases hx with
        | @tup p _ _ p1 p2 =>
          cases p2 with
          | cons p3 p4 =>
            cases p3
            cases p4
            refine ⟨_, rfl, p, _, 0, _, rfl, rfl, SqT.of p1, rfl, _, rfl, rfl, _, rfl, ifF rfl ⟨_, rfl, rfl, _, rfl, ifT rfl ?_⟩⟩
            exact ⟨_, rfl, kk⟩
      | var =>
        cases hx with
        | @tup p _ _ p1 p2 =>
          cases p2 with
          | cons p3 p4 =>
            cases p3
            cases p4 with
            | cons p5 p6 =>
              cases p5
              cases p6
              have en : c.nv = true := xo
              obtain ⟨z, t, rfl, w1, w2⟩ := vars_open en u2
              have hv' := hs.v
              rw [en] at hv'
              refine ⟨_, rfl, p, _, 0, _, rfl, rfl, SqT.of p1, rfl, _, rfl, rfl, _, rfl, ifF rfl ⟨_, rfl, rfl, _, rfl, ifF rfl ⟨_, rfl, rfl, _, rfl, ifT rfl ?_⟩⟩⟩
              refine ⟨_, rfl, a, _, 0, _, rfl, rfl, SqL.of hs.top, rfl, _, rfl, vv, _, 0, _, rfl, rfl, SqL.of hs.vs, rfl, ?_⟩
              refine ⟨_, rfl, b, _, 1, _, rfl, rfl, SqT.of q1, rfl, _, rfl, lc, _, 0, _, rfl, rfl, SqL.of q4, rfl, ca, _, 1, _, rfl, rfl, SqT.of u1, rfl, _, rfl, p, _, 1, _, rfl, rfl, SqT.of p1, rfl, z, _, 0, "x", rfl, .inr (SqT.of w1), led1 w2, fun H1 s1 => ?_⟩
              exact ⟨rv, _, 0, _, rfl, rfl, SqL.of (s1 _ _ hv'), rfl, k H1 s1⟩
      | hav =>
        cases hx with
        | @tup p _ _ p1 p2 =>
          cases p2 with
          | cons p3 p4 =>
            cases p3
            cases p4 with
            | cons p5 p6 =>
              cases p5
              cases p6
              have en : c.na = true := xo
              obtain ⟨t, rfl, w2⟩ := ass_open en q3
              have hv' := hs.h
              rw [en] at hv'
              refine ⟨_, rfl, p, _, 0, _, rfl, rfl, SqT.of p1, rfl, _, rfl, rfl, _, rfl, ifF rfl ⟨_, rfl, rfl, _, rfl, ifF rfl ⟨_, rfl, rfl, _, rfl, ifF rfl ⟨_, rfl, rfl, _, rfl, ifT rfl ?_⟩⟩⟩⟩
              refine ⟨_, rfl, a, _, 1, _, rfl, rfl, SqL.of hs.top, rfl, _, rfl, aa, _, 0, _, rfl, rfl, SqL.of hs.am, rfl, ?_⟩
              refine ⟨_, rfl, b, _, 0, _, rfl, rfl, SqT.of q1, rfl, _, rfl, p, _, 1, _, rfl, rfl, SqT.of p1, rfl, la, _, 0, "a", rfl, .inl (SqL.of q2), led1 w2, fun H1 s1 => ?_⟩
              exact ⟨ra, _, 0, _, rfl, rfl, SqL.of (s1 _ _ hv'), rfl, _, _, rfl, k H1 s1⟩
      | out =>
        cases hx with
        | @tup p _ _ p1 p2 =>
          cases p2 with
          | cons p3 p4 =>
            cases p3
            cases p4 with
            | cons p5 p6 =>
              cases p5
              cases p6
              have en : c.na = true := xo
              obtain ⟨t, rfl, w2⟩ := ass_open en q3
              have hv' := hs.o
              rw [en] at hv'
              refine ⟨_, rfl, p, _, 0, _, rfl, rfl, SqT.of p1, rfl, _, rfl, rfl, _, rfl, ifF rfl ⟨_, rfl, rfl, _, rfl, ifF rfl ⟨_, rfl, rfl, _, rfl, ifF rfl ⟨_, rfl, rfl, _, rfl, ifF rfl ⟨_, rfl, rfl, _, rfl, ifT rfl ?_⟩⟩⟩⟩⟩
              refine ⟨_, rfl, a, _, 2, _, rfl, rfl, SqL.of hs.top, rfl, ?_⟩
              refine ⟨_, rfl, b, _, 0, _, rfl, rfl, SqT.of q1, rfl, _, rfl, p, _, 1, _, rfl, rfl, SqT.of p1, rfl, la, _, 0, "a", rfl, .inl (SqL.of q2), led1 w2, fun H1 s1 => ?_⟩
              exact ⟨po, _, 0, _, rfl, rfl, SqL.of (s1 _ _ hv'), rfl, _, _, rfl, k H1 s1⟩
      | op j l r =>
        simp only [Xp.ok, Bool.and_eq_true, decide_eq_true_eq] at xo
        simp only [Xp.dp] at hd
        obtain ⟨l0, l9⟩ := ev_rng so g0 g1 l xo.2.1
        obtain ⟨r0, r9⟩ := ev_rng so g0 g1 r xo.2.2
        have hj := xo.1
        have nq : ∀ z : Str, z ∈ ([("number" : Str), "given", "variable", "have", "out"] : List Str) → decide (V.str (sgn j) = V.str z) = false := by
          have hj' : j = 0 ∨ j = 1 ∨ j = 2 ∨ j = 3 ∨ j = 4 ∨ j = 5 ∨ j = 6 := by omega
          intro z hz
          have hz' : z = "number" ∨ z = "given" ∨ z = "variable" ∨ z = "have" ∨ z = "out" := by simpa using hz
          rcases hj' with rfl | rfl | rfl | rfl | rfl | rfl | rfl <;> rcases hz' with rfl | rfl | rfl | rfl | rfl <;> rfl
        cases hx with
        | @tup p _ _ p1 p2 =>
          cases p2 with
          | cons p3 p4 =>
            cases p3
            cases p4 with
            | @cons _ lv _ _ p5 p6 =>
              cases p6 with
              | @cons _ rv' _ _ p7 p8 =>
                cases p8
                refine ⟨_, rfl, p, _, 0, _, rfl, rfl, SqT.of p1, rfl, _, rfl, rfl, _, rfl, ifF (nq _ (by simp)) ⟨_, rfl, rfl, _, rfl, ifF (nq _ (by simp)) ⟨_, rfl, rfl, _, rfl, ifF (nq _ (by simp)) ⟨_, rfl, rfl, _, rfl, ifF (nq _ (by simp)) ⟨_, rfl, rfl, _, rfl, ifF (nq _ (by simp)) ?_⟩⟩⟩⟩⟩
                refine ⟨_, rfl, _, rfl, _, rfl, _, rfl, _, rfl, p, _, 1, _, rfl, rfl, SqT.of p1, rfl, c, _, a, vv, aa, rv, ra, po, l, lv, g, st, rfl, hh, hs, p5, xo.2.1, by omega, so, g0, g1, fun H1 s1 => ?_⟩
                refine ⟨_, rfl, _, rfl, _, rfl, _, rfl, _, rfl, _, rfl, _, rfl, p, _, 2, _, rfl, rfl, SqT.of (s1 _ _ p1), rfl, c, _, a, vv, aa, rv, ra, po, r, rv', g, st, rfl, hh.same s1, hs.same s1, NK.tx (TX.same s1) _ _ p7, xo.2.2, by omega, so, g0, g1, fun H2 s2 => ?_⟩
                refine ⟨j, _, _, rfl, hj, l0, l9, r0, r9, fun H3 s3 => ?_⟩
                exact k H3 ((s1.trans s2).trans s3)
end
end NC
set_option Elab.async false
set_option linter.all false
set_option maxRecDepth 100000
set_option maxHeartbeats 4000000
/-! The law's own interpreter: store, pay, do. -/
namespace NC
open PySem PySem.Spec PyProof.Rows L2
theorem ne_lst {H : Hp} {p q : Addr} {xs ys : List V} (h : H p = some (.lst xs)) (g : H q = some (.lst ys)) (n : xs ≠ ys) : p ≠ q := fun e => by
  rw [e, g] at h
  exact n (by injection h with h; injection h with h; exact h.symm)
theorem optV_1 {b : Bool} {n : Int} {r : Addr} : [V.ref r] ≠ optV b n := by
  cases b
  · exact fun h => nomatch h
  · exact fun h => nomatch h
theorem optV_3 {b : Bool} {n : Int} {r s t : Addr} : [V.ref r, V.ref s, V.ref t] ≠ optV b n := by
  cases b
  · exact fun h => nomatch h
  · exact fun h => nomatch h
theorem LSt.setV {H : Hp} {nv na : Bool} {a vv aa rv ra po : Addr} {s : S} (n : Int) (h : LSt H nv na a vv aa rv ra po s) : LSt (upd H rv (.lst (optV nv n))) nv na a vv aa rv ra po { s with x := n } :=
  ⟨by rw [upd_ne (ne_lst h.top h.v optV_3)]; exact h.top, by rw [upd_ne (ne_lst h.vs h.v optV_1)]; exact h.vs, by rw [upd_ne (ne_lst h.am h.v optV_1)]; exact h.am, upd_same, by rw [upd_ne (Ne.symm h.n1)]; exact h.h, by rw [upd_ne (Ne.symm h.n2)]; exact h.o, h.n1, h.n2, h.n3⟩
theorem LSt.setH {H : Hp} {nv na : Bool} {a vv aa rv ra po : Addr} {s : S} (n : Int) (h : LSt H nv na a vv aa rv ra po s) : LSt (upd H ra (.lst (optV na n))) nv na a vv aa rv ra po { s with h := n } :=
  ⟨by rw [upd_ne (ne_lst h.top h.h optV_3)]; exact h.top, by rw [upd_ne (ne_lst h.vs h.h optV_1)]; exact h.vs, by rw [upd_ne (ne_lst h.am h.h optV_1)]; exact h.am, by rw [upd_ne h.n1]; exact h.v, upd_same, by rw [upd_ne (Ne.symm h.n3)]; exact h.o, h.n1, h.n2, h.n3⟩
theorem LSt.setO {H : Hp} {nv na : Bool} {a vv aa rv ra po : Addr} {s : S} (n : Int) (h : LSt H nv na a vv aa rv ra po s) : LSt (upd H po (.lst (optV na n))) nv na a vv aa rv ra po { s with o := n } :=
  ⟨by rw [upd_ne (ne_lst h.top h.o optV_3)]; exact h.top, by rw [upd_ne (ne_lst h.vs h.o optV_1)]; exact h.vs, by rw [upd_ne (ne_lst h.am h.o optV_1)]; exact h.am, by rw [upd_ne h.n2]; exact h.v, by rw [upd_ne h.n3]; exact h.h, upd_same, h.n1, h.n2, h.n3⟩
section
variable {P : Program} {w : World} {K : PySem.W.Frag} {mg : Str → Option Value} {base : Heap}
def spLSto (K : PySem.W.Frag) : Sp := fun vs H Q _ => ∃ (c : Cf) (hv : V) (a vv aa rv ra po : Addr) (n : Int) (s : S), vs = [hv, .ref a, .int 0, .str "x", .int n] ∧ LhAt H c hv ∧ LSt H c.nv c.na a vv aa rv ra po s ∧ c.nv = true ∧
  ∀ H', SameBut rv H H' → LSt H' c.nv c.na a vv aa rv ra po (st s n) → Q .non H'
theorem sc_law_store : FnScope ["_law_house_here", "_law_state", "_law_at", "_law_name", "_law_value_here", "_law_place", "_law_row_here"] ["_law_house_here", "_law_state", "_law_at", "_law_name", "_law_value_here"] (defScope s_law_store) := ⟨rfl, rfl, rfl, by decide +kernel, rfl, by decide +kernel, by decide +kernel⟩
theorem ok_lsto {f : Addr} {fd : FuncData} (F : FnP K "_law_store" "_law_store" s_law_store f fd) (T : Txt K mg) (c_law_index : C8.Cal P w K mg base 1 "_law_index" (spLIx K) []) : FnOk P w K mg base CX0 2 f fd ["_law_house_here", "_law_state", "_law_at", "_law_name", "_law_value_here"] (spLSto K) := by
  refine F.ok sc_law_store (fun vs H Q E h => ?_) (fun cdv A outer s H vs Q E hr h => ?_)
  · obtain ⟨c, hv, a, vv, aa, rv, ra, po, n, s, rfl, _⟩ := h
    rfl
  · obtain ⟨c, hv, a, vv, aa, rv, ra, po, n, s, rfl, hh, hs, en, k⟩ := h
    refine ⟨_, PSs.nox ((pss_cons (ps_set (i := 5) sc_law_store.nd rfl (Or.inl rfl) (C8.pe_c c_law_index hr (by decide) (by rfl) (pa_cons (pe_ix ix_tup (pe_ix ix_list (pe_ix ix_tup (pv 0) pe_int (fun _ _ => rfl)) (pv 2) (fun _ _ => rfl)) pe_int (fun _ _ => rfl)) (pa_cons (pv 3) pa_nil))))
      (pss_cons (ps_set (i := 6) sc_law_store.nd rfl (Or.inl rfl) (pe_ix ix_list (pe_ix ix_list (pv 1) pe_int (fun _ _ => rfl)) (pv 2) (fun _ _ => rfl)))
      (pss_one (ps_asg (pe_op op_mod (pv 4) (pe_ix ix_tup (pe_ix ix_tup (pe_ix ix_tup (pe_ix ix_list (pe_ix ix_tup (pv 0) pe_int (fun _ _ => rfl)) (pv 2) (fun _ _ => rfl)) pe_int (fun _ _ => rfl)) (pv 5) (fun _ _ => rfl)) pe_int (fun _ _ => rfl))) (pg_sub (pv 6) (pv 5) set_list)))))), ?_⟩
    dsimp only [cxOf, Cx.nox]
    obtain ⟨b, la, lc, avs, ct, rfl, q1, q2, q3, q4, q5⟩ := id hh
    obtain ⟨ca, av, ah, ap, cvs, rfl, u1, u2, u3, u4, u5⟩ := q5
    obtain ⟨z, t, rfl, w1, w2⟩ := vars_open en u2
    have hv' := hs.v
    rw [en] at hv'
    refine ⟨_, rfl, b, _, 1, _, rfl, rfl, SqT.of q1, rfl, _, rfl, lc, _, 0, _, rfl, rfl, SqL.of q4, rfl, ca, _, 1, _, rfl, rfl, SqT.of u1, rfl, _, rfl, z, _, 0, "x", rfl, .inr (SqT.of w1), led1 w2, fun H1 s1 => ?_⟩
    refine ⟨_, rfl, a, _, 0, _, rfl, rfl, SqL.of (s1 _ _ hs.top), rfl, _, rfl, vv, _, 0, _, rfl, rfl, SqL.of (s1 _ _ hs.vs), rfl, ?_⟩
    refine ⟨_, rfl, _, rfl, b, _, 1, _, rfl, rfl, SqT.of (s1 _ _ q1), rfl, _, rfl, lc, _, 0, _, rfl, rfl, SqL.of (s1 _ _ q4), rfl, ca, _, 1, _, rfl, rfl, SqT.of (s1 _ _ u1), rfl, _, rfl, z, _, 0, _, rfl, rfl, SqT.of (s1 _ _ w1), rfl, t, _, 1, _, rfl, rfl, SqT.of (s1 _ _ w2), rfl, _, _, rfl, rfl, by show (0 : Int) < 2; decide, ?_⟩
    refine ⟨_, rfl, _, rfl, rv, _, 0, 0, rfl, rfl, s1 _ _ hv', rfl, ?_⟩
    have hz := (hs.same s1).setV (n % 2)
    rw [en] at hz
    rw [en] at k
    exact k _ (SameBut.upd fun a o h _ => s1 _ _ h) hz
def spLPay (K : PySem.W.Frag) : Sp := fun vs H Q _ => ∃ (c : Cf) (hv : V) (a vv aa rv ra po : Addr) (b : Bool) (n : Int) (s : S), vs = [hv, .ref a, .ref (if b then ra else po), .ref (if b then po else ra), .str "a", .int n] ∧ LhAt H c hv ∧ LSt H c.nv c.na a vv aa rv ra po s ∧ c.na = true ∧
  (pay s b n = none → ∀ H', Same H H' → Q (.bl false) H') ∧ ∀ s', pay s b n = some s' → ∀ H', SameNot [ra, po] H H' → LSt H' c.nv c.na a vv aa rv ra po s' → Q (.bl true) H'
theorem sc_law_pay : FnScope ["_law_house_here", "_law_state", "_law_payer", "_law_payee", "_law_asset", "_law_amount", "_law_place"] ["_law_house_here", "_law_state", "_law_payer", "_law_payee", "_law_asset", "_law_amount"] (defScope s_law_pay) := ⟨rfl, rfl, rfl, by decide +kernel, rfl, by decide +kernel, by decide +kernel⟩
theorem ok_lpay {f : Addr} {fd : FuncData} (F : FnP K "_law_pay" "_law_pay" s_law_pay f fd) (T : Txt K mg) (c_law_index : C8.Cal P w K mg base 1 "_law_index" (spLIx K) []) : FnOk P w K mg base CX0 2 f fd ["_law_house_here", "_law_state", "_law_payer", "_law_payee", "_law_asset", "_law_amount"] (spLPay K) := by
  refine F.ok sc_law_pay (fun vs H Q E h => ?_) (fun cdv A outer s H vs Q E hr h => ?_)
  · obtain ⟨c, hv, a, vv, aa, rv, ra, po, b, n, s, rfl, _⟩ := h
    rfl
  · obtain ⟨c, hv, a, vv, aa, rv, ra, po, b, n, s, rfl, hh, hs, en, k0, k⟩ := h
    refine ⟨_, PSs.nox ((pss_cons (ps_set (i := 6) sc_law_pay.nd rfl (Or.inl rfl) (C8.pe_c c_law_index hr (by decide) (by rfl) (pa_cons (pe_ix ix_tup (pv 0) pe_int (fun _ _ => rfl)) (pa_cons (pv 4) pa_nil))))
      (pss_cons (ps_if (pt_cmpR op_lt (pe_ix ix_list (pv 2) (pv 6) (fun _ _ => rfl)) (pv 5) (nomark _)) (pss_one (ps_ret pe_bl)) pss_nil)
      (pss_cons (ps_asg (pe_op op_sub (pe_ix ix_list (pv 2) (pv 6) (fun _ _ => rfl)) (pv 5)) (pg_sub (pv 2) (pv 6) set_list))
      (pss_cons (ps_asg (pe_op op_add (pe_ix ix_list (pv 3) (pv 6) (fun _ _ => rfl)) (pv 5)) (pg_sub (pv 3) (pv 6) set_list))
      (pss_one (ps_ret pe_bl))))))), ?_⟩
    dsimp only [cxOf, Cx.nox]
    obtain ⟨q, la, lc, avs, ct, rfl, q1, q2, q3, q4, q5⟩ := id hh
    obtain ⟨t, rfl, w2⟩ := ass_open en q3
    have hh' := hs.h
    have ho' := hs.o
    rw [en] at hh' ho' hs k
    refine ⟨_, rfl, q, _, 0, _, rfl, rfl, SqT.of q1, rfl, _, rfl, la, _, 0, "a", rfl, .inl (SqL.of q2), led1 w2, fun H1 s1 => ?_⟩
    have hs1 := hs.same s1
    have h1 := s1 _ _ hh'
    have o1 := s1 _ _ ho'
    cases b with
    | true =>
      refine ⟨_, rfl, _, rfl, ra, _, 0, _, rfl, rfl, SqL.of h1, rfl, _, rfl, _, _, rfl, rfl, _, rfl, ifb (fun hc => ?_) fun hc => ?_⟩
      · have lt : s.h < n := of_decide_eq_true hc
        exact k0 (by show (mv true s.h s.o n).map _ = none; unfold mv; rw [if_pos rfl, if_pos lt]; rfl) H1 s1
      · have lt : ¬ s.h < n := of_decide_eq_false hc
        have ep : pay s true n = some { s with h := s.h - n, o := s.o + n } := by show (mv true s.h s.o n).map _ = _; unfold mv; rw [if_pos rfl, if_neg lt]; rfl
        refine ⟨_, rfl, _, rfl, ra, _, 0, _, rfl, rfl, SqL.of h1, rfl, _, rfl, _, _, rfl, rfl, _, rfl, _, rfl, ra, _, 0, 0, rfl, rfl, h1, rfl, ?_⟩
        have o2 : (upd H1 ra (.lst (optV true (s.h - n)))) po = some (.lst (optV true s.o)) := by rw [upd_ne (Ne.symm hs.n3)]; exact o1
        refine ⟨_, rfl, _, rfl, po, _, 0, _, rfl, rfl, SqL.of o2, rfl, _, rfl, _, _, rfl, rfl, _, rfl, _, rfl, po, _, 0, 0, rfl, rfl, o2, rfl, ?_⟩
        refine k _ ep _ (fun a o h nn => ?_) ((hs1.setH (s.h - n)).setO (s.o + n))
        rw [upd_ne (fun z => nn (by rw [z]; simp)), upd_ne (fun z => nn (by rw [z]; simp))]
        exact s1 _ _ h
    | false =>
      refine ⟨_, rfl, _, rfl, po, _, 0, _, rfl, rfl, SqL.of o1, rfl, _, rfl, _, _, rfl, rfl, _, rfl, ifb (fun hc => ?_) fun hc => ?_⟩
      · have lt : s.o < n := of_decide_eq_true hc
        exact k0 (by show (mv false s.h s.o n).map _ = none; unfold mv; rw [if_neg (by decide), if_pos lt]; rfl) H1 s1
      · have lt : ¬ s.o < n := of_decide_eq_false hc
        have ep : pay s false n = some { s with h := s.h + n, o := s.o - n } := by show (mv false s.h s.o n).map _ = _; unfold mv; rw [if_neg (by decide), if_neg lt]; rfl
        refine ⟨_, rfl, _, rfl, po, _, 0, _, rfl, rfl, SqL.of o1, rfl, _, rfl, _, _, rfl, rfl, _, rfl, _, rfl, po, _, 0, 0, rfl, rfl, o1, rfl, ?_⟩
        have h2 : (upd H1 po (.lst (optV true (s.o - n)))) ra = some (.lst (optV true s.h)) := by rw [upd_ne hs.n3]; exact h1
        refine ⟨_, rfl, _, rfl, ra, _, 0, _, rfl, rfl, SqL.of h2, rfl, _, rfl, _, _, rfl, rfl, _, rfl, _, rfl, ra, _, 0, 0, rfl, rfl, h2, rfl, ?_⟩
        refine k _ ep _ (fun a o h nn => ?_) ((hs1.setO (s.o - n)).setH (s.h + n))
        rw [upd_ne (fun z => nn (by rw [z]; simp)), upd_ne (fun z => nn (by rw [z]; simp))]
        exact s1 _ _ h
theorem cal_lval {f : Addr} {fd : FuncData} (F : FnP K "_law_value" "_law_value" s_law_value f fd) (T : Txt K mg) (g : mg "_law_value" = some (.ref f)) (c_law_index : C8.Cal P w K mg base 1 "_law_index" (spLIx K) []) (c_law_combine : C8.Cal P w K mg base 1 "_law_combine" (spComb "") []) : C8.Cal P w K mg base 4 "_law_value" (spLVal K 3) [] :=
  ⟨f, fd, _, [], ok_lval F T g c_law_index c_law_combine 3, g, F.kp, F.bindsN fun _ _ _ _ _ _ us hl => match us, hl with | [_, _, _, _, _], _ => rfl, .nil⟩
theorem cal_lsto {f : Addr} {fd : FuncData} (F : FnP K "_law_store" "_law_store" s_law_store f fd) (T : Txt K mg) (g : mg "_law_store" = some (.ref f)) (c_law_index : C8.Cal P w K mg base 1 "_law_index" (spLIx K) []) : C8.Cal P w K mg base 2 "_law_store" (spLSto K) [] :=
  ⟨f, fd, _, [], ok_lsto F T c_law_index, g, F.kp, F.bindsN fun _ _ _ _ _ _ us hl => match us, hl with | [_, _, _, _, _], _ => rfl, .nil⟩
theorem cal_lpay {f : Addr} {fd : FuncData} (F : FnP K "_law_pay" "_law_pay" s_law_pay f fd) (T : Txt K mg) (g : mg "_law_pay" = some (.ref f)) (c_law_index : C8.Cal P w K mg base 1 "_law_index" (spLIx K) []) : C8.Cal P w K mg base 2 "_law_pay" (spLPay K) [] :=
  ⟨f, fd, _, [], ok_lpay F T c_law_index, g, F.kp, F.bindsN fun _ _ _ _ _ _ us hl => match us, hl with | [_, _, _, _, _, _], _ => rfl, .nil⟩
end
end NC
set_option Elab.async false
set_option linter.all false
set_option maxRecDepth 100000
set_option maxHeartbeats 4000000
/-! The law's own interpreter: do. -/
namespace NC
open PySem PySem.Spec PyProof.Rows L2
section
variable {P : Program} {w : World} {K : PySem.W.Frag} {mg : Str → Option Value} {base : Heap}
def spLDo (K : PySem.W.Frag) : Sp := fun vs H Q _ => ∃ (c : Cf) (hv : V) (a vv aa rv ra po : Addr) (p : Pl) (pv' : V) (g : Int) (s : S), vs = [hv, .ref a, .int 0, .int g, pv'] ∧ LhAt H c hv ∧ LSt H c.nv c.na a vv aa rv ra po s ∧ NK H (eP p) pv' ∧ p.ok c.nv c.na = true ∧ s.Ok c.nv c.na ∧ 0 ≤ g ∧ g ≤ 65535 ∧
  (doP s g p = none → ∀ H', Same H H' → Q (.bl false) H') ∧ ∀ s', doP s g p = some s' → ∀ H', SameNot [rv, ra, po] H H' → LSt H' c.nv c.na a vv aa rv ra po s' → Q (.bl true) H'
theorem sc_law_do : FnScope ["_law_house_here", "_law_state", "_law_at", "_law_given", "_law_statement_here", "_law_value_here"] ["_law_house_here", "_law_state", "_law_at", "_law_given", "_law_statement_here"] (defScope s_law_do) := ⟨rfl, rfl, rfl, by decide +kernel, rfl, by decide +kernel, by decide +kernel⟩
theorem ok_ldo {f : Addr} {fd : FuncData} (F : FnP K "_law_do" "_law_do" s_law_do f fd) (T : Txt K mg) (c_law_value : C8.Cal P w K mg base 4 "_law_value" (spLVal K 3) []) (c_law_index : C8.Cal P w K mg base 1 "_law_index" (spLIx K) []) (c_law_store : C8.Cal P w K mg base 2 "_law_store" (spLSto K) []) (c_law_pay : C8.Cal P w K mg base 2 "_law_pay" (spLPay K) []) : FnOk P w K mg base CX0 5 f fd ["_law_house_here", "_law_state", "_law_at", "_law_given", "_law_statement_here"] (spLDo K) := by
  refine F.ok sc_law_do (fun vs H Q E h => ?_) (fun cdv A outer s H vs Q E hr h => ?_)
  · obtain ⟨c, hv, a, vv, aa, rv, ra, po, p, pv', g, s, rfl, _⟩ := h
    rfl
  · obtain ⟨c, hv, a, vv, aa, rv, ra, po, p, pv', g, s, rfl, hh, hs, hp, po', so, g0, g1, k0, k⟩ := h
    refine ⟨_, PSs.nox ((pss_cons (ps_set (i := 5) sc_law_do.nd rfl (Or.inl rfl) (C8.pe_c c_law_value hr (by decide) (by rfl) (pa_cons (pv 0) (pa_cons (pv 1) (pa_cons (pv 2) (pa_cons (pv 3) (pa_cons (pe_ix ix_tup (pv 4) (pe_un un_neg pe_int) (fun _ _ => rfl)) pa_nil)))))))
      (pss_cons (ps_if (pt_cmpR op_eq (pe_ix ix_tup (pv 4) pe_int (fun _ _ => rfl)) pe_str (nomark _)) (pss_cons (ps_expr (C8.pe_c c_law_store hr (by decide) (by rfl) (pa_cons (pv 0) (pa_cons (pv 1) (pa_cons (pv 2) (pa_cons (pe_ix ix_tup (pv 4) pe_int (fun _ _ => rfl)) (pa_cons (pv 5) pa_nil)))))))
      (pss_one (ps_ret pe_bl))) pss_nil)
      (pss_cons (ps_if (pt_cmpR op_eq (pe_ix ix_tup (pv 4) pe_int (fun _ _ => rfl)) pe_str (nomark _)) (pss_one (ps_ret (C8.pe_c c_law_pay hr (by decide) (by rfl) (pa_cons (pv 0) (pa_cons (pv 1) (pa_cons (pe_ix ix_list (pe_ix ix_list (pv 1) pe_int (fun _ _ => rfl)) (pv 2) (fun _ _ => rfl)) (pa_cons (pe_ix ix_list (pv 1) pe_int (fun _ _ => rfl)) (pa_cons (pe_ix ix_tup (pv 4) pe_int (fun _ _ => rfl)) (pa_cons (pv 5) pa_nil))))))))) pss_nil)
      (pss_cons (ps_if (pt_cmpR op_eq (pe_ix ix_tup (pv 4) pe_int (fun _ _ => rfl)) pe_str (nomark _)) (pss_one (ps_ret (C8.pe_c c_law_pay hr (by decide) (by rfl) (pa_cons (pv 0) (pa_cons (pv 1) (pa_cons (pe_ix ix_list (pv 1) pe_int (fun _ _ => rfl)) (pa_cons (pe_ix ix_list (pe_ix ix_list (pv 1) pe_int (fun _ _ => rfl)) (pv 2) (fun _ _ => rfl)) (pa_cons (pe_ix ix_tup (pv 4) pe_int (fun _ _ => rfl)) (pa_cons (pv 5) pa_nil))))))))) pss_nil)
      (pss_cons (ps_if (pt_cmpR op_eq (pe_ix ix_tup (pv 4) pe_int (fun _ _ => rfl)) pe_str (nomark _)) pss_never pss_nil)
      (pss_one (ps_ret (pe_cmpR op_ne (pv 5) pe_int (nomark _)))))))))), ?_⟩
    dsimp only [cxOf, Cx.nox]
    cases p with
    | set e =>
      simp only [Pl.ok, xok, Bool.and_eq_true, decide_eq_true_eq] at po'
      obtain ⟨en, xo, xd⟩ := po'
      cases hp with
      | @tup t _ _ t1 t2 =>
        cases t2 with
        | cons t3 t4 =>
          cases t3
          cases t4 with
          | cons t5 t6 =>
            cases t5
            cases t6 with
            | @cons _ xv _ _ t7 t8 =>
              cases t8
              refine ⟨_, rfl, _, rfl, _, rfl, _, rfl, _, rfl, _, rfl, t, _, -1, xv, rfl, rfl, SqT.of t1, rfl, c, _, a, vv, aa, rv, ra, po, e, xv, g, s, rfl, hh, hs, t7, xo, xd, so, g0, g1, fun H1 s1 => ?_⟩
              refine ⟨_, rfl, t, _, 0, .str "set", rfl, rfl, SqT.of (s1 _ _ t1), rfl, rfl, _, rfl, ifT rfl ?_⟩
              refine ⟨_, rfl, _, rfl, _, rfl, _, rfl, t, _, 1, _, rfl, rfl, SqT.of (s1 _ _ t1), rfl, _, rfl, c, _, a, vv, aa, rv, ra, po, ev s g e, s, rfl, hh.same s1, hs.same s1, en, fun H2 s2 l2 => ?_⟩
              exact k _ rfl H2 (fun a o h n => s2 _ _ (s1 _ _ h) fun z => n (by rw [z]; simp)) l2
    | need e =>
      simp only [Pl.ok, xok, Bool.and_eq_true, decide_eq_true_eq] at po'
      obtain ⟨xo, xd⟩ := po'
      cases hp with
      | @tup t _ _ t1 t2 =>
        cases t2 with
        | cons t3 t4 =>
          cases t3
          cases t4 with
          | @cons _ xv _ _ t5 t6 =>
            cases t6
            refine ⟨_, rfl, _, rfl, _, rfl, _, rfl, _, rfl, _, rfl, t, _, -1, xv, rfl, rfl, SqT.of t1, rfl, c, _, a, vv, aa, rv, ra, po, e, xv, g, s, rfl, hh, hs, t5, xo, xd, so, g0, g1, fun H1 s1 => ?_⟩
            refine ⟨_, rfl, t, _, 0, .str "need", rfl, rfl, SqT.of (s1 _ _ t1), rfl, rfl, _, rfl, ifF rfl ⟨_, rfl, t, _, 0, .str "need", rfl, rfl, SqT.of (s1 _ _ t1), rfl, rfl, _, rfl, ifF rfl ⟨_, rfl, t, _, 0, .str "need", rfl, rfl, SqT.of (s1 _ _ t1), rfl, rfl, _, rfl, ifF rfl ⟨_, rfl, t, _, 0, .str "need", rfl, rfl, SqT.of (s1 _ _ t1), rfl, rfl, _, rfl, ifF rfl ?_⟩⟩⟩⟩
            refine ⟨_, rfl, rfl, ?_⟩
            by_cases z : ev s g e = 0
            · rw [show (!decide (V.int (ev s g e) = V.int 0)) = false by rw [z]; rfl]
              exact k0 (by show (if ev s g e = 0 then none else some s) = none; rw [if_pos z]) H1 s1
            · rw [show (!decide (V.int (ev s g e) = V.int 0)) = true by rw [decide_eq_false (fun y => z (V.int.inj y))]; rfl]
              exact k s (by show (if ev s g e = 0 then none else some s) = some s; rw [if_neg z]) H1 (fun a o h _ => s1 _ _ h) (hs.same s1)
    | give e =>
      simp only [Pl.ok, xok, Bool.and_eq_true, decide_eq_true_eq] at po'
      obtain ⟨en, xo, xd⟩ := po'
      cases hp with
      | @tup t _ _ t1 t2 =>
        cases t2 with
        | cons t3 t4 =>
          cases t3
          cases t4 with
          | cons t5 t6 =>
            cases t5
            cases t6 with
            | @cons _ xv _ _ t7 t8 =>
              cases t8
              refine ⟨_, rfl, _, rfl, _, rfl, _, rfl, _, rfl, _, rfl, t, _, -1, xv, rfl, rfl, SqT.of t1, rfl, c, _, a, vv, aa, rv, ra, po, e, xv, g, s, rfl, hh, hs, t7, xo, xd, so, g0, g1, fun H1 s1 => ?_⟩
              refine ⟨_, rfl, t, _, 0, .str "give", rfl, rfl, SqT.of (s1 _ _ t1), rfl, rfl, _, rfl, ifF rfl ⟨_, rfl, t, _, 0, .str "give", rfl, rfl, SqT.of (s1 _ _ t1), rfl, rfl, _, rfl, ifT rfl ?_⟩⟩
              refine ⟨_, rfl, _, rfl, _, rfl, a, _, 1, _, rfl, rfl, SqL.of (s1 _ _ hs.top), rfl, _, rfl, aa, _, 0, _, rfl, rfl, SqL.of (s1 _ _ hs.am), rfl, _, rfl, a, _, 2, _, rfl, rfl, SqL.of (s1 _ _ hs.top), rfl, _, rfl, t, _, 1, _, rfl, rfl, SqT.of (s1 _ _ t1), rfl, _, rfl, c, _, a, vv, aa, rv, ra, po, true, ev s g e, s, rfl, hh.same s1, hs.same s1, en, fun h0 H2 s2 => k0 h0 H2 (s1.trans s2), fun s' h' H2 s2 l2 => ?_⟩
              exact k _ h' H2 (fun a o h n => s2 _ _ (s1 _ _ h) fun z => n (List.mem_cons_of_mem _ z)) l2
    | get e =>
      simp only [Pl.ok, xok, Bool.and_eq_true, decide_eq_true_eq] at po'
      obtain ⟨en, xo, xd⟩ := po'
      cases hp with
      | @tup t _ _ t1 t2 =>
        cases t2 with
        | cons t3 t4 =>
          cases t3
          cases t4 with
          | cons t5 t6 =>
            cases t5
            cases t6 with
            | @cons _ xv _ _ t7 t8 =>
              cases t8
              refine ⟨_, rfl, _, rfl, _, rfl, _, rfl, _, rfl, _, rfl, t, _, -1, xv, rfl, rfl, SqT.of t1, rfl, c, _, a, vv, aa, rv, ra, po, e, xv, g, s, rfl, hh, hs, t7, xo, xd, so, g0, g1, fun H1 s1 => ?_⟩
              refine ⟨_, rfl, t, _, 0, .str "get", rfl, rfl, SqT.of (s1 _ _ t1), rfl, rfl, _, rfl, ifF rfl ⟨_, rfl, t, _, 0, .str "get", rfl, rfl, SqT.of (s1 _ _ t1), rfl, rfl, _, rfl, ifF rfl ⟨_, rfl, t, _, 0, .str "get", rfl, rfl, SqT.of (s1 _ _ t1), rfl, rfl, _, rfl, ifT rfl ?_⟩⟩⟩
              refine ⟨_, rfl, _, rfl, _, rfl, a, _, 2, _, rfl, rfl, SqL.of (s1 _ _ hs.top), rfl, _, rfl, a, _, 1, _, rfl, rfl, SqL.of (s1 _ _ hs.top), rfl, _, rfl, aa, _, 0, _, rfl, rfl, SqL.of (s1 _ _ hs.am), rfl, _, rfl, t, _, 1, _, rfl, rfl, SqT.of (s1 _ _ t1), rfl, _, rfl, c, _, a, vv, aa, rv, ra, po, false, ev s g e, s, rfl, hh.same s1, hs.same s1, en, fun h0 H2 s2 => k0 h0 H2 (s1.trans s2), fun s' h' H2 s2 l2 => ?_⟩
              exact k _ h' H2 (fun a o h n => s2 _ _ (s1 _ _ h) fun z => n (List.mem_cons_of_mem _ z)) l2
theorem cal_ldo {f : Addr} {fd : FuncData} (F : FnP K "_law_do" "_law_do" s_law_do f fd) (T : Txt K mg) (g : mg "_law_do" = some (.ref f)) (c_law_value : C8.Cal P w K mg base 4 "_law_value" (spLVal K 3) []) (c_law_index : C8.Cal P w K mg base 1 "_law_index" (spLIx K) []) (c_law_store : C8.Cal P w K mg base 2 "_law_store" (spLSto K) []) (c_law_pay : C8.Cal P w K mg base 2 "_law_pay" (spLPay K) []) : C8.Cal P w K mg base 5 "_law_do" (spLDo K) [] :=
  ⟨f, fd, _, [], ok_ldo F T c_law_value c_law_index c_law_store c_law_pay, g, F.kp, F.bindsN fun _ _ _ _ _ _ us hl => match us, hl with | [_, _, _, _, _], _ => rfl, .nil⟩
end
end NC
set_option Elab.async false
set_option linter.all false
set_option maxRecDepth 100000
set_option maxHeartbeats 4000000
/-! The law's own interpreter: go. -/
namespace NC
open PySem PySem.Spec PyProof.Rows L2
/-- where the law's run stands -/
inductive Lg where
  | fail | done (s : S) | asks (s : S) (l : List (Int × Sm))
  deriving Inhabited
def lgo : S → List (Int × Sm) → Lg
  | s, [] => .done s
  | s, (g, .ask k) :: r => .asks s ((g, .ask k) :: r)
  | s, (g, .pl p) :: r => match doP s g p with | none => .fail | some s' => lgo s' r
  | s, (g, .ite e a b) :: r => if ev s g e = 0 then (match b with
      | none => lgo s r
      | some p => match doP s g p with | none => .fail | some s' => lgo s' r) else (match doP s g a with | none => .fail | some s' => lgo s' r)
def wgt : List (Int × Sm) → Nat
  | [] => 0
  | (_, .ite _ _ _) :: r => 2 + wgt r
  | _ :: r => 1 + wgt r
/-- pending statements -/
def LPd (H : Hp) : List (Int × Sm) → List V → Prop
  | [], vs => vs = []
  | (g, t) :: r, vs => ∃ a sv us, vs = .ref a :: us ∧ H a = some (.tup [.int 0, .int g, sv]) ∧ NK H (eM t) sv ∧ LPd H r us
theorem LPd.tx {H H' : Hp} (t : TX H H') : ∀ {l : List (Int × Sm)} {vs : List V}, LPd H l vs → LPd H' l vs
  | [], _, h => h
  | (_, _) :: _, _, ⟨a, sv, us, e, h1, h2, h3⟩ => ⟨a, sv, us, e, t _ _ h1, NK.tx t _ _ h2, LPd.tx t h3⟩
/-- the part of a choice that is done -/
def prtB (e0 : Bool) (a : Pl) (b : Option Pl) : List Pl := if e0 then (match b with | none => [] | some p => [p]) else [a]
theorem lgo_ite (s : S) (g : Int) (e : Xp) (a : Pl) (b : Option Pl) (r : List (Int × Sm)) : lgo s ((g, .ite e a b) :: r) = lgo s ((prtB (decide (ev s g e = 0)) a b).map (fun p => (g, .pl p)) ++ r) := by
  unfold prtB
  by_cases h : ev s g e = 0
  · rw [if_pos (decide_eq_true h)]
    cases b with
    | none => simp [lgo, h]
    | some p => simp [lgo, h]
  · rw [if_neg (by rw [decide_eq_false h]; exact Bool.false_ne_true)]
    simp [lgo, h]
theorem wgt_ite (e0 : Bool) (g : Int) (e : Xp) (a : Pl) (b : Option Pl) (r : List (Int × Sm)) : wgt ((prtB e0 a b).map (fun p => (g, .pl p)) ++ r) + 1 ≤ wgt ((g, .ite e a b) :: r) := by
  unfold prtB
  cases e0 <;> cases b <;> simp [wgt] <;> omega
theorem wgt_le : ∀ l : List (Int × Sm), wgt l ≤ 2 * l.length
  | [] => Nat.le_refl _
  | (_, .pl _) :: r => by have := wgt_le r; simp [wgt]; omega
  | (_, .ask _) :: r => by have := wgt_le r; simp [wgt]; omega
  | (_, .ite _ _ _) :: r => by have := wgt_le r; simp [wgt]; omega
theorem LPd.length {H : Hp} : ∀ {l : List (Int × Sm)} {vs : List V}, LPd H l vs → vs.length = l.length
  | [], _, h => by rw [show _ = _ from h]; rfl
  | (_, _) :: _, _, ⟨_, _, _, e, _, _, h3⟩ => by rw [e, List.length_cons, List.length_cons, LPd.length h3]
theorem LPd.append {H : Hp} : ∀ {l m : List (Int × Sm)} {vs us : List V}, LPd H l vs → LPd H m us → LPd H (l ++ m) (vs ++ us)
  | [], _, _, _, h, k => by rw [show _ = _ from h]; exact k
  | (_, _) :: _, _, _, _, ⟨a, sv, ws, e, h1, h2, h3⟩, k => ⟨a, sv, _, by rw [e]; rfl, h1, h2, LPd.append h3 k⟩
theorem LPd.one {H : Hp} {a : Addr} {g : Int} {t : Sm} {sv : V} (h1 : H a = some (.tup [.int 0, .int g, sv])) (h2 : NK H (eM t) sv) : LPd H [(g, t)] [.ref a] := ⟨a, sv, [], rfl, h1, h2, rfl⟩
theorem len_wgt : ∀ l : List (Int × Sm), l.length ≤ wgt l
  | [] => Nat.le_refl _
  | (_, .pl _) :: r => by have := len_wgt r; simp [wgt]; omega
  | (_, .ask _) :: r => by have := len_wgt r; simp [wgt]; omega
  | (_, .ite _ _ _) :: r => by have := len_wgt r; simp [wgt]; omega
theorem eP_head {H : Hp} {p : Pl} {v : V} (h : NK H (eP p) v) : ∃ q kd rest, v = .ref q ∧ H q = some (HO.tup (V.str kd :: rest)) ∧ kd ≠ "ask" ∧ kd ≠ "if" ∧ kd ≠ "call" := by
  cases p <;>
  · cases h with
    | tup q1 q2 =>
      cases q2 with
      | cons q3 q4 =>
        cases q3
        exact ⟨_, _, _, rfl, q1, by decide, by decide, by decide⟩
theorem prtB_le (e0 : Bool) (a : Pl) (b : Option Pl) : (prtB e0 a b).length ≤ 1 := by
  unfold prtB
  cases e0 <;> cases b <;> simp
/-- the house's two lists are none of X -/
def LhS (H : Hp) (hv : V) (X : List Addr) : Prop := ∀ b la lc, hv = .ref b → H b = some (.tup [.ref la, .ref lc]) → la ∉ X ∧ lc ∉ X
theorem txN {H H' : Hp} {nv na : Bool} {a vv aa rv ra po : Addr} {s : S} (h : LSt H nv na a vv aa rv ra po s) (t : SameNot [rv, ra, po] H H') : TX H H' := fun b vs e => t b _ e fun m => by
  simp only [List.mem_cons, List.not_mem_nil, or_false] at m
  rcases m with rfl | rfl | rfl
  · rw [h.v] at e; cases e
  · rw [h.h] at e; cases e
  · rw [h.o] at e; cases e
theorem LhAt.not {H H' : Hp} {c : Cf} {hv : V} {nv na : Bool} {a vv aa rv ra po : Addr} {s : S} (h : LSt H nv na a vv aa rv ra po s) (t : SameNot [rv, ra, po] H H') (n : LhS H hv [rv, ra, po]) : LhAt H c hv → LhAt H' c hv
  | ⟨b, la, lc, avs, ct, e, h1, h2, h3, h4, h5⟩ => by
    obtain ⟨n1, n2⟩ := n b la lc e h1
    have tx := txN h t
    refine ⟨b, la, lc, avs, ct, e, tx _ _ h1, t _ _ h2 n1, NKs.tx tx _ _ h3, t _ _ h4 n2, h5.tx tx fun a xs ⟨o, g, d⟩ => ⟨o, t _ _ g fun m => ?_, d⟩⟩
    simp only [List.mem_cons, List.not_mem_nil, or_false] at m
    rcases m with rfl | rfl | rfl
    · rw [h.v] at g; cases g
    · rw [h.h] at g; cases g
    · rw [h.o] at g; cases g
theorem LhS.tx {H H' : Hp} {c : Cf} {hv : V} {X : List Addr} (t : TX H H') (h : LhAt H c hv) (n : LhS H hv X) : LhS H' hv X := fun b la lc e g => by
  obtain ⟨b', la', lc', _, _, e', h1, _⟩ := h
  rw [e] at e'
  cases e'
  have := t _ _ h1
  rw [g] at this
  cases this
  exact n b la lc e h1
theorem notIn_new {H : Hp} {nv na : Bool} {a vv aa rv ra po p : Addr} {s : S} (h : LSt H nv na a vv aa rv ra po s) (n : H p = none) : p ∉ [rv, ra, po] := fun m => by
  simp only [List.mem_cons, List.not_mem_nil, or_false] at m
  rcases m with rfl | rfl | rfl
  · rw [h.v] at n; cases n
  · rw [h.h] at n; cases n
  · rw [h.o] at n; cases n
theorem snone {H H' : Hp} {nv na : Bool} {a vv aa rv ra po p : Addr} {s : S} (h : LSt H' nv na a vv aa rv ra po s) (t : SameNot [rv, ra, po] H H') (n : H' p = none) : H p = none := by
  cases e : H p with
  | none => rfl
  | some o =>
    have := t p o e (notIn_new h n)
    rw [n] at this
    cases this
section
variable {P : Program} {w : World} {K : PySem.W.Frag} {mg : Str → Option Value} {base : Heap}
def spLGo (K : PySem.W.Frag) : Sp := fun vs H Q _ => ∃ (c : Cf) (hv : V) (a vv aa rv ra po lp : Addr) (l : List (Int × Sm)) (pvs : List V) (s : S), vs = [hv, .ref a, .ref lp] ∧ LhAt H c hv ∧ LhS H hv [rv, ra, po] ∧ LSt H c.nv c.na a vv aa rv ra po s ∧ H lp = some (.lst pvs) ∧ LPd H l pvs ∧ (∀ t ∈ l, t.2.ok c.nv c.na = true ∧ 0 ≤ t.1 ∧ t.1 ≤ 65535) ∧ l.length ≤ 100 ∧ s.Ok c.nv c.na ∧
  ∀ (t lq : Addr) (kd : Str) (l' : List (Int × Sm)) (qvs : List V) (s' : S) (H' : Hp), SameNot [rv, ra, po] H H' → LSt H' c.nv c.na a vv aa rv ra po s' → H' t = some (.tup [.str kd, .ref lq]) → H' lq = some (.lst qvs) → (match lgo s l with
    | .fail => kd = "failed"
    | .done s1 => kd = "done" ∧ s' = s1
    | .asks s1 l1 => kd = "asks" ∧ s' = s1 ∧ l' = l1 ∧ LPd H' l' qvs ∧ H lq = none) → Q (.ref t) H'
theorem sc_law_go : FnScope ["_law_house_here", "_law_state", "_law_pending", "_law_left", "_law_k", "_law_at", "_law_given", "_law_statement_here", "_law_block", "_law_inner", "_law_other", "_law_proc", "_law_number"] ["_law_house_here", "_law_state", "_law_pending"] (defScope s_law_go) := ⟨rfl, rfl, rfl, by decide +kernel, rfl, by decide +kernel, by decide +kernel⟩
theorem ok_lgo {f : Addr} {fd : FuncData} (F : FnP K "_law_go" "_law_go" s_law_go f fd) (T : Txt K mg) (c_law_value : C8.Cal P w K mg base 4 "_law_value" (spLVal K 3) []) (c_law_index : C8.Cal P w K mg base 1 "_law_index" (spLIx K) []) (c_law_do : C8.Cal P w K mg base 5 "_law_do" (spLDo K) []) : FnOk P w K mg base CX0 6 f fd ["_law_house_here", "_law_state", "_law_pending"] (spLGo K) := by
  refine F.ok sc_law_go (fun vs H Q E h => ?_) (fun cdv A outer s H vs Q E hr h => ?_)
  · obtain ⟨c, hv, a, vv, aa, rv, ra, po, lp, l, pvs, s, rfl, _⟩ := h
    rfl
  · obtain ⟨c, hv, a, vv, aa, rv, ra, po, lp, l, pvs, s, rfl, hh, hn, hs, hlp, hpd, hok, hlen, so, k⟩ := h
    refine ⟨_, PSs.nox ((pss_cons (ps_set (i := 3) sc_law_go.nd rfl (Or.inl rfl) (pe_callTy call_list_of (by rfl) T.list bt_list (pa_cons (pv 2) pa_nil)))
      (pss_cons (ps_for PassesOwn.never rfl (pi_range1 rfl T.range (pa_cons pe_int pa_nil)) (pg_name (i := 4) sc_law_go.nd rfl (Or.inl rfl)) (pss_cons (ps_if (pt_cmpR op_eq (pe_callB call_len (by rfl) T.len bt_len (pa_cons (pv 3) pa_nil)) pe_int (nomark _)) (pss_one (ps_ret (pe_tup (pa_cons pe_str (pa_cons (pv 3) pa_nil))))) pss_nil)
      (pss_cons (ps_set (i := 5) sc_law_go.nd rfl (Or.inr rfl) (pe_ix ix_tup (pe_ix ix_list (pv 3) pe_int (fun _ _ => rfl)) pe_int (fun _ _ => rfl)))
      (pss_cons (ps_set (i := 6) sc_law_go.nd rfl (Or.inr rfl) (pe_ix ix_tup (pe_ix ix_list (pv 3) pe_int (fun _ _ => rfl)) pe_int (fun _ _ => rfl)))
      (pss_cons (ps_set (i := 7) sc_law_go.nd rfl (Or.inl rfl) (pe_ix ix_tup (pe_ix ix_list (pv 3) pe_int (fun _ _ => rfl)) pe_int (fun _ _ => rfl)))
      (pss_cons (ps_if (pt_cmpR op_eq (pe_ix ix_tup (pv 7) pe_int (fun _ _ => rfl)) pe_str (nomark _)) (pss_one (ps_ret (pe_tup (pa_cons pe_str (pa_cons (pv 3) pa_nil))))) pss_nil)
      (pss_cons (ps_set (i := 3) sc_law_go.nd rfl (Or.inl rfl) (pe_slice sl_list (pv 3) (po_some pe_int) po_none))
      (pss_one (ps_if (pt_cmpR op_eq (pe_ix ix_tup (pv 7) pe_int (fun _ _ => rfl)) pe_str (nomark _)) (pss_cons (ps_set (i := 8) sc_law_go.nd rfl (Or.inl rfl) (pe_ix ix_tup (pv 7) pe_int (fun _ _ => rfl)))
      (pss_cons (ps_if (pt_cmpR op_ne (C8.pe_c c_law_value hr (by decide) (by rfl) (pa_cons (pv 0) (pa_cons (pv 1) (pa_cons (pv 5) (pa_cons (pv 6) (pa_cons (pe_ix ix_tup (pv 7) pe_int (fun _ _ => rfl)) pa_nil)))))) pe_int (nomark _)) (pss_one (ps_set (i := 8) sc_law_go.nd rfl (Or.inl rfl) (pe_ix ix_tup (pv 7) pe_int (fun _ _ => rfl)))) pss_nil)
      (pss_one (ps_set (i := 3) sc_law_go.nd rfl (Or.inl rfl) (pe_op op_cat (pe_lc (own := [("_law_inner", 9)]) rfl sc_law_go.nd (pi_tup (pv 8)) (blkOk_by (own := [("_law_inner", 9)]) (N := ["_law_house_here", "_law_state", "_law_pending", "_law_left", "_law_k", "_law_at", "_law_given", "_law_statement_here", "_law_block", "_law_inner", "_law_other", "_law_proc", "_law_number"]) (sc := defScope s_law_go) (by decide +kernel)) (fun _ _ _ _ _ => (pg_name (i := 9) sc_law_go.nd rfl (Or.inl rfl))) (fun _ _ _ _ _ => pts_nil) (fun _ _ _ _ _ => (pe_tup (pa_cons (pv 5) (pa_cons (pv 6) (pa_cons (pv 9) pa_nil)))))) (pv 3)))))) (pss_one (ps_if (pt_cmpR op_eq (pe_ix ix_tup (pv 7) pe_int (fun _ _ => rfl)) pe_str (nomark _)) pss_never (pss_one (ps_if (pt_not (pt_val (C8.pe_c c_law_do hr (by decide) (by rfl) (pa_cons (pv 0) (pa_cons (pv 1) (pa_cons (pv 5) (pa_cons (pv 6) (pa_cons (pv 7) pa_nil)))))))) (pss_one (ps_ret (pe_tup (pa_cons pe_str (pa_cons (pe_lst pa_nil) pa_nil))))) pss_nil)))))))))))))
      (pss_one (ps_ret (pe_tup (pa_cons pe_str (pa_cons (pe_lst pa_nil) pa_nil)))))))), ?_⟩
    dsimp only [cxOf, Cx.nox]
    refine ⟨_, rfl, lp, pvs, rfl, .inl (SqL.of hlp), fun lq nlq => ?_⟩
    have s0 := new_same (o := HO.lst pvs) nlq
    refine ⟨3000, rfl, by decide, by decide, for_range (fun j σ Hz => ∃ (s1 : S) (l1 : List (Int × Sm)) (lq : Addr) (qv : List V) (x4 x5 x6 x7 x8 x9 x10 x11 x12 : Option V), σ = [some hv, some (.ref a), some (.ref lp), some (.ref lq), x4, x5, x6, x7, x8, x9, x10, x11, x12] ∧ SameNot [rv, ra, po] H Hz ∧ LSt Hz c.nv c.na a vv aa rv ra po s1 ∧ Hz lq = some (.lst qv) ∧ H lq = none ∧ LPd Hz l1 qv ∧ lgo s l = lgo s1 l1 ∧ wgt l1 + j ≤ 200 ∧ (∀ t ∈ l1, t.2.ok c.nv c.na = true ∧ 0 ≤ t.1 ∧ t.1 ≤ 65535) ∧ s1.Ok c.nv c.na)
      ⟨s, l, lq, pvs, _, _, _, _, _, _, _, _, _, rfl, fun b o h _ => s0 _ _ h, hs.same s0, upd_same, nlq, hpd.tx (TX.same s0), rfl, ?_, hok, so⟩ ?_ ?_⟩
    · have := wgt_le l
      omega
    · rintro j σ Hz hj ⟨s1, l1, lq, qv, x4, x5, x6, x7, x8, x9, x10, x11, x12, rfl, sz, hz, hq, nq, hp, ee, hw, ho, so1⟩
      have hh1 := hh.not hs sz hn
      cases l1 with
      | nil =>
        cases hp
        refine ⟨_, rfl, _, _, rfl, .inl ⟨_, SqL.of hq, rfl⟩, rfl, _, rfl, ifT rfl ?_⟩
        refine ⟨_, rfl, (by show 2 ≤ sizeLine; decide), fun t nt => ?_⟩
        have st := new_same (o := HO.tup [.str "done", .ref lq]) nt
        refine k t lq "done" [] [] s1 _ (fun b o h n => st _ _ (sz b o h n)) (hz.same st) upd_same (st _ _ hq) ?_
        rw [ee]
        exact ⟨rfl, rfl⟩
      | cons t r =>
        obtain ⟨g, sm⟩ := t
        obtain ⟨p, sv, us, rfl, p1, p2, p3⟩ := id hp
        obtain ⟨ok1, g0, g1⟩ := ho _ (List.mem_cons_self ..)
        refine ⟨_, rfl, _, _, rfl, .inl ⟨_, SqL.of hq, rfl⟩, rfl, _, rfl, ifF rfl ?_⟩
        refine ⟨_, rfl, lq, _, 0, .ref p, rfl, rfl, SqL.of hq, at_of (j := 0) rfl rfl, p, _, 0, _, rfl, rfl, SqT.of p1, rfl, ?_⟩
        refine ⟨_, rfl, lq, _, 0, .ref p, rfl, rfl, SqL.of hq, at_of (j := 0) rfl rfl, p, _, 1, _, rfl, rfl, SqT.of p1, rfl, ?_⟩
        refine ⟨_, rfl, lq, _, 0, .ref p, rfl, rfl, SqL.of hq, at_of (j := 0) rfl rfl, p, _, 2, _, rfl, rfl, SqT.of p1, rfl, ?_⟩
        cases sm with
        | ask n =>
          cases p2 with
          | @tup q _ _ q1 q2 =>
            cases q2 with
            | cons q3 q4 =>
              cases q3
              refine ⟨_, rfl, q, _, 0, .str "ask", rfl, rfl, SqT.of q1, at_of (j := 0) rfl rfl, rfl, _, rfl, ifT rfl ?_⟩
              refine ⟨_, rfl, (by show 2 ≤ sizeLine; decide), fun t nt => ?_⟩
              have st := new_same (o := HO.tup [.str "asks", .ref lq]) nt
              refine k t lq "asks" ((g, .ask n) :: r) _ s1 _ (fun b o h m => st _ _ (sz b o h m)) (hz.same st) upd_same (st _ _ hq) ?_
              rw [ee]
              exact ⟨rfl, rfl, rfl, hp.tx (TX.same st), nq⟩
        | pl pl =>
          obtain ⟨q, kd, rest, rfl, q1, n1, n2, n3⟩ := eP_head p2
          refine ⟨_, rfl, q, _, 0, .str kd, rfl, rfl, SqT.of q1, at_of (j := 0) rfl rfl, rfl, _, rfl, ifF (dS n1) ?_⟩
          refine ⟨_, rfl, _, rfl, lq, _, rfl, SqL.of hq, fun lr nlr => ?_⟩
          have sr := new_same (o := HO.lst (cutV (V.ref p :: us) (some 1) none)) nlr
          have hr1 : (upd Hz lr (HO.lst (cutV (V.ref p :: us) (some 1) none))) lr = some (.lst us) := by
            rw [upd_same]
            exact congrArg (fun x => some (HO.lst x)) (cut_hi (V.ref p :: us) (i := 1) (by simp))
          generalize upd Hz lr (HO.lst (cutV (V.ref p :: us) (some 1) none)) = H2 at sr hr1 ⊢
          refine ⟨_, rfl, q, _, 0, .str kd, rfl, rfl, SqT.of (sr _ _ q1), at_of (j := 0) rfl rfl, rfl, _, rfl, ifF (dS n2) ?_⟩
          refine ⟨_, rfl, q, _, 0, .str kd, rfl, rfl, SqT.of (sr _ _ q1), at_of (j := 0) rfl rfl, rfl, _, rfl, ifF (dS n3) ?_⟩
          refine ⟨_, rfl, _, rfl, _, rfl, _, rfl, _, rfl, c, _, a, vv, aa, rv, ra, po, pl, _, g, s1, rfl, hh1.same sr, hz.same sr, NK.tx (TX.same sr) _ _ p2, ok1, so1, g0, g1, fun ef H3 s3 => ?_, fun s' es H3 s3 l3 => ?_⟩
          · refine ⟨_, rfl, ifT rfl ?_⟩
            refine ⟨(by show 0 ≤ sizeLine; decide), fun l0 nl0 => ⟨(by show 2 ≤ sizeLine; decide), fun t nt => ?_⟩⟩
            have sl := new_same (o := HO.lst []) nl0
            have st := new_same (o := HO.tup [.str "failed", .ref l0]) nt
            have sA := ((sr.trans s3).trans sl).trans st
            refine k t l0 "failed" [] [] s1 _ (fun b o h n => sA _ _ (sz b o h n)) (hz.same sA) upd_same (st _ _ upd_same) ?_
            rw [ee]
            show (match (match doP s1 g pl with | none => Lg.fail | some s' => lgo s' r) with | .fail => _ | .done _ => _ | .asks _ _ => _)
            rw [ef]
          · refine ⟨_, rfl, ifF rfl ?_⟩
            have tx := txN (hz.same sr) s3
            have lrn := notIn_new hz nlr
            refine ⟨s', r, lr, us, _, _, _, _, _, _, _, _, _, rfl, fun b o h n => s3 _ _ (sr _ _ (sz b o h n)) n, l3, s3 _ _ hr1 lrn, snone hz sz nlr, (p3.tx (TX.same sr)).tx tx, ?_, ?_, fun t ht => ho t (List.mem_cons_of_mem _ ht), doP_ok so1 g0 g1 ok1 es⟩
            · rw [ee]
              show (match doP s1 g pl with | none => Lg.fail | some s' => lgo s' r) = _
              rw [es]
            · simp only [wgt] at hw
              omega
        | ite e a' b =>
          simp only [Sm.ok, Bool.and_eq_true] at ok1
          obtain ⟨xo, xd⟩ := xok_ok ok1.1
          cases p2 with
          | @tup q _ _ q1 q2 =>
            cases q2 with
            | cons q3 q4 =>
              cases q3
              cases q4 with
              | @cons _ xv _ _ q5 q6 =>
                cases q6 with
                | @cons _ av _ _ q7 q8 =>
                  cases q8 with
                  | @cons _ bv _ _ q9 q10 =>
                    cases q10
                    refine ⟨_, rfl, q, _, 0, .str "if", rfl, rfl, SqT.of q1, rfl, rfl, _, rfl, ifF rfl ?_⟩
                    refine ⟨_, rfl, _, rfl, lq, _, rfl, SqL.of hq, fun lr nlr => ?_⟩
                    have sr := new_same (o := HO.lst (cutV (V.ref p :: us) (some 1) none)) nlr
                    have hr1 : (upd Hz lr (HO.lst (cutV (V.ref p :: us) (some 1) none))) lr = some (.lst us) := by
                      rw [upd_same]
                      exact congrArg (fun x => some (HO.lst x)) (cut_hi (V.ref p :: us) (i := 1) (by simp))
                    generalize upd Hz lr (HO.lst (cutV (V.ref p :: us) (some 1) none)) = Hr at sr hr1 ⊢
                    refine ⟨_, rfl, q, _, 0, .str "if", rfl, rfl, SqT.of (sr _ _ q1), rfl, rfl, _, rfl, ifT rfl ?_⟩
                    refine ⟨_, rfl, q, _, 3, bv, rfl, rfl, SqT.of (sr _ _ q1), rfl, ?_⟩
                    refine ⟨_, rfl, _, rfl, _, rfl, _, rfl, _, rfl, q, _, 1, xv, rfl, rfl, SqT.of (sr _ _ q1), rfl, c, _, a, vv, aa, rv, ra, po, e, xv, g, s1, rfl, hh1.same sr, hz.same sr, NK.tx (TX.same sr) _ _ q5, xo, xd, so1, g0, g1, fun H2 s2 => ?_⟩
                    refine ⟨rfl, _, rfl, ?_⟩
                    have txc := TX.same (sr.trans s2)
                    by_cases z : ev s1 g e = 0
                    · refine ifF (by rw [z]; rfl) ?_
                      have hps : prtB (decide (ev s1 g e = 0)) a' b = b.toList := by rw [decide_eq_true z]; cases b <;> rfl
                      have hbl : NK H2 (.tup (b.toList.map eP)) bv := by
                        have := NK.tx txc _ _ q9
                        cases b <;> exact this
                      have hpo : ∀ p ∈ b.toList, p.ok c.nv c.na = true := fun p hp => by
                        cases b with
                        | none => cases hp
                        | some p' => rw [List.mem_singleton.mp hp]; exact ok1.2.2
                      generalize b.toList = ps at hps hbl hpo
                      cases hbl with
                      | @tup z8 vs8 _ b1 b2 =>
                        have l8 : vs8.length ≤ 1 := by rw [← b2.length, List.length_map, ← hps]; exact prtB_le _ _ _
                        refine ⟨_, rfl, z8, rfl, ⟨_, SqT.of b1⟩, fun D nD => ?_⟩
                        refine lc_tup (K := K) (xs := vs8) (fun i Hy => ∃ acc, Same H2 Hy ∧ Hy D = some (.lst acc) ∧ LPd Hy ((ps.take i).map fun p => (g, Sm.pl p)) acc) ⟨[], new_same nD, upd_same, rfl⟩ (fun i Hy _ ⟨_, sy, _⟩ => SqT.of (sy _ _ b1)) ?_ ?_
                        · rintro i xa Hy hi ⟨acc, sy, qa, la⟩
                          obtain ⟨pl, hpl, npl⟩ := NKs.at b2 hi
                          refine ⟨rfl, _, rfl, _, rfl, _, rfl, (by show 3 ≤ sizeLine; decide), fun t nt => ?_⟩
                          have st := new_same (o := HO.tup [V.int 0, V.int g, xa]) nt
                          have hi' := (List.getElem?_eq_some_iff.mp hi).1
                          have tx : TX Hy (upd (upd Hy t (HO.tup [V.int 0, V.int g, xa])) D (.lst (acc ++ [V.ref t]))) := fun b xs h => by
                            rw [upd_ne (fun z => by rw [z, qa] at h; cases h)]
                            exact st _ _ h
                          have tD : t ≠ D := fun z => by rw [z, qa] at nt; cases nt
                          refine ⟨acc, st _ _ qa, szl ?_, _, fun b o h => by rw [upd_ne (ne_of_none h nD)]; exact st _ _ (sy _ _ h), upd_same, ?_⟩
                          · have := la.length
                            rw [List.length_map] at this
                            have := List.length_take_le i ps
                            omega
                          · rw [List.take_succ, hpl, List.map_append]
                            exact (la.tx tx).append (LPd.one (by rw [upd_ne tD]; exact upd_same) (NK.tx (fun b xs h => tx _ _ (sy _ _ h)) _ _ npl))
                        · rintro Hy ⟨acc, sy, qa, la⟩
                          rw [← b2.length, List.length_map, List.take_length] at la
                          have hlr := sy _ _ (s2 _ _ hr1)
                          refine ⟨_, rfl, D, lr, acc, us, rfl, rfl, qa, hlr, ?_, fun pn np => ?_⟩
                          · have h1 := la.length
                            rw [List.length_map, ← hps] at h1
                            have h2 := prtB_le (decide (ev s1 g e = 0)) a' b
                            have h3 := p3.length
                            have h4 := len_wgt r
                            have h5 : wgt r ≤ 200 := by simp only [wgt] at hw; omega
                            exact sz100 (by omega)
                          have sn := new_same (o := HO.lst (acc ++ us)) np
                          have sA := ((sr.trans s2).trans sy).trans sn
                          refine ⟨s1, (ps.map fun p => (g, Sm.pl p)) ++ r, pn, acc ++ us, _, _, _, _, _, _, _, _, _, rfl, fun b o h n => sA _ _ (sz b o h n), hz.same sA, upd_same, ?_, (la.tx (TX.same sn)).append (p3.tx (TX.same sA)), ?_, ?_, ?_, so1⟩
                          · exact snone hz sz (Same.none ((sr.trans s2).trans sy) np)
                          · rw [ee, lgo_ite, hps]
                          · have := wgt_ite (decide (ev s1 g e = 0)) g e a' b r
                            rw [hps] at this
                            omega
                          · intro t ht
                            rcases List.mem_append.mp ht with ht | ht
                            · obtain ⟨p, hp, rfl⟩ := List.mem_map.mp ht
                              exact ⟨hpo p hp, g0, g1⟩
                            · exact ho t (List.mem_cons_of_mem _ ht)
                    · refine ifT (by rw [decide_eq_false (fun y => z (V.int.inj y))]; rfl) ?_
                      refine ⟨_, rfl, q, _, 2, av, rfl, rfl, SqT.of ((sr.trans s2) _ _ q1), rfl, ?_⟩
                      have hps : prtB (decide (ev s1 g e = 0)) a' b = [a'] := by rw [decide_eq_false z]; rfl
                      have hbl : NK H2 (.tup (([a'] : List Pl).map eP)) av := NK.tx txc _ _ q7
                      have hpo : ∀ p ∈ [a'], p.ok c.nv c.na = true := fun p hp => by rw [List.mem_singleton.mp hp]; exact ok1.2.1
                      generalize [a'] = ps at hps hbl hpo
                      cases hbl with
                      | @tup z8 vs8 _ b1 b2 =>
                        have l8 : vs8.length ≤ 1 := by rw [← b2.length, List.length_map, ← hps]; exact prtB_le _ _ _
                        refine ⟨_, rfl, z8, rfl, ⟨_, SqT.of b1⟩, fun D nD => ?_⟩
                        refine lc_tup (K := K) (xs := vs8) (fun i Hy => ∃ acc, Same H2 Hy ∧ Hy D = some (.lst acc) ∧ LPd Hy ((ps.take i).map fun p => (g, Sm.pl p)) acc) ⟨[], new_same nD, upd_same, rfl⟩ (fun i Hy _ ⟨_, sy, _⟩ => SqT.of (sy _ _ b1)) ?_ ?_
                        · rintro i xa Hy hi ⟨acc, sy, qa, la⟩
                          obtain ⟨pl, hpl, npl⟩ := NKs.at b2 hi
                          refine ⟨rfl, _, rfl, _, rfl, _, rfl, (by show 3 ≤ sizeLine; decide), fun t nt => ?_⟩
                          have st := new_same (o := HO.tup [V.int 0, V.int g, xa]) nt
                          have hi' := (List.getElem?_eq_some_iff.mp hi).1
                          have tx : TX Hy (upd (upd Hy t (HO.tup [V.int 0, V.int g, xa])) D (.lst (acc ++ [V.ref t]))) := fun b xs h => by
                            rw [upd_ne (fun z => by rw [z, qa] at h; cases h)]
                            exact st _ _ h
                          have tD : t ≠ D := fun z => by rw [z, qa] at nt; cases nt
                          refine ⟨acc, st _ _ qa, szl ?_, _, fun b o h => by rw [upd_ne (ne_of_none h nD)]; exact st _ _ (sy _ _ h), upd_same, ?_⟩
                          · have := la.length
                            rw [List.length_map] at this
                            have := List.length_take_le i ps
                            omega
                          · rw [List.take_succ, hpl, List.map_append]
                            exact (la.tx tx).append (LPd.one (by rw [upd_ne tD]; exact upd_same) (NK.tx (fun b xs h => tx _ _ (sy _ _ h)) _ _ npl))
                        · rintro Hy ⟨acc, sy, qa, la⟩
                          rw [← b2.length, List.length_map, List.take_length] at la
                          have hlr := sy _ _ (s2 _ _ hr1)
                          refine ⟨_, rfl, D, lr, acc, us, rfl, rfl, qa, hlr, ?_, fun pn np => ?_⟩
                          · have h1 := la.length
                            rw [List.length_map, ← hps] at h1
                            have h2 := prtB_le (decide (ev s1 g e = 0)) a' b
                            have h3 := p3.length
                            have h4 := len_wgt r
                            have h5 : wgt r ≤ 200 := by simp only [wgt] at hw; omega
                            exact sz100 (by omega)
                          have sn := new_same (o := HO.lst (acc ++ us)) np
                          have sA := ((sr.trans s2).trans sy).trans sn
                          refine ⟨s1, (ps.map fun p => (g, Sm.pl p)) ++ r, pn, acc ++ us, _, _, _, _, _, _, _, _, _, rfl, fun b o h n => sA _ _ (sz b o h n), hz.same sA, upd_same, ?_, (la.tx (TX.same sn)).append (p3.tx (TX.same sA)), ?_, ?_, ?_, so1⟩
                          · exact snone hz sz (Same.none ((sr.trans s2).trans sy) np)
                          · rw [ee, lgo_ite, hps]
                          · have := wgt_ite (decide (ev s1 g e = 0)) g e a' b r
                            rw [hps] at this
                            omega
                          · intro t ht
                            rcases List.mem_append.mp ht with ht | ht
                            · obtain ⟨p, hp, rfl⟩ := List.mem_map.mp ht
                              exact ⟨hpo p hp, g0, g1⟩
                            · exact ho t (List.mem_cons_of_mem _ ht)
    · rintro σ Hz ⟨s1, l1, lq, qv, x4, x5, x6, x7, x8, x9, x10, x11, x12, rfl, sz, hz, hq, nq, hp, ee, hw, ho, so1⟩
      exfalso
      have e3 : ((3000 : Int).toNat) = 3000 := rfl
      omega
theorem cal_lgo {f : Addr} {fd : FuncData} (F : FnP K "_law_go" "_law_go" s_law_go f fd) (T : Txt K mg) (g : mg "_law_go" = some (.ref f)) (c_law_value : C8.Cal P w K mg base 4 "_law_value" (spLVal K 3) []) (c_law_index : C8.Cal P w K mg base 1 "_law_index" (spLIx K) []) (c_law_do : C8.Cal P w K mg base 5 "_law_do" (spLDo K) []) : C8.Cal P w K mg base 6 "_law_go" (spLGo K) [] :=
  ⟨f, fd, _, [], ok_lgo F T c_law_value c_law_index c_law_do, g, F.kp, F.bindsN fun _ _ _ _ _ _ us hl => match us, hl with | [_, _, _], _ => rfl, .nil⟩
end
end NC
set_option Elab.async false
set_option linter.all false
set_option maxRecDepth 100000
set_option maxHeartbeats 4000000
/-! The law's own interpreter: start, copy, told. -/
namespace NC
open PySem PySem.Spec PyProof.Rows L2
theorem FrT.sq {K : PySem.W.Frag} {H : Hp} {a : Addr} {xs : List V} : FrT H a xs → SqT K H a xs
  | ⟨o, h, _⟩ => .inl (.inr ⟨o, h⟩)
theorem FrT.keep {d : Addr} {H H' : Hp} {a : Addr} {xs : List V} (k : SameBut d H H') : FrT H a xs → (∀ o, H a = some o → a ≠ d) → FrT H' a xs
  | ⟨o, h, e⟩, n => ⟨o, k _ _ h (n _ h), e⟩
theorem ne_of_none' {H : Hp} {a b : Addr} {o : HO} (h : H a = some o) (n : H b = none) : b ≠ a := Ne.symm (ne_of_none h n)
theorem pi_tupK {X : Cx} {K : PySem.W.Frag} {tg l : Expr} {tl : TE} (h : X.K = K) (hl : PE X l tl) : PI X tg l (iTup K tl) := h ▸ pi_tup hl
theorem all6 {H : Hp} {a b c d e f : Addr} (h1 : H a = none) (h2 : H b = none) (h3 : H c = none) (h4 : H d = none) (h5 : H e = none) (h6 : H f = none) : ∀ x ∈ [a, b, c, d, e, f], H x = none := fun x hx => by
  simp only [List.mem_cons, List.not_mem_nil, or_false] at hx
  rcases hx with rfl | rfl | rfl | rfl | rfl | rfl
  · exact h1
  · exact h2
  · exact h3
  · exact h4
  · exact h5
  · exact h6
section
variable {P : Program} {w : World} {K : PySem.W.Frag} {mg : Str → Option Value} {base : Heap}
def spLCopy : Sp := fun vs H Q _ => ∃ (nv na : Bool) (a vv aa rv ra po : Addr) (s : S), vs = [.ref a] ∧ LSt H nv na a vv aa rv ra po s ∧
  ∀ a' vv' aa' rv' ra' po' H', Same H H' → LSt H' nv na a' vv' aa' rv' ra' po' s → (∀ x ∈ [a', vv', aa', rv', ra', po'], H x = none) → Q (.ref a') H'
theorem sc_law_copy : FnScope ["_law_state", "_law_row_here"] ["_law_state"] (defScope s_law_copy) := ⟨rfl, rfl, rfl, by decide +kernel, rfl, by decide +kernel, by decide +kernel⟩
theorem ok_lcopy {f : Addr} {fd : FuncData} (F : FnP K "_law_copy" "_law_copy" s_law_copy f fd) (T : Txt K mg) : FnOk P w K mg base CX0 1 f fd ["_law_state"] spLCopy := by
  refine F.ok sc_law_copy (fun vs H Q E h => ?_) (fun cdv A outer s H vs Q E hr h => ?_)
  · obtain ⟨nv, na, a, vv, aa, rv, ra, po, s, rfl, _⟩ := h
    rfl
  · obtain ⟨nv, na, a, vv, aa, rv, ra, po, s, rfl, hs, k⟩ := h
    refine ⟨_, PSs.nox ((pss_one (ps_ret (pe_lst (pa_cons (pe_lc (own := [("_law_row_here", 1)]) rfl sc_law_copy.nd (pi_list (pe_ix ix_list (pv 0) pe_int (fun _ _ => rfl))) (blkOk_by (own := [("_law_row_here", 1)]) (N := ["_law_state", "_law_row_here"]) (sc := defScope s_law_copy) (by decide +kernel)) (fun _ _ _ _ _ => (pg_name (i := 1) sc_law_copy.nd rfl (Or.inl rfl))) (fun _ _ _ _ _ => pts_nil) (fun _ _ _ _ _ => (pe_callTy (call_list_ofK (K := K) rfl) (by rfl) T.list bt_list (pa_cons (pv 1) pa_nil)))) (pa_cons (pe_lc (own := [("_law_row_here", 1)]) rfl sc_law_copy.nd (pi_list (pe_ix ix_list (pv 0) pe_int (fun _ _ => rfl))) (blkOk_by (own := [("_law_row_here", 1)]) (N := ["_law_state", "_law_row_here"]) (sc := defScope s_law_copy) (by decide +kernel)) (fun _ _ _ _ _ => (pg_name (i := 1) sc_law_copy.nd rfl (Or.inl rfl))) (fun _ _ _ _ _ => pts_nil) (fun _ _ _ _ _ => (pe_callTy (call_list_ofK (K := K) rfl) (by rfl) T.list bt_list (pa_cons (pv 1) pa_nil)))) (pa_cons (pe_callTy call_list_of (by rfl) T.list bt_list (pa_cons (pe_ix ix_list (pv 0) pe_int (fun _ _ => rfl)) pa_nil)) pa_nil))))))), ?_⟩
    dsimp only [cxOf, Cx.nox]
    refine ⟨_, rfl, a, _, 0, _, rfl, rfl, SqL.of hs.top, rfl, vv, rfl, ⟨_, SqL.of hs.vs⟩, fun D1 nD1 => ?_⟩
    refine lc_list (K := K) (xs := [V.ref rv]) (fun i Hy => Same H Hy ∧ ∃ acc, Hy D1 = some (.lst acc) ∧ (i = 0 → acc = []) ∧ (i = 1 → ∃ r, acc = [V.ref r] ∧ H r = none ∧ Hy r = some (.lst (optV nv s.x)))) ⟨new_same nD1, [], upd_same, (fun _ => rfl), fun z => nomatch z⟩ (fun i Hy _ ⟨sy, _⟩ => SqL.of (sy _ _ hs.vs)) ?_ ?_
    · rintro i xa Hy hi ⟨sy, acc, qa, e0, _⟩
      have i0 : i = 0 := by have := (List.getElem?_eq_some_iff.mp hi).1; have : i < 1 := this; omega
      subst i0
      cases hi
      cases e0 rfl
      refine ⟨rfl, _, rfl, rv, _, rfl, .inl (SqL.of (sy _ _ hs.v)), fun l nl => ?_⟩
      have sl := new_same (o := HO.lst (optV nv s.x)) nl
      have lD : l ≠ D1 := fun z => by rw [z, qa] at nl; cases nl
      exact ⟨[], sl _ _ qa, (by show 0 < sizeLine; decide), fun b o h => by rw [upd_ne (ne_of_none h nD1)]; exact sl _ _ (sy _ _ h), [V.ref l], upd_same, (fun z => nomatch z), fun _ => ⟨l, rfl, Same.none sy nl, by rw [upd_ne lD]; exact upd_same⟩⟩
    rintro H1 ⟨s1, acc, q1, _, e1⟩
    obtain ⟨rv', rfl, nrv, hrv⟩ := e1 rfl
    have hs1 := hs.same s1
    refine ⟨_, rfl, a, _, 1, _, rfl, rfl, SqL.of hs1.top, rfl, aa, rfl, ⟨_, SqL.of hs1.am⟩, fun D2 nD2 => ?_⟩
    refine lc_list (K := K) (xs := [V.ref ra]) (fun i Hy => Same H1 Hy ∧ ∃ acc, Hy D2 = some (.lst acc) ∧ (i = 0 → acc = []) ∧ (i = 1 → ∃ r, acc = [V.ref r] ∧ H1 r = none ∧ Hy r = some (.lst (optV na s.h)))) ⟨new_same nD2, [], upd_same, (fun _ => rfl), fun z => nomatch z⟩ (fun i Hy _ ⟨sy, _⟩ => SqL.of (sy _ _ hs1.am)) ?_ ?_
    · rintro i xa Hy hi ⟨sy, acc, qa, e0, _⟩
      have i0 : i = 0 := by have := (List.getElem?_eq_some_iff.mp hi).1; have : i < 1 := this; omega
      subst i0
      cases hi
      cases e0 rfl
      refine ⟨rfl, _, rfl, ra, _, rfl, .inl (SqL.of (sy _ _ hs1.h)), fun l nl => ?_⟩
      have sl := new_same (o := HO.lst (optV na s.h)) nl
      have lD : l ≠ D2 := fun z => by rw [z, qa] at nl; cases nl
      exact ⟨[], sl _ _ qa, (by show 0 < sizeLine; decide), fun b o h => by rw [upd_ne (ne_of_none h nD2)]; exact sl _ _ (sy _ _ h), [V.ref l], upd_same, (fun z => nomatch z), fun _ => ⟨l, rfl, Same.none sy nl, by rw [upd_ne lD]; exact upd_same⟩⟩
    rintro H2 ⟨s2, acc, q2, _, e2⟩
    obtain ⟨ra', rfl, nra, hra⟩ := e2 rfl
    have hs2 := hs1.same s2
    refine ⟨_, rfl, a, _, 2, _, rfl, rfl, SqL.of hs2.top, rfl, po, _, rfl, .inl (SqL.of hs2.o), fun po' npo => ?_⟩
    have s3 := new_same (o := HO.lst (optV na s.o)) npo
    have hpo := upd_same (H := H2) (a := po') (o := HO.lst (optV na s.o))
    generalize upd H2 po' (HO.lst (optV na s.o)) = H3 at s3 hpo ⊢
    refine ⟨(by show 3 ≤ sizeLine; decide), fun p np => ?_⟩
    have s4 := new_same (o := HO.lst [V.ref D1, V.ref D2, V.ref po']) np
    have s24 := s3.trans s4
    refine k p D1 D2 rv' ra' po' _ ((s1.trans s2).trans s24) ⟨upd_same, s24 _ _ (s2 _ _ q1), s24 _ _ q2, s24 _ _ (s2 _ _ hrv), s24 _ _ hra, s4 _ _ hpo, ne_of_none hrv nra, ne_of_none (s2 _ _ hrv) npo, ne_of_none hra npo⟩ (all6 (Same.none ((s1.trans s2).trans s3) np) nD1 (Same.none s1 nD2) nrv (Same.none s1 nra) (Same.none (s1.trans s2) npo))
theorem cal_lcopy {f : Addr} {fd : FuncData} (F : FnP K "_law_copy" "_law_copy" s_law_copy f fd) (T : Txt K mg) (g : mg "_law_copy" = some (.ref f)) : C8.Cal P w K mg base 1 "_law_copy" spLCopy [] :=
  ⟨f, fd, _, [], ok_lcopy F T, g, F.kp, F.bindsN fun _ _ _ _ _ _ us hl => match us, hl with | [_], _ => rfl, .nil⟩
/-! ### told -/
def spLTold : Sp := fun vs H Q _ => ∃ (nv na : Bool) (a vv aa rv ra po : Addr) (s : S), vs = [.ref a] ∧ LSt H nv na a vv aa rv ra po s ∧ ∀ t H', Same H H' → NK H' (eS nv na s) (.ref t) → Q (.ref t) H'
theorem sc_law_told : FnScope ["_law_state", "_law_row_here"] ["_law_state"] (defScope s_law_told) := ⟨rfl, rfl, rfl, by decide +kernel, rfl, by decide +kernel, by decide +kernel⟩
theorem ok_ltold {f : Addr} {fd : FuncData} (F : FnP K "_law_told" "_law_told" s_law_told f fd) (T : Txt K mg) : FnOk P w K mg base CX0 1 f fd ["_law_state"] spLTold := by
  refine F.ok sc_law_told (fun vs H Q E h => ?_) (fun cdv A outer s H vs Q E hr h => ?_)
  · obtain ⟨nv, na, a, vv, aa, rv, ra, po, s, rfl, _⟩ := h
    rfl
  · obtain ⟨nv, na, a, vv, aa, rv, ra, po, s, rfl, hs, k⟩ := h
    refine ⟨_, PSs.nox ((pss_one (ps_ret (pe_tup (pa_cons (pe_callTy call_tuple_of (by rfl) T.tuple bt_tuple (pa_cons (pe_lc (own := [("_law_row_here", 1)]) rfl sc_law_told.nd (pi_list (pe_ix ix_list (pv 0) pe_int (fun _ _ => rfl))) (blkOk_by (own := [("_law_row_here", 1)]) (N := ["_law_state", "_law_row_here"]) (sc := defScope s_law_told) (by decide +kernel)) (fun _ _ _ _ _ => (pg_name (i := 1) sc_law_told.nd rfl (Or.inl rfl))) (fun _ _ _ _ _ => pts_nil) (fun _ _ _ _ _ => (pe_callTy (call_tuple_ofK (K := K) rfl) (by rfl) T.tuple bt_tuple (pa_cons (pv 1) pa_nil)))) pa_nil)) (pa_cons (pe_callTy call_tuple_of (by rfl) T.tuple bt_tuple (pa_cons (pe_lc (own := [("_law_row_here", 1)]) rfl sc_law_told.nd (pi_list (pe_ix ix_list (pv 0) pe_int (fun _ _ => rfl))) (blkOk_by (own := [("_law_row_here", 1)]) (N := ["_law_state", "_law_row_here"]) (sc := defScope s_law_told) (by decide +kernel)) (fun _ _ _ _ _ => (pg_name (i := 1) sc_law_told.nd rfl (Or.inl rfl))) (fun _ _ _ _ _ => pts_nil) (fun _ _ _ _ _ => (pe_callTy (call_tuple_ofK (K := K) rfl) (by rfl) T.tuple bt_tuple (pa_cons (pv 1) pa_nil)))) pa_nil)) (pa_cons (pe_callTy call_tuple_of (by rfl) T.tuple bt_tuple (pa_cons (pe_ix ix_list (pv 0) pe_int (fun _ _ => rfl)) pa_nil)) pa_nil))))))), ?_⟩
    dsimp only [cxOf, Cx.nox]
    refine ⟨_, rfl, a, _, 0, _, rfl, rfl, SqL.of hs.top, rfl, vv, rfl, ⟨_, SqL.of hs.vs⟩, fun D1 nD1 => ?_⟩
    refine lc_list (K := K) (xs := [V.ref rv]) (fun i Hy => Same H Hy ∧ ∃ acc, Hy D1 = some (.lst acc) ∧ (i = 0 → acc = []) ∧ (i = 1 → ∃ r, acc = [V.ref r] ∧ Hy r = some (.tup (optV nv s.x)))) ⟨new_same nD1, [], upd_same, (fun _ => rfl), fun z => nomatch z⟩ (fun i Hy _ ⟨sy, _⟩ => SqL.of (sy _ _ hs.vs)) ?_ ?_
    · rintro i xa Hy hi ⟨sy, acc, qa, e0, _⟩
      have i0 : i = 0 := by have := (List.getElem?_eq_some_iff.mp hi).1; have : i < 1 := this; omega
      subst i0
      cases hi
      cases e0 rfl
      refine ⟨rfl, _, rfl, rv, _, rfl, .inl ⟨SqL.of (sy _ _ hs.v), fun l nl => ?_⟩⟩
      have sl := new_same (o := HO.tup (optV nv s.x)) nl
      have lD : l ≠ D1 := fun z => by rw [z, qa] at nl; cases nl
      exact ⟨[], sl _ _ qa, (by show 0 < sizeLine; decide), fun b o h => by rw [upd_ne (ne_of_none h nD1)]; exact sl _ _ (sy _ _ h), [V.ref l], upd_same, (fun z => nomatch z), fun _ => ⟨l, rfl, by rw [upd_ne lD]; exact upd_same⟩⟩
    rintro H1 ⟨s1, acc, q1, _, e1⟩
    obtain ⟨b0, rfl, hb0⟩ := e1 rfl
    refine ⟨D1, _, rfl, .inl ⟨SqL.of q1, fun a0 na0 => ?_⟩⟩
    have t1 := new_same (o := HO.tup [V.ref b0]) na0
    have ha0 := upd_same (H := H1) (a := a0) (o := HO.tup [V.ref b0])
    have hb0' := t1 _ _ hb0
    have S1 := s1.trans t1
    generalize upd H1 a0 (HO.tup [V.ref b0]) = G1 at S1 ha0 hb0' ⊢
    clear t1 na0 q1 hb0 s1
    have hs1 := hs.same S1
    refine ⟨_, rfl, a, _, 1, _, rfl, rfl, SqL.of hs1.top, rfl, aa, rfl, ⟨_, SqL.of hs1.am⟩, fun D2 nD2 => ?_⟩
    refine lc_list (K := K) (xs := [V.ref ra]) (fun i Hy => Same G1 Hy ∧ ∃ acc, Hy D2 = some (.lst acc) ∧ (i = 0 → acc = []) ∧ (i = 1 → ∃ r, acc = [V.ref r] ∧ Hy r = some (.tup (optV na s.h)))) ⟨new_same nD2, [], upd_same, (fun _ => rfl), fun z => nomatch z⟩ (fun i Hy _ ⟨sy, _⟩ => SqL.of (sy _ _ hs1.am)) ?_ ?_
    · rintro i xa Hy hi ⟨sy, acc, qa, e0, _⟩
      have i0 : i = 0 := by have := (List.getElem?_eq_some_iff.mp hi).1; have : i < 1 := this; omega
      subst i0
      cases hi
      cases e0 rfl
      refine ⟨rfl, _, rfl, ra, _, rfl, .inl ⟨SqL.of (sy _ _ hs1.h), fun l nl => ?_⟩⟩
      have sl := new_same (o := HO.tup (optV na s.h)) nl
      have lD : l ≠ D2 := fun z => by rw [z, qa] at nl; cases nl
      exact ⟨[], sl _ _ qa, (by show 0 < sizeLine; decide), fun b o h => by rw [upd_ne (ne_of_none h nD2)]; exact sl _ _ (sy _ _ h), [V.ref l], upd_same, (fun z => nomatch z), fun _ => ⟨l, rfl, by rw [upd_ne lD]; exact upd_same⟩⟩
    rintro H2 ⟨s2, acc, q2, _, e2⟩
    obtain ⟨b1, rfl, hb1⟩ := e2 rfl
    refine ⟨D2, _, rfl, .inl ⟨SqL.of q2, fun a1 na1 => ?_⟩⟩
    have t2 := new_same (o := HO.tup [V.ref b1]) na1
    have ha1 := upd_same (H := H2) (a := a1) (o := HO.tup [V.ref b1])
    have hb1' := t2 _ _ hb1
    have S2 := s2.trans t2
    generalize upd H2 a1 (HO.tup [V.ref b1]) = G2 at S2 ha1 hb1' ⊢
    have hs2 := hs1.same S2
    refine ⟨_, rfl, a, _, 2, _, rfl, rfl, SqL.of hs2.top, rfl, po, _, rfl, .inl ⟨SqL.of hs2.o, fun b2 nb2 => ?_⟩⟩
    have s3 := new_same (o := HO.tup (optV na s.o)) nb2
    have hb2 := upd_same (H := G2) (a := b2) (o := HO.tup (optV na s.o))
    generalize upd G2 b2 (HO.tup (optV na s.o)) = H3 at s3 hb2 ⊢
    refine ⟨(by show 3 ≤ sizeLine; decide), fun p np => ?_⟩
    have s4 := new_same (o := HO.tup [V.ref a0, V.ref a1, V.ref b2]) np
    have s24 := s3.trans s4
    exact k p _ ((S1.trans S2).trans s24) (eS_open.mpr ⟨p, a0, a1, b0, b1, b2, rfl, upd_same, s24 _ _ (S2 _ _ ha0), s24 _ _ ha1, s24 _ _ (S2 _ _ hb0'), s24 _ _ hb1', s4 _ _ hb2⟩)
theorem cal_ltold {f : Addr} {fd : FuncData} (F : FnP K "_law_told" "_law_told" s_law_told f fd) (T : Txt K mg) (g : mg "_law_told" = some (.ref f)) : C8.Cal P w K mg base 1 "_law_told" spLTold [] :=
  ⟨f, fd, _, [], ok_ltold F T, g, F.kp, F.bindsN fun _ _ _ _ _ _ us hl => match us, hl with | [_], _ => rfl, .nil⟩
/-! ### start -/
def spLStart : Sp := fun vs H Q _ => ∃ (c : Cf) (hv : V), vs = [hv] ∧ LhAt H c hv ∧ c.Ok ∧
  ∀ a vv aa rv ra po H', Same H H' → LSt H' c.nv c.na a vv aa rv ra po (first c) → (∀ x ∈ [a, vv, aa, rv, ra, po], H x = none) → Q (.ref a) H'
theorem sc_law_start : FnScope ["_law_house_here", "_law_names", "_law_asset", "_law_amounts", "_law_contract_here", "_law_held", "_law_pair", "_law_name", "_law_values", "_law_variable"] ["_law_house_here"] (defScope s_law_start) := ⟨rfl, rfl, rfl, by decide +kernel, rfl, by decide +kernel, by decide +kernel⟩
theorem ok_lstart {f : Addr} {fd : FuncData} (F : FnP K "_law_start" "_law_start" s_law_start f fd) (T : Txt K mg) : FnOk P w K mg base CX0 1 f fd ["_law_house_here"] spLStart := by
  refine F.ok sc_law_start (fun vs H Q E h => ?_) (fun cdv A outer s H vs Q E hr h => ?_)
  · obtain ⟨c, hv, rfl, _⟩ := h
    rfl
  · obtain ⟨c, hv, rfl, hh, co, k⟩ := h
    have hu := hu_of hr
    refine ⟨_, PSs.nox ((pss_cons (ps_setLc (i := 1) (own := [("_law_asset", 2)]) rfl sc_law_start.nd rfl rfl (sw_true rfl rfl rfl (by decide +kernel)) (pi_list (pe_ix ix_tup (pv 0) pe_int (fun _ _ => rfl))) (blkOk_by (own := [("_law_asset", 2)]) (N := ["_law_house_here", "_law_names", "_law_asset", "_law_amounts", "_law_contract_here", "_law_held", "_law_pair", "_law_name", "_law_values", "_law_variable"]) (sc := defScope s_law_start) (by decide +kernel)) (fun _ _ _ _ _ => (pg_name (i := 2) sc_law_start.nd rfl (Or.inl rfl))) (fun _ _ _ _ _ => pts_nil) (fun _ _ _ _ _ => (pe_ix (ix_tupK (K := K) rfl) (pv 2) pe_int (fun _ _ => rfl))))
      (pss_cons (ps_set (i := 3) sc_law_start.nd rfl (Or.inl rfl) (pe_lst pa_nil))
      (pss_cons (ps_for PassesOwn.never rfl (pi_list (pe_ix ix_tup (pv 0) pe_int (fun _ _ => rfl))) (pg_name (i := 4) sc_law_start.nd rfl (Or.inl rfl)) (pss_cons (ps_set (i := 5) sc_law_start.nd rfl (Or.inr rfl) pe_dnewK)
      (pss_cons (ps_for PassesOwn.never rfl (pi_tup (pe_ix ix_tup (pv 4) pe_int (fun _ _ => rfl))) (pg_name (i := 6) sc_law_start.nd rfl (Or.inl rfl)) (pss_one (ps_dput hu (pv 5) (pe_ix ix_tup (pv 6) pe_int (fun _ _ => rfl)) (pe_ix ix_tup (pv 6) pe_int (fun _ _ => rfl)) rfl)))
      (pss_one (ps_expr (pe_bm PySem.F.plainAttrs_list PySem.F.slot_list_append PySem.F.type_list_append mt_append (pv 3) (pa_cons (pe_lc (own := [("_law_name", 7)]) rfl sc_law_start.nd (pi_list (pv 1)) (blkOk_by (own := [("_law_name", 7)]) (N := ["_law_house_here", "_law_names", "_law_asset", "_law_amounts", "_law_contract_here", "_law_held", "_law_pair", "_law_name", "_law_values", "_law_variable"]) (sc := defScope s_law_start) (by decide +kernel)) (fun _ _ _ _ _ => (pg_name (i := 7) sc_law_start.nd rfl (Or.inl rfl))) (fun _ _ _ _ _ => pts_nil) (fun _ _ _ _ _ => (pe_dget2 hu (pv 5) (pv 7) pe_int ⟨rfl, rfl, rfl, rfl⟩))) pa_nil)))))))
      (pss_cons (ps_setLc (i := 8) (own := [("_law_contract_here", 4)]) rfl sc_law_start.nd rfl rfl (sw_true rfl rfl rfl (by decide +kernel)) (pi_list (pe_ix ix_tup (pv 0) pe_int (fun _ _ => rfl))) (blkOk_by (own := [("_law_contract_here", 4)]) (N := ["_law_house_here", "_law_names", "_law_asset", "_law_amounts", "_law_contract_here", "_law_held", "_law_pair", "_law_name", "_law_values", "_law_variable"]) (sc := defScope s_law_start) (by decide +kernel)) (fun _ _ _ _ _ => (pg_name (i := 4) sc_law_start.nd rfl (Or.inl rfl))) (fun _ _ _ _ _ => pts_nil) (fun _ _ _ _ _ => (pe_lc (own := [("_law_variable", 9)]) rfl sc_law_start.nd (pi_tupK (K := K) rfl (pe_ix (ix_tupK (K := K) rfl) (pv 4) pe_int (fun _ _ => rfl))) (blkOk_by (own := [("_law_variable", 9)]) (by rfl)) (fun _ _ _ _ _ => (pg_name (i := 9) sc_law_start.nd rfl (Or.inl rfl))) (fun _ _ _ _ _ => pts_nil) (fun _ _ _ _ _ => (pe_ix (ix_tupK (K := K) rfl) (pv 9) pe_int (fun _ _ => rfl))))))
      (pss_one (ps_ret (pe_lst (pa_cons (pv 8) (pa_cons (pv 3) (pa_cons (pe_lc (own := [("_law_asset", 2)]) rfl sc_law_start.nd (pi_list (pe_ix ix_tup (pv 0) pe_int (fun _ _ => rfl))) (blkOk_by (own := [("_law_asset", 2)]) (N := ["_law_house_here", "_law_names", "_law_asset", "_law_amounts", "_law_contract_here", "_law_held", "_law_pair", "_law_name", "_law_values", "_law_variable"]) (sc := defScope s_law_start) (by decide +kernel)) (fun _ _ _ _ _ => (pg_name (i := 2) sc_law_start.nd rfl (Or.inl rfl))) (fun _ _ _ _ _ => pts_nil) (fun _ _ _ _ _ => (pe_ix (ix_tupK (K := K) rfl) (pv 2) pe_int (fun _ _ => rfl)))) pa_nil))))))))))), ?_⟩
    dsimp only [cxOf, Cx.nox]
    obtain ⟨b, la, lc, avs, ct, rfl, q1, q2, q3, q4, q5⟩ := id hh
    obtain ⟨ca, av, ah, ap, cvs, rfl, u1, u2, u3, u4, u5⟩ := q5
    obtain ⟨ah, hhs, rfl, fr, hn⟩ := u3
    have avl : avs.length = if c.na then 1 else 0 := by
      rw [← q3.length]
      unfold eAss
      cases c.na <;> rfl
    have asset : ∀ {i : Nat} {x : V}, avs[i]? = some x → i = 0 ∧ c.na = true ∧ ∃ t, x = .ref t ∧ H t = some (.tup [.str "a", .int c.o0]) := fun {i x} hi => by
      have hl := (List.getElem?_eq_some_iff.mp hi).1
      have en : c.na = true := by
        cases z : c.na with
        | true => rfl
        | false => rw [avl, z] at hl; exact absurd hl (Nat.not_lt_zero _)
      obtain ⟨t, rfl, ht⟩ := ass_open en q3
      have i0 : i = 0 := by have : i < 1 := hl; omega
      subst i0
      cases hi
      exact ⟨rfl, en, t, rfl, ht⟩
    -- names
    refine ⟨_, rfl, b, _, 0, _, rfl, rfl, SqT.of q1, rfl, la, rfl, ⟨_, SqL.of q2⟩, fun l1 n1 => ?_⟩
    refine lc_list (K := K) (xs := avs) (fun i Hx => Same H Hx ∧ Hx l1 = some (.lst ((asL c.na).take i))) ⟨new_same n1, upd_same⟩ (fun i H1 _ ⟨s1, _⟩ => SqL.of (s1 _ _ q2)) ?_ ?_
    · rintro i x Hx hi ⟨sx, qx⟩
      obtain ⟨rfl, na, t, rfl, e1⟩ := asset hi
      refine ⟨rfl, _, rfl, t, _, 0, _, rfl, rfl, SqT.of (sx _ _ e1), rfl, ?_⟩
      exact ⟨_, qx, by show 0 < sizeLine; decide, fun a o h => by rw [upd_ne (ne_of_none h n1)]; exact sx _ _ h, by rw [upd_same, na]; rfl⟩
    rintro H1 ⟨s1, w1⟩
    have eN : (asL c.na).take avs.length = asL c.na := List.take_of_length_le (by rw [avl]; cases c.na <;> exact Nat.le_refl _)
    rw [eN] at w1
    -- amounts
    refine ⟨(by show 0 ≤ sizeLine; decide), fun l2 n2 => ?_⟩
    have s2 := s1.trans (new_same (o := HO.lst []) n2)
    have w2 := new_same (o := HO.lst []) n2 _ _ w1
    have m2 := upd_same (H := H1) (a := l2) (o := HO.lst [])
    have n2H : H l2 = none := Same.none s1 n2
    have l12 : l1 ≠ l2 := ne_of_none w1 n2
    generalize upd H1 l2 (HO.lst []) = H2 at s2 w2 m2 ⊢
    refine ⟨_, rfl, b, _, 0 + 1, _, rfl, rfl, SqT.of (s2 _ _ q1), rfl, lc, rfl, ⟨_, SqL.of (s2 _ _ q4)⟩, for_list (K := K) (xs := [V.ref ca]) (fun i σ Hz => ∃ x4 x5 x6 acc, σ = [some (.ref b), some (.ref l1), none, some (.ref l2), x4, x5, x6, none, none, none] ∧ Same H Hz ∧ Hz l1 = some (.lst (asL c.na)) ∧ Hz l2 = some (.lst acc) ∧ (i = 0 → acc = []) ∧
        (i = 1 → ∃ r, acc = [V.ref r] ∧ H r = none ∧ r ≠ l2 ∧ Hz r = some (.lst (optV c.na (c.hd.getD 0)))))
      ⟨_, _, _, _, rfl, s2, w2, m2, (fun _ => rfl), fun z => nomatch z⟩ (fun i σ Hz _ ⟨_, _, _, _, _, sz, _⟩ => SqL.of (sz _ _ q4)) ?_ ?_⟩
    · rintro i x σ Hz hi ⟨x4, x5, x6, acc, rfl, sz, wz, mz, e0, _⟩
      have i0 : i = 0 := by have := (List.getElem?_eq_some_iff.mp hi).1; have : i < 1 := this; omega
      subst i0
      cases hi
      cases e0 rfl
      refine fun dd nd => ?_
      have sd := new_same (o := HO.dK []) nd
      have dq := upd_same (H := Hz) (a := dd) (o := HO.dK [])
      have d1 : l1 ≠ dd := ne_of_none wz nd
      have d2 : l2 ≠ dd := ne_of_none mz nd
      have ddH : H dd = none := Same.none sz nd
      have Sd := sz.trans sd
      have wd := sd _ _ wz
      have md := sd _ _ mz
      generalize upd Hz dd (HO.dK []) = H3 at sd dq Sd wd md ⊢
      refine ⟨_, rfl, ca, _, 2, _, rfl, rfl, SqT.of (Sd _ _ u1), rfl, ah, rfl, ⟨_, (fr.same Sd).sq⟩, for_tup (K := K) (xs := hhs) (fun i σ Hy => ∃ x6 kvs, σ = [some (.ref b), some (.ref l1), none, some (.ref l2), some (.ref ca), some (.ref dd), x6, none, none, none] ∧ SameBut dd H3 Hy ∧ Hy dd = some (.dK kvs) ∧ kvs = ((match c.hd with | none => [] | some n => [((Sum.inr "a" : L2.Key), V.int n)]).take i))
        ⟨_, _, rfl, SameBut.refl _ _, dq, by simp⟩ (fun i σ Hy _ ⟨_, _, _, sy, _⟩ => (FrT.keep sy (fr.same Sd) fun o _ z => by obtain ⟨o', h', _⟩ := fr; rw [z, ddH] at h'; cases h').sq) ?_ ?_⟩
      · rintro i x σ Hy hi ⟨x6, kvs, rfl, sy, qy, ek⟩
        cases zh : c.hd with
        | none =>
          unfold eHold at hn
          rw [zh] at hn
          cases hn
          simp at hi
        | some n =>
          unfold eHold at hn
          rw [zh] at hn
          cases hn with
          | cons g1 g2 =>
            cases g2
            cases g1 with
            | @tup ta _ _ k1 k2 =>
              cases k2 with
              | cons k3 k4 =>
                cases k3
                cases k4 with
                | cons k5 k6 =>
                  cases k5
                  cases k6
                  have i0 : i = 0 := by have := (List.getElem?_eq_some_iff.mp hi).1; have : i < 1 := this; omega
                  subst i0
                  cases hi
                  rw [zh] at ek
                  have ek : kvs = [] := ek
                  subst ek
                  have tk := sy _ _ (Sd _ _ k1) (ne_of_none k1 ddH)
                  refine ⟨_, rfl, ta, _, 1, _, rfl, rfl, SqT.of tk, rfl, _, rfl, _, rfl, ta, _, 0, _, rfl, rfl, SqT.of tk, rfl, dd, _, rfl, DPut.k (k := Sum.inr "a") qy (by show 0 < sizeLine; decide), ?_⟩
                  exact ⟨_, _, rfl, SameBut.upd fun a o h n => sy _ _ h n, upd_same, rfl⟩
      · rintro σ Hy ⟨x6, kvs, rfl, sy, qy, ek⟩
        have ek2 : kvs = (match c.hd with | none => [] | some n => [((Sum.inr "a" : L2.Key), V.int n)]) := by
          rw [ek]
          refine List.take_of_length_le ?_
          rw [← hn.length]
          unfold eHold
          cases c.hd <;> exact Nat.le_refl _
        have eh : (valV kvs (Sum.inr "a")).getD (V.int 0) = V.int (c.hd.getD 0) := by
          rw [ek2]
          cases c.hd <;> rfl
        have wy := sy _ _ wd d1
        have my := sy _ _ md d2
        have Sy : Same H Hy := fun a o h => sy _ _ (Sd _ _ h) (ne_of_none h ddH)
        refine ⟨_, rfl, .inl ⟨rfl, _, SqL.of my⟩, _, rfl, l1, rfl, ⟨_, SqL.of wy⟩, fun l5 n5 => ?_⟩
        refine lc_list (K := K) (xs := asL c.na) (fun i Hx => Same Hy Hx ∧ Hx l5 = some (.lst ((optV c.na (c.hd.getD 0)).take i))) ⟨new_same n5, upd_same⟩ (fun i H1 _ ⟨sx, _⟩ => SqL.of (sx _ _ wy)) ?_ ?_
        · rintro i x Hx hi ⟨sx, qx⟩
          have na : c.na = true := by
            cases z : c.na with
            | true => rfl
            | false => rw [z] at hi; simp [asL] at hi
          rw [na] at hi
          have i0 : i = 0 := by have := (List.getElem?_eq_some_iff.mp hi).1; have : i < 1 := this; omega
          subst i0
          cases hi
          refine ⟨rfl, ?_⟩
          refine ⟨_, rfl, dd, rfl, .inl ⟨_, .inl (sx _ _ qy)⟩, _, rfl, _, DGet.k (k := Sum.inr "a") (sx _ _ qy), _, qx, (by show 0 < sizeLine; decide), fun a o h => ?_, ?_⟩
          · rw [upd_ne (ne_of_none h n5)]; exact sx _ _ h
          · rw [upd_same, eh, na]; rfl
        · rintro Hx ⟨sx, qx⟩
          have eV : (optV c.na (c.hd.getD 0)).take (asL c.na).length = optV c.na (c.hd.getD 0) := by cases c.na <;> rfl
          rw [eV] at qx
          have l25 : l5 ≠ l2 := fun z => by rw [z, my] at n5; cases n5
          refine ⟨l2, _, _, rfl, rfl, sx _ _ my, (by show 0 < sizeLine; decide), ?_⟩
          refine ⟨_, _, _, _, rfl, fun a o h => ?_, ?_, upd_same, (fun z => nomatch z), fun _ => ⟨l5, rfl, Same.none Sy n5, l25, ?_⟩⟩
          · rw [upd_ne (ne_of_none h n2H)]; exact sx _ _ (Sy _ _ h)
          · rw [upd_ne l12]; exact sx _ _ wy
          · rw [upd_ne l25]; exact qx
    rintro σ H3 ⟨x4, x5, x6, acc, rfl, s3, w3, m3, _, e3⟩
    obtain ⟨ra, rfl, nra, ra2, hra⟩ := e3 rfl
    -- values
    obtain ⟨vv0, vvs, rfl, j1, j2⟩ : ∃ z vvs, av = V.ref z ∧ H z = some (.tup vvs) ∧ NKs H (if c.nv then [.tup [.text "x", .num 2, .num c.x0]] else []) vvs := by
      cases u2 with
      | tup z1 z2 => exact ⟨_, _, rfl, z1, z2⟩
    have vl : vvs.length = if c.nv then 1 else 0 := by
      rw [← j2.length]
      cases c.nv <;> rfl
    refine ⟨_, rfl, b, _, 1, _, rfl, rfl, SqT.of (s3 _ _ q1), rfl, lc, rfl, ⟨_, SqL.of (s3 _ _ q4)⟩, fun D1 nD1 => ?_⟩
    refine lc_list (K := K) (xs := [V.ref ca]) (fun i Hy => Same H3 Hy ∧ ∃ acc, Hy D1 = some (.lst acc) ∧ (i = 0 → acc = []) ∧ (i = 1 → ∃ r, acc = [V.ref r] ∧ H3 r = none ∧ Hy r = some (.lst (optV c.nv c.x0)))) ⟨new_same nD1, [], upd_same, (fun _ => rfl), fun z => nomatch z⟩ (fun i Hy _ ⟨sy, _⟩ => SqL.of (sy _ _ (s3 _ _ q4))) ?_ ?_
    · rintro i xa Hy hi ⟨sy, acc, qa, e0, _⟩
      have i0 : i = 0 := by have := (List.getElem?_eq_some_iff.mp hi).1; have : i < 1 := this; omega
      subst i0
      cases hi
      cases e0 rfl
      have Sy := s3.trans sy
      refine ⟨rfl, _, rfl, ca, _, 1, _, rfl, rfl, SqT.of (Sy _ _ u1), rfl, vv0, rfl, ⟨_, SqT.of (Sy _ _ j1)⟩, fun l4 n4 => ?_⟩
      have l4D : l4 ≠ D1 := fun z => by rw [z, qa] at n4; cases n4
      refine lc_tup (K := K) (xs := vvs) (fun i Hx => Same Hy Hx ∧ Hx l4 = some (.lst ((optV c.nv c.x0).take i))) ⟨new_same n4, upd_same⟩ (fun i H1 _ ⟨sx, _⟩ => SqT.of (sx _ _ (Sy _ _ j1))) ?_ ?_
      · rintro i x Hx hi ⟨sx, qx⟩
        have hl := (List.getElem?_eq_some_iff.mp hi).1
        have nv : c.nv = true := by
          cases z : c.nv with
          | true => rfl
          | false => rw [vl, z] at hl; exact absurd hl (Nat.not_lt_zero _)
        have i0 : i = 0 := by rw [vl, nv] at hl; have : i < 1 := hl; omega
        subst i0
        obtain ⟨v0, e1, e2⟩ := j2.get (i := 0) (k := .tup [.text "x", .num 2, .num c.x0]) (by rw [nv]; rfl)
        rw [hi] at e1
        cases e1
        cases NK.tx (TX.same (Sy.trans sx)) _ _ e2 with
        | @tup ta _ _ k1 k2 =>
          cases k2 with
          | cons k3 k4 =>
            cases k4 with
            | cons k5 k6 =>
              cases k6 with
              | cons k7 k8 =>
                cases k7
                cases k8
                refine ⟨rfl, _, rfl, ta, _, 2, _, rfl, rfl, SqT.of k1, rfl, ?_⟩
                exact ⟨_, qx, by show 0 < sizeLine; decide, fun a o h => by rw [upd_ne (ne_of_none h n4)]; exact sx _ _ h, by rw [upd_same, nv]; rfl⟩
      · rintro Hx ⟨sx, qx⟩
        have eV : (optV c.nv c.x0).take vvs.length = optV c.nv c.x0 := List.take_of_length_le (by rw [vl]; cases c.nv <;> exact Nat.le_refl _)
        rw [eV] at qx
        exact ⟨[], sx _ _ qa, (by show 0 < sizeLine; decide), fun b o h => by rw [upd_ne (ne_of_none h nD1)]; exact sx _ _ (sy _ _ h), [V.ref l4], upd_same, (fun z => nomatch z), fun _ => ⟨l4, rfl, Same.none sy n4, by rw [upd_ne l4D]; exact qx⟩⟩
    rintro H4 ⟨s4, acc, q9, _, e4⟩
    obtain ⟨rv, rfl, nrv, hrv⟩ := e4 rfl
    have S4 := s3.trans s4
    -- what the outsiders have
    refine ⟨_, rfl, _, rfl, _, rfl, b, _, 0, _, rfl, rfl, SqT.of (S4 _ _ q1), rfl, la, rfl, ⟨_, SqL.of (S4 _ _ q2)⟩, fun l6 n6 => ?_⟩
    refine lc_list (K := K) (xs := avs) (fun i Hx => Same H4 Hx ∧ Hx l6 = some (.lst ((optV c.na c.o0).take i))) ⟨new_same n6, upd_same⟩ (fun i H1 _ ⟨sx, _⟩ => SqL.of (sx _ _ (S4 _ _ q2))) ?_ ?_
    · rintro i x Hx hi ⟨sx, qx⟩
      obtain ⟨rfl, na, t', rfl, e1⟩ := asset hi
      refine ⟨rfl, _, rfl, t', _, 1, _, rfl, rfl, SqT.of ((S4.trans sx) _ _ e1), rfl, ?_⟩
      exact ⟨_, qx, by show 0 < sizeLine; decide, fun a o h => by rw [upd_ne (ne_of_none h n6)]; exact sx _ _ h, by rw [upd_same, na]; rfl⟩
    rintro Hx ⟨sx, qx⟩
    have eO : (optV c.na c.o0).take avs.length = optV c.na c.o0 := List.take_of_length_le (by rw [avl]; cases c.na <;> exact Nat.le_refl _)
    rw [eO] at qx
    refine ⟨(by show 3 ≤ sizeLine; decide), fun p np => ?_⟩
    have sp := new_same (o := HO.lst [V.ref D1, V.ref l2, V.ref l6]) np
    have s4p := sx.trans sp
    have ex : optV c.nv c.x0 = optV c.nv (first c).x := by
      unfold first
      cases c.nv <;> rfl
    have eo : optV c.na c.o0 = optV c.na (first c).o := by
      unfold first
      cases c.na <;> rfl
    refine k p D1 l2 rv ra l6 _ (S4.trans s4p) ⟨upd_same, s4p _ _ q9, s4p _ _ (s4 _ _ m3), ?_, s4p _ _ (s4 _ _ hra), ?_, ne_of_none' hra nrv, ne_of_none hrv n6, ne_of_none (s4 _ _ hra) n6⟩ (all6 (Same.none (S4.trans sx) np) (Same.none s3 nD1) n2H (Same.none s3 nrv) nra (Same.none S4 n6))
    · rw [← ex]; exact s4p _ _ hrv
    · rw [← eo]; exact sp _ _ qx
theorem cal_lstart {f : Addr} {fd : FuncData} (F : FnP K "_law_start" "_law_start" s_law_start f fd) (T : Txt K mg) (g : mg "_law_start" = some (.ref f)) : C8.Cal P w K mg base 1 "_law_start" spLStart [] :=
  ⟨f, fd, _, [], ok_lstart F T, g, F.kp, F.bindsN fun _ _ _ _ _ _ us hl => match us, hl with | [_], _ => rfl, .nil⟩
end
end NC
set_option Elab.async false
set_option linter.all false
set_option maxRecDepth 100000
set_option maxHeartbeats 4000000
/-! The law's own interpreter: act. -/
namespace NC
open PySem PySem.Spec PyProof.Rows L2
def OqR (H : Hp) (l : List (Int × Sm)) (v : V) : Prop := ∃ p vs, v = .ref p ∧ H p = some (.lst vs) ∧ LPd H l vs
/-- the open questions -/
def Ops (H : Hp) (os : List (List (Int × Sm))) (vs : List V) : Prop := Paired (fun l v => OqR H l v) os vs
theorem OqR.same {H H' : Hp} {l : List (Int × Sm)} {v : V} (s : Same H H') : OqR H l v → OqR H' l v
  | ⟨p, vs, e, h1, h2⟩ => ⟨p, vs, e, s _ _ h1, h2.tx (TX.same s)⟩
theorem Ops.same {H H' : Hp} {os : List (List (Int × Sm))} {vs : List V} (s : Same H H') (h : Ops H os vs) : Ops H' os vs := Paired.mapP h fun _ _ => OqR.same s
theorem Paired.unsnoc {α β : Type} {F : α → β → Prop} : ∀ {l : List α} {a : α} {m : List β}, Paired F (l ++ [a]) m → ∃ m' b, m = m' ++ [b] ∧ Paired F l m' ∧ F a b
  | [], a, m, h => by
    cases h with
    | cons h1 h2 =>
      cases h2
      exact ⟨[], _, rfl, .nil, h1⟩
  | x :: r, a, m, h => by
    cases h with
    | cons h1 h2 =>
      obtain ⟨m', b, rfl, h3, h4⟩ := Paired.unsnoc h2
      exact ⟨_ :: m', b, rfl, .cons h1 h3, h4⟩
abbrev Dw (w ol rv ra po : Addr) : List Addr := [w, ol, rv, ra, po]
theorem memDw {w ol rv ra po x : Addr} : x ∈ Dw w ol rv ra po ↔ x = w ∨ x = ol ∨ x = rv ∨ x = ra ∨ x = po := by
  simp only [Dw, List.mem_cons, List.not_mem_nil, or_false]
/-- the walk's object: the state, the base, the open questions; G stays -/
structure Wk (G : Hp) (nv na : Bool) (w a vv aa rv ra po a' vv' aa' rv' ra' po' ol : Addr) (f : Int) (ovs : List V) (s b : S) (os : List (List (Int × Sm))) (H : Hp) : Prop where
  hw : H w = some (.lst [.ref a, .ref a', .ref ol, .int f])
  ho : H ol = some (.lst ovs)
  st : LSt H nv na a vv aa rv ra po s
  an : a ∉ Dw w ol rv ra po
  vn : vv ∉ Dw w ol rv ra po
  mn : aa ∉ Dw w ol rv ra po
  n1 : w ≠ ol
  n2 : w ∉ [rv, ra, po]
  n3 : ol ∉ [rv, ra, po]
  bs : LSt (cut (Dw w ol rv ra po) H) nv na a' vv' aa' rv' ra' po' b
  op : Ops (cut (Dw w ol rv ra po) H) os ovs
  sm : Same G (cut (Dw w ol rv ra po) H)
section
variable {G H H' : Hp} {nv na : Bool} {w a vv aa rv ra po a' vv' aa' rv' ra' po' ol : Addr} {f : Int} {ovs : List V} {s b s' : S} {os : List (List (Int × Sm))}
theorem Wk.same (h : Wk G nv na w a vv aa rv ra po a' vv' aa' rv' ra' po' ol f ovs s b os H) (t : Same H H') : Wk G nv na w a vv aa rv ra po a' vv' aa' rv' ra' po' ol f ovs s b os H' :=
  ⟨t _ _ h.hw, t _ _ h.ho, h.st.same t, h.an, h.vn, h.mn, h.n1, h.n2, h.n3, h.bs.same (Same.cut t), h.op.same (Same.cut t), h.sm.trans (Same.cut t)⟩
theorem Wk.go (h : Wk G nv na w a vv aa rv ra po a' vv' aa' rv' ra' po' ol f ovs s b os H) (t : SameNot [rv, ra, po] H H') (st : LSt H' nv na a vv aa rv ra po s') : Wk G nv na w a vv aa rv ra po a' vv' aa' rv' ra' po' ol f ovs s' b os H' := by
  have cc : Same (cut (Dw w ol rv ra po) H) (cut (Dw w ol rv ra po) H') := SameNot.cut t fun x hx => List.mem_cons_of_mem _ (List.mem_cons_of_mem _ hx)
  exact ⟨t _ _ h.hw h.n2, t _ _ h.ho h.n3, st, h.an, h.vn, h.mn, h.n1, h.n2, h.n3, h.bs.same cc, h.op.same cc, h.sm.trans cc⟩
/-- every cell that may change is a list -/
theorem Wk.isl (h : Wk G nv na w a vv aa rv ra po a' vv' aa' rv' ra' po' ol f ovs s b os H) : ∀ x ∈ Dw w ol rv ra po, ∃ xs, H x = some (.lst xs) := fun x hx => by
  rcases memDw.mp hx with rfl | rfl | rfl | rfl | rfl
  · exact ⟨_, h.hw⟩
  · exact ⟨_, h.ho⟩
  · exact ⟨_, h.st.v⟩
  · exact ⟨_, h.st.h⟩
  · exact ⟨_, h.st.o⟩
theorem Wk.notin (h : Wk G nv na w a vv aa rv ra po a' vv' aa' rv' ra' po' ol f ovs s b os H) {p : Addr} (n : H p = none) : p ∉ Dw w ol rv ra po := fun hx => by
  obtain ⟨xs, e⟩ := h.isl p hx
  rw [n] at e
  cases e
theorem Wk.notup (h : Wk G nv na w a vv aa rv ra po a' vv' aa' rv' ra' po' ol f ovs s b os H) {p : Addr} {xs : List V} (n : H p = some (.tup xs)) : p ∉ Dw w ol rv ra po := fun hx => by
  obtain ⟨xs, e⟩ := h.isl p hx
  rw [n] at e
  cases e
theorem Wk.lhs (h : Wk G nv na w a vv aa rv ra po a' vv' aa' rv' ra' po' ol f ovs s b os H) {c : Cf} {hv : V} (hG : LhAt G c hv) : LhS H hv [rv, ra, po] := fun q la lc e g => by
  obtain ⟨q', la', lc', _, _, e', h1, h2, _, h4, _⟩ := hG
  rw [e] at e'
  cases e'
  have h1' := cut_le _ _ _ _ (h.sm _ _ h1)
  rw [g] at h1'
  cases h1'
  have f1 := cut_not (h.sm _ _ h2)
  have f2 := cut_not (h.sm _ _ h4)
  exact ⟨fun z => f1 (List.mem_cons_of_mem _ (List.mem_cons_of_mem _ z)), fun z => f2 (List.mem_cons_of_mem _ (List.mem_cons_of_mem _ z))⟩
/-- the list of open questions is written -/
theorem Wk.setO (h : Wk G nv na w a vv aa rv ra po a' vv' aa' rv' ra' po' ol f ovs s b os H) {os2 : List (List (Int × Sm))} {ovs2 : List V} (k : Ops (cut (Dw w ol rv ra po) H) os2 ovs2) : Wk G nv na w a vv aa rv ra po a' vv' aa' rv' ra' po' ol f ovs2 s b os2 (upd H ol (.lst ovs2)) := by
  have ec : cut (Dw w ol rv ra po) (upd H ol (.lst ovs2)) = cut (Dw w ol rv ra po) H := cut_upd (memDw.mpr (.inr (.inl rfl)))
  have ne : ∀ {x : Addr}, x ∉ Dw w ol rv ra po → x ≠ ol := fun n z => n (memDw.mpr (.inr (.inl z)))
  have nr : ∀ {x : Addr}, x ∈ [rv, ra, po] → x ≠ ol := fun m z => h.n3 (z ▸ m)
  refine ⟨by rw [upd_ne h.n1]; exact h.hw, upd_same, ⟨by rw [upd_ne (ne h.an)]; exact h.st.top, by rw [upd_ne (ne h.vn)]; exact h.st.vs, by rw [upd_ne (ne h.mn)]; exact h.st.am, by rw [upd_ne (nr (by simp))]; exact h.st.v, by rw [upd_ne (nr (by simp))]; exact h.st.h, by rw [upd_ne (nr (by simp))]; exact h.st.o, h.st.n1, h.st.n2, h.st.n3⟩, h.an, h.vn, h.mn, h.n1, h.n2, h.n3, by rw [ec]; exact h.bs, by rw [ec]; exact k, by rw [ec]; exact h.sm⟩
/-- the base is written anew -/
theorem Wk.base {H3 : Hp} {b3 : S} {a3 vv3 aa3 rv3 ra3 po3 : Addr} (h : Wk G nv na w a vv aa rv ra po a' vv' aa' rv' ra' po' ol f ovs s b os H) (s3 : Same H H3) (st3 : LSt H3 nv na a3 vv3 aa3 rv3 ra3 po3 b3) (nw : ∀ x ∈ [a3, vv3, aa3, rv3, ra3, po3], H x = none) :
    Wk G nv na w a vv aa rv ra po a3 vv3 aa3 rv3 ra3 po3 ol f ovs s b3 os (upd H3 w (.lst [.ref a, .ref a3, .ref ol, .int f])) := by
  have h3 := h.same s3
  have ec : cut (Dw w ol rv ra po) (upd H3 w (.lst [.ref a, .ref a3, .ref ol, .int f])) = cut (Dw w ol rv ra po) H3 := cut_upd (memDw.mpr (.inl rfl))
  have ne : ∀ {x : Addr}, x ∉ Dw w ol rv ra po → x ≠ w := fun n z => n (memDw.mpr (.inl z))
  have nr : ∀ {x : Addr}, x ∈ [rv, ra, po] → x ≠ w := fun m z => h.n2 (z ▸ m)
  have nn : ∀ {x : Addr} {o : HO}, x ∈ [a3, vv3, aa3, rv3, ra3, po3] → H3 x = some o → cut (Dw w ol rv ra po) H3 x = some o := fun m e => cut_of e (h.notin (nw _ m))
  refine ⟨upd_same, by rw [upd_ne (Ne.symm h.n1)]; exact h3.ho, ⟨by rw [upd_ne (ne h.an)]; exact h3.st.top, by rw [upd_ne (ne h.vn)]; exact h3.st.vs, by rw [upd_ne (ne h.mn)]; exact h3.st.am, by rw [upd_ne (nr (by simp))]; exact h3.st.v, by rw [upd_ne (nr (by simp))]; exact h3.st.h, by rw [upd_ne (nr (by simp))]; exact h3.st.o, h.st.n1, h.st.n2, h.st.n3⟩, h.an, h.vn, h.mn, h.n1, h.n2, h.n3, ?_, by rw [ec]; exact h3.op, by rw [ec]; exact h3.sm⟩
  rw [ec]
  exact ⟨nn (by simp) st3.top, nn (by simp) st3.vs, nn (by simp) st3.am, nn (by simp) st3.v, nn (by simp) st3.h, nn (by simp) st3.o, st3.n1, st3.n2, st3.n3⟩
/-- all is undone -/
theorem Wk.fail {H3 Hf : Hp} {a3 vv3 aa3 rv3 ra3 po3 o3 : Addr} {f3 : Int} (h : Wk G nv na w a vv aa rv ra po a' vv' aa' rv' ra' po' ol f ovs s b os H) (s3 : Same H H3) (st3 : LSt H3 nv na a3 vv3 aa3 rv3 ra3 po3 b) (nw : ∀ x ∈ [a3, vv3, aa3, rv3, ra3, po3], H x = none)
    (sf : SameBut w H3 Hf) (hw : Hf w = some (.lst [.ref a3, .ref a', .ref o3, .int f3])) (no : H3 o3 = none) (ho : Hf o3 = some (.lst [])) : Wk G nv na w a3 vv3 aa3 rv3 ra3 po3 a' vv' aa' rv' ra' po' o3 f3 [] b b [] Hf := by
  have w3 := s3 _ _ h.hw
  have nw' : ∀ {x : Addr}, x ∈ [a3, vv3, aa3, rv3, ra3, po3] → x ≠ w := fun m z => by
    have := nw _ m
    rw [z, h.hw] at this
    cases this
  have no' : ∀ {x : Addr} {o : HO}, H3 x = some o → x ≠ o3 := fun e => ne_of_none e no
  have stf : LSt Hf nv na a3 vv3 aa3 rv3 ra3 po3 b := ⟨sf _ _ st3.top (nw' (by simp)), sf _ _ st3.vs (nw' (by simp)), sf _ _ st3.am (nw' (by simp)), sf _ _ st3.v (nw' (by simp)), sf _ _ st3.h (nw' (by simp)), sf _ _ st3.o (nw' (by simp)), st3.n1, st3.n2, st3.n3⟩
  have cc : Same (cut (Dw w ol rv ra po) H) (cut (Dw w o3 rv3 ra3 po3) Hf) := fun x o e => by
    have e1 := cut_le _ _ _ _ e
    have nx := cut_not e
    have xw : x ≠ w := fun z => nx (memDw.mpr (.inl z))
    refine cut_of (sf _ _ (s3 _ _ e1) xw) fun m => ?_
    rcases memDw.mp m with z | z | z | z | z
    · exact xw z
    · exact no' (s3 _ _ e1) z
    · exact ne_of_none e1 (nw rv3 (by simp)) z
    · exact ne_of_none e1 (nw ra3 (by simp)) z
    · exact ne_of_none e1 (nw po3 (by simp)) z
  refine ⟨hw, ho, stf, fun m => ?_, fun m => ?_, fun m => ?_, no' w3, fun m => ?_, fun m => ?_, h.bs.same cc, .nil, h.sm.trans cc⟩
  · rcases memDw.mp m with z | z | z | z | z
    · exact nw' (by simp) z
    · exact no' st3.top z
    · exact ne_lst st3.top st3.v optV_3 z
    · exact ne_lst st3.top st3.h optV_3 z
    · exact ne_lst st3.top st3.o optV_3 z
  · rcases memDw.mp m with z | z | z | z | z
    · exact nw' (x := vv3) (by simp) z
    · exact no' st3.vs z
    · exact ne_lst st3.vs st3.v optV_1 z
    · exact ne_lst st3.vs st3.h optV_1 z
    · exact ne_lst st3.vs st3.o optV_1 z
  · rcases memDw.mp m with z | z | z | z | z
    · exact nw' (x := aa3) (by simp) z
    · exact no' st3.am z
    · exact ne_lst st3.am st3.v optV_1 z
    · exact ne_lst st3.am st3.h optV_1 z
    · exact ne_lst st3.am st3.o optV_1 z
  · exact nw' (x := w) (by simp only [List.mem_cons, List.not_mem_nil, or_false] at m ⊢; rcases m with z | z | z; exact .inr (.inr (.inr (.inl z))); exact .inr (.inr (.inr (.inr (.inl z)))); exact .inr (.inr (.inr (.inr (.inr z))))) rfl
  · simp only [List.mem_cons, List.not_mem_nil, or_false] at m
    rcases m with z | z | z
    · exact no' st3.v z.symm
    · exact no' st3.h z.symm
    · exact no' st3.o z.symm
end
/-- how a run's end changes the state, the base and the open questions -/
def wfin (b : S) (os : List (List (Int × Sm))) : Lg → S × S × List (List (Int × Sm))
  | .fail => (b, b, [])
  | .done s => (s, b, os)
  | .asks s l => (s, b, os ++ [l])
def WkE (G : Hp) (nv na : Bool) (w : Addr) (z : S × S × List (List (Int × Sm))) (H : Hp) : Prop := ∃ a vv aa rv ra po a' vv' aa' rv' ra' po' ol f ovs, Wk G nv na w a vv aa rv ra po a' vv' aa' rv' ra' po' ol f ovs z.1 z.2.1 z.2.2 H
structure OsOk (c : Cf) (os : List (List (Int × Sm))) : Prop where
  len : os.length ≤ 100
  hd : ∀ l ∈ os, ∃ g k r, l = (g, Sm.ask k) :: r
  ok : ∀ l ∈ os, l.length ≤ 100 ∧ ∀ t ∈ l, t.2.ok c.nv c.na = true ∧ 0 ≤ t.1 ∧ t.1 ≤ 65535
theorem PrsAt.at3 {H : Hp} : ∀ {n : Nat} {ps : List Pr} {vs : List V} {i : Nat} {p : Pr}, PrsAt H n ps vs → ps[i]? = some p → ∃ v, vs[i]? = some v ∧ PrAt H (n + i) p v
  | n, p :: r, vs, i, q, ⟨v, us, e, h1, h2⟩, g => by
    subst e
    cases i with
    | zero => cases g; exact ⟨v, rfl, h1⟩
    | succ i =>
      obtain ⟨v', e1, e2⟩ := PrsAt.at3 (i := i) h2 (by simpa using g)
      exact ⟨v', by simpa using e1, by rw [show n + (i + 1) = n + 1 + i by omega]; exact e2⟩
theorem ledPr {H : Hp} {ps : List Pr} {vs : List V} {i : Nat} {p : Pr} (n2 : ps.length ≤ 2) (h : PrsAt H 0 ps vs) (e : ps[i]? = some p) : Led H vs i (pq i) := by
  have hl := h.length
  have hi := (List.getElem?_eq_some_iff.mp e).1
  refine ⟨by omega, by omega, fun j hj => ?_⟩
  obtain ⟨v, e1, a, b, rfl, e2, _⟩ := PrsAt.at3 h (List.getElem?_eq_getElem (show j < ps.length by omega))
  rw [Nat.zero_add] at e2
  refine ⟨a, pq j, _, e1, e2, ?_⟩
  have hij : (j = 0 ∨ j = 1) ∧ (i = 0 ∨ i = 1) := by omega
  rcases hij with ⟨rfl | rfl, rfl | rfl⟩ <;> simp [pq] <;> decide
section
variable {P : Program} {w : World} {K : PySem.W.Frag} {mg : Str → Option Value} {base : Heap}
def spLAct (K : PySem.W.Frag) : Sp := fun vs H Q _ => ∃ (c : Cf) (hv : V) (w t : Addr) (G : Hp) (s b : S) (os : List (List (Int × Sm))), vs = [hv, .ref w, .ref t] ∧ LhAt G c hv ∧ c.Ok ∧ WkE G c.nv c.na w (s, b, os) H ∧ s.Ok c.nv c.na ∧ OsOk c os ∧
  ((∃ n os' g k r, H t = some (.tup [.str "answer", .int n]) ∧ os = os' ++ [(g, Sm.ask k) :: r] ∧ ∀ H', WkE G c.nv c.na w (wfin b os' (lgo (st s n) r)) H' → Q .non H') ∨
   ∃ i pr g, H t = some (.tup [.str "call", .str "c", .str (pq i), .int g]) ∧ c.prs[i]? = some pr ∧ 0 ≤ g ∧ g ≤ 65535 ∧ ∀ H', WkE G c.nv c.na w (wfin (if os = [] then s else b) os (lgo s (pr.blk.map fun t => (g, t)))) H' → Q .non H')
theorem sc_law_act : FnScope ["_law_house_here", "_law_walk_here", "_law_act_here", "_law_state", "_law_opened", "_law_pending", "_law_left", "_law_at", "_law_proc", "_law_inner", "_law_end"] ["_law_house_here", "_law_walk_here", "_law_act_here"] (defScope s_law_act) := ⟨rfl, rfl, rfl, by decide +kernel, rfl, by decide +kernel, by decide +kernel⟩
theorem ok_lact {f : Addr} {fd : FuncData} (F : FnP K "_law_act" "_law_act" s_law_act f fd) (T : Txt K mg) (c_law_store : C8.Cal P w K mg base 2 "_law_store" (spLSto K) []) (c_law_copy : C8.Cal P w K mg base 1 "_law_copy" spLCopy []) (c_law_index : C8.Cal P w K mg base 1 "_law_index" (spLIx K) []) (c_law_go : C8.Cal P w K mg base 6 "_law_go" (spLGo K) []) : FnOk P w K mg base CX0 7 f fd ["_law_house_here", "_law_walk_here", "_law_act_here"] (spLAct K) := by
  refine F.ok sc_law_act (fun vs H Q E h => ?_) (fun cdv A outer s H vs Q E hr h => ?_)
  · obtain ⟨c, hv, w, t, G, s, b, os, rfl, _⟩ := h
    rfl
  · obtain ⟨c, hv, w, t, G, s, b, os, rfl, hG, co, ⟨a, vv, aa, rv, ra, po, a', vv', aa', rv', ra', po', ol, f, ovs, wk⟩, so, oo, h⟩ := h
    refine ⟨_, PSs.nox ((pss_cons (ps_set (i := 3) sc_law_act.nd rfl (Or.inl rfl) (pe_ix ix_list (pv 1) pe_int (fun _ _ => rfl)))
      (pss_cons (ps_set (i := 4) sc_law_act.nd rfl (Or.inl rfl) (pe_ix ix_list (pv 1) pe_int (fun _ _ => rfl)))
      (pss_cons (ps_if (pt_cmpR op_eq (pe_ix ix_tup (pv 2) pe_int (fun _ _ => rfl)) pe_str (nomark _)) (pss_cons (ps_set (i := 5) sc_law_act.nd rfl (Or.inl rfl) (pe_bm0 PySem.F.plainAttrs_list PySem.F.slot_list_pop PySem.F.type_list_pop mt_pop (pv 4)))
      (pss_cons (ps_expr (C8.pe_c c_law_store hr (by decide) (by rfl) (pa_cons (pv 0) (pa_cons (pv 3) (pa_cons (pe_ix ix_tup (pe_ix ix_list (pv 5) pe_int (fun _ _ => rfl)) pe_int (fun _ _ => rfl)) (pa_cons (pe_ix ix_tup (pe_ix ix_tup (pe_ix ix_list (pv 5) pe_int (fun _ _ => rfl)) pe_int (fun _ _ => rfl)) pe_int (fun _ _ => rfl)) (pa_cons (pe_ix ix_tup (pv 2) pe_int (fun _ _ => rfl)) pa_nil)))))))
      (pss_one (ps_set (i := 6) sc_law_act.nd rfl (Or.inl rfl) (pe_slice sl_list (pv 5) (po_some pe_int) po_none))))) (pss_cons (ps_if (pt_cmpR op_eq (pe_callB call_len (by rfl) T.len bt_len (pa_cons (pv 4) pa_nil)) pe_int (nomark _)) (pss_one (ps_asg (C8.pe_c c_law_copy hr (by decide) (by rfl) (pa_cons (pv 3) pa_nil)) (pg_sub (pv 1) pe_int set_list))) pss_nil)
      (pss_cons (ps_set (i := 7) sc_law_act.nd rfl (Or.inr rfl) (C8.pe_c c_law_index hr (by decide) (by rfl) (pa_cons (pe_ix ix_tup (pv 0) pe_int (fun _ _ => rfl)) (pa_cons (pe_ix ix_tup (pv 2) pe_int (fun _ _ => rfl)) pa_nil))))
      (pss_cons (ps_set (i := 8) sc_law_act.nd rfl (Or.inl rfl) (pe_ix ix_tup (pe_ix ix_tup (pe_ix ix_list (pe_ix ix_tup (pv 0) pe_int (fun _ _ => rfl)) (pv 7) (fun _ _ => rfl)) pe_int (fun _ _ => rfl)) (C8.pe_c c_law_index hr (by decide) (by rfl) (pa_cons (pe_ix ix_tup (pe_ix ix_list (pe_ix ix_tup (pv 0) pe_int (fun _ _ => rfl)) (pv 7) (fun _ _ => rfl)) pe_int (fun _ _ => rfl)) (pa_cons (pe_ix ix_tup (pv 2) pe_int (fun _ _ => rfl)) pa_nil))) (fun _ _ => rfl)))
      (pss_one (ps_setLc (i := 6) (own := [("_law_inner", 9)]) rfl sc_law_act.nd rfl rfl (sw_true rfl rfl rfl (by decide +kernel)) (pi_tup (pe_ix ix_tup (pv 8) pe_int (fun _ _ => rfl))) (blkOk_by (own := [("_law_inner", 9)]) (N := ["_law_house_here", "_law_walk_here", "_law_act_here", "_law_state", "_law_opened", "_law_pending", "_law_left", "_law_at", "_law_proc", "_law_inner", "_law_end"]) (sc := defScope s_law_act) (by decide +kernel)) (fun _ _ _ _ _ => (pg_name (i := 9) sc_law_act.nd rfl (Or.inl rfl))) (fun _ _ _ _ _ => pts_nil) (fun _ _ _ _ _ => (pe_tup (pa_cons (pv 7) (pa_cons (pe_ix (ix_tupK (K := K) rfl) (pv 2) pe_int (fun _ _ => rfl)) (pa_cons (pv 9) pa_nil)))))))))))
      (pss_cons (ps_set (i := 10) sc_law_act.nd rfl (Or.inl rfl) (C8.pe_c c_law_go hr (by decide) (by rfl) (pa_cons (pv 0) (pa_cons (pv 3) (pa_cons (pv 6) pa_nil)))))
      (pss_cons (ps_if (pt_cmpR op_eq (pe_ix ix_tup (pv 10) pe_int (fun _ _ => rfl)) pe_str (nomark _)) (pss_one (ps_expr (pe_bm PySem.F.plainAttrs_list PySem.F.slot_list_append PySem.F.type_list_append mt_append (pv 4) (pa_cons (pe_ix ix_tup (pv 10) pe_int (fun _ _ => rfl)) pa_nil)))) pss_nil)
      (pss_one (ps_if (pt_cmpR op_eq (pe_ix ix_tup (pv 10) pe_int (fun _ _ => rfl)) pe_str (nomark _)) (pss_cons (ps_asg (C8.pe_c c_law_copy hr (by decide) (by rfl) (pa_cons (pe_ix ix_list (pv 1) pe_int (fun _ _ => rfl)) pa_nil)) (pg_sub (pv 1) pe_int set_list))
      (pss_cons (ps_asg (pe_lst pa_nil) (pg_sub (pv 1) pe_int set_list))
      (pss_one (ps_asg (pe_op op_add (pe_ix ix_list (pv 1) pe_int (fun _ _ => rfl)) pe_int) (pg_sub (pv 1) pe_int set_list))))) pss_nil)))))))), ?_⟩
    dsimp only [cxOf, Cx.nox]
    have olen := oo.len
    replace wk : Wk G c.nv c.na w a vv aa rv ra po a' vv' aa' rv' ra' po' ol f ovs s b os H := wk
    have opl := Paired.length wk.op
    refine ⟨_, rfl, w, _, 0, _, rfl, rfl, SqL.of wk.hw, rfl, ?_⟩
    refine ⟨_, rfl, w, _, 2, _, rfl, rfl, SqL.of wk.hw, rfl, ?_⟩
    rcases h with ⟨n, os', g, k, r, ht, rfl, kq⟩ | ⟨i, pr, g, ht, hpr, g0, g1, kq⟩
    · refine ⟨_, rfl, t, _, 0, .str "answer", rfl, rfl, SqT.of ht, rfl, rfl, _, rfl, ifT rfl ?_⟩
      obtain ⟨ovs', v9, rfl, op', p, pvs, rfl, hp, lp0⟩ := Paired.unsnoc wk.op
      have wk1 := wk.setO op'
      refine ⟨_, rfl, .inl ⟨rfl, _, SqL.of wk.ho⟩, ol, _, .ref p, rfl, rfl, wk.ho, by simp, ?_⟩
      rw [List.dropLast_concat]
      have pn := cut_not hp
      have ec : cut (Dw w ol rv ra po) (upd H ol (.lst ovs')) = cut (Dw w ol rv ra po) H := cut_upd (memDw.mpr (.inr (.inl rfl)))
      have ht1 : (upd H ol (.lst ovs')) t = some (.tup [.str "answer", .int n]) := by
        rw [upd_ne (fun z => by rw [z, wk.ho] at ht; cases ht)]
        exact ht
      rw [← ec] at hp lp0
      obtain ⟨ll0, lok0⟩ := oo.ok _ (List.mem_append_right _ (List.mem_singleton_self _))
      clear wk op' ec opl olen ht
      replace wk := wk1
      clear wk1
      have olen : os'.length ≤ 100 := by have := oo.len; rw [List.length_append] at this; omega
      generalize upd H ol (HO.lst ovs') = H1 at wk hp lp0 ht1 ⊢
      obtain ⟨q0, sv, us, rfl, h0, nk0, lp1⟩ := lp0
      have le1 := cut_le (Dw w ol rv ra po) H1
      obtain ⟨okk, gg0, gg1⟩ := lok0 _ (List.mem_cons_self ..)
      have okk2 := okk
      simp only [Sm.ok, Bool.and_eq_true, decide_eq_true_eq] at okk2
      cases nk0 with
      | @tup qs _ _ z1 z2 =>
        cases z2 with
        | cons z3 z4 =>
          cases z3
          cases z4 with
          | cons z5 z6 =>
            cases z5
            have hq0 := le1 _ _ h0
            have hqs := le1 _ _ z1
            refine ⟨_, rfl, _, rfl, _, rfl, p, _, 0, .ref q0, rfl, rfl, SqL.of (le1 _ _ hp), at_of (j := 0) rfl rfl, q0, _, 0, _, rfl, rfl, SqT.of hq0, rfl, _, rfl, p, _, 0, .ref q0, rfl, rfl, SqL.of (le1 _ _ hp), at_of (j := 0) rfl rfl, q0, _, 2, _, rfl, rfl, SqT.of hq0, rfl, qs, _, 1, _, rfl, rfl, SqT.of hqs, at_of (j := 1) rfl rfl, _, rfl, t, _, 1, _, rfl, rfl, SqT.of ht1, rfl, c, hv, a, vv, aa, rv, ra, po, n, s, rfl, LhAt.same (wk.sm.trans le1) hG, wk.st, okk2.1, fun H2 s2 l2 => ?_⟩
            have sn2 : SameNot [rv, ra, po] H1 H2 := fun x o e m => s2 _ _ e fun z => m (by rw [z]; simp)
            have c2 : Same (cut (Dw w ol rv ra po) H1) (cut (Dw w ol rv ra po) H2) := SameNot.cut sn2 fun x hx => List.mem_cons_of_mem _ (List.mem_cons_of_mem _ hx)
            have hp2 := cut_le _ _ _ _ (c2 _ _ hp)
            have lp2 := (lp1.tx (TX.same c2)).tx (TX.same (cut_le _ _))
            replace ht1 := txN wk.st sn2 _ _ ht1
            replace wk := wk.go sn2 l2
            refine ⟨_, rfl, _, rfl, p, _, rfl, SqL.of hp2, fun lp nlp => ?_⟩
            have sr := new_same (o := HO.lst (cutV (V.ref q0 :: us) (some 1) none)) nlp
            have hlp : (upd H2 lp (HO.lst (cutV (V.ref q0 :: us) (some 1) none))) lp = some (.lst us) := by
              rw [upd_same]
              exact congrArg (fun x => some (HO.lst x)) (cut_hi (V.ref q0 :: us) (i := 1) (by simp))
            generalize upd H2 lp (HO.lst (cutV (V.ref q0 :: us) (some 1) none)) = H9 at sr hlp ⊢
            replace wk := wk.same sr
            replace ht1 := sr _ _ ht1
            have lpd := lp2.tx (TX.same sr)
            have lok : ∀ x ∈ r, x.2.ok c.nv c.na = true ∧ 0 ≤ x.1 ∧ x.1 ≤ 65535 := fun x hx => lok0 x (List.mem_cons_of_mem _ hx)
            have llen : r.length ≤ 100 := by simp only [List.length_cons] at ll0; omega
            have so1 := st_ok so n okk2.1
            have hl1 := LhAt.same (wk.sm.trans (cut_le _ _)) hG
            refine ⟨_, rfl, _, rfl, _, rfl, c, _, a, vv, aa, rv, ra, po, lp, _, _, _, rfl, hl1, wk.lhs hG, wk.st, hlp, lpd, lok, llen, so1, ?_⟩
            intro t2 lq kd l' qvs s2 H2 sn2 st2 ht2 hlq res
            have wk2 := wk.go sn2 st2
            have htt := txN wk.st sn2 _ _ ht1
            split at res
            · rename_i er
              subst res
              refine ⟨_, rfl, t2, _, 0, _, rfl, rfl, SqT.of ht2, rfl, rfl, _, rfl, ifF rfl ?_⟩
              refine ⟨_, rfl, t2, _, 0, _, rfl, rfl, SqT.of ht2, rfl, rfl, _, rfl, ifT rfl ?_⟩
              refine ⟨_, rfl, w, _, 1, _, rfl, rfl, SqL.of wk2.hw, rfl, c.nv, c.na, a', vv', aa', rv', ra', po', _, rfl, (wk2.bs.same (cut_le _ _)), fun a3 vv3 aa3 rv3 ra3 po3 H3 s3 st3 nw3 => ?_⟩
              have w3 := s3 _ _ wk2.hw
              refine ⟨_, rfl, w, _, 0, 0, rfl, rfl, w3, rfl, ?_⟩
              refine ⟨(by show 0 ≤ sizeLine; decide), fun o3 no3 => ?_⟩
              have wo3 : w ≠ o3 := ne_of_none upd_same no3
              refine ⟨_, rfl, w, _, 2, 2, rfl, rfl, by rw [upd_ne wo3]; exact upd_same, rfl, ?_⟩
              refine ⟨_, rfl, w, _, 3, .int f, rfl, rfl, SqL.of upd_same, rfl, _, _, rfl, rfl, ?_⟩
              refine ⟨_, rfl, w, _, 3, 3, rfl, rfl, upd_same, rfl, ?_⟩
              have er' := er
              refine kq _ ?_
              rw [er']
              refine ⟨a3, vv3, aa3, rv3, ra3, po3, a', vv', aa', rv', ra', po', o3, f + 1, [], wk2.fail s3 st3 nw3 (fun x o h n => ?_) upd_same (none_upd no3) ?_⟩
              · have no : x ≠ o3 := ne_of_none h (none_upd no3)
                rw [upd_ne n, upd_ne n, upd_ne no, upd_ne n]
                exact h
              · rw [upd_ne (Ne.symm wo3), upd_ne (Ne.symm wo3)]
                exact upd_same
            · rename_i s9 er
              obtain ⟨rfl, rfl⟩ := res
              refine ⟨_, rfl, t2, _, 0, _, rfl, rfl, SqT.of ht2, rfl, rfl, _, rfl, ifF rfl ?_⟩
              refine ⟨_, rfl, t2, _, 0, _, rfl, rfl, SqT.of ht2, rfl, rfl, _, rfl, ifF rfl ?_⟩
              refine kq _ ?_
              rw [er]
              exact ⟨_, _, _, _, _, _, _, _, _, _, _, _, _, _, _, wk2⟩
            · rename_i s9 l9 er
              obtain ⟨rfl, rfl, rfl, lpd2, nlq⟩ := res
              refine ⟨_, rfl, t2, _, 0, _, rfl, rfl, SqT.of ht2, rfl, rfl, _, rfl, ifT rfl ?_⟩
              refine ⟨_, rfl, .inl ⟨rfl, _, SqL.of wk2.ho⟩, _, rfl, t2, _, 1, .ref lq, rfl, rfl, SqT.of ht2, rfl, ol, _, _, rfl, rfl, wk2.ho, szl ?_, ?_⟩
              · have := Paired.length wk2.op
                omega
              have olt : t2 ≠ ol := fun z => by rw [z, wk2.ho] at ht2; cases ht2
              refine ⟨_, rfl, t2, _, 0, _, rfl, rfl, SqT.of (by rw [upd_ne olt]; exact ht2), rfl, rfl, _, rfl, ifF rfl ?_⟩
              refine kq _ ?_
              rw [er]
              exact ⟨_, _, _, _, _, _, _, _, _, _, _, _, _, _, _, wk2.setO (Paired.snoc wk2.op ⟨lq, qvs, rfl, cut_of hlq (wk.notin nlq), lpd2.tx (fun b xs h => cut_of h (wk2.notup h))⟩)⟩
    · refine ⟨_, rfl, t, _, 0, .str "call", rfl, rfl, SqT.of ht, rfl, rfl, _, rfl, ifF rfl ?_⟩
      obtain ⟨hb, la, lc, avs, ct, rfl, q1, q2, q3, q4, q5⟩ := id hG
      obtain ⟨ca, av, ah, ap, cvs, rfl, u1, u2, u3, u4, u5⟩ := q5
      have ht1 := ht
      refine ⟨_, rfl, _, _, rfl, .inl ⟨_, SqL.of wk.ho, rfl⟩, rfl, _, rfl, ?_⟩
      by_cases ho : os = []
      · have o0 : ovs.length = 0 := by rw [← opl, ho]; rfl
        refine ifT (by rw [o0]; rfl) ?_
        rw [if_pos ho] at kq
        refine ⟨_, rfl, c.nv, c.na, a, vv, aa, rv, ra, po, s, rfl, wk.st, fun a' vv' aa' rv' ra' po' H3 s3 st3 nw3 => ?_⟩
        refine ⟨_, rfl, w, _, 1, 1, rfl, rfl, s3 _ _ wk.hw, rfl, ?_⟩
        replace ht1 : (upd H3 w (.lst [.ref a, .ref a', .ref ol, .int f])) t = some (.tup [.str "call", .str "c", .str (pq i), .int g]) := by
          rw [upd_ne (fun z => by rw [z, wk.hw] at ht; cases ht)]
          exact s3 _ _ ht
        replace wk := wk.base s3 st3 nw3
        have sg := wk.sm.trans (cut_le _ _)
        refine ⟨_, rfl, hb, _, 1, _, rfl, rfl, SqT.of (sg _ _ q1), rfl, _, rfl, t, _, 1, _, rfl, rfl, SqT.of ht1, rfl, lc, _, 0, "c", rfl, .inl (SqL.of (sg _ _ q4)), led1 (sg _ _ u1), fun H3 s3 => ?_⟩
        replace wk := wk.same s3
        replace sg := sg.trans s3
        replace ht1 := s3 _ _ ht1
        have ugp := PrsAt.tx (TX.same sg) u5
        obtain ⟨prv, epv, pa, bb, rfl, hpa, nbb⟩ := PrsAt.at3 ugp hpr
        rw [Nat.zero_add] at hpa
        refine ⟨_, rfl, hb, _, 1, _, rfl, rfl, SqT.of (sg _ _ q1), rfl, _, rfl, lc, _, 0, _, rfl, rfl, SqL.of (sg _ _ q4), rfl, ca, _, 3, _, rfl, rfl, SqT.of (sg _ _ u1), rfl, _, rfl, hb, _, 1, _, rfl, rfl, SqT.of (sg _ _ q1), rfl, _, rfl, lc, _, 0, _, rfl, rfl, SqL.of (sg _ _ q4), rfl, ca, _, 3, _, rfl, rfl, SqT.of (sg _ _ u1), rfl, _, rfl, t, _, 2, _, rfl, rfl, SqT.of ht1, rfl, ap, _, i, pq i, rfl, .inr (SqT.of (sg _ _ u4)), ledPr co.n2 ugp hpr, fun H4 s4 => ?_⟩
        replace wk := wk.same s4
        replace sg := sg.trans s4
        replace ht1 := s4 _ _ ht1
        replace hpa := s4 _ _ hpa
        replace nbb := NK.tx (TX.same s4) _ _ nbb
        refine ⟨ap, _, i, .ref pa, rfl, rfl, SqT.of (sg _ _ u4), at_of (j := i) rfl epv, ?_⟩
        cases nbb with
        | @tup bb vs8 _ b1 b2 =>
          have blen : pr.blk.length ≤ 4 := (co.pr pr (List.mem_of_getElem? hpr)).2.2.1
          have bok := (co.pr pr (List.mem_of_getElem? hpr)).2.2.2
          have l8 : vs8.length ≤ 4 := by rw [← b2.length, List.length_map]; exact blen
          refine ⟨_, rfl, pa, _, 3, _, rfl, rfl, SqT.of hpa, rfl, bb, rfl, ⟨_, SqT.of b1⟩, fun lp nD => ?_⟩
          refine lc_tup (K := K) (xs := vs8) (fun i Hy => ∃ acc, Same H4 Hy ∧ Hy lp = some (.lst acc) ∧ LPd Hy ((pr.blk.take i).map fun t => (g, t)) acc) ⟨[], new_same nD, upd_same, rfl⟩ (fun i Hy _ ⟨_, sy, _⟩ => SqT.of (sy _ _ b1)) ?_ ?_
          · rintro j xa Hy hi ⟨acc, sy, qa, la⟩
            obtain ⟨sm, hsm, nsm⟩ := NKs.at b2 hi
            refine ⟨rfl, _, rfl, _, rfl, t, _, 3, _, rfl, rfl, SqT.of (sy _ _ ht1), rfl, _, rfl, (by show 3 ≤ sizeLine; decide), fun t' nt => ?_⟩
            have st' := new_same (o := HO.tup [V.int 0, V.int g, xa]) nt
            have hi' := (List.getElem?_eq_some_iff.mp hi).1
            have tx : TX Hy (upd (upd Hy t' (HO.tup [V.int 0, V.int g, xa])) lp (.lst (acc ++ [V.ref t']))) := fun b xs h => by
              rw [upd_ne (fun z => by rw [z, qa] at h; cases h)]
              exact st' _ _ h
            have tD : t' ≠ lp := fun z => by rw [z, qa] at nt; cases nt
            refine ⟨acc, st' _ _ qa, szl ?_, _, fun b o h => by rw [upd_ne (ne_of_none h nD)]; exact st' _ _ (sy _ _ h), upd_same, ?_⟩
            · have := la.length
              rw [List.length_map] at this
              have := List.length_take_le j pr.blk
              omega
            · rw [List.take_succ, hsm, List.map_append]
              exact (la.tx tx).append (LPd.one (by rw [upd_ne tD]; exact upd_same) (NK.tx (fun b xs h => tx _ _ (sy _ _ h)) _ _ nsm))
          · rintro Hy ⟨acc, sy, hlp, lpd⟩
            rw [← b2.length, List.length_map, List.take_length] at lpd
            replace wk := wk.same sy
            replace ht1 := sy _ _ ht1
            have llen : (pr.blk.map fun t => (g, t)).length ≤ 100 := by rw [List.length_map]; omega
            have lok : ∀ x ∈ (pr.blk.map fun t => (g, t)), x.2.ok c.nv c.na = true ∧ 0 ≤ x.1 ∧ x.1 ≤ 65535 := fun x hx => by
              obtain ⟨y, hy, rfl⟩ := List.mem_map.mp hx
              exact ⟨bok y hy, g0, g1⟩
            have so1 := so
            have hl1 := LhAt.same (wk.sm.trans (cut_le _ _)) hG
            refine ⟨_, rfl, _, rfl, _, rfl, c, _, a, vv, aa, rv, ra, po, lp, _, _, _, rfl, hl1, wk.lhs hG, wk.st, hlp, lpd, lok, llen, so1, ?_⟩
            intro t2 lq kd l' qvs s2 H2 sn2 st2 ht2 hlq res
            have wk2 := wk.go sn2 st2
            have htt := txN wk.st sn2 _ _ ht1
            split at res
            · rename_i er
              subst res
              refine ⟨_, rfl, t2, _, 0, _, rfl, rfl, SqT.of ht2, rfl, rfl, _, rfl, ifF rfl ?_⟩
              refine ⟨_, rfl, t2, _, 0, _, rfl, rfl, SqT.of ht2, rfl, rfl, _, rfl, ifT rfl ?_⟩
              refine ⟨_, rfl, w, _, 1, _, rfl, rfl, SqL.of wk2.hw, rfl, c.nv, c.na, a', vv', aa', rv', ra', po', _, rfl, (wk2.bs.same (cut_le _ _)), fun a3 vv3 aa3 rv3 ra3 po3 H3 s3 st3 nw3 => ?_⟩
              have w3 := s3 _ _ wk2.hw
              refine ⟨_, rfl, w, _, 0, 0, rfl, rfl, w3, rfl, ?_⟩
              refine ⟨(by show 0 ≤ sizeLine; decide), fun o3 no3 => ?_⟩
              have wo3 : w ≠ o3 := ne_of_none upd_same no3
              refine ⟨_, rfl, w, _, 2, 2, rfl, rfl, by rw [upd_ne wo3]; exact upd_same, rfl, ?_⟩
              refine ⟨_, rfl, w, _, 3, .int f, rfl, rfl, SqL.of upd_same, rfl, _, _, rfl, rfl, ?_⟩
              refine ⟨_, rfl, w, _, 3, 3, rfl, rfl, upd_same, rfl, ?_⟩
              have er' := er
              refine kq _ ?_
              rw [er']
              refine ⟨a3, vv3, aa3, rv3, ra3, po3, a', vv', aa', rv', ra', po', o3, f + 1, [], wk2.fail s3 st3 nw3 (fun x o h n => ?_) upd_same (none_upd no3) ?_⟩
              · have no : x ≠ o3 := ne_of_none h (none_upd no3)
                rw [upd_ne n, upd_ne n, upd_ne no, upd_ne n]
                exact h
              · rw [upd_ne (Ne.symm wo3), upd_ne (Ne.symm wo3)]
                exact upd_same
            · rename_i s9 er
              obtain ⟨rfl, rfl⟩ := res
              refine ⟨_, rfl, t2, _, 0, _, rfl, rfl, SqT.of ht2, rfl, rfl, _, rfl, ifF rfl ?_⟩
              refine ⟨_, rfl, t2, _, 0, _, rfl, rfl, SqT.of ht2, rfl, rfl, _, rfl, ifF rfl ?_⟩
              refine kq _ ?_
              rw [er]
              exact ⟨_, _, _, _, _, _, _, _, _, _, _, _, _, _, _, wk2⟩
            · rename_i s9 l9 er
              obtain ⟨rfl, rfl, rfl, lpd2, nlq⟩ := res
              refine ⟨_, rfl, t2, _, 0, _, rfl, rfl, SqT.of ht2, rfl, rfl, _, rfl, ifT rfl ?_⟩
              refine ⟨_, rfl, .inl ⟨rfl, _, SqL.of wk2.ho⟩, _, rfl, t2, _, 1, .ref lq, rfl, rfl, SqT.of ht2, rfl, ol, _, _, rfl, rfl, wk2.ho, szl ?_, ?_⟩
              · have := Paired.length wk2.op
                omega
              have olt : t2 ≠ ol := fun z => by rw [z, wk2.ho] at ht2; cases ht2
              refine ⟨_, rfl, t2, _, 0, _, rfl, rfl, SqT.of (by rw [upd_ne olt]; exact ht2), rfl, rfl, _, rfl, ifF rfl ?_⟩
              refine kq _ ?_
              rw [er]
              exact ⟨_, _, _, _, _, _, _, _, _, _, _, _, _, _, _, wk2.setO (Paired.snoc wk2.op ⟨lq, qvs, rfl, cut_of hlq (wk.notin nlq), lpd2.tx (fun b xs h => cut_of h (wk2.notup h))⟩)⟩
      · have o0 : ovs.length ≠ 0 := by rw [← opl]; exact fun z => ho (List.eq_nil_of_length_eq_zero z)
        refine ifF (decide_eq_false fun z => o0 (by have := V.int.inj z; omega)) ?_
        rw [if_neg ho] at kq
        have sg := wk.sm.trans (cut_le _ _)
        refine ⟨_, rfl, hb, _, 1, _, rfl, rfl, SqT.of (sg _ _ q1), rfl, _, rfl, t, _, 1, _, rfl, rfl, SqT.of ht1, rfl, lc, _, 0, "c", rfl, .inl (SqL.of (sg _ _ q4)), led1 (sg _ _ u1), fun H3 s3 => ?_⟩
        replace wk := wk.same s3
        replace sg := sg.trans s3
        replace ht1 := s3 _ _ ht1
        have ugp := PrsAt.tx (TX.same sg) u5
        obtain ⟨prv, epv, pa, bb, rfl, hpa, nbb⟩ := PrsAt.at3 ugp hpr
        rw [Nat.zero_add] at hpa
        refine ⟨_, rfl, hb, _, 1, _, rfl, rfl, SqT.of (sg _ _ q1), rfl, _, rfl, lc, _, 0, _, rfl, rfl, SqL.of (sg _ _ q4), rfl, ca, _, 3, _, rfl, rfl, SqT.of (sg _ _ u1), rfl, _, rfl, hb, _, 1, _, rfl, rfl, SqT.of (sg _ _ q1), rfl, _, rfl, lc, _, 0, _, rfl, rfl, SqL.of (sg _ _ q4), rfl, ca, _, 3, _, rfl, rfl, SqT.of (sg _ _ u1), rfl, _, rfl, t, _, 2, _, rfl, rfl, SqT.of ht1, rfl, ap, _, i, pq i, rfl, .inr (SqT.of (sg _ _ u4)), ledPr co.n2 ugp hpr, fun H4 s4 => ?_⟩
        replace wk := wk.same s4
        replace sg := sg.trans s4
        replace ht1 := s4 _ _ ht1
        replace hpa := s4 _ _ hpa
        replace nbb := NK.tx (TX.same s4) _ _ nbb
        refine ⟨ap, _, i, .ref pa, rfl, rfl, SqT.of (sg _ _ u4), at_of (j := i) rfl epv, ?_⟩
        cases nbb with
        | @tup bb vs8 _ b1 b2 =>
          have blen : pr.blk.length ≤ 4 := (co.pr pr (List.mem_of_getElem? hpr)).2.2.1
          have bok := (co.pr pr (List.mem_of_getElem? hpr)).2.2.2
          have l8 : vs8.length ≤ 4 := by rw [← b2.length, List.length_map]; exact blen
          refine ⟨_, rfl, pa, _, 3, _, rfl, rfl, SqT.of hpa, rfl, bb, rfl, ⟨_, SqT.of b1⟩, fun lp nD => ?_⟩
          refine lc_tup (K := K) (xs := vs8) (fun i Hy => ∃ acc, Same H4 Hy ∧ Hy lp = some (.lst acc) ∧ LPd Hy ((pr.blk.take i).map fun t => (g, t)) acc) ⟨[], new_same nD, upd_same, rfl⟩ (fun i Hy _ ⟨_, sy, _⟩ => SqT.of (sy _ _ b1)) ?_ ?_
          · rintro j xa Hy hi ⟨acc, sy, qa, la⟩
            obtain ⟨sm, hsm, nsm⟩ := NKs.at b2 hi
            refine ⟨rfl, _, rfl, _, rfl, t, _, 3, _, rfl, rfl, SqT.of (sy _ _ ht1), rfl, _, rfl, (by show 3 ≤ sizeLine; decide), fun t' nt => ?_⟩
            have st' := new_same (o := HO.tup [V.int 0, V.int g, xa]) nt
            have hi' := (List.getElem?_eq_some_iff.mp hi).1
            have tx : TX Hy (upd (upd Hy t' (HO.tup [V.int 0, V.int g, xa])) lp (.lst (acc ++ [V.ref t']))) := fun b xs h => by
              rw [upd_ne (fun z => by rw [z, qa] at h; cases h)]
              exact st' _ _ h
            have tD : t' ≠ lp := fun z => by rw [z, qa] at nt; cases nt
            refine ⟨acc, st' _ _ qa, szl ?_, _, fun b o h => by rw [upd_ne (ne_of_none h nD)]; exact st' _ _ (sy _ _ h), upd_same, ?_⟩
            · have := la.length
              rw [List.length_map] at this
              have := List.length_take_le j pr.blk
              omega
            · rw [List.take_succ, hsm, List.map_append]
              exact (la.tx tx).append (LPd.one (by rw [upd_ne tD]; exact upd_same) (NK.tx (fun b xs h => tx _ _ (sy _ _ h)) _ _ nsm))
          · rintro Hy ⟨acc, sy, hlp, lpd⟩
            rw [← b2.length, List.length_map, List.take_length] at lpd
            replace wk := wk.same sy
            replace ht1 := sy _ _ ht1
            have llen : (pr.blk.map fun t => (g, t)).length ≤ 100 := by rw [List.length_map]; omega
            have lok : ∀ x ∈ (pr.blk.map fun t => (g, t)), x.2.ok c.nv c.na = true ∧ 0 ≤ x.1 ∧ x.1 ≤ 65535 := fun x hx => by
              obtain ⟨y, hy, rfl⟩ := List.mem_map.mp hx
              exact ⟨bok y hy, g0, g1⟩
            have so1 := so
            have hl1 := LhAt.same (wk.sm.trans (cut_le _ _)) hG
            refine ⟨_, rfl, _, rfl, _, rfl, c, _, a, vv, aa, rv, ra, po, lp, _, _, _, rfl, hl1, wk.lhs hG, wk.st, hlp, lpd, lok, llen, so1, ?_⟩
            intro t2 lq kd l' qvs s2 H2 sn2 st2 ht2 hlq res
            have wk2 := wk.go sn2 st2
            have htt := txN wk.st sn2 _ _ ht1
            split at res
            · rename_i er
              subst res
              refine ⟨_, rfl, t2, _, 0, _, rfl, rfl, SqT.of ht2, rfl, rfl, _, rfl, ifF rfl ?_⟩
              refine ⟨_, rfl, t2, _, 0, _, rfl, rfl, SqT.of ht2, rfl, rfl, _, rfl, ifT rfl ?_⟩
              refine ⟨_, rfl, w, _, 1, _, rfl, rfl, SqL.of wk2.hw, rfl, c.nv, c.na, a', vv', aa', rv', ra', po', _, rfl, (wk2.bs.same (cut_le _ _)), fun a3 vv3 aa3 rv3 ra3 po3 H3 s3 st3 nw3 => ?_⟩
              have w3 := s3 _ _ wk2.hw
              refine ⟨_, rfl, w, _, 0, 0, rfl, rfl, w3, rfl, ?_⟩
              refine ⟨(by show 0 ≤ sizeLine; decide), fun o3 no3 => ?_⟩
              have wo3 : w ≠ o3 := ne_of_none upd_same no3
              refine ⟨_, rfl, w, _, 2, 2, rfl, rfl, by rw [upd_ne wo3]; exact upd_same, rfl, ?_⟩
              refine ⟨_, rfl, w, _, 3, .int f, rfl, rfl, SqL.of upd_same, rfl, _, _, rfl, rfl, ?_⟩
              refine ⟨_, rfl, w, _, 3, 3, rfl, rfl, upd_same, rfl, ?_⟩
              have er' := er
              refine kq _ ?_
              rw [er']
              refine ⟨a3, vv3, aa3, rv3, ra3, po3, a', vv', aa', rv', ra', po', o3, f + 1, [], wk2.fail s3 st3 nw3 (fun x o h n => ?_) upd_same (none_upd no3) ?_⟩
              · have no : x ≠ o3 := ne_of_none h (none_upd no3)
                rw [upd_ne n, upd_ne n, upd_ne no, upd_ne n]
                exact h
              · rw [upd_ne (Ne.symm wo3), upd_ne (Ne.symm wo3)]
                exact upd_same
            · rename_i s9 er
              obtain ⟨rfl, rfl⟩ := res
              refine ⟨_, rfl, t2, _, 0, _, rfl, rfl, SqT.of ht2, rfl, rfl, _, rfl, ifF rfl ?_⟩
              refine ⟨_, rfl, t2, _, 0, _, rfl, rfl, SqT.of ht2, rfl, rfl, _, rfl, ifF rfl ?_⟩
              refine kq _ ?_
              rw [er]
              exact ⟨_, _, _, _, _, _, _, _, _, _, _, _, _, _, _, wk2⟩
            · rename_i s9 l9 er
              obtain ⟨rfl, rfl, rfl, lpd2, nlq⟩ := res
              refine ⟨_, rfl, t2, _, 0, _, rfl, rfl, SqT.of ht2, rfl, rfl, _, rfl, ifT rfl ?_⟩
              refine ⟨_, rfl, .inl ⟨rfl, _, SqL.of wk2.ho⟩, _, rfl, t2, _, 1, .ref lq, rfl, rfl, SqT.of ht2, rfl, ol, _, _, rfl, rfl, wk2.ho, szl ?_, ?_⟩
              · have := Paired.length wk2.op
                omega
              have olt : t2 ≠ ol := fun z => by rw [z, wk2.ho] at ht2; cases ht2
              refine ⟨_, rfl, t2, _, 0, _, rfl, rfl, SqT.of (by rw [upd_ne olt]; exact ht2), rfl, rfl, _, rfl, ifF rfl ?_⟩
              refine kq _ ?_
              rw [er]
              exact ⟨_, _, _, _, _, _, _, _, _, _, _, _, _, _, _, wk2.setO (Paired.snoc wk2.op ⟨lq, qvs, rfl, cut_of hlq (wk.notin nlq), lpd2.tx (fun b xs h => cut_of h (wk2.notup h))⟩)⟩
theorem cal_lact {f : Addr} {fd : FuncData} (F : FnP K "_law_act" "_law_act" s_law_act f fd) (T : Txt K mg) (g : mg "_law_act" = some (.ref f)) (c_law_store : C8.Cal P w K mg base 2 "_law_store" (spLSto K) []) (c_law_copy : C8.Cal P w K mg base 1 "_law_copy" spLCopy []) (c_law_index : C8.Cal P w K mg base 1 "_law_index" (spLIx K) []) (c_law_go : C8.Cal P w K mg base 6 "_law_go" (spLGo K) []) : C8.Cal P w K mg base 7 "_law_act" (spLAct K) [] :=
  ⟨f, fd, _, [], ok_lact F T c_law_store c_law_copy c_law_index c_law_go, g, F.kp, F.bindsN fun _ _ _ _ _ _ us hl => match us, hl with | [_, _, _], _ => rfl, .nil⟩
end
end NC
set_option Elab.async false
set_option linter.all false
set_option maxRecDepth 100000
set_option maxHeartbeats 4000000
/-! The law's own interpreter: walk, drawn; made; is_integer. -/
namespace NC
open PySem PySem.Spec PyProof.Rows L2
theorem WkE.same {G H H' : Hp} {nv na : Bool} {w : Addr} {z : S × S × List (List (Int × Sm))} (s : Same H H') : WkE G nv na w z H → WkE G nv na w z H'
  | ⟨_, _, _, _, _, _, _, _, _, _, _, _, _, _, _, h⟩ => ⟨_, _, _, _, _, _, _, _, _, _, _, _, _, _, _, h.same s⟩
section
variable {P : Program} {w : World} {K : PySem.W.Frag} {mg : Str → Option Value} {base : Heap}
/-! ### is_integer -/
def spLInt : Sp := fun vs H Q _ => ∃ m : Int, vs = [.int m] ∧ Q (.bl true) H
theorem sc_law_is_integer : FnScope ["_law_actual"] ["_law_actual"] (defScope s_law_is_integer) := ⟨rfl, rfl, rfl, by decide +kernel, rfl, by decide +kernel, by decide +kernel⟩
theorem ok_lint {f : Addr} {fd : FuncData} (F : FnP K "_law_is_integer" "_law_is_integer" s_law_is_integer f fd) (T : Txt K mg) : FnOk P w K mg base CX0 1 f fd ["_law_actual"] spLInt := by
  refine F.ok sc_law_is_integer (fun vs H Q E h => ?_) (fun cdv A outer s H vs Q E hr h => ?_)
  · obtain ⟨m, rfl, _⟩ := h
    rfl
  · obtain ⟨m, rfl, k⟩ := h
    refine ⟨_, PSs.nox ((pss_one (ps_ret (pe_and (pe_callB call_isi (by rfl) T.isinstance bt_isinstance (pa_cons (pv 0) (pa_cons (pe_bltn (v := .ty "int") (by rfl) T.int bt_int rfl) pa_nil))) (pe_one (pe_not (pe_callB call_isi (by rfl) T.isinstance bt_isinstance (pa_cons (pv 0) (pa_cons (pe_bltn (v := .ty "bool") (by rfl) T.bool bt_bool rfl) pa_nil))))))))), ?_⟩
    dsimp only [cxOf, Cx.nox]
    refine ⟨_, rfl, _, _, _, _, true, rfl, .ty "int", .base (.int m), kit_ty (by decide +kernel), _, rfl, ifT rfl ?_⟩
    exact ⟨_, rfl, _, _, _, _, false, rfl, .ty "bool", .base (.int m), kit_ty (by decide +kernel), _, rfl, k⟩
theorem cal_lint {f : Addr} {fd : FuncData} (F : FnP K "_law_is_integer" "_law_is_integer" s_law_is_integer f fd) (T : Txt K mg) (g : mg "_law_is_integer" = some (.ref f)) : C8.Cal P w K mg base 1 "_law_is_integer" spLInt [] :=
  ⟨f, fd, _, [], ok_lint F T, g, F.kp, F.bindsN fun _ _ _ _ _ _ us hl => match us, hl with | [_], _ => rfl, .nil⟩
/-! ### made -/
def spLMade (K : PySem.W.Frag) : Sp := fun vs H Q _ => ∃ (c : Cf) (hv : V), vs = [hv] ∧ LhAt H c hv ∧ ∀ v H', Same H H' → HsAt K H' c v → Q v H'
theorem sc_law_made : FnScope ["_law_house_here"] ["_law_house_here"] (defScope s_law_made) := ⟨rfl, rfl, rfl, by decide +kernel, rfl, by decide +kernel, by decide +kernel⟩
theorem ok_lmade {f : Addr} {fd : FuncData} (F : FnP K "_law_made" "_law_made" s_law_made f fd) (T : Txt K mg) (k_House : C8.Mak P w K mg base 1 "House" (aHouse K) (spHouse K) []) : FnOk P w K mg base CX0 3 f fd ["_law_house_here"] (spLMade K) := by
  refine F.ok sc_law_made (fun vs H Q E h => ?_) (fun cdv A outer s H vs Q E hr h => ?_)
  · obtain ⟨c, hv, rfl, _⟩ := h
    rfl
  · obtain ⟨c, hv, rfl, hh, k⟩ := h
    refine ⟨_, PSs.nox ((pss_one (ps_ret (C8.pe_mk k_House hr (by decide) (by rfl) (pa_cons (pe_callTy call_tuple_of (by rfl) T.tuple bt_tuple (pa_cons (pe_ix ix_tup (pv 0) pe_int (fun _ _ => rfl)) pa_nil)) (pa_cons (pe_callTy call_tuple_of (by rfl) T.tuple bt_tuple (pa_cons (pe_ix ix_tup (pv 0) pe_int (fun _ _ => rfl)) pa_nil)) pa_nil)))))), ?_⟩
    obtain ⟨hb, la, lc, avs, ct, rfl, q1, q2, q3, q4, q5⟩ := id hh
    refine ⟨_, rfl, hb, _, 0, _, rfl, rfl, SqT.of q1, rfl, la, _, rfl, .inl ⟨SqL.of q2, fun ta nta => ?_⟩⟩
    have s1 := new_same (o := HO.tup avs) nta
    refine ⟨_, rfl, hb, _, 1, _, rfl, rfl, SqT.of (s1 _ _ q1), rfl, lc, _, rfl, .inl ⟨SqL.of (s1 _ _ q4), fun tc ntc => ?_⟩⟩
    have s2 := new_same (o := HO.tup [ct]) ntc
    have ha := s2 _ _ (upd_same (H := H) (a := ta) (o := HO.tup avs))
    have hc := upd_same (H := upd H ta (HO.tup avs)) (a := tc) (o := HO.tup [ct])
    have S2 := s1.trans s2
    generalize upd (upd H ta (HO.tup avs)) tc (HO.tup [ct]) = H2 at S2 ha hc ⊢
    intro x dx nx ndx nex
    have sx0 : Same H2 (upd (upd H2 dx (.own x)) x (.ins (aHouse K) dx [])) := (new_same ndx).trans (new_same (by rw [upd_ne (Ne.symm nex)]; exact nx))
    refine ⟨x, dx, ta, tc, _, _, rfl, upd_same, sx0 _ _ ha, sx0 _ _ hc, fun H3 as cs s3 h3 has hcs => ⟨rfl, ?_⟩⟩
    have S3 : Same H H3 := S2.trans (same_made nx ndx s3)
    exact k _ H3 S3 ⟨x, dx, as, cs, ct, avs, rfl, h3, has, NKs.tx (TX.same S3) _ _ q3, hcs, q5.tx (TX.same S3) fun _ _ => FrT.same S3⟩
theorem cal_lmade {f : Addr} {fd : FuncData} (F : FnP K "_law_made" "_law_made" s_law_made f fd) (T : Txt K mg) (g : mg "_law_made" = some (.ref f)) (k_House : C8.Mak P w K mg base 1 "House" (aHouse K) (spHouse K) []) : C8.Cal P w K mg base 3 "_law_made" (spLMade K) [] :=
  ⟨f, fd, _, [], ok_lmade F T k_House, g, F.kp, F.bindsN fun _ _ _ _ _ _ us hl => match us, hl with | [_], _ => rfl, .nil⟩
/-! ### walk -/
def spLWalk : Sp := fun vs H Q _ => ∃ (c : Cf) (hv : V), vs = [hv] ∧ LhAt H c hv ∧ c.Ok ∧ ∀ w H', WkE H c.nv c.na w (first c, first c, []) H' → Q (.ref w) H'
theorem sc_law_walk : FnScope ["_law_house_here", "_law_start_here"] ["_law_house_here"] (defScope s_law_walk) := ⟨rfl, rfl, rfl, by decide +kernel, rfl, by decide +kernel, by decide +kernel⟩
theorem ok_lwalk {f : Addr} {fd : FuncData} (F : FnP K "_law_walk" "_law_walk" s_law_walk f fd) (T : Txt K mg) (c_law_start : C8.Cal P w K mg base 1 "_law_start" spLStart []) (c_law_copy : C8.Cal P w K mg base 1 "_law_copy" spLCopy []) : FnOk P w K mg base CX0 2 f fd ["_law_house_here"] spLWalk := by
  refine F.ok sc_law_walk (fun vs H Q E h => ?_) (fun cdv A outer s H vs Q E hr h => ?_)
  · obtain ⟨c, hv, rfl, _⟩ := h
    rfl
  · obtain ⟨c, hv, rfl, hh, co, k⟩ := h
    refine ⟨_, PSs.nox ((pss_cons (ps_set (i := 1) sc_law_walk.nd rfl (Or.inl rfl) (C8.pe_c c_law_start hr (by decide) (by rfl) (pa_cons (pv 0) pa_nil)))
      (pss_one (ps_ret (pe_lst (pa_cons (pv 1) (pa_cons (C8.pe_c c_law_copy hr (by decide) (by rfl) (pa_cons (pv 1) pa_nil)) (pa_cons (pe_lst pa_nil) (pa_cons pe_int pa_nil))))))))), ?_⟩
    refine ⟨_, rfl, c, hv, rfl, hh, co, fun a vv aa rv ra po H1 s1 st1 nw1 => ?_⟩
    refine ⟨_, rfl, _, rfl, c.nv, c.na, a, vv, aa, rv, ra, po, first c, rfl, st1, fun a' vv' aa' rv' ra' po' H2 s2 st2 nw2 => ?_⟩
    refine ⟨(by show 0 ≤ sizeLine; decide), fun ol nol => ⟨(by show 4 ≤ sizeLine; decide), fun w nw => ?_⟩⟩
    have s3 := new_same (o := HO.lst []) nol
    have s4 := new_same (o := HO.lst [V.ref a, V.ref a', V.ref ol, V.int 0]) nw
    have s34 := s3.trans s4
    have nw2' : H2 w = none := none_upd nw
    have ho := s4 _ _ (upd_same (H := H2) (a := ol) (o := HO.lst []))
    have hw := upd_same (H := upd H2 ol (HO.lst [])) (a := w) (o := HO.lst [V.ref a, V.ref a', V.ref ol, V.int 0])
    have wo : w ≠ ol := Ne.symm (ne_of_none upd_same nw)
    generalize upd (upd H2 ol (HO.lst [])) w (HO.lst [V.ref a, V.ref a', V.ref ol, V.int 0]) = Hf at s34 ho hw ⊢
    have S24 := s2.trans s34
    have st12 := st1.same s2
    have nn : ∀ {x : Addr} {o : HO}, H2 x = some o → x ≠ w ∧ x ≠ ol := fun e => ⟨ne_of_none e nw2', ne_of_none e nol⟩
    have nl : ∀ {x : Addr} {xs : List V}, H1 x = some (.lst xs) → (∀ b n, xs ≠ optV b n) → x ∉ Dw w ol rv ra po := fun {x xs} e no m => by
      rcases memDw.mp m with z | z | z | z | z
      · exact (nn (s2 _ _ e)).1 z
      · exact (nn (s2 _ _ e)).2 z
      · exact ne_lst e st1.v (no _ _) z
      · exact ne_lst e st1.h (no _ _) z
      · exact ne_lst e st1.o (no _ _) z
    have n3 : ∀ {x : Addr}, x ∈ [a', vv', aa', rv', ra', po'] → ∀ {o : HO}, H2 x = some o → cut (Dw w ol rv ra po) Hf x = some o := fun {x} m {o} e => cut_of (s34 _ _ e) fun y => by
      have nx := nw2 _ m
      rcases memDw.mp y with z | z | z | z | z
      · exact (nn e).1 z
      · exact (nn e).2 z
      · rw [z, st1.v] at nx; cases nx
      · rw [z, st1.h] at nx; cases nx
      · rw [z, st1.o] at nx; cases nx
    refine k w Hf ⟨a, vv, aa, rv, ra, po, a', vv', aa', rv', ra', po', ol, 0, [], hw, ho, st1.same S24, nl st1.top (fun _ _ => optV_3), nl st1.vs (fun _ _ => optV_1), nl st1.am (fun _ _ => optV_1), wo, ?_, ?_, ⟨n3 (by simp) st2.top, n3 (by simp) st2.vs, n3 (by simp) st2.am, n3 (by simp) st2.v, n3 (by simp) st2.h, n3 (by simp) st2.o, st2.n1, st2.n2, st2.n3⟩, .nil, fun x o e => cut_of (S24 _ _ (s1 _ _ e)) fun y => ?_⟩
    · intro m
      simp only [List.mem_cons, List.not_mem_nil, or_false] at m
      rcases m with z | z | z
      · exact (nn st12.v).1 z.symm
      · exact (nn st12.h).1 z.symm
      · exact (nn st12.o).1 z.symm
    · intro m
      simp only [List.mem_cons, List.not_mem_nil, or_false] at m
      rcases m with z | z | z
      · exact (nn st12.v).2 z.symm
      · exact (nn st12.h).2 z.symm
      · exact (nn st12.o).2 z.symm
    · rcases memDw.mp y with z | z | z | z | z
      · exact (nn (s2 _ _ (s1 _ _ e))).1 z
      · exact (nn (s2 _ _ (s1 _ _ e))).2 z
      · exact ne_of_none e (nw1 rv (by simp)) z
      · exact ne_of_none e (nw1 ra (by simp)) z
      · exact ne_of_none e (nw1 po (by simp)) z
theorem cal_lwalk {f : Addr} {fd : FuncData} (F : FnP K "_law_walk" "_law_walk" s_law_walk f fd) (T : Txt K mg) (g : mg "_law_walk" = some (.ref f)) (c_law_start : C8.Cal P w K mg base 1 "_law_start" spLStart []) (c_law_copy : C8.Cal P w K mg base 1 "_law_copy" spLCopy []) : C8.Cal P w K mg base 2 "_law_walk" spLWalk [] :=
  ⟨f, fd, _, [], ok_lwalk F T c_law_start c_law_copy, g, F.kp, F.bindsN fun _ _ _ _ _ _ us hl => match us, hl with | [_], _ => rfl, .nil⟩
/-! ### drawn -/
def EntV (c : Cf) (H : Hp) (v : V) : Prop := ∃ t i pr g, v = .ref t ∧ H t = some (.tup [.str "call", .str "c", .str (pq i), .int g]) ∧ c.prs[i]? = some pr ∧ pr.shown = true ∧ 0 ≤ g ∧ g < pr.size
theorem EntV.tx {c : Cf} {H H' : Hp} {v : V} (t : TX H H') : EntV c H v → EntV c H' v
  | ⟨a, i, pr, g, e, h, r⟩ => ⟨a, i, pr, g, e, t _ _ h, r⟩
def spLDraw : Sp := fun vs H Q _ => ∃ (c : Cf) (hv : V) (w : Addr) (n : Int) (G : Hp) (s b : S) (os : List (List (Int × Sm))), vs = [hv, .ref w, .int n] ∧ LhAt G c hv ∧ c.Ok ∧ WkE G c.nv c.na w (s, b, os) H ∧ OsOk c os ∧
  (∀ H', Same H H' → Q .non H') ∧
  (∀ t H' os' g k r m, Same H H' → os = os' ++ [(g, Sm.ask k) :: r] → 0 ≤ m → m < k → H' t = some (.tup [.str "answer", .int m]) → Q (.ref t) H') ∧
  (∀ t H' i pr g, Same H H' → c.prs[i]? = some pr → pr.shown = true → 0 ≤ g → g < pr.size → H' t = some (.tup [.str "call", .str "c", .str (pq i), .int g]) → os.length ≤ 4 → Q (.ref t) H')
theorem sc_law_drawn : FnScope ["_law_house_here", "_law_walk_here", "_law_cell_here", "_law_entries", "_law_contract_here", "_law_proc"] ["_law_house_here", "_law_walk_here", "_law_cell_here"] (defScope s_law_drawn) := ⟨rfl, rfl, rfl, by decide +kernel, rfl, by decide +kernel, by decide +kernel⟩
theorem ok_ldraw {f : Addr} {fd : FuncData} (F : FnP K "_law_drawn" "_law_drawn" s_law_drawn f fd) (T : Txt K mg) : FnOk P w K mg base CX0 1 f fd ["_law_house_here", "_law_walk_here", "_law_cell_here"] spLDraw := by
  refine F.ok sc_law_drawn (fun vs H Q E h => ?_) (fun cdv A outer s H vs Q E hr h => ?_)
  · obtain ⟨c, hv, w, n, G, s, b, os, rfl, _⟩ := h
    rfl
  · obtain ⟨c, hv, w, n, G, s, b, os, rfl, hG, co, ⟨a, vv, aa, rv, ra, po, a', vv', aa', rv', ra', po', ol, f, ovs, wk⟩, oo, k0, k1, k2⟩ := h
    refine ⟨_, PSs.nox ((pss_cons (ps_if (PW.pt (pw_and (pt_cmpR op_gt (pe_callB call_len (by rfl) T.len bt_len (pa_cons (pe_ix ix_list (pv 1) pe_int (fun _ _ => rfl)) pa_nil)) pe_int (nomark _)) (pw_and1 (pt_cmpR op_gt (pe_op op_mod (pe_callTy call_int1 (by rfl) T.int bt_int (pa_cons (pv 2) pa_nil)) pe_int) pe_int (nomark _))))) (pss_one (ps_ret (pe_tup (pa_cons pe_str (pa_cons (pe_op op_mod (pe_op op_fdiv (pe_callTy call_int1 (by rfl) T.int bt_int (pa_cons (pv 2) pa_nil)) pe_int) (pe_ix ix_tup (pe_ix ix_tup (pe_ix ix_list (pe_ix ix_list (pe_ix ix_list (pv 1) pe_int (fun _ _ => rfl)) (pe_un un_neg pe_int) (fun _ _ => rfl)) pe_int (fun _ _ => rfl)) pe_int (fun _ _ => rfl)) pe_int (fun _ _ => rfl))) pa_nil))))) pss_nil)
      (pss_cons (ps_set (i := 3) sc_law_drawn.nd rfl (Or.inl rfl) (pe_lst pa_nil))
      (pss_cons (ps_for PassesOwn.never rfl (pi_list (pe_ix ix_tup (pv 0) pe_int (fun _ _ => rfl))) (pg_name (i := 4) sc_law_drawn.nd rfl (Or.inl rfl)) (pss_one (ps_for PassesOwn.never rfl (pi_tup (pe_ix ix_tup (pv 4) pe_int (fun _ _ => rfl))) (pg_name (i := 5) sc_law_drawn.nd rfl (Or.inl rfl)) (pss_one (ps_if (pt_val (pe_ix ix_tup (pv 5) pe_int (fun _ _ => rfl))) (pss_one (ps_expr (pe_bm PySem.F.plainAttrs_list PySem.F.slot_list_append PySem.F.type_list_append mt_append (pv 3) (pa_cons (pe_tup (pa_cons pe_str (pa_cons (pe_ix ix_tup (pv 4) pe_int (fun _ _ => rfl)) (pa_cons (pe_ix ix_tup (pv 5) pe_int (fun _ _ => rfl)) (pa_cons (pe_op op_mod (pe_op op_fdiv (pe_callTy call_int1 (by rfl) T.int bt_int (pa_cons (pv 2) pa_nil)) pe_int) (pe_ix ix_tup (pv 5) pe_int (fun _ _ => rfl))) pa_nil))))) pa_nil)))) pss_nil)))))
      (pss_cons (ps_if (PW.pt (pw_or (pt_cmpR op_eq (pe_callB call_len (by rfl) T.len bt_len (pa_cons (pv 3) pa_nil)) pe_int (nomark _)) (pw_or1 (pt_cmpR op_gt (pe_callB call_len (by rfl) T.len bt_len (pa_cons (pe_ix ix_list (pv 1) pe_int (fun _ _ => rfl)) pa_nil)) pe_int (nomark _))))) (pss_one (ps_ret pe_non)) pss_nil)
      (pss_one (ps_ret (pe_ix ix_list (pv 3) (pe_op op_mod (pe_op op_fdiv (pe_callTy call_int1 (by rfl) T.int bt_int (pa_cons (pv 2) pa_nil)) pe_int) (pe_callB call_len (by rfl) T.len bt_len (pa_cons (pv 3) pa_nil))) (fun _ _ => rfl))))))))), ?_⟩
    dsimp only [cxOf, Cx.nox]
    replace wk : Wk G c.nv c.na w a vv aa rv ra po a' vv' aa' rv' ra' po' ol f ovs s b os H := wk
    have opl := Paired.length wk.op
    have le := cut_le (Dw w ol rv ra po) H
    refine ⟨_, rfl, w, _, 2, _, rfl, rfl, SqL.of wk.hw, rfl, _, _, rfl, .inl ⟨_, SqL.of wk.ho, rfl⟩, _, _, rfl, rfl, _, rfl, andG (fun h => ⟨_, rfl, .inl ⟨n, rfl, _, _, rfl, rfl, by show (0 : Int) < 3; decide, _, _, rfl, rfl, _, rfl, h⟩⟩) (fun h1 h2 => ?_) fun _ => ?_⟩
    · have hne : os ≠ [] := fun z => by
        have h3 : (0 : Int) < (ovs.length : Int) := of_decide_eq_true h1
        rw [z] at opl
        have : (0 : Nat) = ovs.length := opl
        omega
      obtain ⟨os', l, rfl⟩ : ∃ os' l, os = os' ++ [l] := ⟨os.dropLast, os.getLast hne, (List.dropLast_concat_getLast hne).symm⟩
      obtain ⟨g, kk, r, rfl⟩ := oo.hd _ (List.mem_append_right _ (List.mem_singleton_self _))
      obtain ⟨ovs', v9, rfl, op', p, pvs, rfl, hp, lp0⟩ := Paired.unsnoc wk.op
      obtain ⟨q0, sv, us, rfl, h0, nk0, lp1⟩ := lp0
      have okk := ((oo.ok _ (List.mem_append_right _ (List.mem_singleton_self _))).2 _ (List.mem_cons_self ..)).1
      simp only [Sm.ok, Bool.and_eq_true, decide_eq_true_eq] at okk
      cases nk0 with
      | @tup qs _ _ z1 z2 =>
        cases z2 with
        | cons z3 z4 =>
          cases z3
          cases z4 with
          | cons z5 z6 =>
            cases z5
            cases z6 with
            | cons z7 z8 =>
              cases z7
              cases z8
              have kp : (0 : Int) < kk := by omega
              refine ⟨_, rfl, .inl ⟨n, rfl, _, _, rfl, rfl, ⟨by decide, by decide⟩, _, rfl, w, _, 2, _, rfl, rfl, SqL.of wk.hw, rfl, _, rfl, ol, _, -1, .ref p, rfl, rfl, SqL.of wk.ho, atI_last _ _, p, _, 0, .ref q0, rfl, rfl, SqL.of (le _ _ hp), at_of (j := 0) rfl rfl, q0, _, 2, _, rfl, rfl, SqT.of (le _ _ h0), rfl, qs, _, 2, _, rfl, rfl, SqT.of (le _ _ z1), rfl, _, _, rfl, rfl, kp, (by show 2 ≤ sizeLine; decide), fun t nt => ?_⟩⟩
              exact k1 t _ os' g kk r _ (new_same nt) rfl (Int.emod_nonneg _ (by omega)) (Int.emod_lt_of_pos _ kp) upd_same
    · refine ⟨(by show 0 ≤ sizeLine; decide), fun el nel => ?_⟩
      have s1 := new_same (o := HO.lst []) nel
      have e1 := upd_same (H := H) (a := el) (o := HO.lst [])
      generalize upd H el (HO.lst []) = H1 at s1 e1 ⊢
      obtain ⟨hb, la, lc, avs, ct, rfl, q1, q2, q3, q4, q5⟩ := id hG
      obtain ⟨ca, av, ah, ap, cvs, rfl, u1, u2, u3, u4, u5⟩ := q5
      have sg : Same G H := wk.sm.trans le
      refine ⟨_, rfl, hb, _, 1, _, rfl, rfl, SqT.of (s1 _ _ (sg _ _ q1)), rfl, lc, rfl, ⟨_, SqL.of (s1 _ _ (sg _ _ q4))⟩, for_list (K := K) (xs := [V.ref ca]) (fun i σ Hz => ∃ x4 x5 acc, σ = [some (.ref hb), some (.ref w), some (.int n), some (.ref el), x4, x5] ∧ Same H Hz ∧ Hz el = some (.lst acc) ∧ (i = 0 → acc = []) ∧ acc.length ≤ 2 ∧ ∀ v ∈ acc, EntV c Hz v)
        ⟨_, _, [], rfl, s1, e1, (fun _ => rfl), Nat.zero_le _, fun v hv => nomatch hv⟩ (fun i σ Hz _ ⟨_, _, _, _, sz, _⟩ => SqL.of (sz _ _ (sg _ _ q4))) ?_ ?_⟩
      · rintro i x σ Hz hi ⟨x4, x5, acc, rfl, sz, ez, e0, _, _⟩
        have i0 : i = 0 := by have := (List.getElem?_eq_some_iff.mp hi).1; have : i < 1 := this; omega
        subst i0
        cases hi
        cases e0 rfl
        have pl := u5.length
        refine ⟨_, rfl, ca, _, 3, _, rfl, rfl, SqT.of (sz _ _ (sg _ _ u1)), rfl, ap, rfl, ⟨_, SqT.of (sz _ _ (sg _ _ u4))⟩, for_tup (K := K) (xs := cvs) (fun j σ Hy => ∃ x5 acc, σ = [some (.ref hb), some (.ref w), some (.int n), some (.ref el), some (.ref ca), x5] ∧ Same H Hy ∧ Hy el = some (.lst acc) ∧ acc.length ≤ j ∧ ∀ v ∈ acc, EntV c Hy v)
          ⟨_, [], rfl, sz, ez, Nat.zero_le _, fun v hv => nomatch hv⟩ (fun i σ Hy _ ⟨_, _, _, sy, _⟩ => SqT.of (sy _ _ (sg _ _ u4))) ?_ ?_⟩
        · rintro j xp σ Hy hj ⟨x5, acc, rfl, sy, ey, hl, hen⟩
          obtain ⟨pr, hpr, pa, bb, rfl, hpa, _⟩ := PrsAt.get u5 hj
          rw [Nat.zero_add] at hpa
          have hpa' := sy _ _ (sg _ _ hpa)
          have jl := (List.getElem?_eq_some_iff.mp hpr).1
          have n2 := co.n2
          refine ⟨_, rfl, pa, _, 2, _, rfl, rfl, SqT.of hpa', rfl, _, rfl, ifb (fun hs => ?_) fun hs => ?_⟩
          · have sz1 : 0 < pr.size := by have := (co.pr pr (List.mem_of_getElem? hpr)).1; omega
            refine ⟨_, rfl, .inl ⟨rfl, _, SqL.of ey⟩, _, rfl, ca, _, 0, _, rfl, rfl, SqT.of (sy _ _ (sg _ _ u1)), rfl, _, rfl, pa, _, 0, _, rfl, rfl, SqT.of hpa', rfl, _, rfl, .inl ⟨n, rfl, _, _, rfl, rfl, ⟨by decide, by decide⟩, _, rfl, pa, _, 1, _, rfl, rfl, SqT.of hpa', rfl, _, _, rfl, rfl, sz1, (by show 4 ≤ sizeLine; decide), fun t nt => ?_⟩⟩
            have st := new_same (o := HO.tup [V.str "call", V.str "c", V.str (pq j), V.int (n / 21 % pr.size)]) nt
            have tel : t ≠ el := fun z => by rw [z, ey] at nt; cases nt
            refine ⟨el, _, _, rfl, rfl, st _ _ ey, szl (by omega), ?_⟩
            have tx : TX Hy (upd (upd Hy t (HO.tup [V.str "call", V.str "c", V.str (pq j), V.int (n / 21 % pr.size)])) el (.lst (acc ++ [V.ref t]))) := fun b xs h => by
              rw [upd_ne (fun z => by rw [z, ey] at h; cases h)]
              exact st _ _ h
            refine ⟨_, acc ++ [V.ref t], rfl, fun x o h => by rw [upd_ne (ne_of_none h nel)]; exact st _ _ (sy _ _ h), upd_same, by rw [List.length_append]; exact Nat.succ_le_succ hl, fun v hv => ?_⟩
            rcases List.mem_append.mp hv with hv | hv
            · exact (hen v hv).tx tx
            · rw [List.mem_singleton.mp hv]
              exact ⟨t, j, pr, _, rfl, by rw [upd_ne tel]; exact upd_same, hpr, hs, Int.emod_nonneg _ (by omega), Int.emod_lt_of_pos _ sz1⟩
          · exact ⟨_, acc, rfl, sy, ey, by omega, hen⟩
        · rintro σ Hy ⟨x5, acc, rfl, sy, ey, hl, hen⟩
          have n2 := co.n2
          exact ⟨_, _, acc, rfl, sy, ey, (fun z => nomatch z), by omega, hen⟩
      · rintro σ Hz ⟨x4, x5, acc, rfl, sz, ez, _, hl, hen⟩
        have hwz := sz _ _ wk.hw
        have hoz := sz _ _ wk.ho
        refine ⟨_, rfl, _, _, rfl, .inl ⟨_, SqL.of ez, rfl⟩, rfl, _, rfl, ifb (fun h => ifT rfl (k0 Hz sz)) fun h => ?_⟩
        refine ⟨_, rfl, w, _, 2, _, rfl, rfl, SqL.of hwz, rfl, _, _, rfl, .inl ⟨_, SqL.of hoz, rfl⟩, _, _, rfl, rfl, _, rfl, ifb (fun h => k0 Hz sz) fun h2 => ?_⟩
        have ol4 : os.length ≤ 4 := by
          have h3 : ¬ (4 : Int) < (ovs.length : Int) := of_decide_eq_false h2
          omega
        have a0 : 0 < acc.length := by
          have h3 : ¬ V.int (acc.length : Int) = V.int 0 := of_decide_eq_false h
          rcases Nat.eq_zero_or_pos acc.length with z | z
          · exact absurd (by rw [z]; rfl) h3
          · exact z
        have a0' : (0 : Int) < (acc.length : Int) := by omega
        have m0 := Int.emod_nonneg (n / 3) (show (acc.length : Int) ≠ 0 by omega)
        have m1 := Int.emod_lt_of_pos (n / 3) a0'
        obtain ⟨j, hj⟩ : ∃ j : Nat, n / 3 % (acc.length : Int) = (j : Int) := ⟨(n / 3 % (acc.length : Int)).toNat, by omega⟩
        have jl : j < acc.length := by omega
        obtain ⟨t, i, pr, g, ev, ht, e1, e2, e3, e4⟩ := hen acc[j] (List.getElem_mem jl)
        refine ⟨_, rfl, _, rfl, .inl ⟨n, rfl, _, _, rfl, rfl, ⟨by decide, by decide⟩, _, rfl, _, _, rfl, .inl ⟨_, SqL.of ez, rfl⟩, _, _, rfl, rfl, a0', el, _, _, .ref t, rfl, rfl, SqL.of ez, at_of (j := j) hj (by rw [List.getElem?_eq_getElem jl, ev]), ?_⟩⟩
        exact k2 t Hz i pr g sz e1 e2 e3 e4 ht ol4
theorem cal_ldraw {f : Addr} {fd : FuncData} (F : FnP K "_law_drawn" "_law_drawn" s_law_drawn f fd) (T : Txt K mg) (g : mg "_law_drawn" = some (.ref f)) : C8.Cal P w K mg base 1 "_law_drawn" spLDraw [] :=
  ⟨f, fd, _, [], ok_ldraw F T, g, F.kp, F.bindsN fun _ _ _ _ _ _ us hl => match us, hl with | [_, _, _], _ => rfl, .nil⟩
end
end NC
set_option Elab.async false
set_option linter.all false
set_option maxRecDepth 100000
set_option maxHeartbeats 4000000
/-! The law's changed rows. -/
namespace NC
open PySem PySem.Spec PyProof.Rows L2
theorem Paired.take {α β : Type} {F : α → β → Prop} {l : List α} {m : List β} (h : Paired F l m) : ∀ i : Nat, Paired F (l.take i) (m.take i) := by
  induction h with
  | nil => intro i; simp only [List.take_nil]; exact .nil
  | cons h1 _ ih =>
    intro i
    cases i with
    | zero => exact .nil
    | succ i => exact .cons h1 (ih i)
theorem Paired.drop {α β : Type} {F : α → β → Prop} {l : List α} {m : List β} (h : Paired F l m) : ∀ i : Nat, Paired F (l.drop i) (m.drop i) := by
  induction h with
  | nil => intro i; simp only [List.drop_nil]; exact .nil
  | cons h1 h2 ih =>
    intro i
    cases i with
    | zero => exact .cons h1 h2
    | succ i => exact ih i
theorem Paired.append {α β : Type} {F : α → β → Prop} {l : List α} {m : List β} (h : Paired F l m) {l' : List α} {m' : List β} (k : Paired F l' m') : Paired F (l ++ l') (m ++ m') := by
  induction h with
  | nil => exact k
  | cons h1 _ ih => exact .cons h1 ih
theorem PsR.take {nv na : Bool} {H : Hp} {ps : Tab} {vs : List V} (h : PsR nv na H ps vs) (i : Nat) : PsR nv na H (ps.take i) (vs.take i) := Paired.take h i
theorem PsR.drop {nv na : Bool} {H : Hp} {ps : Tab} {vs : List V} (h : PsR nv na H ps vs) (i : Nat) : PsR nv na H (ps.drop i) (vs.drop i) := Paired.drop h i
theorem NKs.take {H : Hp} : ∀ {ks : List NestedKey} {vs : List V} (i : Nat), NKs H ks vs → NKs H (ks.take i) (vs.take i)
  | _, _, 0, _ => by rw [List.take_zero, List.take_zero]; exact .nil
  | _, _, i + 1, .nil => .nil
  | _, _, i + 1, .cons h1 h2 => .cons h1 (NKs.take i h2)
theorem NKs.drop {H : Hp} : ∀ {ks : List NestedKey} {vs : List V} (i : Nat), NKs H ks vs → NKs H (ks.drop i) (vs.drop i)
  | _, _, 0, h => h
  | _, _, i + 1, .nil => .nil
  | _, _, i + 1, .cons h1 h2 => NKs.drop i h2
/-- a state with an amount more -/
def more (na : Bool) (b : S) : S := if na then { b with o := b.o + 1 } else b
/-- the changed rows -/
inductive Chd (na : Bool) (ps : Tab) (way : Int) : Tab → Prop
  | cut {i p : Nat} {b : S} {row : List S} : ps[i]? = some (b, row) → way / 4 % (ps.length : Int) = (i : Int) → way % 4 = 0 → p < row.length → Chd na ps way (ps.take i ++ (b, row.take p ++ row.drop (p + 1)) :: ps.drop (i + 1))
  | del {i : Nat} {b : S} {row : List S} : ps[i]? = some (b, row) → way / 4 % (ps.length : Int) = (i : Int) → way % 4 = 1 → Chd na ps way (ps.take i ++ ps.drop (i + 1))
  | more {i : Nat} {b : S} {row : List S} : ps[i]? = some (b, row) → way / 4 % (ps.length : Int) = (i : Int) → way % 4 = 2 → Chd na ps way (ps.take i ++ (b, row ++ [more na b]) :: ps.drop (i + 1))
  | join {i j : Nat} {b d : S} {row other : List S} : ps[i]? = some (b, row) → way / 4 % (ps.length : Int) = (i : Int) → way % 4 = 3 → ps[j]? = some (d, other) → Chd na ps way (ps.take i ++ (b, row ++ other.filter fun x => decide (x ∉ row)) :: ps.drop (i + 1))
structure PsFine (nv na : Bool) (ps : Tab) : Prop where
  ne : ps ≠ []
  len : ps.length ≤ 10
  ok : ∀ y ∈ ps, y.1.Ok nv na ∧ y.2 ≠ [] ∧ y.2.length ≤ 10 ∧ ∀ x ∈ y.2, x.Ok nv na
section
variable {P : Program} {w : World} {K : PySem.W.Frag} {mg : Str → Option Value} {base : Heap}
def spLChg : Sp := fun vs H Q _ => ∃ (lr : Addr) (way : Int) (nv na : Bool) (ps : Tab) (pvs : List V), vs = [.ref lr, .int way] ∧ H lr = some (.lst pvs) ∧ PsR nv na H ps pvs ∧ PsFine nv na ps ∧
  ∀ l H' ps' pvs', Same H H' → H' l = some (.lst pvs') → PsR nv na H' ps' pvs' → Chd na ps way ps' → Q (.ref l) H'
theorem sc_law_changed : FnScope ["_law_rows", "_law_way", "_law_at", "_law_state", "_law_row_here", "_law_place", "_law_more", "_law_amount", "_law_other", "_law_left"] ["_law_rows", "_law_way"] (defScope s_law_changed) := ⟨rfl, rfl, rfl, by decide +kernel, rfl, by decide +kernel, by decide +kernel⟩
theorem ok_lchg {f : Addr} {fd : FuncData} (F : FnP K "_law_changed" "_law_changed" s_law_changed f fd) (T : Txt K mg) : FnOk P w K mg base CX0 1 f fd ["_law_rows", "_law_way"] spLChg := by
  refine F.ok sc_law_changed (fun vs H Q E h => ?_) (fun cdv A outer s H vs Q E hr h => ?_)
  · obtain ⟨lr, way, nv, na, ps, pvs, rfl, _⟩ := h
    rfl
  · obtain ⟨lr, way, nv, na, ps, pvs, rfl, hlr, hps, fine, k⟩ := h
    have hu65 := hu65 hr
    refine ⟨_, PSs.nox ((pss_cons (ps_set (i := 2) sc_law_changed.nd rfl (Or.inl rfl) (pe_op op_mod (pe_op op_fdiv (pv 1) pe_int) (pe_callB call_len (by rfl) T.len bt_len (pa_cons (pv 0) pa_nil))))
      (pss_cons (ps_set (i := 3) sc_law_changed.nd rfl (Or.inl rfl) (pe_ix ix_tup (pe_ix ix_list (pv 0) (pv 2) (fun _ _ => rfl)) pe_int (fun _ _ => rfl)))
      (pss_cons (ps_set (i := 4) sc_law_changed.nd rfl (Or.inr rfl) (pe_callTy call_list_of (by rfl) T.list bt_list (pa_cons (pe_ix ix_tup (pe_ix ix_list (pv 0) (pv 2) (fun _ _ => rfl)) pe_int (fun _ _ => rfl)) pa_nil)))
      (pss_cons (ps_if (pt_cmpR op_eq (pe_op op_mod (pv 1) pe_int) pe_int (nomark _)) (pss_cons (ps_set (i := 5) sc_law_changed.nd rfl (Or.inl rfl) (pe_op op_mod (pe_op op_fdiv (pv 1) pe_int) (pe_callB call_len (by rfl) T.len bt_len (pa_cons (pv 4) pa_nil))))
      (pss_one (ps_ret (pe_op op_cat (pe_op op_cat (pe_slice sl_list (pv 0) po_none (po_some (pv 2))) (pe_lst (pa_cons (pe_tup (pa_cons (pv 3) (pa_cons (pe_op op_cat (pe_slice sl_list (pv 4) po_none (po_some (pv 5))) (pe_slice sl_list (pv 4) (po_some (pe_op op_add (pv 5) pe_int)) po_none)) pa_nil))) pa_nil))) (pe_slice sl_list (pv 0) (po_some (pe_op op_add (pv 2) pe_int)) po_none))))) pss_nil)
      (pss_cons (ps_if (pt_cmpR op_eq (pe_op op_mod (pv 1) pe_int) pe_int (nomark _)) (pss_one (ps_ret (pe_op op_cat (pe_slice sl_list (pv 0) po_none (po_some (pv 2))) (pe_slice sl_list (pv 0) (po_some (pe_op op_add (pv 2) pe_int)) po_none)))) pss_nil)
      (pss_cons (ps_if (pt_cmpR op_eq (pe_op op_mod (pv 1) pe_int) pe_int (nomark _)) (pss_cons (ps_set (i := 6) sc_law_changed.nd rfl (Or.inl rfl) (pe_tup (pa_cons (pe_ix ix_tup (pv 3) pe_int (fun _ _ => rfl)) (pa_cons (pe_ix ix_tup (pv 3) pe_int (fun _ _ => rfl)) (pa_cons (pe_callTy call_tuple_of (by rfl) T.tuple bt_tuple (pa_cons (pe_lc (own := [("_law_amount", 7)]) rfl sc_law_changed.nd (pi_tup (pe_ix ix_tup (pv 3) pe_int (fun _ _ => rfl))) (blkOk_by (own := [("_law_amount", 7)]) (N := ["_law_rows", "_law_way", "_law_at", "_law_state", "_law_row_here", "_law_place", "_law_more", "_law_amount", "_law_other", "_law_left"]) (sc := defScope s_law_changed) (by decide +kernel)) (fun _ _ _ _ _ => (pg_name (i := 7) sc_law_changed.nd rfl (Or.inl rfl))) (fun _ _ _ _ _ => pts_nil) (fun _ _ _ _ _ => (pe_op op_add (pv 7) pe_int))) pa_nil)) pa_nil)))))
      (pss_one (ps_ret (pe_op op_cat (pe_op op_cat (pe_slice sl_list (pv 0) po_none (po_some (pv 2))) (pe_lst (pa_cons (pe_tup (pa_cons (pv 3) (pa_cons (pe_op op_cat (pv 4) (pe_lst (pa_cons (pv 6) pa_nil))) pa_nil))) pa_nil))) (pe_slice sl_list (pv 0) (po_some (pe_op op_add (pv 2) pe_int)) po_none))))) pss_nil)
      (pss_cons (ps_set (i := 8) sc_law_changed.nd rfl (Or.inl rfl) (pe_ix ix_tup (pe_ix ix_list (pv 0) (pe_op op_mod (pe_op op_fdiv (pv 1) pe_int) (pe_callB call_len (by rfl) T.len bt_len (pa_cons (pv 0) pa_nil))) (fun _ _ => rfl)) pe_int (fun _ _ => rfl)))
      (pss_one (ps_ret (pe_op op_cat (pe_op op_cat (pe_slice sl_list (pv 0) po_none (po_some (pv 2))) (pe_lst (pa_cons (pe_tup (pa_cons (pv 3) (pa_cons (pe_op op_cat (pv 4) (pe_lc (own := [("_law_left", 9)]) rfl sc_law_changed.nd (pi_list (pv 8)) (blkOk_by (own := [("_law_left", 9)]) (N := ["_law_rows", "_law_way", "_law_at", "_law_state", "_law_row_here", "_law_place", "_law_more", "_law_amount", "_law_other", "_law_left"]) (sc := defScope s_law_changed) (by decide +kernel)) (fun _ _ _ _ _ => (pg_name (i := 9) sc_law_changed.nd rfl (Or.inl rfl))) (fun _ _ _ _ _ => (pts_one (pt_cmpR (op_notInDK (K := K) hu65 rfl) (pv 9) (pv 4) (by rfl)))) (fun _ _ _ _ _ => (pv 9)))) pa_nil))) pa_nil))) (pe_slice sl_list (pv 0) (po_some (pe_op op_add (pv 2) pe_int)) po_none)))))))))))), ?_⟩
    dsimp only [cxOf, Cx.nox]
    have pvl : pvs.length = ps.length := (Paired.length hps).symm
    have pl := fine.len
    have pn : 0 < ps.length := List.length_pos_iff.mpr fine.ne
    have pn' : (0 : Int) < (pvs.length : Int) := by omega
    have m0 := Int.emod_nonneg (way / 4) (show (pvs.length : Int) ≠ 0 by omega)
    have m1 := Int.emod_lt_of_pos (way / 4) pn'
    obtain ⟨i, hi⟩ : ∃ i : Nat, way / 4 % (pvs.length : Int) = (i : Int) := ⟨(way / 4 % (pvs.length : Int)).toNat, by omega⟩
    have il : i < ps.length := by omega
    obtain ⟨⟨b, row⟩, hib⟩ : ∃ y, ps[i]? = some y := ⟨_, List.getElem?_eq_getElem il⟩
    have hi2 : way / 4 % (ps.length : Int) = (i : Int) := by rw [← pvl]; exact hi
    obtain ⟨vi, hvi, ti, sv, lv, rfl, hti, nsv, lw, evs, rfl, hlw, nrow⟩ := Paired.at2 hps hib
    obtain ⟨bok, rne, rlen, rok⟩ := fine.ok _ (List.mem_of_getElem? hib)
    have evl : evs.length = row.length := by rw [← nrow.length, List.length_map]
    have rlen : row.length ≤ 10 := rlen
    refine ⟨_, rfl, _, _, rfl, rfl, ⟨by decide, by decide⟩, _, rfl, _, _, rfl, .inl ⟨_, SqL.of hlr, rfl⟩, _, _, rfl, rfl, pn', ?_⟩
    dsimp only
    rw [hi]
    refine ⟨_, rfl, _, rfl, lr, _, _, _, rfl, rfl, SqL.of hlr, at_of (j := i) rfl hvi, ti, _, 0, _, rfl, rfl, SqT.of hti, rfl, ?_⟩
    refine ⟨_, rfl, _, rfl, lr, _, _, _, rfl, rfl, SqL.of hlr, at_of (j := i) rfl hvi, ti, _, 1, _, rfl, rfl, SqT.of hti, rfl, lw, _, rfl, .inl (SqL.of hlw), fun l4 nl4 => ?_⟩
    have s0 := new_same (o := HO.lst evs) nl4
    have h4 := upd_same (H := H) (a := l4) (o := HO.lst evs)
    generalize upd H l4 (HO.lst evs) = H0 at s0 h4 ⊢
    refine ⟨_, rfl, _, _, rfl, rfl, by show (0 : Int) < 4; decide, rfl, _, rfl, ifb (fun hc => ?_) fun hc0 => ?_⟩
    · have w0 : way % 4 = 0 := V.int.inj (of_decide_eq_true hc)
      have rn : 0 < row.length := List.length_pos_iff.mpr rne
      have rn' : (0 : Int) < (evs.length : Int) := by omega
      have p0 := Int.emod_nonneg (way / 400) (show (evs.length : Int) ≠ 0 by omega)
      have p1 := Int.emod_lt_of_pos (way / 400) rn'
      obtain ⟨p, hp⟩ : ∃ p : Nat, way / 400 % (evs.length : Int) = (p : Int) := ⟨(way / 400 % (evs.length : Int)).toNat, by omega⟩
      refine ⟨_, rfl, _, _, rfl, rfl, ⟨by decide, by decide⟩, _, rfl, _, _, rfl, .inl ⟨_, SqL.of h4, rfl⟩, _, _, rfl, rfl, rn', ?_⟩
      dsimp only
      rw [hp]
      refine ⟨_, rfl, _, rfl, _, rfl, lr, _, rfl, SqL.of (s0 _ _ hlr), fun a1 na1 => ?_⟩
      rw [cut_lo pvs (i := i) (by omega)]
      have s1 := new_same (o := HO.lst (pvs.take i)) na1
      have ha1 := upd_same (H := H0) (a := a1) (o := HO.lst (pvs.take i))
      generalize upd H0 a1 (HO.lst (pvs.take i)) = H1 at s1 ha1 ⊢
      refine ⟨_, rfl, _, rfl, _, rfl, _, rfl, l4, _, rfl, SqL.of (s1 _ _ h4), fun a2 na2 => ?_⟩
      rw [cut_lo evs (i := p) (by omega)]
      have s2 := new_same (o := HO.lst (evs.take p)) na2
      have ha2 := upd_same (H := H1) (a := a2) (o := HO.lst (evs.take p))
      generalize upd H1 a2 (HO.lst (evs.take p)) = H2 at s2 ha2 ⊢
      refine ⟨_, rfl, _, rfl, _, _, rfl, rfl, _, rfl, l4, _, rfl, SqL.of (s2 _ _ (s1 _ _ h4)), fun a3 na3 => ?_⟩
      rw [show ((p : Int) + 1) = ((p + 1 : Nat) : Int) from rfl, cut_hi evs (i := p + 1) (by omega)]
      have s3 := new_same (o := HO.lst (evs.drop (p + 1))) na3
      have ha3 := upd_same (H := H2) (a := a3) (o := HO.lst (evs.drop (p + 1)))
      generalize upd H2 a3 (HO.lst (evs.drop (p + 1))) = H3 at s3 ha3 ⊢
      refine ⟨a2, a3, _, _, rfl, rfl, s3 _ _ ha2, ha3, sz100 (by simp only [List.length_take, List.length_drop]; omega), fun a4 na4 => ⟨(by show 2 ≤ sizeLine; decide), fun t nt => ?_⟩⟩
      have s4 := new_same (o := HO.lst (evs.take p ++ evs.drop (p + 1))) na4
      have ha4 := upd_same (H := H3) (a := a4) (o := HO.lst (evs.take p ++ evs.drop (p + 1)))
      generalize upd H3 a4 (HO.lst (evs.take p ++ evs.drop (p + 1))) = H4 at s4 ha4 nt ⊢
      have s9 := new_same (o := HO.tup [sv, V.ref a4]) nt
      have ht := upd_same (H := H4) (a := t) (o := HO.tup [sv, V.ref a4])
      have ha4' := s9 _ _ ha4
      have st : Same H (upd H4 t (HO.tup [sv, V.ref a4])) := ((((s0.trans s1).trans s2).trans s3).trans s4).trans s9
      replace ha1 := s9 _ _ (s4 _ _ (s3 _ _ (s2 _ _ ha1)))
      generalize upd H4 t (HO.tup [sv, V.ref a4]) = Ht at st ha1 ha4' ht ⊢
      have hprt : PrR nv na Ht (b, row.take p ++ row.drop (p + 1)) (.ref t) := ⟨t, sv, _, rfl, ht, NK.tx (TX.same st) _ _ nsv, a4, _, rfl, ha4', by
        have := NKs.tx (TX.same st) _ _ nrow
        show NKs Ht ((row.take p ++ row.drop (p + 1)).map (eS nv na)) _
        rw [List.map_append, List.map_take, List.map_drop]
        exact (this.take p).append (this.drop (p + 1))⟩
      refine ⟨(by show 1 ≤ sizeLine; decide), fun a5 na5 => ?_⟩
      have s5 := new_same (o := HO.lst [V.ref t]) na5
      have h5 := upd_same (H := Ht) (a := a5) (o := HO.lst [V.ref t])
      generalize upd Ht a5 (HO.lst [V.ref t]) = H5 at s5 h5 ⊢
      refine ⟨a1, a5, _, _, rfl, rfl, s5 _ _ ha1, h5, sz100 (by simp only [List.length_take, List.length_singleton]; omega), fun a6 na6 => ?_⟩
      have s6 := new_same (o := HO.lst (pvs.take i ++ [V.ref t])) na6
      have h6 := upd_same (H := H5) (a := a6) (o := HO.lst (pvs.take i ++ [V.ref t]))
      generalize upd H5 a6 (HO.lst (pvs.take i ++ [V.ref t])) = H6 at s6 h6 ⊢
      have s56 := s5.trans s6
      refine ⟨_, rfl, _, rfl, _, _, rfl, rfl, _, rfl, lr, _, rfl, SqL.of (s56 _ _ (st _ _ hlr)), fun a7 na7 => ?_⟩
      rw [show ((i : Int) + 1) = ((i + 1 : Nat) : Int) from rfl, cut_hi pvs (i := i + 1) (by omega)]
      have s7 := new_same (o := HO.lst (pvs.drop (i + 1))) na7
      have h7 := upd_same (H := H6) (a := a7) (o := HO.lst (pvs.drop (i + 1)))
      generalize upd H6 a7 (HO.lst (pvs.drop (i + 1))) = H7 at s7 h7 ⊢
      refine ⟨a6, a7, _, _, rfl, rfl, s7 _ _ h6, h7, sz100 (by simp only [List.length_take, List.length_drop, List.length_append, List.length_singleton]; omega), fun a8 na8 => ?_⟩
      have s8 := new_same (o := HO.lst (pvs.take i ++ [V.ref t] ++ pvs.drop (i + 1))) na8
      have s58 := (s56.trans s7).trans s8
      refine k a8 _ _ _ (st.trans s58) upd_same (Paired.append (Paired.append ((hps.take i).same (st.trans s58)) (.cons (PrR.grows _ _ _ _ s58 hprt) .nil)) ((hps.drop (i + 1)).same (st.trans s58))) ?_
      rw [List.append_assoc, List.singleton_append]
      exact .cut hib hi2 w0 (by omega)
    · have w0 : way % 4 ≠ 0 := fun z => of_decide_eq_false hc0 (congrArg V.int z)
      refine ⟨_, rfl, _, _, rfl, rfl, by show (0 : Int) < 4; decide, rfl, _, rfl, ifb (fun hc => ?_) fun hc1 => ?_⟩
      · have w1 : way % 4 = 1 := V.int.inj (of_decide_eq_true hc)
        refine ⟨_, rfl, _, rfl, _, rfl, lr, _, rfl, SqL.of (s0 _ _ hlr), fun a1 na1 => ?_⟩
        rw [cut_lo pvs (i := i) (by omega)]
        have s1 := new_same (o := HO.lst (pvs.take i)) na1
        have ha1 := upd_same (H := H0) (a := a1) (o := HO.lst (pvs.take i))
        generalize upd H0 a1 (HO.lst (pvs.take i)) = H1 at s1 ha1 ⊢
        refine ⟨_, rfl, _, rfl, _, _, rfl, rfl, _, rfl, lr, _, rfl, SqL.of (s1 _ _ (s0 _ _ hlr)), fun a7 na7 => ?_⟩
        rw [show ((i : Int) + 1) = ((i + 1 : Nat) : Int) from rfl, cut_hi pvs (i := i + 1) (by omega)]
        have s7 := new_same (o := HO.lst (pvs.drop (i + 1))) na7
        have h7 := upd_same (H := H1) (a := a7) (o := HO.lst (pvs.drop (i + 1)))
        generalize upd H1 a7 (HO.lst (pvs.drop (i + 1))) = H7 at s7 h7 ⊢
        refine ⟨a1, a7, _, _, rfl, rfl, s7 _ _ ha1, h7, sz100 (by simp only [List.length_take, List.length_drop]; omega), fun a8 na8 => ?_⟩
        have s8 := new_same (o := HO.lst (pvs.take i ++ pvs.drop (i + 1))) na8
        have sA := ((s0.trans s1).trans s7).trans s8
        exact k a8 _ _ _ sA upd_same (Paired.append ((hps.take i).same sA) ((hps.drop (i + 1)).same sA)) (.del hib hi2 w1)
      · have w1 : way % 4 ≠ 1 := fun z => of_decide_eq_false hc1 (congrArg V.int z)
        refine ⟨_, rfl, _, _, rfl, rfl, by show (0 : Int) < 4; decide, rfl, _, rfl, ifb (fun hc => ?_) fun hc2 => ?_⟩
        · have w2 : way % 4 = 2 := V.int.inj (of_decide_eq_true hc)
          obtain ⟨x, x0, x1, y0, y1, y2, rfl, g1, g2, g3, g4, g5, g6⟩ := eS_open.mp nsv
          refine ⟨_, rfl, x, _, 0, _, rfl, rfl, SqT.of (s0 _ _ g1), rfl, _, rfl, x, _, 1, _, rfl, rfl, SqT.of (s0 _ _ g1), rfl, _, rfl, x, _, 2, _, rfl, rfl, SqT.of (s0 _ _ g1), rfl, y2, rfl, ⟨_, SqT.of (s0 _ _ g6)⟩, fun D nD => ?_⟩
          refine lc_tup (K := K) (xs := if na then [V.int b.o] else []) (fun j Hy => Same H0 Hy ∧ Hy D = some (.lst ((optV na (b.o + 1)).take j))) ⟨new_same nD, upd_same⟩ (fun j Hy _ ⟨sy, _⟩ => SqT.of (sy _ _ (s0 _ _ g6))) ?_ ?_
          · rintro j xa Hy hj ⟨sy, qy⟩
            cases na with
            | false => simp at hj
            | true =>
              have j0 : j = 0 := by have := (List.getElem?_eq_some_iff.mp hj).1; have : j < 1 := this; omega
              subst j0
              cases hj
              exact ⟨rfl, _, rfl, _, _, rfl, rfl, _, qy, (by show 0 < sizeLine; decide), fun a o h => by rw [upd_ne (ne_of_none h nD)]; exact sy _ _ h, upd_same⟩
          rintro Hy ⟨sy, qy⟩
          have eV : (optV na (b.o + 1)).take (if na then [V.int b.o] else []).length = optV na (b.o + 1) := by cases na <;> rfl
          rw [eV] at qy
          refine ⟨D, _, rfl, .inl ⟨SqL.of qy, fun tb ntb => ⟨(by show 3 ≤ sizeLine; decide), fun tm ntm => ?_⟩⟩⟩
          have sb := new_same (o := HO.tup (optV na (b.o + 1))) ntb
          have sm := new_same (o := HO.tup [V.ref x0, V.ref x1, V.ref tb]) ntm
          have htb := sm _ _ (upd_same (H := Hy) (a := tb) (o := HO.tup (optV na (b.o + 1))))
          have htm := upd_same (H := upd Hy tb (HO.tup (optV na (b.o + 1)))) (a := tm) (o := HO.tup [V.ref x0, V.ref x1, V.ref tb])
          have sH : Same H0 (upd (upd Hy tb (HO.tup (optV na (b.o + 1)))) tm (HO.tup [V.ref x0, V.ref x1, V.ref tb])) := (sy.trans sb).trans sm
          generalize upd (upd Hy tb (HO.tup (optV na (b.o + 1)))) tm (HO.tup [V.ref x0, V.ref x1, V.ref tb]) = Hm at sH htb htm ⊢
          have s0m := s0.trans sH
          have nmore : NK Hm (eS nv na (more na b)) (.ref tm) := by
            refine eS_open.mpr ⟨tm, x0, x1, y0, y1, tb, rfl, htm, s0m _ _ g2, s0m _ _ g3, ?_, ?_, ?_⟩
            · rw [s0m _ _ g4]; unfold more; cases na <;> rfl
            · rw [s0m _ _ g5]; unfold more; cases na <;> rfl
            · rw [htb]; unfold more; cases na <;> rfl
          refine ⟨_, rfl, _, rfl, _, rfl, lr, _, rfl, SqL.of (s0m _ _ hlr), fun a1 na1 => ?_⟩
          rw [cut_lo pvs (i := i) (by omega)]
          have s1 := new_same (o := HO.lst (pvs.take i)) na1
          have ha1 := upd_same (H := Hm) (a := a1) (o := HO.lst (pvs.take i))
          generalize upd Hm a1 (HO.lst (pvs.take i)) = H1 at s1 ha1 ⊢
          refine ⟨_, rfl, _, rfl, _, rfl, (by show 1 ≤ sizeLine; decide), fun a2 na2 => ?_⟩
          have s2 := new_same (o := HO.lst [V.ref tm]) na2
          have ha2 := upd_same (H := H1) (a := a2) (o := HO.lst [V.ref tm])
          generalize upd H1 a2 (HO.lst [V.ref tm]) = H2 at s2 ha2 ⊢
          refine ⟨l4, a2, _, _, rfl, rfl, s2 _ _ (s1 _ _ (sH _ _ h4)), ha2, sz100 (by simp only [List.length_singleton]; omega), fun a4 na4 => ⟨(by show 2 ≤ sizeLine; decide), fun t nt => ?_⟩⟩
          have s4 := new_same (o := HO.lst (evs ++ [V.ref tm])) na4
          have ha4 := upd_same (H := H2) (a := a4) (o := HO.lst (evs ++ [V.ref tm]))
          generalize upd H2 a4 (HO.lst (evs ++ [V.ref tm])) = H4 at s4 ha4 nt ⊢
          have s9 := new_same (o := HO.tup [V.ref x, V.ref a4]) nt
          have ht := upd_same (H := H4) (a := t) (o := HO.tup [V.ref x, V.ref a4])
          have ha4' := s9 _ _ ha4
          have sm9 : Same Hm (upd H4 t (HO.tup [V.ref x, V.ref a4])) := ((s1.trans s2).trans s4).trans s9
          have st : Same H (upd H4 t (HO.tup [V.ref x, V.ref a4])) := s0m.trans sm9
          replace ha1 := s9 _ _ (s4 _ _ (s2 _ _ ha1))
          generalize upd H4 t (HO.tup [V.ref x, V.ref a4]) = Ht at st ha1 ha4' ht sm9 ⊢
          have hprt : PrR nv na Ht (b, row ++ [more na b]) (.ref t) := ⟨t, _, _, rfl, ht, NK.tx (TX.same st) _ _ nsv, a4, _, rfl, ha4', by
            show NKs Ht ((row ++ [more na b]).map (eS nv na)) _
            rw [List.map_append]
            exact (NKs.tx (TX.same st) _ _ nrow).append (.cons (NK.tx (TX.same sm9) _ _ nmore) .nil)⟩
          refine ⟨(by show 1 ≤ sizeLine; decide), fun a5 na5 => ?_⟩
          have s5 := new_same (o := HO.lst [V.ref t]) na5
          have h5 := upd_same (H := Ht) (a := a5) (o := HO.lst [V.ref t])
          generalize upd Ht a5 (HO.lst [V.ref t]) = H5 at s5 h5 ⊢
          refine ⟨a1, a5, _, _, rfl, rfl, s5 _ _ ha1, h5, sz100 (by simp only [List.length_take, List.length_singleton]; omega), fun a6 na6 => ?_⟩
          have s6 := new_same (o := HO.lst (pvs.take i ++ [V.ref t])) na6
          have h6 := upd_same (H := H5) (a := a6) (o := HO.lst (pvs.take i ++ [V.ref t]))
          generalize upd H5 a6 (HO.lst (pvs.take i ++ [V.ref t])) = H6 at s6 h6 ⊢
          have s56 := s5.trans s6
          refine ⟨_, rfl, _, rfl, _, _, rfl, rfl, _, rfl, lr, _, rfl, SqL.of (s56 _ _ (st _ _ hlr)), fun a7 na7 => ?_⟩
          rw [show ((i : Int) + 1) = ((i + 1 : Nat) : Int) from rfl, cut_hi pvs (i := i + 1) (by omega)]
          have s7 := new_same (o := HO.lst (pvs.drop (i + 1))) na7
          have h7 := upd_same (H := H6) (a := a7) (o := HO.lst (pvs.drop (i + 1)))
          generalize upd H6 a7 (HO.lst (pvs.drop (i + 1))) = H7 at s7 h7 ⊢
          refine ⟨a6, a7, _, _, rfl, rfl, s7 _ _ h6, h7, sz100 (by simp only [List.length_take, List.length_drop, List.length_append, List.length_singleton]; omega), fun a8 na8 => ?_⟩
          have s8 := new_same (o := HO.lst (pvs.take i ++ [V.ref t] ++ pvs.drop (i + 1))) na8
          have s58 := (s56.trans s7).trans s8
          refine k a8 _ _ _ (st.trans s58) upd_same (Paired.append (Paired.append ((hps.take i).same (st.trans s58)) (.cons (PrR.grows _ _ _ _ s58 hprt) .nil)) ((hps.drop (i + 1)).same (st.trans s58))) ?_
          rw [List.append_assoc, List.singleton_append]
          exact .more hib hi2 w2
        · have w2 : way % 4 ≠ 2 := fun z => of_decide_eq_false hc2 (congrArg V.int z)
          have w3 : way % 4 = 3 := by
            have := Int.emod_nonneg way (by decide : (4 : Int) ≠ 0)
            have := Int.emod_lt_of_pos way (by decide : (0 : Int) < 4)
            omega
          have p0 := Int.emod_nonneg (way / 400) (show (pvs.length : Int) ≠ 0 by omega)
          have p1 := Int.emod_lt_of_pos (way / 400) pn'
          obtain ⟨j, hj⟩ : ∃ p : Nat, way / 400 % (pvs.length : Int) = (p : Int) := ⟨(way / 400 % (pvs.length : Int)).toNat, by omega⟩
          obtain ⟨⟨d, other⟩, hjd⟩ : ∃ y, ps[j]? = some y := ⟨_, List.getElem?_eq_getElem (show j < ps.length by omega)⟩
          obtain ⟨vj, hvj, tj, svj, lvj, rfl, htj, nsvj, lo, ovs, rfl, hlo, nother⟩ := Paired.at2 hps hjd
          obtain ⟨_, _, olen, ook⟩ := fine.ok _ (List.mem_of_getElem? hjd)
          have olen : other.length ≤ 10 := olen
          have ovl : ovs.length = other.length := by rw [← nother.length, List.length_map]
          refine ⟨_, rfl, _, rfl, _, _, rfl, rfl, ⟨by decide, by decide⟩, _, rfl, _, _, rfl, .inl ⟨_, SqL.of (s0 _ _ hlr), rfl⟩, _, _, rfl, rfl, pn', lr, _, _, _, rfl, rfl, SqL.of (s0 _ _ hlr), at_of (j := j) hj hvj, tj, _, 1, _, rfl, rfl, SqT.of (s0 _ _ htj), rfl, ?_⟩
          refine ⟨_, rfl, _, rfl, _, rfl, lr, _, rfl, SqL.of (s0 _ _ hlr), fun a1 na1 => ?_⟩
          rw [cut_lo pvs (i := i) (by omega)]
          have s1 := new_same (o := HO.lst (pvs.take i)) na1
          have ha1 := upd_same (H := H0) (a := a1) (o := HO.lst (pvs.take i))
          generalize upd H0 a1 (HO.lst (pvs.take i)) = H1 at s1 ha1 ⊢
          have s01 := s0.trans s1
          refine ⟨_, rfl, _, rfl, _, rfl, lo, rfl, ⟨_, SqL.of (s01 _ _ hlo)⟩, fun D nD => ?_⟩
          refine lc_list (K := K) (xs := ovs) (fun m Hy => ∃ acc, Same H1 Hy ∧ Hy D = some (.lst acc) ∧ NKs Hy (((other.take m).filter fun x => decide (x ∉ row)).map (eS nv na)) acc ∧ acc.length ≤ m) ⟨[], new_same nD, upd_same, .nil, Nat.zero_le _⟩ (fun m Hy _ ⟨_, sy, _⟩ => SqL.of (sy _ _ (s01 _ _ hlo))) ?_ ?_
          · rintro m xm Hy hm ⟨acc, sy, qa, nacc, la⟩
            obtain ⟨e, he, ne⟩ := NKs.at nother hm
            have eok := ook e (List.mem_of_getElem? he)
            have ml := (List.getElem?_eq_some_iff.mp hm).1
            have s0y := s01.trans sy
            have ne' := NK.tx (TX.same s0y) _ _ ne
            obtain ⟨dd, ds, D1, D2, Sh1, Sh2, eqv⟩ := inD_at (K := K) ne' (SqL.of ((s1.trans sy) _ _ h4)) (NKs.tx (TX.same s0y) _ _ nrow) eok rok
            refine ⟨rfl, _, rfl, _, rfl, dd, ds, D1, D2, Sh1, Sh2, _, rfl, ?_⟩
            rw [eqv]
            have ef : ((other.take (m + 1)).filter fun x => decide (x ∉ row)) = ((other.take m).filter fun x => decide (x ∉ row)) ++ (if e ∈ row then [] else [e]) := by
              rw [List.take_succ, he, List.filter_append]
              congr 1
              by_cases h : e ∈ row <;> simp [h]
            by_cases h : e ∈ row
            · refine ifF (by simp [h]) ⟨acc, sy, qa, ?_, by omega⟩
              rw [ef, if_pos h, List.append_nil]
              exact nacc
            · have tx : TX Hy (upd Hy D (.lst (acc ++ [xm]))) := fun b xs h => by
                rw [upd_ne (fun z => by rw [z, qa] at h; cases h)]
                exact h
              refine ifT (by simp [h]) ⟨_, rfl, acc, qa, szl (by omega), _, fun a o h => by rw [upd_ne (ne_of_none h nD)]; exact sy _ _ h, upd_same, ?_, by rw [List.length_append]; exact Nat.succ_le_succ la⟩
              rw [ef, if_neg h, List.map_append]
              exact (NKs.tx tx _ _ nacc).append (.cons (NK.tx tx _ _ ne') .nil)
          rintro Hy ⟨acc, sy, qa, nacc, la⟩
          rw [ovl, List.take_length] at nacc
          refine ⟨l4, D, _, _, rfl, rfl, (s1.trans sy) _ _ h4, qa, sz100 (by omega), fun a4 na4 => ⟨(by show 2 ≤ sizeLine; decide), fun t nt => ?_⟩⟩
          have s4 := new_same (o := HO.lst (evs ++ acc)) na4
          have ha4 := upd_same (H := Hy) (a := a4) (o := HO.lst (evs ++ acc))
          generalize upd Hy a4 (HO.lst (evs ++ acc)) = H4 at s4 ha4 nt ⊢
          have s9 := new_same (o := HO.tup [sv, V.ref a4]) nt
          have ht := upd_same (H := H4) (a := t) (o := HO.tup [sv, V.ref a4])
          have ha4' := s9 _ _ ha4
          have sy9 : Same Hy (upd H4 t (HO.tup [sv, V.ref a4])) := s4.trans s9
          have st : Same H (upd H4 t (HO.tup [sv, V.ref a4])) := (s01.trans sy).trans sy9
          replace ha1 := sy9 _ _ (sy _ _ ha1)
          generalize upd H4 t (HO.tup [sv, V.ref a4]) = Ht at st ha1 ha4' ht sy9 ⊢
          have hprt : PrR nv na Ht (b, row ++ other.filter fun x => decide (x ∉ row)) (.ref t) := ⟨t, _, _, rfl, ht, NK.tx (TX.same st) _ _ nsv, a4, _, rfl, ha4', by
            show NKs Ht ((row ++ other.filter fun x => decide (x ∉ row)).map (eS nv na)) _
            rw [List.map_append]
            exact (NKs.tx (TX.same st) _ _ nrow).append (NKs.tx (TX.same sy9) _ _ nacc)⟩
          refine ⟨(by show 1 ≤ sizeLine; decide), fun a5 na5 => ?_⟩
          have s5 := new_same (o := HO.lst [V.ref t]) na5
          have h5 := upd_same (H := Ht) (a := a5) (o := HO.lst [V.ref t])
          generalize upd Ht a5 (HO.lst [V.ref t]) = H5 at s5 h5 ⊢
          refine ⟨a1, a5, _, _, rfl, rfl, s5 _ _ ha1, h5, sz100 (by simp only [List.length_take, List.length_singleton]; omega), fun a6 na6 => ?_⟩
          have s6 := new_same (o := HO.lst (pvs.take i ++ [V.ref t])) na6
          have h6 := upd_same (H := H5) (a := a6) (o := HO.lst (pvs.take i ++ [V.ref t]))
          generalize upd H5 a6 (HO.lst (pvs.take i ++ [V.ref t])) = H6 at s6 h6 ⊢
          have s56 := s5.trans s6
          refine ⟨_, rfl, _, rfl, _, _, rfl, rfl, _, rfl, lr, _, rfl, SqL.of (s56 _ _ (st _ _ hlr)), fun a7 na7 => ?_⟩
          rw [show ((i : Int) + 1) = ((i + 1 : Nat) : Int) from rfl, cut_hi pvs (i := i + 1) (by omega)]
          have s7 := new_same (o := HO.lst (pvs.drop (i + 1))) na7
          have h7 := upd_same (H := H6) (a := a7) (o := HO.lst (pvs.drop (i + 1)))
          generalize upd H6 a7 (HO.lst (pvs.drop (i + 1))) = H7 at s7 h7 ⊢
          refine ⟨a6, a7, _, _, rfl, rfl, s7 _ _ h6, h7, sz100 (by simp only [List.length_take, List.length_drop, List.length_append, List.length_singleton]; omega), fun a8 na8 => ?_⟩
          have s8 := new_same (o := HO.lst (pvs.take i ++ [V.ref t] ++ pvs.drop (i + 1))) na8
          have s58 := (s56.trans s7).trans s8
          refine k a8 _ _ _ (st.trans s58) upd_same (Paired.append (Paired.append ((hps.take i).same (st.trans s58)) (.cons (PrR.grows _ _ _ _ s58 hprt) .nil)) ((hps.drop (i + 1)).same (st.trans s58))) ?_
          rw [List.append_assoc, List.singleton_append]
          exact .join hib hi2 w3 hjd
theorem cal_lchg {f : Addr} {fd : FuncData} (F : FnP K "_law_changed" "_law_changed" s_law_changed f fd) (T : Txt K mg) (g : mg "_law_changed" = some (.ref f)) : C8.Cal P w K mg base 1 "_law_changed" spLChg [] :=
  ⟨f, fd, _, [], ok_lchg F T, g, F.kp, F.bindsN fun _ _ _ _ _ _ us hl => match us, hl with | [_, _], _ => rfl, .nil⟩
end
end NC
set_option Elab.async false
set_option linter.all false
set_option maxRecDepth 100000
set_option maxHeartbeats 4000000
/-! The plain law of the law's own interpreter: it never leaves the rows. -/
namespace NC
open PySem PySem.Spec PyProof.Rows L2
def ofPd (L : List Sm) (pd : List (Nat × Int)) : List (Int × Sm) := pd.map fun p => (p.2, (L[p.1]?).getD default)
def lgOf (L : List Sm) : Ps → Lg
  | .fail => .fail
  | .done s => .done s
  | .asks s pd _ => .asks s (ofPd L pd)
theorem lgo_go (L : List Sm) : ∀ (s : S) (pd : List (Nat × Int)), (∀ p ∈ pd, p.1 < L.length) → lgo s (ofPd L pd) = lgOf L (go L s pd)
  | s, [], _ => rfl
  | s, (n, g) :: r, h => by
    have hn : n < L.length := h (n, g) List.mem_cons_self
    have hr : ∀ p ∈ r, p.1 < L.length := fun p hp => h p (List.mem_cons_of_mem _ hp)
    obtain ⟨t, ht⟩ : ∃ t, L[n]? = some t := ⟨_, List.getElem?_eq_getElem hn⟩
    have e0 : ofPd L ((n, g) :: r) = (g, t) :: ofPd L r := by
      unfold ofPd
      rw [List.map_cons, ht]
      rfl
    rw [e0, go, ht]
    cases t with
    | pl p =>
      rw [lgo]
      show (match doP s g p with | none => Lg.fail | some s' => lgo s' (ofPd L r)) = lgOf L (match doP s g p with | none => Ps.fail | some s' => go L s' r)
      cases doP s g p with
      | none => rfl
      | some s' => exact lgo_go L s' r hr
    | ask k =>
      show Lg.asks s ((g, .ask k) :: ofPd L r) = .asks s (ofPd L ((n, g) :: r))
      rw [e0]
    | ite e a b =>
      clear ht e0
      show (if ev s g e = 0 then (match b with
        | none => lgo s (ofPd L r)
        | some p => match doP s g p with | none => Lg.fail | some s' => lgo s' (ofPd L r)) else (match doP s g a with | none => Lg.fail | some s' => lgo s' (ofPd L r))) = lgOf L (if ev s g e = 0 then (match b with
        | none => go L s r
        | some p => match doP s g p with | none => .fail | some s' => go L s' r) else (match doP s g a with | none => .fail | some s' => go L s' r))
      by_cases z : ev s g e = 0
      · rw [if_pos z, if_pos z]
        cases b with
        | none => exact lgo_go L s r hr
        | some p =>
          show (match doP s g p with | none => Lg.fail | some s' => lgo s' (ofPd L r)) = lgOf L (match doP s g p with | none => Ps.fail | some s' => go L s' r)
          cases doP s g p with
          | none => rfl
          | some s' => exact lgo_go L s' r hr
      · rw [if_neg z, if_neg z]
        cases doP s g a with
        | none => rfl
        | some s' => exact lgo_go L s' r hr
/-! ### a block's statements by its numbers -/
theorem nums_at {α : Type} (f : Nat → Sm → α) : ∀ (b pre post : List Sm), (numsB pre.length b).map (fun n => f n (((pre ++ flatB b ++ post)[n]?).getD default)) = (List.zip (numsB pre.length b) b).map fun y => f y.1 y.2
  | [], _, _ => rfl
  | t :: r, pre, post => by
    have ef : flatB (t :: r) = t :: t.inner ++ flatB r := by unfold flatB; rw [List.flatMap_cons]
    have e1 : pre ++ flatB (t :: r) ++ post = (pre ++ (t :: t.inner)) ++ flatB r ++ post := by rw [ef]; simp [List.append_assoc]
    have e2 : numsB pre.length (t :: r) = pre.length :: numsB (pre ++ (t :: t.inner)).length r := by
      rw [numsB, List.length_append, List.length_cons]
      congr 2
      omega
    have e3 : ((pre ++ flatB (t :: r) ++ post)[pre.length]?).getD default = t := by
      rw [e1]
      simp
    rw [e2, List.map_cons, e3, List.zip_cons_cons, List.map_cons]
    congr 1
    rw [e1]
    exact nums_at f r (pre ++ (t :: t.inner)) post
theorem zip_snd {α β γ : Type} (f : β → γ) : ∀ (l : List α) (m : List β), l.length = m.length → (List.zip l m).map (fun y => f y.2) = m.map f
  | [], [], _ => rfl
  | a :: l, b :: m, h => by
    rw [List.zip_cons_cons, List.map_cons, List.map_cons, zip_snd f l m (by simpa using h)]
theorem lines_split {ps : List Pr} {i : Nat} {p : Pr} (h : ps[i]? = some p) : linesOf ps = linesOf (ps.take i) ++ flatB p.blk ++ linesOf (ps.drop (i + 1)) := by
  have hl := (List.getElem?_eq_some_iff.mp h).1
  have e : ps = ps.take i ++ p :: ps.drop (i + 1) := by
    have e1 := (List.getElem?_eq_some_iff.mp h).2
    rw [← e1, ← List.drop_eq_getElem_cons hl, List.take_append_drop]
  unfold linesOf
  conv => lhs; rw [e]
  rw [List.flatMap_append, List.flatMap_cons, List.append_assoc]
theorem ofPd_body {c : Cf} {i : Nat} {p : Pr} {g : Int} (h : c.prs[i]? = some p) : ofPd c.L (withG (bodyOf c i) g []) = p.blk.map fun t => (g, t) := by
  unfold ofPd withG bodyOf
  rw [h, List.append_nil, List.map_map]
  show (numsB (begins c.prs i) p.blk).map (fun n => (g, ((c.L)[n]?).getD default)) = _
  have e : c.L = linesOf (c.prs.take i) ++ flatB p.blk ++ linesOf (c.prs.drop (i + 1)) := lines_split h
  rw [e]
  show (numsB (linesOf (c.prs.take i)).length p.blk).map _ = _
  rw [nums_at (fun _ t => (g, t)) p.blk (linesOf (c.prs.take i)) (linesOf (c.prs.drop (i + 1)))]
  exact zip_snd (fun t => (g, t)) _ _ (numsB_len _ _)
/-! ### few questions -/
theorem akc_body {c : Cf} {i : Nat} {p : Pr} {g : Int} (h : c.prs[i]? = some p) : akc c.L (withG (bodyOf c i) g []) = akB p.blk := by
  have key : ∀ pd : List (Nat × Int), (∀ x ∈ pd, x.1 < c.L.length) → akc c.L pd = ((ofPd c.L pd).map fun y => akS y.2).sum := by
    intro pd
    induction pd with
    | nil => intro _; rfl
    | cons x r ih =>
      intro hx
      have hn : x.1 < c.L.length := hx x List.mem_cons_self
      obtain ⟨t, ht⟩ : ∃ t, c.L[x.1]? = some t := ⟨_, List.getElem?_eq_getElem hn⟩
      have ih := ih fun y hy => hx y (List.mem_cons_of_mem _ hy)
      show (match c.L[x.1]? with | some (.ask _) => 1 | _ => 0) + akc c.L r = _
      unfold ofPd at ih ⊢
      rw [List.map_cons, List.map_cons, List.sum_cons, ← ih, ht]
      cases t <;> rfl
  have lt : ∀ x ∈ withG (bodyOf c i) g [], x.1 < c.L.length := fun x hx => by
    unfold withG bodyOf at hx
    rw [h, List.append_nil] at hx
    obtain ⟨n, hn, rfl⟩ := List.mem_map.mp hx
    have := nums_lt _ _ n hn
    have e : c.L = linesOf (c.prs.take i) ++ flatB p.blk ++ linesOf (c.prs.drop (i + 1)) := lines_split h
    rw [e]
    simp only [List.length_append]
    have e2 : begins c.prs i = (linesOf (c.prs.take i)).length := rfl
    rw [e2] at this
    show n < _
    omega
  rw [key _ lt, ofPd_body h, List.map_map]
  rfl
theorem akC_mem : ∀ {ps : List Pr} {p : Pr}, p ∈ ps → akB p.blk ≤ akC ps
  | q :: r, p, h => by
    have e : akC (q :: r) = akB q.blk + akC r := by unfold akC; rw [List.map_cons, List.sum_cons]
    rw [e]
    rcases List.mem_cons.mp h with rfl | h
    · omega
    · have := akC_mem h
      omega
theorem few_of {c : Cf} (co : c.Ok) (h : akC c.prs ≤ 2) : c.Few := fun s q hq => by
  obtain ⟨⟨p, hp⟩, _⟩ := co.ent (i := q.1) (g := q.2) hq
  have h1 := akP_go c.L s (withG (bodyOf c q.1) q.2 [])
  rw [akc_body hp] at h1
  have h2 := akC_mem (List.mem_of_getElem? hp)
  show akP c.L (go c.L s (withG (bodyOf c q.1) q.2 [])) < 3
  omega
theorem ents_of : ∀ {n : Nat} {ps : List Pr} {i : Nat} {p : Pr} {g : Int}, ps[i]? = some p → p.shown = true → 0 ≤ g → g < p.size → (n + i, g) ∈ entOf n ps
  | n, q :: r, i, p, g, h, hs, g0, g1 => by
    rw [entOf]
    cases i with
    | zero =>
      cases h
      rw [if_pos hs]
      refine List.mem_append_left _ (List.mem_map.mpr ⟨g.toNat, List.mem_range.mpr (by omega), ?_⟩)
      rw [Nat.add_zero]
      exact Prod.ext rfl (by show ((g.toNat : Nat) : Int) = g; omega)
    | succ i =>
      refine List.mem_append_right _ ?_
      have := ents_of (n := n + 1) (ps := r) (i := i) (p := p) (g := g) (by simpa using h) hs g0 g1
      rwa [show n + (i + 1) = n + 1 + i by omega]
/-! ### the open questions' stack -/
inductive Stk (c : Cf) (T : S → Option (List S)) : List (List (Nat × Int)) → List S → Prop
  | nil {row : List S} : T (first c) = some row → Stk c T [] row
  | cons {pd : List (Nat × Int)} {rest : List (List (Nat × Int))} {sa : S} {k : Int} {row row' : List S} : T sa = some row → PsOk c (fun _ => True) (.asks sa pd k) → Cov c.L T (.asks sa pd k) → (∀ e, Ends c.L T (.asks sa pd k) e → e ∈ row') → Stk c T rest row' → Stk c T (pd :: rest) row
theorem Stk.row {c : Cf} {T : S → Option (List S)} {pds : List (List (Nat × Int))} {row : List S} (h : Stk c T pds row) : ∃ x, T x = some row := by
  cases h with
  | nil h => exact ⟨_, h⟩
  | cons h _ _ _ _ => exact ⟨_, h⟩
def osOf (L : List Sm) (pds : List (List (Nat × Int))) : List (List (Int × Sm)) := (pds.map (ofPd L)).reverse
theorem osOf_cons (L : List Sm) (pd : List (Nat × Int)) (r : List (List (Nat × Int))) : osOf L (pd :: r) = osOf L r ++ [ofPd L pd] := by
  unfold osOf
  rw [List.map_cons, List.reverse_cons]
theorem osOf_len (L : List Sm) (r : List (List (Nat × Int))) : (osOf L r).length = r.length := by
  unfold osOf
  rw [List.length_reverse, List.length_map]
structure Inv (c : Cf) (t : Tab) (z : S × S × List (List (Int × Sm))) : Prop where
  ex : ∃ pds row, z.2.2 = osOf c.L pds ∧ Stk c (kpGet t) pds row ∧ z.1 ∈ row
  bb : ∃ row, kpGet t (first c) = some row ∧ z.2.1 ∈ row
  ln : z.2.2.length ≤ 5
theorem Inv.first {c : Cf} {t : Tab} (hc : Closed c t) : Inv c t (first c, first c, []) := by
  obtain ⟨row, hr⟩ := Option.isSome_iff_exists.mp hc.1
  exact ⟨⟨[], row, rfl, .nil hr, (hc.2 _ _ hr).1⟩, ⟨row, hr, (hc.2 _ _ hr).1⟩, Nat.zero_le _⟩
theorem Inv.fin {c : Cf} {t : Tab} (hc : Closed c t) {b : S} {pds : List (List (Nat × Int))} {row : List S} {p : Ps} (hp : PsOk c (fun _ => True) p) (cov : Cov c.L (kpGet t) p) (he : ∀ e, Ends c.L (kpGet t) p e → e ∈ row) (st : Stk c (kpGet t) pds row) (hb : ∃ row, kpGet t (NC.first c) = some row ∧ b ∈ row) (ln : pds.length ≤ 4) :
    Inv c t (wfin b (osOf c.L pds) (lgOf c.L p)) := by
  cases p with
  | fail =>
    obtain ⟨row0, h1, h2⟩ := hb
    exact ⟨⟨[], row0, rfl, .nil h1, h2⟩, ⟨row0, h1, h2⟩, Nat.zero_le _⟩
  | done s => exact ⟨⟨pds, row, rfl, st, he _ (.done s)⟩, hb, by show (osOf c.L pds).length ≤ 5; rw [osOf_len]; omega⟩
  | asks s pd k =>
    obtain ⟨row2, hr⟩ : ∃ row2, kpGet t s = some row2 := by
      cases cov with
      | ask h1 _ => exact ⟨_, h1⟩
    refine ⟨⟨pd :: pds, row2, (osOf_cons _ _ _).symm, .cons hr hp cov he st, (hc.2 _ _ hr).1⟩, hb, ?_⟩
    show (osOf c.L pds ++ [ofPd c.L pd]).length ≤ 5
    rw [List.length_append, osOf_len]
    show pds.length + 1 ≤ 5
    omega
theorem Inv.answer {c : Cf} (co : c.Ok) {t : Tab} (ht : tabOk c.nv c.na t) (hc : Closed c t) {s b : S} {os' : List (List (Int × Sm))} {g k m : Int} {r : List (Int × Sm)} (h : Inv c t (s, b, os' ++ [(g, Sm.ask k) :: r])) (m0 : 0 ≤ m) (m1 : m < k) : Inv c t (wfin b os' (lgo (st s m) r)) := by
  obtain ⟨pds, row, e1, stk, hs⟩ := h.ex
  have e1 : os' ++ [(g, Sm.ask k) :: r] = osOf c.L pds := e1
  have hs : s ∈ row := hs
  have ln : (os' ++ [(g, Sm.ask k) :: r]).length ≤ 5 := h.ln
  cases stk with
  | nil _ => simp [osOf] at e1
  | @cons pd rest sa k' _ row' h1 h2 h3 h4 h5 =>
    rw [osOf_cons] at e1
    obtain ⟨e2, e3⟩ := List.append_inj' e1 rfl
    have e3 := (List.cons.inj e3).1
    obtain ⟨_, hpd, _, _, _, _, hal, n, g', rr, rfl, hn⟩ := id h2
    have e4 : ofPd c.L ((n, g') :: rr) = (g', .ask k') :: ofPd c.L rr := by
      unfold ofPd
      rw [List.map_cons, hn]
      rfl
    rw [e4] at e3
    obtain ⟨e5, e6⟩ := List.cons.inj e3
    cases e5
    subst e6
    subst e2
    have sok : vS c.nv c.na (fun _ => True) s := ⟨(ht.2 _ (kpGet_mem h1)).2.2 s hs, True.intro⟩
    have em : ((m.toNat : Nat) : Int) = m := by omega
    have po := answ_ok (a := m) co.ln h2 sok
    have cv : Cov c.L (kpGet t) (answ c.L ((n, g) :: rr) s m) := by
      cases h3 with
      | ask q1 q2 =>
        rw [h1] at q1
        cases q1
        have := q2 s hs m.toNat (by omega)
        rwa [em] at this
    have ee : ∀ e, Ends c.L (kpGet t) (answ c.L ((n, g) :: rr) s m) e → e ∈ row' := fun e q => h4 e (.ask h1 hs (show m.toNat < k.toNat by omega) (by rw [em]; exact q))
    have el : lgo (st s m) (ofPd c.L rr) = lgOf c.L (answ c.L ((n, g) :: rr) s m) := lgo_go c.L _ _ fun p hp => (hpd p (List.mem_cons_of_mem _ hp)).1
    rw [el]
    refine Inv.fin hc po cv ee h5 h.bb ?_
    rw [List.length_append, osOf_len] at ln
    have : rest.length + 1 ≤ 5 := ln
    omega
theorem Inv.call {c : Cf} (co : c.Ok) {t : Tab} (ht : tabOk c.nv c.na t) (hc : Closed c t) {s b : S} {os : List (List (Int × Sm))} {i : Nat} {pr : Pr} {g : Int} (h : Inv c t (s, b, os)) (hp : c.prs[i]? = some pr) (hs : pr.shown = true) (g0 : 0 ≤ g) (g1 : g < pr.size) (ol : os.length ≤ 4) :
    Inv c t (wfin (if os = [] then s else b) os (lgo s (pr.blk.map fun t => (g, t)))) := by
  obtain ⟨pds, row, e1, stk, hsr⟩ := h.ex
  have e1 : os = osOf c.L pds := e1
  have hsr : s ∈ row := hsr
  obtain ⟨x, hx⟩ := stk.row
  have he : (i, g) ∈ c.ents := by
    have := ents_of (n := 0) hp hs g0 g1
    rwa [Nat.zero_add] at this
  have sok : vS c.nv c.na (fun _ => True) s := ⟨(ht.2 _ (kpGet_mem hx)).2.2 s hsr, True.intro⟩
  obtain ⟨c1, c2⟩ := (hc.2 _ _ hx).2 s hsr (i, g) he
  have po := co.begun (tot := fun _ => True) sok (i := i) (g := g) he
  obtain ⟨_, _, _, hpd, _⟩ := co.ent he
  have el : lgo s (pr.blk.map fun t => (g, t)) = lgOf c.L (begun c s i g) := by
    rw [← ofPd_body hp]
    exact lgo_go c.L _ _ fun p hp => (hpd p hp).1
  rw [el]
  have hb : ∃ row, kpGet t (NC.first c) = some row ∧ (if os = [] then s else b) ∈ row := by
    by_cases ho : os = []
    · rw [if_pos ho]
      have : pds = [] := by
        rw [ho] at e1
        have := congrArg List.length e1
        rw [osOf_len] at this
        exact List.eq_nil_of_length_eq_zero this.symm
      subst this
      cases stk with
      | nil q => exact ⟨row, q, hsr⟩
    · rw [if_neg ho]
      exact h.bb
  have := Inv.fin hc (b := if os = [] then s else b) (pds := pds) po c1 c2 stk hb (by rw [e1, osOf_len] at ol; exact ol)
  rwa [← e1] at this
/-! ### what the walks ask -/
theorem tls_mem_len {α : Type} : ∀ {l x : List α}, x ∈ tls l → x.length ≤ l.length
  | [], x, h => by rw [List.mem_singleton.mp h]; exact Nat.le_refl _
  | y :: r, x, h => by
    rcases List.mem_cons.mp h with rfl | h
    · exact Nat.le_refl _
    · exact Nat.le_succ_of_le (tls_mem_len h)
theorem allPd_mem_len {c : Cf} (co : c.Ok) {pd : List (Nat × Int)} (h : pd ∈ allPd c) : pd.length ≤ 4 := by
  unfold allPd at h
  obtain ⟨i, _, h⟩ := List.mem_flatMap.mp h
  obtain ⟨g, _, h⟩ := List.mem_flatMap.mp h
  have := tls_mem_len h
  simp only [withG, List.length_append, List.length_map, List.length_nil] at this
  have := body_len co i
  omega
theorem Stk.ok {c : Cf} (co : c.Ok) {T : S → Option (List S)} {pds : List (List (Nat × Int))} {row : List S} (h : Stk c T pds row) : ∀ pd ∈ pds, (∃ g k r, ofPd c.L pd = (g, Sm.ask k) :: r) ∧ (ofPd c.L pd).length ≤ 100 ∧ ∀ t ∈ ofPd c.L pd, t.2.ok c.nv c.na = true ∧ 0 ≤ t.1 ∧ t.1 ≤ 65535 := by
  induction h with
  | nil _ => intro pd hpd; cases hpd
  | @cons pd rest sa k row row' h1 h2 h3 h4 h5 ih =>
    intro x hx
    rcases List.mem_cons.mp hx with rfl | hx
    · obtain ⟨_, hpd, _, _, _, _, hal, n, g', rr, e, hn⟩ := h2
      refine ⟨⟨g', k, ofPd c.L rr, ?_⟩, ?_, fun y hy => ?_⟩
      · rw [e]
        unfold ofPd
        rw [List.map_cons, hn]
        rfl
      · have := allPd_mem_len co hal
        unfold ofPd
        rw [List.length_map]
        omega
      · unfold ofPd at hy
        obtain ⟨q, hq, rfl⟩ := List.mem_map.mp hy
        obtain ⟨l1, l2, l3⟩ := hpd q hq
        refine ⟨?_, l2, l3⟩
        rw [List.getElem?_eq_getElem l1]
        exact co.ln.ok q.1 _ (List.getElem?_eq_getElem l1)
    · exact ih x hx
theorem Inv.os {c : Cf} (co : c.Ok) {t : Tab} {s b : S} {os : List (List (Int × Sm))} (h : Inv c t (s, b, os)) : OsOk c os := by
  obtain ⟨pds, row, e1, stk, hsr⟩ := h.ex
  have e1 : os = osOf c.L pds := e1
  have k := stk.ok co
  have ln : os.length ≤ 5 := h.ln
  have mem : ∀ l ∈ os, ∃ pd ∈ pds, l = ofPd c.L pd := fun l hl => by
    rw [e1] at hl
    unfold osOf at hl
    obtain ⟨pd, h1, h2⟩ := List.mem_map.mp (List.mem_reverse.mp hl)
    exact ⟨pd, h1, h2.symm⟩
  refine ⟨by omega, fun l hl => ?_, fun l hl => ?_⟩
  · obtain ⟨pd, h1, rfl⟩ := mem l hl
    exact (k pd h1).1
  · obtain ⟨pd, h1, rfl⟩ := mem l hl
    exact (k pd h1).2
theorem Inv.sok {c : Cf} {t : Tab} (ht : tabOk c.nv c.na t) {z : S × S × List (List (Int × Sm))} (h : Inv c t z) : z.1.Ok c.nv c.na := by
  obtain ⟨pds, row, _, stk, hs⟩ := h.ex
  obtain ⟨x, hx⟩ := stk.row
  exact (ht.2 _ (kpGet_mem hx)).2.2 _ hs
theorem Inv.here {c : Cf} {t : Tab} {s b : S} (h : Inv c t (s, b, [])) {row : List S} (hr : kpGet t (NC.first c) = some row) : s ∈ row := by
  obtain ⟨pds, row', e1, stk, hs⟩ := h.ex
  have : pds = [] := by
    have := congrArg List.length e1
    rw [osOf_len] at this
    exact List.eq_nil_of_length_eq_zero this.symm
  subst this
  cases stk with
  | nil q =>
    rw [hr] at q
    cases q
    exact hs
/-! ### the table of pairs -/
theorem tabStep_get (t : Tab) (p : S × List S) (k : S) : kpGet (tabStep t p) k = match kpGet t k with | some v => some v | none => if p.1 = k then some (addAll [] p.2) else none := by
  unfold tabStep
  cases e : kpGet t p.1 with
  | some v =>
    show kpGet t k = _
    by_cases h : p.1 = k
    · rw [← h, e]
    · cases kpGet t k with
      | some _ => rfl
      | none => show none = if p.1 = k then _ else none; rw [if_neg h]
  | none =>
    show kpGet (kpPut t p.1 (addAll [] p.2)) k = _
    rw [kpGet_put]
    by_cases h : k = p.1
    · rw [if_pos h, h, e]
      show _ = if p.1 = p.1 then _ else none
      rw [if_pos rfl]
    · rw [if_neg h]
      cases kpGet t k with
      | some _ => rfl
      | none => show none = if p.1 = k then _ else none; rw [if_neg (Ne.symm h)]
theorem kpGet_cons {p : S × List S} {r : Tab} {k : S} : kpGet (p :: r) k = if p.1 = k then some p.2 else kpGet r k := by
  unfold kpGet
  by_cases h : p.1 = k
  · rw [List.find?_cons_of_pos (by simpa using h), if_pos h]
    rfl
  · rw [List.find?_cons_of_neg (by simpa using h), if_neg h]
theorem foldTab_get : ∀ (ps t : Tab) (k : S), kpGet (ps.foldl tabStep t) k = match kpGet t k with | some v => some v | none => (kpGet ps k).map (addAll [])
  | [], t, k => by
    show kpGet t k = _
    cases kpGet t k <;> rfl
  | p :: r, t, k => by
    rw [List.foldl_cons, foldTab_get r, tabStep_get, kpGet_cons]
    cases kpGet t k with
    | some v => rfl
    | none =>
      by_cases h : p.1 = k
      · simp [h]
      · simp [h]
theorem tabOf_get (ps : Tab) (k : S) : kpGet (tabOf ps) k = (kpGet ps k).map (addAll []) := by
  unfold tabOf
  rw [foldTab_get]
  rfl
theorem mem_dedup {E : List S} {x : S} : x ∈ addAll [] E ↔ x ∈ E := by
  rw [mem_addAll]
  exact ⟨fun h => h.elim (fun z => nomatch z) id, .inr⟩
end NC
set_option Elab.async false
set_option linter.all false
set_option maxRecDepth 100000
set_option maxHeartbeats 4000000
/-! The law's stays. -/
namespace NC
open PySem PySem.Spec PyProof.Rows L2
theorem op_eqDK {X : Cx} {K : PySem.W.Frag} (hu : X.A.units + 64 < cLine) (e : X.K = K) : OpR X (compareOp .Eq) (rEqD K) := e ▸ op_eqD hu
theorem kpGet_snoc {r : Tab} {p : S × List S} {k : S} : kpGet (r ++ [p]) k = match kpGet r k with | some v => some v | none => if p.1 = k then some p.2 else none := by
  induction r with
  | nil =>
    rw [List.nil_append, kpGet_cons]
    rfl
  | cons q r ih =>
    rw [List.cons_append, kpGet_cons, kpGet_cons, ih]
    by_cases h : q.1 = k
    · rw [if_pos h, if_pos h]
    · rw [if_neg h, if_neg h]
theorem cutV_mem {xs : List V} {lo hi : Option Int} {x : V} (h : x ∈ cutV xs lo hi) : x ∈ xs := by
  unfold cutV at h
  exact List.mem_of_mem_drop (List.mem_of_mem_take h)
section
variable {P : Program} {w : World} {K : PySem.W.Frag} {mg : Str → Option Value} {base : Heap}
def spLStays (K : PySem.W.Frag) : Sp := fun vs H Q _ => ∃ (c : Cf) (hv mv : V) (lr pb sl : Addr) (ps : Tab) (pvs : List V) (prc ns : List Int), vs = [hv, mv, .ref lr, .ref pb, .ref sl] ∧ LhAt H c hv ∧ HsAt K H c mv ∧ c.Ok ∧ c.Few ∧ H lr = some (.lst pvs) ∧ PsR c.nv c.na H ps pvs ∧ prsOk c.nv c.na ps ∧ ps.length ≤ 100 ∧ PrcAt c H prc pb ∧ SqL K H sl (ns.map V.int) ∧
  ∀ H', Same H H' → Q (.bl true) H'
theorem sc_law_stays : FnScope ["_law_house_here", "_law_made_here", "_law_rows", "_law_prices", "_law_script", "_law_told_here", "_law_top", "_law_shadow", "_law_first", "_law_row_here", "_law_pair", "_law_cell_here", "_law_act_here", "_law_state", "_law_k"] ["_law_house_here", "_law_made_here", "_law_rows", "_law_prices", "_law_script"] (defScope s_law_stays) := ⟨rfl, rfl, rfl, by decide +kernel, rfl, by decide +kernel, by decide +kernel⟩
theorem ok_lstays {f : Addr} {fd : FuncData} (F : FnP K "_law_stays" "_law_stays" s_law_stays f fd) (T : Txt K mg) (c_is_closed : C8.Cal P w K mg base 13 "is_closed" (spClosed w K) []) (c_bound : C8.Cal P w K mg base 14 "bound" (spBound w K) []) (c_law_is_integer : C8.Cal P w K mg base 1 "_law_is_integer" spLInt [])
    (c_law_walk : C8.Cal P w K mg base 2 "_law_walk" spLWalk []) (c_law_told : C8.Cal P w K mg base 1 "_law_told" spLTold []) (c_law_drawn : C8.Cal P w K mg base 1 "_law_drawn" spLDraw []) (c_law_act : C8.Cal P w K mg base 7 "_law_act" (spLAct K) []) :
    FnOk P w K mg base CX0 15 f fd ["_law_house_here", "_law_made_here", "_law_rows", "_law_prices", "_law_script"] (spLStays K) := by
  refine F.ok sc_law_stays (fun vs H Q E h => ?_) (fun cdv A outer s H vs Q E hr h => ?_)
  · obtain ⟨c, hv, mv, lr, pb, sl, ps, pvs, prc, ns, rfl, _⟩ := h
    rfl
  · obtain ⟨c, hv, mv, lr, pb, sl, ps, pvs, prc, ns, rfl, hh, hm, co, few, hlr, hps, pok, pl100, ⟨hpb1, hpb2, hpb3⟩, hsl, k⟩ := h
    have hu64 := hu64 hr
    have hu65 := hu65 hr
    refine ⟨_, PSs.nox ((pss_cons (ps_set (i := 5) sc_law_stays.nd rfl (Or.inl rfl) (C8.pe_c c_is_closed hr (by decide) (by rfl) (pa_cons (pv 1) (pa_cons (pe_callTy call_list_of (by rfl) T.list bt_list (pa_cons (pv 2) pa_nil)) pa_nil))))
      (pss_cons (ps_set (i := 6) sc_law_stays.nd rfl (Or.inl rfl) (C8.pe_c c_bound hr (by decide) (by rfl) (pa_cons (pv 1) (pa_cons (pe_callTy call_list_of (by rfl) T.list bt_list (pa_cons (pv 2) pa_nil)) (pa_cons (pe_callTy call_list_of (by rfl) T.list bt_list (pa_cons (pv 3) pa_nil)) pa_nil)))))
      (pss_cons (ps_if (pt_not (pt_val (pe_callB call_isi (by rfl) T.isinstance bt_isinstance (pa_cons (pv 5) (pa_cons (pe_bltn (v := .ty "bool") (by rfl) T.bool bt_bool rfl) pa_nil))))) (pss_one (ps_ret pe_bl)) pss_nil)
      (pss_cons (ps_if (pt_not (pt_val (pv 5))) (pss_one (ps_ret (pe_cmpR op_isN (pv 6) pe_non (nomark _)))) pss_nil)
      (pss_cons (ps_if (pt_not (pt_val (C8.pe_c c_law_is_integer hr (by decide) (by rfl) (pa_cons (pv 6) pa_nil)))) (pss_one (ps_ret pe_bl)) pss_nil)
      (pss_cons (ps_set (i := 7) sc_law_stays.nd rfl (Or.inl rfl) (C8.pe_c c_law_walk hr (by decide) (by rfl) (pa_cons (pv 0) pa_nil)))
      (pss_cons (ps_set (i := 8) sc_law_stays.nd rfl (Or.inr rfl) (C8.pe_c c_law_told hr (by decide) (by rfl) (pa_cons (pe_ix ix_list (pv 7) pe_int (fun _ _ => rfl)) pa_nil)))
      (pss_cons (ps_set (i := 9) sc_law_stays.nd rfl (Or.inl rfl) (pe_ix ix_list (pe_lc (own := [("_law_pair", 10)]) rfl sc_law_stays.nd (pi_list (pv 2)) (blkOk_by (own := [("_law_pair", 10)]) (N := ["_law_house_here", "_law_made_here", "_law_rows", "_law_prices", "_law_script", "_law_told_here", "_law_top", "_law_shadow", "_law_first", "_law_row_here", "_law_pair", "_law_cell_here", "_law_act_here", "_law_state", "_law_k"]) (sc := defScope s_law_stays) (by decide +kernel)) (fun _ _ _ _ _ => (pg_name (i := 10) sc_law_stays.nd rfl (Or.inl rfl))) (fun _ _ _ _ _ => (pts_one (pt_cmpR (op_eqDK (K := K) hu64 rfl) (pe_ix (ix_tupK (K := K) rfl) (pv 10) pe_int (fun _ _ => rfl)) (pv 8) (nomark _)))) (fun _ _ _ _ _ => (pe_ix (ix_tupK (K := K) rfl) (pv 10) pe_int (fun _ _ => rfl)))) pe_int (fun _ _ => rfl)))
      (pss_cons (ps_for PassesOwn.never rfl (pi_list (pe_slice sl_list (pv 4) (po_some pe_int) (po_some pe_int))) (pg_name (i := 11) sc_law_stays.nd rfl (Or.inl rfl)) (pss_cons (ps_set (i := 12) sc_law_stays.nd rfl (Or.inl rfl) (C8.pe_c c_law_drawn hr (by decide) (by rfl) (pa_cons (pv 0) (pa_cons (pv 7) (pa_cons (pv 11) pa_nil)))))
      (pss_one (ps_if (pt_cmpR op_notN (pv 12) pe_non (nomark _)) (pss_cons (ps_expr (C8.pe_c c_law_act hr (by decide) (by rfl) (pa_cons (pv 0) (pa_cons (pv 7) (pa_cons (pv 12) pa_nil)))))
      (pss_one (ps_if (pt_cmpR op_eq (pe_callB call_len (by rfl) T.len bt_len (pa_cons (pe_ix ix_list (pv 7) pe_int (fun _ _ => rfl)) pa_nil)) pe_int (nomark _)) (pss_cons (ps_set (i := 13) sc_law_stays.nd rfl (Or.inr rfl) (C8.pe_c c_law_told hr (by decide) (by rfl) (pa_cons (pe_ix ix_list (pv 7) pe_int (fun _ _ => rfl)) pa_nil)))
      (pss_one (ps_if (PW.pt (pw_or (pt_cmpR (op_notInDK (K := K) hu65 rfl) (pv 13) (pv 9) (by rfl)) (pw_or1 (pt_cmpR op_gt (pe_callB (cr_sum rfl) (by rfl) T.sum bt_sum (pa_cons (pe_lc (own := [("_law_k", 14)]) rfl sc_law_stays.nd (pi_range1 rfl T.range (pa_cons (pe_callB call_len (by rfl) T.len bt_len (pa_cons (pv 3) pa_nil)) pa_nil)) (blkOk_by (own := [("_law_k", 14)]) (N := ["_law_house_here", "_law_made_here", "_law_rows", "_law_prices", "_law_script", "_law_told_here", "_law_top", "_law_shadow", "_law_first", "_law_row_here", "_law_pair", "_law_cell_here", "_law_act_here", "_law_state", "_law_k"]) (sc := defScope s_law_stays) (by decide +kernel)) (fun _ _ _ _ _ => (pg_name (i := 14) sc_law_stays.nd rfl (Or.inl rfl))) (fun _ _ _ _ _ => pts_nil) (fun _ _ _ _ _ => (pe_op op_mul (pe_ix (ix_tupK (K := K) rfl) (pe_ix (ix_tupK (K := K) rfl) (pv 13) pe_int (fun _ _ => rfl)) (pv 14) (fun _ _ => rfl)) (pe_ix (ix_listK (K := K) rfl) (pv 3) (pv 14) (fun _ _ => rfl))))) pa_nil)) (pv 6) (nomark _))))) (pss_one (ps_ret pe_bl)) pss_nil))) pss_nil))) pss_nil))))
      (pss_one (ps_ret pe_bl)))))))))))), ?_⟩
    dsimp only [cxOf, Cx.nox]
    have tok := tabOf_ok pok
    -- is_closed
    refine ⟨_, rfl, _, rfl, lr, _, rfl, .inl (SqL.of hlr), fun l1 nl1 => ?_⟩
    have s1 := new_same (o := HO.lst pvs) nl1
    refine ⟨mv, c, l1, ps, pvs, rfl, hm.same s1, co, few, upd_same, hps.same s1, pok, fun H1 sc1 => ?_⟩
    have S1 := s1.trans sc1
    -- bound
    refine ⟨_, rfl, _, rfl, lr, _, rfl, .inl (SqL.of (S1 _ _ hlr)), fun l2 nl2 => ?_⟩
    have s2 := new_same (o := HO.lst pvs) nl2
    have h2 := upd_same (H := H1) (a := l2) (o := HO.lst pvs)
    have S2 := S1.trans s2
    generalize upd H1 l2 (HO.lst pvs) = H2 at s2 h2 S2 ⊢
    refine ⟨_, rfl, pb, _, rfl, .inl (SqL.of (S2 _ _ hpb1)), fun l3 nl3 => ?_⟩
    have s3 := new_same (o := HO.lst (prc.map V.int)) nl3
    have h3 := upd_same (H := H2) (a := l3) (o := HO.lst (prc.map V.int))
    have S3 := S2.trans s3
    replace h2 := s3 _ _ h2
    generalize upd H2 l3 (HO.lst (prc.map V.int)) = H3 at s3 h3 h2 S3 ⊢
    refine ⟨mv, c, l2, l3, ps, pvs, prc, rfl, hm.same S3, co, few, h2, hps.same S3, pok, ⟨h3, hpb2, hpb3⟩, fun hc H4 s4 => ?_, fun hc row m H4 s4 hrow hmax => ?_⟩
    · have S4 := S3.trans s4
      rw [closedB_f hc]
      refine ⟨_, rfl, _, _, _, _, true, rfl, .ty "bool", .base (.bl _), kit_ty (by decide +kernel), _, rfl, ifF rfl ?_⟩
      refine ⟨_, rfl, _, rfl, ifT rfl ?_⟩
      exact ⟨_, rfl, rfl, k _ S4⟩
    · have S4 := S3.trans s4
      rw [closedB_t hc]
      refine ⟨_, rfl, _, _, _, _, true, rfl, .ty "bool", .base (.bl _), kit_ty (by decide +kernel), _, rfl, ifF rfl ?_⟩
      refine ⟨_, rfl, _, rfl, ifF rfl ?_⟩
      refine ⟨_, rfl, m, rfl, _, rfl, ifF rfl ?_⟩
      refine ⟨_, rfl, c, hv, rfl, hh.same S4, co, fun w H5 wkE => ?_⟩
      obtain ⟨a, vv, aa, rv, ra, po, a', vv', aa', rv', ra', po', ol, f, ovs, wk⟩ := wkE
      replace wk : Wk H4 c.nv c.na w a vv aa rv ra po a' vv' aa' rv' ra' po' ol f ovs (first c) (first c) [] H5 := wk
      refine ⟨_, rfl, w, _, 0, _, rfl, rfl, SqL.of wk.hw, rfl, c.nv, c.na, a, vv, aa, rv, ra, po, first c, rfl, wk.st, fun t0 H6 s6 nt0 => ?_⟩
      replace wk := wk.same s6
      have S46 := wk.sm.trans (cut_le _ _)
      have S6 := S4.trans S46
      have fok := first_ok co
      -- the first row
      obtain ⟨fr, hfr, erow⟩ : ∃ fr, kpGet ps (first c) = some fr ∧ row = addAll [] fr := by
        rw [tabOf_get] at hrow
        cases e : kpGet ps (first c) with
        | none => rw [e] at hrow; cases hrow
        | some fr => rw [e] at hrow; exact ⟨fr, rfl, (Option.some.inj hrow).symm⟩
      have hmem : ∀ {x : S}, x ∈ row ↔ x ∈ fr := fun {x} => by rw [erow]; exact mem_dedup
      have pvl := Paired.length hps
      refine ⟨_, rfl, lr, rfl, ⟨_, SqL.of (S6 _ _ hlr)⟩, fun D nD => ?_⟩
      refine lc_list (K := K) (xs := pvs) (fun i Hy => ∃ acc, Same H6 Hy ∧ Hy D = some (.lst acc) ∧ acc.length ≤ i ∧ (kpGet (ps.take i) (first c) = none → acc = []) ∧ ∀ fr, kpGet (ps.take i) (first c) = some fr → ∃ lw rest, acc = .ref lw :: rest ∧ LsAt c.nv c.na H fr (.ref lw)) ⟨[], new_same nD, upd_same, Nat.zero_le _, (fun _ => rfl), fun fr e => by rw [List.take_zero] at e; cases e⟩ (fun i Hy _ ⟨_, sy, _⟩ => SqL.of (sy _ _ (S6 _ _ hlr))) ?_ ?_
      · rintro i xp Hy hi ⟨acc, sy, qa, la, e1, e2⟩
        obtain ⟨⟨b, rw'⟩, hp, tp, sv, lv, rfl, htp, nsv, lls⟩ := Paired.at hps hi
        have bok := (pok _ (List.mem_of_getElem? hp)).1
        have il : i < pvs.length := (List.getElem?_eq_some_iff.mp hi).1
        have Sy := S6.trans sy
        have et : ps.take (i + 1) = ps.take i ++ [(b, rw')] := by rw [List.take_succ, hp]; rfl
        refine ⟨rfl, _, rfl, tp, _, 0, _, rfl, rfl, SqT.of (Sy _ _ htp), rfl, _, rfl, _, _, NK.dp _ _ (NK.tx (TX.same Sy) _ _ nsv), NK.dp _ _ (NK.tx (TX.same sy) _ _ nt0), data_shaped (nums_eS _ _ _) (Nat.le_trans (depth_eS4 _ _ _) (by decide)), data_shaped (nums_eS _ _ _) (Nat.le_trans (depth_eS4 _ _ _) (by decide)), _, rfl, ?_⟩
        rw [data_eq]
        by_cases hb : b = first c
        · refine ifT (decide_eq_true (by rw [hb])) ?_
          refine ⟨_, rfl, tp, _, 1, _, rfl, rfl, SqT.of (Sy _ _ htp), rfl, acc, qa, ?_, _, fun x o h => by rw [upd_ne (ne_of_none h nD)]; exact sy _ _ h, upd_same, by rw [List.length_append]; exact Nat.succ_le_succ la, fun z => ?_, fun fr' z => ?_⟩
          · exact szl (by omega)
          · rw [et, kpGet_snoc] at z
            cases e : kpGet (ps.take i) (first c) with
            | some v => rw [e] at z; cases z
            | none =>
              rw [e] at z
              have z : (if b = first c then some rw' else none) = none := z
              rw [if_pos hb] at z
              cases z
          · rw [et, kpGet_snoc] at z
            cases e : kpGet (ps.take i) (first c) with
            | some v =>
              rw [e] at z
              cases z
              obtain ⟨lw, rest, rfl, hl⟩ := e2 _ e
              exact ⟨lw, _, rfl, hl⟩
            | none =>
              rw [e] at z
              have z : (if b = first c then some rw' else none) = some fr' := z
              rw [if_pos hb] at z
              cases z
              rw [e1 e]
              obtain ⟨lw, evs, rfl, q1, q2⟩ := id lls
              exact ⟨lw, [], rfl, lls⟩
        · refine ifF (decide_eq_false fun z => hb (eS_inj bok fok z)) ⟨acc, sy, qa, by omega, fun z => ?_, fun fr' z => ?_⟩
          · rw [et, kpGet_snoc] at z
            cases e : kpGet (ps.take i) (first c) with
            | some v => rw [e] at z; cases z
            | none => exact e1 e
          · rw [et, kpGet_snoc] at z
            cases e : kpGet (ps.take i) (first c) with
            | some v => rw [e] at z; cases z; exact e2 _ e
            | none =>
              rw [e] at z
              have z : (if b = first c then some rw' else none) = some fr' := z
              rw [if_neg hb] at z
              cases z
      rintro H7 ⟨acc, s7, qa, _, _, e2⟩
      rw [← pvl, List.take_length] at e2
      obtain ⟨lw, rest, rfl, lw', evs, elw, hlw0, nfr0⟩ := e2 fr hfr
      cases elw
      refine ⟨D, _, 0, .ref lw, rfl, rfl, SqL.of qa, at_of (j := 0) rfl rfl, ?_⟩
      replace wk := wk.same s7
      have frok : ∀ x ∈ fr, x.Ok c.nv c.na := fun x hx => (pok _ (kpGet_mem hfr)).2.1 x hx
      -- the acts
      have S7 := S6.trans s7
      refine ⟨_, rfl, _, rfl, _, rfl, sl, _, rfl, SqL.same S7 hsl, fun a1 na1 => ?_⟩
      have s8 := new_same (o := HO.lst (cutV (ns.map V.int) (some 6) (some 66))) na1
      have ha1 := upd_same (H := H7) (a := a1) (o := HO.lst (cutV (ns.map V.int) (some 6) (some 66)))
      have a1D := wk.notin na1
      generalize upd H7 a1 (HO.lst (cutV (ns.map V.int) (some 6) (some 66))) = H8 at s8 ha1 ⊢
      replace wk := wk.same s8
      have cmem : ∀ x ∈ cutV (ns.map V.int) (some 6) (some 66), ∃ n, x = V.int n := fun x hx => by
        obtain ⟨n, _, e⟩ := List.mem_map.mp (cutV_mem hx)
        exact ⟨n, e.symm⟩
      generalize cutV (ns.map V.int) (some 6) (some 66) = cs at ha1 cmem
      obtain ⟨G, hGe⟩ : ∃ G, G = cut (Dw w ol rv ra po) H8 := ⟨_, rfl⟩
      have sHG : Same H G := by rw [hGe]; exact S4.trans wk.sm
      have aG : G a1 = some (.lst cs) := by rw [hGe]; exact cut_of ha1 a1D
      have hG := hh.same sHG
      have hlw := sHG _ _ hlw0
      have nfr := NKs.tx (TX.same sHG) _ _ nfr0
      have hpbG := sHG _ _ hpb1
      have wkG : Wk G c.nv c.na w a vv aa rv ra po a' vv' aa' rv' ra' po' ol f ovs (first c) (first c) [] H8 := ⟨wk.hw, wk.ho, wk.st, wk.an, wk.vn, wk.mn, wk.n1, wk.n2, wk.n3, wk.bs, wk.op, by rw [hGe]; exact Same.refl _⟩
      have sWG : ∀ {z : S × S × List (List (Int × Sm))} {Hz : Hp}, WkE G c.nv c.na w z Hz → Same G Hz := fun ⟨_, _, _, _, _, _, _, _, _, _, _, _, _, _, _, q⟩ => q.sm.trans (cut_le _ _)
      clear hGe wk s8 s7 S7 s6 S46 nt0
      refine ⟨a1, rfl, ⟨_, SqL.of ha1⟩, for_list (K := K) (xs := cs) (fun i σ Hz => ∃ x10 x11 x12 x13 x14 z, σ = [some hv, some mv, some (.ref lr), some (.ref pb), some (.ref sl), some (.bl true), some (.int m), some (.ref w), some (.ref t0), some (.ref lw), x10, x11, x12, x13, x14] ∧ WkE G c.nv c.na w z Hz ∧ Inv c (tabOf ps) z)
        ⟨_, _, _, _, _, (first c, first c, []), rfl, ⟨_, _, _, _, _, _, _, _, _, _, _, _, _, _, _, wkG⟩, Inv.first hc⟩ (fun i σ Hz _ ⟨_, _, _, _, _, _, _, q, _⟩ => SqL.of (sWG q _ _ aG)) ?_ ?_⟩
      · clear wkG
        rintro i xc σ Hz hi ⟨x10, x11, x12, x13, x14, z, rfl, wkz, iz⟩
        obtain ⟨n, rfl⟩ := cmem _ (List.mem_of_getElem? hi)
        obtain ⟨sZ, bZ, osZ⟩ := z
        have oo := iz.os co
        have sk := iz.sok tok
        refine ⟨_, rfl, _, rfl, _, rfl, c, hv, w, n, G, sZ, bZ, osZ, rfl, hG, co, wkz, oo, fun H9 s9 => ?_, fun t H9 os' g kk r mm s9 eos m0 m1 ht => ?_, fun t H9 j pr g s9 hpr hsh g0 g1 ht ol4 => ?_⟩
        · refine ⟨_, rfl, rfl, _, rfl, ifF rfl ?_⟩
          exact ⟨_, _, _, _, _, _, rfl, wkz.same s9, iz⟩
        · refine ⟨_, rfl, rfl, _, rfl, ifT rfl ?_⟩
          subst eos
          refine ⟨_, rfl, _, rfl, _, rfl, c, hv, w, t, G, sZ, bZ, _, rfl, hG, co, wkz.same s9, sk, oo, .inl ⟨mm, os', g, kk, r, ht, rfl, fun Hw wkz => ?_⟩⟩
          replace iz := Inv.answer co tok hc iz m0 m1
          generalize wfin bZ os' (lgo (st sZ mm) r) = z at wkz iz
          obtain ⟨a, vv, aa, rv, ra, po, a', vv', aa', rv', ra', po', ol, f, ovs, wk⟩ := wkz
          have opl := Paired.length wk.op
          refine ⟨_, rfl, w, _, 2, _, rfl, rfl, SqL.of wk.hw, rfl, _, _, rfl, .inl ⟨_, SqL.of wk.ho, rfl⟩, rfl, _, rfl, ifb (fun hl => ?_) fun _ => ?_⟩
          · have o0 : z.2.2 = [] := by
              have h3 : (ovs.length : Int) = 0 := V.int.inj (of_decide_eq_true hl)
              exact List.eq_nil_of_length_eq_zero (by omega)
            have iz' : Inv c (tabOf ps) (z.1, z.2.1, []) := by rw [← o0]; exact iz
            have srow := iz'.here hrow
            have sfr := hmem.mp srow
            have sok := iz.sok tok
            refine ⟨_, rfl, w, _, 0, _, rfl, rfl, SqL.of wk.hw, rfl, c.nv, c.na, a, vv, aa, rv, ra, po, z.1, rfl, wk.st, fun t' H8 s8 nt' => ?_⟩
            have wk8 := wk.same s8
            have sG8 := wk8.sm.trans (cut_le _ _)
            obtain ⟨dd, ds, D1, D2, Sh1, Sh2, eqv⟩ := inD_at (K := K) nt' (SqL.of (sG8 _ _ hlw)) (NKs.tx (TX.same sG8) _ _ nfr) sok frok
            refine ⟨_, rfl, _, rfl, dd, ds, D1, D2, Sh1, Sh2, _, rfl, ?_⟩
            rw [eqv]
            refine ifF (by simp [sfr]) ?_
            obtain ⟨q, q0, q1, q2, q3, q4, eq, g1, g2, g3, g4, g5, g6⟩ := eS_open.mp nt'
            cases eq
            have pb8 := sG8 _ _ hpbG
            refine ⟨_, rfl, _, _, rfl, .inl ⟨_, SqL.of pb8, rfl⟩, _, rfl, by omega, by rw [List.length_map, hpb2]; split <;> decide, fun D nD => ?_⟩
            refine lc_range (fun j Hx => Same H8 Hx ∧ Hx D = some (.lst (((if c.na then [z.1.o * prc.headD 0] else []).map V.int).take j))) ⟨new_same nD, upd_same⟩ ?_ ?_
            · rintro j Hx hj ⟨sx, qx⟩
              have hj2 : j < (prc.map V.int).length := by omega
              rw [List.length_map, hpb2] at hj2
              have na' : c.na = true := by
                cases e : c.na with
                | true => rfl
                | false => rw [e] at hj2; exact absurd hj2 (Nat.not_lt_zero _)
              have j0 : j = 0 := by rw [na'] at hj2; have : j < 1 := hj2; omega
              subst j0
              obtain ⟨pr, hpr⟩ : ∃ pr, prc = [pr] := by
                rw [na'] at hpb2
                match prc, hpb2 with
                | [pr], _ => exact ⟨pr, rfl⟩
              rw [hpr] at pb8
              have bnd := hpb3 pr (by rw [hpr]; exact List.mem_cons_self)
              have g6' := sx _ _ g6
              rw [if_pos na'] at g6'
              refine ⟨rfl, _, rfl, t', _, 2, _, rfl, rfl, SqT.of (sx _ _ g1), rfl, _, rfl, q4, _, _, _, rfl, rfl, SqT.of g6', at_of (j := 0) rfl rfl, _, rfl, _, rfl, pb, _, _, _, rfl, rfl, SqL.of (sx _ _ pb8), at_of (j := 0) rfl rfl, _, _, rfl, rfl, ?_, _, qx, (by show 0 < sizeLine; decide), fun x o h => ?_, ?_⟩
              · have h1 := sok.o0
                have h2 := sok.top
                have h3 := sok.h0
                exact .inl ⟨by omega, by omega⟩
              · rw [upd_ne (ne_of_none h nD)]; exact sx _ _ h
              · rw [upd_same, na', hpr]; rfl
            · rintro Hx ⟨sx, qx⟩
              have eV : ((if c.na then [z.1.o * prc.headD 0] else []).map V.int).take (prc.map V.int).length = (if c.na then [z.1.o * prc.headD 0] else []).map V.int := by
                rw [List.length_map, hpb2]
                cases c.na <;> rfl
              have qx' : Hx D = some (.lst ((if c.na then [z.1.o * prc.headD 0] else []).map V.int)) := by
                rw [← eV]
                exact qx
              have e5 : (if c.na then [z.1.o * prc.headD 0] else []).sum = wr c prc z.1 := by unfold wr; cases c.na <;> simp
              have hle := hmax.2 _ (List.mem_map.mpr ⟨_, srow, rfl⟩)
              refine ⟨D, _, rfl, SqL.of qx', _, rfl, _, _, rfl, rfl, _, rfl, ifF (decide_eq_false fun y => ?_) ?_⟩
              · rw [e5] at y
                omega
              · exact ⟨_, _, _, _, _, z, rfl, ⟨_, _, _, _, _, _, _, _, _, _, _, _, _, _, _, wk8.same sx⟩, iz⟩
          · exact ⟨_, _, _, _, _, z, rfl, ⟨_, _, _, _, _, _, _, _, _, _, _, _, _, _, _, wk⟩, iz⟩
        · refine ⟨_, rfl, rfl, _, rfl, ifT rfl ?_⟩
          have gs := (co.pr pr (List.mem_of_getElem? hpr)).2.1
          refine ⟨_, rfl, _, rfl, _, rfl, c, hv, w, t, G, sZ, bZ, osZ, rfl, hG, co, wkz.same s9, sk, oo, .inr ⟨j, pr, g, ht, hpr, g0, by omega, fun Hw wkz => ?_⟩⟩
          replace iz := Inv.call co tok hc iz hpr hsh g0 g1 ol4
          generalize wfin (if osZ = [] then sZ else bZ) osZ (lgo sZ (pr.blk.map fun t => (g, t))) = z at wkz iz
          obtain ⟨a, vv, aa, rv, ra, po, a', vv', aa', rv', ra', po', ol, f, ovs, wk⟩ := wkz
          have opl := Paired.length wk.op
          refine ⟨_, rfl, w, _, 2, _, rfl, rfl, SqL.of wk.hw, rfl, _, _, rfl, .inl ⟨_, SqL.of wk.ho, rfl⟩, rfl, _, rfl, ifb (fun hl => ?_) fun _ => ?_⟩
          · have o0 : z.2.2 = [] := by
              have h3 : (ovs.length : Int) = 0 := V.int.inj (of_decide_eq_true hl)
              exact List.eq_nil_of_length_eq_zero (by omega)
            have iz' : Inv c (tabOf ps) (z.1, z.2.1, []) := by rw [← o0]; exact iz
            have srow := iz'.here hrow
            have sfr := hmem.mp srow
            have sok := iz.sok tok
            refine ⟨_, rfl, w, _, 0, _, rfl, rfl, SqL.of wk.hw, rfl, c.nv, c.na, a, vv, aa, rv, ra, po, z.1, rfl, wk.st, fun t' H8 s8 nt' => ?_⟩
            have wk8 := wk.same s8
            have sG8 := wk8.sm.trans (cut_le _ _)
            obtain ⟨dd, ds, D1, D2, Sh1, Sh2, eqv⟩ := inD_at (K := K) nt' (SqL.of (sG8 _ _ hlw)) (NKs.tx (TX.same sG8) _ _ nfr) sok frok
            refine ⟨_, rfl, _, rfl, dd, ds, D1, D2, Sh1, Sh2, _, rfl, ?_⟩
            rw [eqv]
            refine ifF (by simp [sfr]) ?_
            obtain ⟨q, q0, q1, q2, q3, q4, eq, g1, g2, g3, g4, g5, g6⟩ := eS_open.mp nt'
            cases eq
            have pb8 := sG8 _ _ hpbG
            refine ⟨_, rfl, _, _, rfl, .inl ⟨_, SqL.of pb8, rfl⟩, _, rfl, by omega, by rw [List.length_map, hpb2]; split <;> decide, fun D nD => ?_⟩
            refine lc_range (fun j Hx => Same H8 Hx ∧ Hx D = some (.lst (((if c.na then [z.1.o * prc.headD 0] else []).map V.int).take j))) ⟨new_same nD, upd_same⟩ ?_ ?_
            · rintro j Hx hj ⟨sx, qx⟩
              have hj2 : j < (prc.map V.int).length := by omega
              rw [List.length_map, hpb2] at hj2
              have na' : c.na = true := by
                cases e : c.na with
                | true => rfl
                | false => rw [e] at hj2; exact absurd hj2 (Nat.not_lt_zero _)
              have j0 : j = 0 := by rw [na'] at hj2; have : j < 1 := hj2; omega
              subst j0
              obtain ⟨pr, hpr⟩ : ∃ pr, prc = [pr] := by
                rw [na'] at hpb2
                match prc, hpb2 with
                | [pr], _ => exact ⟨pr, rfl⟩
              rw [hpr] at pb8
              have bnd := hpb3 pr (by rw [hpr]; exact List.mem_cons_self)
              have g6' := sx _ _ g6
              rw [if_pos na'] at g6'
              refine ⟨rfl, _, rfl, t', _, 2, _, rfl, rfl, SqT.of (sx _ _ g1), rfl, _, rfl, q4, _, _, _, rfl, rfl, SqT.of g6', at_of (j := 0) rfl rfl, _, rfl, _, rfl, pb, _, _, _, rfl, rfl, SqL.of (sx _ _ pb8), at_of (j := 0) rfl rfl, _, _, rfl, rfl, ?_, _, qx, (by show 0 < sizeLine; decide), fun x o h => ?_, ?_⟩
              · have h1 := sok.o0
                have h2 := sok.top
                have h3 := sok.h0
                exact .inl ⟨by omega, by omega⟩
              · rw [upd_ne (ne_of_none h nD)]; exact sx _ _ h
              · rw [upd_same, na', hpr]; rfl
            · rintro Hx ⟨sx, qx⟩
              have eV : ((if c.na then [z.1.o * prc.headD 0] else []).map V.int).take (prc.map V.int).length = (if c.na then [z.1.o * prc.headD 0] else []).map V.int := by
                rw [List.length_map, hpb2]
                cases c.na <;> rfl
              have qx' : Hx D = some (.lst ((if c.na then [z.1.o * prc.headD 0] else []).map V.int)) := by
                rw [← eV]
                exact qx
              have e5 : (if c.na then [z.1.o * prc.headD 0] else []).sum = wr c prc z.1 := by unfold wr; cases c.na <;> simp
              have hle := hmax.2 _ (List.mem_map.mpr ⟨_, srow, rfl⟩)
              refine ⟨D, _, rfl, SqL.of qx', _, rfl, _, _, rfl, rfl, _, rfl, ifF (decide_eq_false fun y => ?_) ?_⟩
              · rw [e5] at y
                omega
              · exact ⟨_, _, _, _, _, z, rfl, ⟨_, _, _, _, _, _, _, _, _, _, _, _, _, _, _, wk8.same sx⟩, iz⟩
          · exact ⟨_, _, _, _, _, z, rfl, ⟨_, _, _, _, _, _, _, _, _, _, _, _, _, _, _, wk⟩, iz⟩
      · rintro σ Hz ⟨x10, x11, x12, x13, x14, z, rfl, wkz, iz⟩
        exact k Hz (sHG.trans (sWG wkz))
theorem cal_lstays {f : Addr} {fd : FuncData} (F : FnP K "_law_stays" "_law_stays" s_law_stays f fd) (T : Txt K mg) (g : mg "_law_stays" = some (.ref f)) (c_is_closed : C8.Cal P w K mg base 13 "is_closed" (spClosed w K) []) (c_bound : C8.Cal P w K mg base 14 "bound" (spBound w K) []) (c_law_is_integer : C8.Cal P w K mg base 1 "_law_is_integer" spLInt [])
    (c_law_walk : C8.Cal P w K mg base 2 "_law_walk" spLWalk []) (c_law_told : C8.Cal P w K mg base 1 "_law_told" spLTold []) (c_law_drawn : C8.Cal P w K mg base 1 "_law_drawn" spLDraw []) (c_law_act : C8.Cal P w K mg base 7 "_law_act" (spLAct K) []) : C8.Cal P w K mg base 15 "_law_stays" (spLStays K) [] :=
  ⟨f, fd, _, [], ok_lstays F T c_is_closed c_bound c_law_is_integer c_law_walk c_law_told c_law_drawn c_law_act, g, F.kp, F.bindsN fun _ _ _ _ _ _ us hl => match us, hl with | [_, _, _, _, _], _ => rfl, .nil⟩
end
end NC
set_option Elab.async false
set_option linter.all false
set_option maxRecDepth 100000
set_option maxHeartbeats 4000000
/-! The plain law of the least rows and of the changed rows. -/
namespace NC
open PySem PySem.Spec PyProof.Rows L2
theorem addAll_app : ∀ (E f : List S), (f ++ E).Nodup → addAll f E = f ++ E
  | [], f, _ => by rw [List.append_nil]; rfl
  | e :: r, f, h => by
    have hn : e ∉ f := fun z => (List.nodup_append.mp h).2.2 e z e List.mem_cons_self rfl
    show addAll (addS f e) r = _
    have e1 : addS f e = f ++ [e] := by unfold addS; rw [if_neg hn]
    rw [e1, addAll_app r (f ++ [e]) (by rw [List.append_assoc]; exact h), List.append_assoc]
    rfl
theorem addAll_self {E : List S} (h : E.Nodup) : addAll [] E = E := addAll_app E [] h
theorem LeastT.fine {c : Cf} {ps : Tab} (ls : LeastT c ps) : PsFine c.nv c.na ps := by
  refine ⟨?_, ?_, fun y hy => ?_⟩
  · obtain ⟨row, l, e⟩ := ls.hd
    rw [e]
    exact fun z => nomatch z
  · have := SrGood.row_len (c := c) ls.nd ls.ky
    unfold keys at this
    rwa [List.length_map] at this
  · have hk : y.1 ∈ keys ps := List.mem_map.mpr ⟨y, hy, rfl⟩
    obtain ⟨h1, h2⟩ := ls.rw y hy
    have hg := kpGet_of (kp := ps) ls.nd (k := y.1) (v := y.2) hy
    have hb := (ls.cl.2 _ _ hg).1
    exact ⟨(ls.ky _ hk).1, (fun z => by rw [z] at hb; cases hb), SrGood.row_len h1 h2, fun x hx => (h2 x hx).1⟩
theorem LeastT.tab {c : Cf} {ps : Tab} (ls : LeastT c ps) : kpGet (tabOf ps) = kpGet ps := by
  funext k
  rw [tabOf_get]
  cases e : kpGet ps k with
  | none => rfl
  | some row => exact congrArg some (addAll_self (ls.rw _ (kpGet_mem e)).1)
theorem LeastT.closed {c : Cf} {ps : Tab} (ls : LeastT c ps) : Closed c (tabOf ps) := by
  have h := ls.cl
  unfold Closed at h ⊢
  rw [ls.tab]
  exact h
theorem PsFine.prs {nv na : Bool} {ps : Tab} (f : PsFine nv na ps) : prsOk nv na ps := fun y hy => by
  obtain ⟨h1, _, h3, h4⟩ := f.ok y hy
  exact ⟨h1, h4, by omega⟩
theorem tot0_le {c : Cf} (co : c.Ok) : tot0 c ≤ 3 := by
  have h2 := co.o0
  have hh : c.hd.getD 0 ≤ 2 := by
    cases e : c.hd with
    | none => show (0 : Int) ≤ 2; decide
    | some n => exact (co.hd n e).2.2
  have ho : (if c.na then c.o0 else 0) ≤ 1 := by split <;> omega
  show c.hd.getD 0 + (if c.na then c.o0 else 0) ≤ 3
  omega
theorem more_ok {c : Cf} (co : c.Ok) {b : S} (h : vS c.nv c.na (fun t => t = tot0 c) b) : (more c.na b).Ok c.nv c.na := by
  unfold more
  obtain ⟨⟨x0, x1, h0, o0, top, nv, na⟩, ht⟩ := h
  have := tot0_le co
  have ht : b.h + b.o = tot0 c := ht
  cases e : c.na with
  | false => exact ⟨x0, x1, h0, o0, top, nv, fun _ => na e⟩
  | true => exact ⟨x0, x1, h0, by show 0 ≤ b.o + 1; omega, by show b.h + (b.o + 1) ≤ 4; omega, nv, fun z => nomatch z⟩
theorem Chd.ok {c : Cf} (co : c.Ok) {ps ps' : Tab} {way : Int} (ls : LeastT c ps) (h : Chd c.na ps way ps') : prsOk c.nv c.na ps' ∧ ps'.length ≤ 100 := by
  have f := ls.fine
  have pr := f.prs
  have key : ∀ {i : Nat} {q : S × List S}, (q.1.Ok c.nv c.na ∧ (∀ s ∈ q.2, s.Ok c.nv c.na) ∧ q.2.length ≤ 22) → prsOk c.nv c.na (ps.take i ++ q :: ps.drop (i + 1)) ∧ (ps.take i ++ q :: ps.drop (i + 1)).length ≤ 100 := fun {i q} hq => by
    refine ⟨fun y hy => ?_, ?_⟩
    · rcases List.mem_append.mp hy with hy | hy
      · exact pr y (List.mem_of_mem_take hy)
      · rcases List.mem_cons.mp hy with rfl | hy
        · exact hq
        · exact pr y (List.mem_of_mem_drop hy)
    · have := f.len
      simp only [List.length_append, List.length_take, List.length_cons, List.length_drop]
      omega
  cases h with
  | @cut i p b row h1 h2 h3 h4 =>
    obtain ⟨k1, k2, k3, k4⟩ := f.ok _ (List.mem_of_getElem? h1)
    have k3 : row.length ≤ 10 := k3
    refine key ⟨k1, fun s hs => ?_, ?_⟩
    · rcases List.mem_append.mp hs with hs | hs
      · exact k4 s (List.mem_of_mem_take hs)
      · exact k4 s (List.mem_of_mem_drop hs)
    · show (row.take p ++ row.drop (p + 1)).length ≤ 22
      simp only [List.length_append, List.length_take, List.length_drop]
      omega
  | @del i b row h1 h2 h3 =>
    refine ⟨fun y hy => ?_, ?_⟩
    · rcases List.mem_append.mp hy with hy | hy
      · exact pr y (List.mem_of_mem_take hy)
      · exact pr y (List.mem_of_mem_drop hy)
    · have := f.len
      simp only [List.length_append, List.length_take, List.length_drop]
      omega
  | @more i b row h1 h2 h3 =>
    obtain ⟨k1, k2, k3, k4⟩ := f.ok _ (List.mem_of_getElem? h1)
    have k3 : row.length ≤ 10 := k3
    have hb := ls.ky b (List.mem_map.mpr ⟨_, List.mem_of_getElem? h1, rfl⟩)
    refine key ⟨k1, fun s hs => ?_, ?_⟩
    · rcases List.mem_append.mp hs with hs | hs
      · exact k4 s hs
      · rw [List.mem_singleton.mp hs]; exact more_ok co hb
    · show (row ++ [NC.more c.na b]).length ≤ 22
      simp only [List.length_append, List.length_singleton]
      omega
  | @join i j b d row other h1 h2 h3 h4 =>
    obtain ⟨k1, k2, k3, k4⟩ := f.ok _ (List.mem_of_getElem? h1)
    obtain ⟨_, _, l3, l4⟩ := f.ok _ (List.mem_of_getElem? h4)
    have k3 : row.length ≤ 10 := k3
    have l3 : other.length ≤ 10 := l3
    refine key ⟨k1, fun s hs => ?_, ?_⟩
    · rcases List.mem_append.mp hs with hs | hs
      · exact k4 s hs
      · exact l4 s (List.mem_filter.mp hs).1
    · show (row ++ other.filter fun x => decide (x ∉ row)).length ≤ 22
      have := List.length_filter_le (fun x => decide (x ∉ row)) other
      rw [List.length_append]
      omega
theorem notin_cut {row : List S} (h : row.Nodup) {p : Nat} (hp : p < row.length) : row[p] ∉ row.take p ++ row.drop (p + 1) := by
  have e : row = row.take p ++ row[p] :: row.drop (p + 1) := by
    rw [← List.drop_eq_getElem_cons hp, List.take_append_drop]
  intro m
  rw [e] at h
  obtain ⟨_, h2, h3⟩ := List.nodup_append.mp h
  rcases List.mem_append.mp m with m | m
  · exact h3 _ m _ List.mem_cons_self rfl
  · exact (List.nodup_cons.mp h2).1 m
/-- the first row, changed or left out -/
theorem Chd.open {c : Cf} {ps ps' : Tab} {way : Int} (ls : LeastT c ps) (h : Chd c.na ps way ps') (w1 : way % 4 < 2) (w2 : way / 4 % (ps.length : Int) = 0) : ¬ Closed c (tabOf ps') := by
  intro hc
  obtain ⟨row0, l, e⟩ := ls.hd
  have nd : (first c :: keys l).Nodup := by
    have := ls.nd
    rw [e] at this
    exact this
  cases h with
  | @cut i p b row h1 h2 h3 h4 =>
    have i0 : i = 0 := by omega
    subst i0
    rw [e] at h1
    cases h1
    have e1 : kpGet ps (first c) = some row0 := by
      rw [e, kpGet_cons]
      exact if_pos rfl
    obtain ⟨row', q1, q2⟩ := ls.ls _ hc _ _ e1
    have q3 : kpGet (tabOf (ps.take 0 ++ (first c, row0.take p ++ row0.drop (p + 1)) :: ps.drop (0 + 1))) (first c) = some (addAll [] (row0.take p ++ row0.drop (p + 1))) := by
      rw [tabOf_get, List.take_zero, List.nil_append, kpGet_cons]
      rw [if_pos rfl]
      rfl
    rw [q3] at q1
    cases q1
    have hn := (ls.rw _ (kpGet_mem e1)).1
    exact notin_cut hn h4 (mem_dedup.mp (q2 _ (List.getElem_mem h4)))
  | @del i b row h1 h2 h3 =>
    have i0 : i = 0 := by omega
    subst i0
    have := hc.1
    rw [tabOf_get, e] at this
    have e2 : kpGet (((first c, row0) :: l).take 0 ++ ((first c, row0) :: l).drop (0 + 1)) (first c) = none := by
      show kpGet l (first c) = none
      exact kpGet_none.mpr (List.nodup_cons.mp nd).1
    rw [e2] at this
    cases this
  | more h1 h2 h3 => omega
  | join h1 h2 h3 h4 => omega
/-- the most of two least rows -/
theorem least_max {c : Cf} {ps qs : Tab} (l1 : LeastT c ps) (l2 : LeastT c qs) {r1 r2 : List S} (e1 : kpGet ps (first c) = some r1) (e2 : kpGet qs (first c) = some r2) {f : S → Int} {m1 m2 : Int} (h1 : IsMax (r1.map f) m1) (h2 : IsMax (r2.map f) m2) : m1 = m2 := by
  obtain ⟨x, hx, a1⟩ := List.mem_map.mp h1.1
  obtain ⟨y, hy, a2⟩ := List.mem_map.mp h2.1
  obtain ⟨r, q1, q2⟩ := l1.ls _ l2.cl _ _ e1
  rw [e2] at q1
  cases q1
  obtain ⟨r, q1, q3⟩ := l2.ls _ l1.cl _ _ e2
  rw [e1] at q1
  cases q1
  have b1 := h2.2 _ (List.mem_map.mpr ⟨x, q2 x hx, rfl⟩)
  have b2 := h1.2 _ (List.mem_map.mpr ⟨y, q3 y hy, rfl⟩)
  omega
end NC
set_option Elab.async false
set_option linter.all false
set_option maxRecDepth 100000
set_option maxHeartbeats 4000000
/-! The law. -/
namespace NC
open PySem PySem.Spec PyProof.Rows L2
section
variable {P : Program} {w : World} {K : PySem.W.Frag} {mg : Str → Option Value} {base : Heap}
def spLaw (K : PySem.W.Frag) : Sp := fun vs H Q _ => ∃ (sl : Addr) (ns : List Int), vs = [.ref sl] ∧ SqL K H sl (ns.map V.int) ∧ ∀ H', Same H H' → Q (.bl true) H'
theorem sc_law : FnScope ["_law_script", "_law_house_here", "_law_made_here", "_law_prices", "_law_k", "_law_rows", "_law_way", "_law_changed_here"] ["_law_script"] (defScope s_law) := ⟨rfl, rfl, rfl, by decide +kernel, rfl, by decide +kernel, by decide +kernel⟩
theorem ok_law {f : Addr} {fd : FuncData} (F : FnP K "law" "law" s_law f fd) (T : Txt K mg) (c_law_house : C8.Cal P w K mg base 8 "_law_house" (spLHouse K) []) (c_law_made : C8.Cal P w K mg base 3 "_law_made" (spLMade K) []) (c_law_cell : C8.Cal P w K mg base 1 "_law_cell" (spLCell K) [])
    (c_least_rows : C8.Cal P w K mg base 16 "least_rows" (spLeast K) []) (c_is_closed : C8.Cal P w K mg base 13 "is_closed" (spClosed w K) []) (c_bound : C8.Cal P w K mg base 14 "bound" (spBound w K) []) (c_most : C8.Cal P w K mg base 17 "most" (spMost K) [])
    (c_law_changed : C8.Cal P w K mg base 1 "_law_changed" spLChg []) (c_law_stays : C8.Cal P w K mg base 15 "_law_stays" (spLStays K) []) : FnOk P w K mg base CX0 18 f fd ["_law_script"] (spLaw K) := by
  refine F.ok sc_law (fun vs H Q E h => ?_) (fun cdv A outer s H vs Q E hr h => ?_)
  · obtain ⟨sl, ns, rfl, _⟩ := h
    rfl
  · obtain ⟨sl, ns, rfl, hsl, k⟩ := h
    refine ⟨_, PSs.nox ((pss_cons (ps_set (i := 1) sc_law.nd rfl (Or.inl rfl) (C8.pe_c c_law_house hr (by decide) (by rfl) (pa_cons (pv 0) (pa_cons pe_int (pa_cons pe_int (pa_cons pe_bl pa_nil))))))
      (pss_cons (ps_set (i := 2) sc_law.nd rfl (Or.inl rfl) (C8.pe_c c_law_made hr (by decide) (by rfl) (pa_cons (pv 1) pa_nil)))
      (pss_cons (ps_setLc (i := 3) (own := [("_law_k", 4)]) rfl sc_law.nd rfl rfl (sw_true rfl rfl rfl (by decide +kernel)) (pi_range1 rfl T.range (pa_cons (pe_callB call_len (by rfl) T.len bt_len (pa_cons (pe_ix ix_tup (pv 1) pe_int (fun _ _ => rfl)) pa_nil)) pa_nil)) (blkOk_by (own := [("_law_k", 4)]) (N := ["_law_script", "_law_house_here", "_law_made_here", "_law_prices", "_law_k", "_law_rows", "_law_way", "_law_changed_here"]) (sc := defScope s_law) (by decide +kernel)) (fun _ _ _ _ _ => (pg_name (i := 4) sc_law.nd rfl (Or.inl rfl))) (fun _ _ _ _ _ => pts_nil) (fun _ _ _ _ _ => (pe_op op_mod (pe_op op_fdiv (pe_callTy call_int1 (by rfl) T.int bt_int (pa_cons (C8.pe_c c_law_cell hr (by decide) (by rfl) (pa_cons (pv 0) (pa_cons pe_int pa_nil))) pa_nil)) (pe_op op_add (pv 4) pe_int)) pe_int)))
      (pss_cons (ps_set (i := 5) sc_law.nd rfl (Or.inl rfl) (C8.pe_c c_least_rows hr (by decide) (by rfl) (pa_cons (pv 2) pa_nil)))
      (pss_cons (ps_if (PW.pt (pw_or (pt_cmpR op_notBl (C8.pe_c c_is_closed hr (by decide) (by rfl) (pa_cons (pv 2) (pa_cons (pe_callTy call_list_of (by rfl) T.list bt_list (pa_cons (pv 5) pa_nil)) pa_nil))) pe_bl (nomark _)) (pw_or1 (pt_cmpR op_ne (C8.pe_c c_bound hr (by decide) (by rfl) (pa_cons (pv 2) (pa_cons (pe_callTy call_list_of (by rfl) T.list bt_list (pa_cons (pv 5) pa_nil)) (pa_cons (pe_callTy call_list_of (by rfl) T.list bt_list (pa_cons (pv 3) pa_nil)) pa_nil)))) (C8.pe_c c_most hr (by decide) (by rfl) (pa_cons (pv 2) (pa_cons (pe_callTy call_list_of (by rfl) T.list bt_list (pa_cons (pv 3) pa_nil)) pa_nil))) (nomark _))))) (pss_one (ps_ret pe_bl)) pss_nil)
      (pss_cons (ps_set (i := 6) sc_law.nd rfl (Or.inl rfl) (pe_callB call_abs (by rfl) T.abs bt_abs (pa_cons (C8.pe_c c_law_cell hr (by decide) (by rfl) (pa_cons (pv 0) (pa_cons pe_int pa_nil))) pa_nil)))
      (pss_cons (ps_set (i := 7) sc_law.nd rfl (Or.inl rfl) (C8.pe_c c_law_changed hr (by decide) (by rfl) (pa_cons (pv 5) (pa_cons (pv 6) pa_nil))))
      (pss_cons (ps_if (PW.pt (pw_and (pt_cmpR op_lt (pe_op op_mod (pv 6) pe_int) pe_int (nomark _)) (pw_and (pt_cmpR op_eq (pe_op op_mod (pe_op op_fdiv (pv 6) pe_int) (pe_callB call_len (by rfl) T.len bt_len (pa_cons (pv 5) pa_nil))) pe_int (nomark _)) (pw_and1 (pt_cmpR op_notBl (C8.pe_c c_is_closed hr (by decide) (by rfl) (pa_cons (pv 2) (pa_cons (pv 7) pa_nil))) pe_bl (nomark _)))))) (pss_one (ps_ret pe_bl)) pss_nil)
      (pss_one (ps_ret (pe_and (C8.pe_c c_law_stays hr (by decide) (by rfl) (pa_cons (pv 1) (pa_cons (pv 2) (pa_cons (pv 5) (pa_cons (pv 3) (pa_cons (pv 0) pa_nil)))))) (pe_one (C8.pe_c c_law_stays hr (by decide) (by rfl) (pa_cons (pv 1) (pa_cons (pv 2) (pa_cons (pv 7) (pa_cons (pv 3) (pa_cons (pv 0) pa_nil))))))))))))))))))), ?_⟩
    dsimp only [cxOf, Cx.nox]
    refine ⟨_, rfl, sl, ns, rfl, hsl, fun c hv H1 s1 hh co ak => ?_⟩
    have few := few_of co ak
    refine ⟨_, rfl, c, hv, rfl, hh, fun mv H2 s2 hm => ?_⟩
    -- prices
    obtain ⟨hb, la, lc, avs, ct, rfl, q1, q2, q3, q4, q5⟩ := id (hh.same s2)
    have avl : avs.length = if c.na then 1 else 0 := by
      rw [← q3.length]
      unfold eAss
      cases c.na <;> rfl
    have avl1 : avs.length ≤ 1 := by rw [avl]; split <;> decide
    have S2 := s1.trans s2
    refine ⟨_, rfl, hb, _, 0, _, rfl, rfl, SqT.of q1, rfl, _, _, rfl, .inl ⟨_, SqL.of q2, rfl⟩, _, rfl, by omega, by omega, fun pb npb => ?_⟩
    refine lc_range (fun j Hy => ∃ prc : List Int, Same H2 Hy ∧ Hy pb = some (.lst (prc.map V.int)) ∧ prc.length = j ∧ ∀ p ∈ prc, 0 ≤ p ∧ p ≤ 9) ⟨[], new_same npb, upd_same, rfl, fun p hp => nomatch hp⟩ ?_ ?_
    · rintro j Hy hj ⟨prc, sy, qa, ql, qb⟩
      have hj2 : j < avs.length := by omega
      refine ⟨rfl, _, rfl, sl, ns, 4, rfl, SqL.same (S2.trans sy) hsl, fun cc => .inl ⟨cc, rfl, _, rfl, _, _, rfl, rfl, _, _, rfl, rfl, ⟨by omega, by omega⟩, _, _, rfl, rfl, by show (0 : Int) < 10; decide, ?_⟩⟩
      refine ⟨_, qa, by rw [List.length_map]; exact szl (by omega), prc ++ [cc / (0 + (j : Int) + 1) % 10], fun a o h => by rw [upd_ne (ne_of_none h npb)]; exact sy _ _ h, by rw [upd_same, List.map_append]; rfl, by rw [List.length_append, ql]; rfl, fun p hp => ?_⟩
      rcases List.mem_append.mp hp with hp | hp
      · exact qb p hp
      · rw [List.mem_singleton.mp hp]
        have h1 := Int.emod_nonneg (cc / (0 + (j : Int) + 1)) (by decide : (10 : Int) ≠ 0)
        have h2 := Int.emod_lt_of_pos (cc / (0 + (j : Int) + 1)) (by decide : (0 : Int) < 10)
        omega
    rintro H3 ⟨prc, s3, hpb, prl0, prb⟩
    have prl : prc.length = if c.na then 1 else 0 := by rw [← avl]; omega
    have hm3 := hm.same s3
    -- least rows
    refine ⟨_, rfl, mv, c, rfl, hm3, co, few, fun H4 lr ps pvs s4 hlr nlr hps ls => ?_⟩
    have fine := ls.fine
    have pok := fine.prs
    have hc := ls.closed
    have S34 := s3.trans s4
    have S04 := S2.trans S34
    have hm4 := hm3.same s4
    have hpb4 := s4 _ _ hpb
    clear npb nlr q1 q2 q3 q4 q5
    -- closed, and the bound is the most
    refine ⟨_, rfl, _, rfl, lr, _, rfl, .inl (SqL.of hlr), fun l1 nl1 => ?_⟩
    have t1 := new_same (o := HO.lst pvs) nl1
    refine ⟨mv, c, l1, ps, pvs, rfl, hm4.same t1, co, few, upd_same, hps.same t1, pok, fun H5 t5 => ?_⟩
    have S5 := t1.trans t5
    rw [closedB_t hc]
    refine ⟨_, _, rfl, rfl, _, rfl, ifF rfl ?_⟩
    refine ⟨_, rfl, _, rfl, lr, _, rfl, .inl (SqL.of (S5 _ _ hlr)), fun l2 nl2 => ?_⟩
    have t6 := new_same (o := HO.lst pvs) nl2
    have h2 := upd_same (H := H5) (a := l2) (o := HO.lst pvs)
    have S6 := S5.trans t6
    generalize upd H5 l2 (HO.lst pvs) = H6 at t6 h2 S6 ⊢
    refine ⟨_, rfl, pb, _, rfl, .inl (SqL.of (S6 _ _ hpb4)), fun l3 nl3 => ?_⟩
    have t7 := new_same (o := HO.lst (prc.map V.int)) nl3
    have h3 := upd_same (H := H6) (a := l3) (o := HO.lst (prc.map V.int))
    have S7 := S6.trans t7
    replace h2 := t7 _ _ h2
    generalize upd H6 l3 (HO.lst (prc.map V.int)) = H7 at t7 h3 h2 S7 ⊢
    refine ⟨mv, c, l2, l3, ps, pvs, prc, rfl, hm4.same S7, co, few, h2, hps.same S7, pok, ⟨h3, prl, prb⟩, fun nc => absurd hc nc, fun _ row m H8 t8 hrow hmax => ?_⟩
    have S8 := S7.trans t8
    refine ⟨_, rfl, _, rfl, pb, _, rfl, .inl (SqL.of (S8 _ _ hpb4)), fun l4 nl4 => ?_⟩
    have t9 := new_same (o := HO.lst (prc.map V.int)) nl4
    have h4 := upd_same (H := H8) (a := l4) (o := HO.lst (prc.map V.int))
    have S9 := S8.trans t9
    generalize upd H8 l4 (HO.lst (prc.map V.int)) = H9 at t9 h4 S9 ⊢
    refine ⟨mv, c, l4, prc, rfl, hm4.same S9, co, few, ⟨h4, prl, prb⟩, fun H10 qs row2 m2 t10 ls2 hrow2 hmax2 => ?_⟩
    have S10 := S9.trans t10
    rw [ls.tab] at hrow
    have em : m = m2 := least_max ls ls2 hrow hrow2 hmax hmax2
    subst em
    refine ⟨rfl, _, rfl, ifF (by simp) ?_⟩
    clear h4 h3 h2 t9 t8 t7 t6 t5 t1 S9 S8 S7 S6 S5 nl1 nl2 nl3 nl4
    -- the changed rows
    refine ⟨_, rfl, sl, ns, 5, rfl, SqL.same (S04.trans S10) hsl, fun cc => ⟨cc, rfl, ?_⟩⟩
    generalize (if cc < 0 then -cc else cc) = way
    refine ⟨_, rfl, _, rfl, lr, way, c.nv, c.na, ps, pvs, rfl, S10 _ _ hlr, hps.same S10, fine, fun l5 H11 ps' pvs' t11 h5 hps' chd => ?_⟩
    have S11 := S10.trans t11
    obtain ⟨pok', plen'⟩ := chd.ok co ls
    have pvl : pvs.length = ps.length := (Paired.length hps).symm
    have pn : 0 < ps.length := List.length_pos_iff.mpr fine.ne
    have pn' : (0 : Int) < (pvs.length : Int) := by omega
    have hlr11 := S11 _ _ hlr
    have hm11 := hm4.same S11
    refine ⟨_, rfl, _, _, rfl, rfl, by show (0 : Int) < 4; decide, _, _, rfl, rfl, _, rfl, ?_⟩
    by_cases w1 : way % 4 < 2
    · refine ifT (decide_eq_true w1) ?_
      refine ⟨_, rfl, _, _, rfl, rfl, ⟨by decide, by decide⟩, _, rfl, _, _, rfl, .inl ⟨_, SqL.of hlr11, rfl⟩, _, _, rfl, rfl, pn', rfl, _, rfl, ?_⟩
      by_cases w2 : way / 4 % (pvs.length : Int) = 0
      · refine ifT (decide_eq_true (congrArg V.int w2)) ?_
        refine ⟨_, rfl, _, rfl, mv, c, l5, ps', pvs', rfl, hm11, co, few, h5, hps', pok', fun H12 t12 => ?_⟩
        rw [closedB_f (chd.open ls w1 (by rw [← pvl]; exact w2))]
        refine ⟨_, _, rfl, rfl, _, rfl, ifF rfl ?_⟩
        have S12 := S11.trans t12
        have SZ := (s2.trans S34).trans S12
        have SM := S34.trans S12
        have SZ2 := S12
        have SZ0 := S04.trans S12
        have hlrZ := S12 _ _ hlr
        have hpbZ := S12 _ _ hpb4
        have h5Z := t12 _ _ h5
        have hpsZ' := hps'.same t12
        refine ⟨_, rfl, _, rfl, _, rfl, _, rfl, _, rfl, c, _, mv, lr, pb, sl, ps, pvs, prc, ns, rfl, hh.same SZ, hm.same SM, co, few, hlrZ, hps.same SZ2, pok, by have := fine.len; omega, ⟨hpbZ, prl, prb⟩, SqL.same SZ0 hsl, fun Ha sa => ?_⟩
        refine ⟨_, rfl, ifT rfl ?_⟩
        refine ⟨_, rfl, _, rfl, _, rfl, _, rfl, _, rfl, c, _, mv, l5, pb, sl, ps', pvs', prc, ns, rfl, hh.same (SZ.trans sa), hm.same (SM.trans sa), co, few, sa _ _ h5Z, hpsZ'.same sa, pok', plen', ⟨sa _ _ hpbZ, prl, prb⟩, SqL.same (SZ0.trans sa) hsl, fun Hb sb => ?_⟩
        exact k Hb ((SZ0.trans sa).trans sb)
      · refine ifF (decide_eq_false fun z => w2 (V.int.inj z)) (ifF rfl ?_)
        have S12 := S11
        have SZ := (s2.trans S34).trans S12
        have SM := S34.trans S12
        have SZ2 := S12
        have SZ0 := S04.trans S12
        have hlrZ := S12 _ _ hlr
        have hpbZ := S12 _ _ hpb4
        have h5Z := h5
        have hpsZ' := hps'
        refine ⟨_, rfl, _, rfl, _, rfl, _, rfl, _, rfl, c, _, mv, lr, pb, sl, ps, pvs, prc, ns, rfl, hh.same SZ, hm.same SM, co, few, hlrZ, hps.same SZ2, pok, by have := fine.len; omega, ⟨hpbZ, prl, prb⟩, SqL.same SZ0 hsl, fun Ha sa => ?_⟩
        refine ⟨_, rfl, ifT rfl ?_⟩
        refine ⟨_, rfl, _, rfl, _, rfl, _, rfl, _, rfl, c, _, mv, l5, pb, sl, ps', pvs', prc, ns, rfl, hh.same (SZ.trans sa), hm.same (SM.trans sa), co, few, sa _ _ h5Z, hpsZ'.same sa, pok', plen', ⟨sa _ _ hpbZ, prl, prb⟩, SqL.same (SZ0.trans sa) hsl, fun Hb sb => ?_⟩
        exact k Hb ((SZ0.trans sa).trans sb)
    · refine ifF (decide_eq_false w1) (ifF rfl ?_)
      have S12 := S11
      have SZ := (s2.trans S34).trans S12
      have SM := S34.trans S12
      have SZ2 := S12
      have SZ0 := S04.trans S12
      have hlrZ := S12 _ _ hlr
      have hpbZ := S12 _ _ hpb4
      have h5Z := h5
      have hpsZ' := hps'
      refine ⟨_, rfl, _, rfl, _, rfl, _, rfl, _, rfl, c, _, mv, lr, pb, sl, ps, pvs, prc, ns, rfl, hh.same SZ, hm.same SM, co, few, hlrZ, hps.same SZ2, pok, by have := fine.len; omega, ⟨hpbZ, prl, prb⟩, SqL.same SZ0 hsl, fun Ha sa => ?_⟩
      refine ⟨_, rfl, ifT rfl ?_⟩
      refine ⟨_, rfl, _, rfl, _, rfl, _, rfl, _, rfl, c, _, mv, l5, pb, sl, ps', pvs', prc, ns, rfl, hh.same (SZ.trans sa), hm.same (SM.trans sa), co, few, sa _ _ h5Z, hpsZ'.same sa, pok', plen', ⟨sa _ _ hpbZ, prl, prb⟩, SqL.same (SZ0.trans sa) hsl, fun Hb sb => ?_⟩
      exact k Hb ((SZ0.trans sa).trans sb)
end
end NC
set_option Elab.async false
set_option linter.all false
set_option maxRecDepth 100000
set_option maxHeartbeats 4000000
/-! The end. -/
namespace NC
open PySem PySem.Spec PyProof.Rows L2
theorem txt {K : PySem.W.Frag} {h : Heap} {mg : Str → Option Value} (X : K.In h) (G : h.Ns mainGlobals mg) (c : He.SaysD fa fn K) : Txt K mg where
  abs := He.free_ok X G (c.fact 98 (f := .free "abs") rfl)
  all := He.free_ok X G (c.fact 99 (f := .free "all") rfl)
  bool := He.free_ok X G (c.fact 100 (f := .free "bool") rfl)
  dict := He.free_ok X G (c.fact 101 (f := .free "dict") rfl)
  enumerate := He.free_ok X G (c.fact 102 (f := .free "enumerate") rfl)
  int := He.free_ok X G (c.fact 103 (f := .free "int") rfl)
  isinstance := He.free_ok X G (c.fact 104 (f := .free "isinstance") rfl)
  len := He.free_ok X G (c.fact 105 (f := .free "len") rfl)
  list := He.free_ok X G (c.fact 106 (f := .free "list") rfl)
  max := He.free_ok X G (c.fact 107 (f := .free "max") rfl)
  min := He.free_ok X G (c.fact 108 (f := .free "min") rfl)
  range := He.free_ok X G (c.fact 109 (f := .free "range") rfl)
  sum := He.free_ok X G (c.fact 110 (f := .free "sum") rfl)
  tuple := He.free_ok X G (c.fact 111 (f := .free "tuple") rfl)
  zip := He.free_ok X G (c.fact 112 (f := .free "zip") rfl)
  gGREATEST := He.int_ok X G (c.fact 113 (f := .int "GREATEST" 65535) rfl)
  gMOST_WAYS := He.int_ok X G (c.fact 114 (f := .int "MOST_WAYS" 2000) rfl)
  gMOST_STATES := He.int_ok X G (c.fact 115 (f := .int "MOST_STATES" 200) rfl)
  clPause := He.cls_ok (c.fact 37 (f := .cls "Pause") rfl)
  nPause_kind := He.noat_ok (c.fact 39 (f := .noat "Pause" "kind") rfl)
  nPause_state := He.noat_ok (c.fact 40 (f := .noat "Pause" "state") rfl)
  nPause_pending := He.noat_ok (c.fact 41 (f := .noat "Pause" "pending") rfl)
  nPause_count := He.noat_ok (c.fact 42 (f := .noat "Pause" "count") rfl)
  clEngine := He.cls_ok (c.fact 44 (f := .cls "Engine") rfl)
  nEngine_house := He.noat_ok (c.fact 46 (f := .noat "Engine" "house") rfl)
  nEngine_assets := He.noat_ok (c.fact 47 (f := .noat "Engine" "assets") rfl)
  nEngine_contracts := He.noat_ok (c.fact 48 (f := .noat "Engine" "contracts") rfl)
  nEngine_procs := He.noat_ok (c.fact 49 (f := .noat "Engine" "procs") rfl)
  nEngine_places := He.noat_ok (c.fact 50 (f := .noat "Engine" "places") rfl)
  nEngine_sizes := He.noat_ok (c.fact 51 (f := .noat "Engine" "sizes") rfl)
  nEngine_lines := He.noat_ok (c.fact 52 (f := .noat "Engine" "lines") rfl)
  nEngine_parts := He.noat_ok (c.fact 53 (f := .noat "Engine" "parts") rfl)
  nEngine_bodies := He.noat_ok (c.fact 54 (f := .noat "Engine" "bodies") rfl)
  clWays := He.cls_ok (c.fact 66 (f := .cls "Ways") rfl)
  nWays_engine := He.noat_ok (c.fact 68 (f := .noat "Ways" "engine") rfl)
  nWays_entries := He.noat_ok (c.fact 69 (f := .noat "Ways" "entries") rfl)
  nWays_rows := He.noat_ok (c.fact 70 (f := .noat "Ways" "rows") rfl)
  nWays_kept := He.noat_ok (c.fact 71 (f := .noat "Ways" "kept") rfl)
  clRows := He.cls_ok (c.fact 76 (f := .cls "Rows") rfl)
  nRows_table := He.noat_ok (c.fact 78 (f := .noat "Rows" "table") rfl)
  nRows_complete := He.noat_ok (c.fact 79 (f := .noat "Rows" "complete") rfl)
  clHouse := He.cls_ok (c.fact 82 (f := .cls "House") rfl)
  nHouse_assets := He.noat_ok (c.fact 84 (f := .noat "House" "assets") rfl)
  nHouse_contracts := He.noat_ok (c.fact 85 (f := .noat "House" "contracts") rfl)
  clSearch := He.cls_ok (c.fact 87 (f := .cls "Search") rfl)
  nSearch_ways := He.noat_ok (c.fact 89 (f := .noat "Search" "ways") rfl)
  nSearch_start := He.noat_ok (c.fact 90 (f := .noat "Search" "start") rfl)
  nSearch_ends := He.noat_ok (c.fact 91 (f := .noat "Search" "ends") rfl)
  nSearch_rows := He.noat_ok (c.fact 92 (f := .noat "Search" "rows") rfl)
  nSearch_asked := He.noat_ok (c.fact 93 (f := .noat "Search" "asked") rfl)
theorem law_ok {P : Program} {w : World} {K : PySem.W.Frag} {h : Heap} {mg : Str → Option Value} {f : Addr} (X : K.In h) (G : h.Ns mainGlobals mg) (hfa : mg ("law" : Str) = some (.ref f)) (c : He.SaysD fa fn K) :
    ∃ fd : FuncData, (∀ (s : Shared) (v : Value), BindsTo s fd ⟨[v], []⟩ [("_law_script", v)]) ∧ ∀ base : Heap, K.In base → base.Ns mainGlobals mg → FnOk P w K mg base CX0 18 f fd ["_law_script"] (spLaw K) := by
  have T := txt X G c
  obtain ⟨fd0, F_first_state⟩ := c.def_ 0 (d := d0) rfl
  obtain ⟨fd1, F_put⟩ := c.def_ 1 (d := d1) rfl
  obtain ⟨fd2, F_moved⟩ := c.def_ 2 (d := d2) rfl
  obtain ⟨fd3, F_worth⟩ := c.def_ 3 (d := d3) rfl
  obtain ⟨fd4, F_combine⟩ := c.def_ 4 (d := d4) rfl
  obtain ⟨fd5, F_Pause_init⟩ := c.def_ 5 (d := d5) rfl
  obtain ⟨fd6, F_Engine_init⟩ := c.def_ 6 (d := d6) rfl
  obtain ⟨fd7, F_Engine_numbered⟩ := c.def_ 7 (d := d7) rfl
  obtain ⟨fd8, F_Engine_entries⟩ := c.def_ 8 (d := d8) rfl
  obtain ⟨fd9, F_Engine_value⟩ := c.def_ 9 (d := d9) rfl
  obtain ⟨fd10, F_Engine_stored⟩ := c.def_ 10 (d := d10) rfl
  obtain ⟨fd11, F_Engine_paid⟩ := c.def_ 11 (d := d11) rfl
  obtain ⟨fd12, F_Engine_begun⟩ := c.def_ 12 (d := d12) rfl
  obtain ⟨fd13, F_Engine_block⟩ := c.def_ 13 (d := d13) rfl
  obtain ⟨fd14, F_Engine_answered⟩ := c.def_ 14 (d := d14) rfl
  obtain ⟨fd15, F_Engine_go⟩ := c.def_ 15 (d := d15) rfl
  obtain ⟨fd16, F_Engine_done⟩ := c.def_ 16 (d := d16) rfl
  obtain ⟨fd17, F_Ways_init⟩ := c.def_ 17 (d := d17) rfl
  obtain ⟨fd18, F_Ways_forget⟩ := c.def_ 18 (d := d18) rfl
  obtain ⟨fd19, F_Ways_of⟩ := c.def_ 19 (d := d19) rfl
  obtain ⟨fd20, F_Ways_after⟩ := c.def_ 20 (d := d20) rfl
  obtain ⟨fd21, F_Rows_init⟩ := c.def_ 21 (d := d21) rfl
  obtain ⟨fd22, F_Rows_row_of⟩ := c.def_ 22 (d := d22) rfl
  obtain ⟨fd23, F_is_closed⟩ := c.def_ 23 (d := d23) rfl
  obtain ⟨fd24, F_bound⟩ := c.def_ 24 (d := d24) rfl
  obtain ⟨fd25, F_House_init⟩ := c.def_ 25 (d := d25) rfl
  obtain ⟨fd26, F_Search_init⟩ := c.def_ 26 (d := d26) rfl
  obtain ⟨fd27, F_Search_row_of⟩ := c.def_ 27 (d := d27) rfl
  obtain ⟨fd28, F_Search_meet⟩ := c.def_ 28 (d := d28) rfl
  obtain ⟨fd29, F_Search_grow⟩ := c.def_ 29 (d := d29) rfl
  obtain ⟨fd30, F_Search_closed⟩ := c.def_ 30 (d := d30) rfl
  obtain ⟨fd31, F_least_rows⟩ := c.def_ 31 (d := d31) rfl
  obtain ⟨fd32, F_reachable⟩ := c.def_ 32 (d := d32) rfl
  obtain ⟨fd33, F_most⟩ := c.def_ 33 (d := d33) rfl
  obtain ⟨fd34, F__law_cell⟩ := c.def_ 34 (d := d34) rfl
  obtain ⟨fd35, F__law_is_integer⟩ := c.def_ 35 (d := d35) rfl
  obtain ⟨fd36, F__law_row⟩ := c.def_ 36 (d := d36) rfl
  obtain ⟨fd37, F__law_expression⟩ := c.def_ 37 (d := d37) rfl
  obtain ⟨fd38, F__law_statement⟩ := c.def_ 38 (d := d38) rfl
  obtain ⟨fd39, F__law_body⟩ := c.def_ 39 (d := d39) rfl
  obtain ⟨fd40, F__law_contract⟩ := c.def_ 40 (d := d40) rfl
  obtain ⟨fd41, F__law_house⟩ := c.def_ 41 (d := d41) rfl
  obtain ⟨fd42, F__law_start⟩ := c.def_ 42 (d := d42) rfl
  obtain ⟨fd43, F__law_copy⟩ := c.def_ 43 (d := d43) rfl
  obtain ⟨fd44, F__law_told⟩ := c.def_ 44 (d := d44) rfl
  obtain ⟨fd45, F__law_index⟩ := c.def_ 45 (d := d45) rfl
  obtain ⟨fd46, F__law_combine⟩ := c.def_ 46 (d := d46) rfl
  obtain ⟨fd47, F__law_value⟩ := c.def_ 47 (d := d47) rfl
  obtain ⟨fd48, F__law_store⟩ := c.def_ 48 (d := d48) rfl
  obtain ⟨fd49, F__law_pay⟩ := c.def_ 49 (d := d49) rfl
  obtain ⟨fd50, F__law_do⟩ := c.def_ 50 (d := d50) rfl
  obtain ⟨fd51, F__law_go⟩ := c.def_ 51 (d := d51) rfl
  obtain ⟨fd52, F__law_possible⟩ := c.def_ 52 (d := d52) rfl
  obtain ⟨fd53, F__law_act⟩ := c.def_ 53 (d := d53) rfl
  obtain ⟨fd54, F__law_walk⟩ := c.def_ 54 (d := d54) rfl
  obtain ⟨fd55, F__law_drawn⟩ := c.def_ 55 (d := d55) rfl
  obtain ⟨fd56, F__law_made⟩ := c.def_ 56 (d := d56) rfl
  obtain ⟨fd57, F__law_changed⟩ := c.def_ 57 (d := d57) rfl
  obtain ⟨fd58, F__law_stays⟩ := c.def_ 58 (d := d58) rfl
  obtain ⟨fd59, F_law⟩ := c.def_ 59 (d := d59) rfl
  have e := hfa.symm.trans (He.glo_ok X G (c.fact 35 (f := .glo "law") rfl))
  cases e
  have b := FunD.bindsA (ps := ["_law_script"]) F_law fun _ _ _ _ _ _ us hl => match us, hl with | [_], _ => rfl
  refine ⟨_, fun s v => b s [v] rfl, fun base _ _ => ?_⟩
  have c_put := cal_put (P := P) (w := w) (base := base) F_put (He.glo_ok X G (c.fact 1 (f := .glo "put") rfl)) 
  have c_moved := cal_moved (P := P) (w := w) (base := base) F_moved (He.glo_ok X G (c.fact 2 (f := .glo "moved") rfl)) c_put
  have c_combine : C8.Cal P w K mg base 1 "combine" (spComb "") [] := ⟨_, _, _, [], ok_combine F_combine T, (He.glo_ok X G (c.fact 4 (f := .glo "combine") rfl)), F_combine.kp, F_combine.bindsN fun _ _ _ _ _ _ us hl => match us, hl with | [_, _, _], _ => rfl, .nil⟩
  have c_first_state := cal_first (P := P) (w := w) (base := base) F_first_state T (He.glo_ok X G (c.fact 0 (f := .glo "first_state") rfl)) 
  have c_worth := cal_worth (P := P) (w := w) (base := base) F_worth T (He.glo_ok X G (c.fact 3 (f := .glo "worth") rfl)) 
  have k_Pause := mak_Pause (P := P) (w := w) (base := base) F_Pause_init T (He.mkr_ok (c.fact 38 (f := .mkr "Pause") rfl)) (He.glo_ok X G (c.fact 36 (f := .glo "Pause") rfl)) 
  have m_Engine_value := met_value (P := P) (w := w) (base := base) F_Engine_value T (He.meth_ok (c.fact 57 (f := .meth "Engine" "value") rfl)) c_combine 3
  have m_Engine_stored := met_stored (P := P) (w := w) (base := base) F_Engine_stored T (He.meth_ok (c.fact 58 (f := .meth "Engine" "stored") rfl)) c_put
  have m_Engine_paid := met_paid (P := P) (w := w) (base := base) F_Engine_paid T (He.meth_ok (c.fact 59 (f := .meth "Engine" "paid") rfl)) c_moved
  have m_Engine_block := met_block (P := P) (w := w) (base := base) F_Engine_block T (He.meth_ok (c.fact 61 (f := .meth "Engine" "block") rfl)) 
  have m_Engine_done := met_done (P := P) (w := w) (base := base) F_Engine_done T (He.meth_ok (c.fact 64 (f := .meth "Engine" "done") rfl)) m_Engine_value m_Engine_stored m_Engine_paid
  have m_Engine_go := met_go (P := P) (w := w) (base := base) F_Engine_go T (He.meth_ok (c.fact 63 (f := .meth "Engine" "go") rfl)) m_Engine_value m_Engine_block m_Engine_done k_Pause
  have m_Engine_answered := met_answered (P := P) (w := w) (base := base) F_Engine_answered T (He.meth_ok (c.fact 62 (f := .meth "Engine" "answered") rfl)) m_Engine_stored m_Engine_go
  have m_Engine_begun := met_begun (P := P) (w := w) (base := base) F_Engine_begun T (He.meth_ok (c.fact 60 (f := .meth "Engine" "begun") rfl)) m_Engine_block m_Engine_go
  have m_Engine_numbered := met_numbered (P := P) (w := w) (base := base) F_Engine_numbered T (He.meth_ok (c.fact 55 (f := .meth "Engine" "numbered") rfl)) 
  have k_Engine := mak_Engine (P := P) (w := w) (base := base) F_Engine_init T (He.mkr_ok (c.fact 45 (f := .mkr "Engine") rfl)) (He.glo_ok X G (c.fact 43 (f := .glo "Engine") rfl)) m_Engine_numbered
  have m_Engine_entries := met_entries (P := P) (w := w) (base := base) F_Engine_entries T (He.meth_ok (c.fact 56 (f := .meth "Engine" "entries") rfl)) 
  have k_House := mak_House (P := P) (w := w) (base := base) F_House_init T (He.mkr_ok (c.fact 83 (f := .mkr "House") rfl)) (He.glo_ok X G (c.fact 81 (f := .glo "House") rfl)) 
  have m_Ways_after := met_after (P := P) (w := w) (base := base) F_Ways_after T (He.meth_ok (c.fact 74 (f := .meth "Ways" "after") rfl)) m_Engine_answered
  have k_Ways := mak_Ways (P := P) (w := w) (base := base) F_Ways_init T (He.mkr_ok (c.fact 67 (f := .mkr "Ways") rfl)) (He.glo_ok X G (c.fact 65 (f := .glo "Ways") rfl)) k_Engine m_Engine_entries
  have m_Ways_forget := met_forget (P := P) (w := w) (base := base) F_Ways_forget T (He.meth_ok (c.fact 72 (f := .meth "Ways" "forget") rfl)) 
  have m_Ways_of := met_of (P := P) (w := w) (base := base) F_Ways_of T (He.meth_ok (c.fact 73 (f := .meth "Ways" "of") rfl)) m_Engine_begun m_Ways_after
  have m_rows := fun cc td => met_rows_row (P := P) (w := w) (base := base) F_Rows_row_of T (He.meth_ok (c.fact 80 (f := .meth "Rows" "row_of") rfl)) cc td
  have k_Rows := mak_Rows (P := P) (w := w) (base := base) F_Rows_init T (He.mkr_ok (c.fact 77 (f := .mkr "Rows") rfl)) (He.glo_ok X G (c.fact 75 (f := .glo "Rows") rfl)) 
  have c_is_closed := cal_closed (P := P) (w := w) (base := base) F_is_closed T (He.glo_ok X G (c.fact 5 (f := .glo "is_closed") rfl)) k_Rows k_Ways c_first_state m_Ways_of m_rows
  have c_bound := cal_bound (P := P) (w := w) (base := base) F_bound T (He.glo_ok X G (c.fact 6 (f := .glo "bound") rfl)) c_is_closed k_Rows c_first_state c_worth
  have m_Search_meet := met_meet (P := P) (w := w) (base := base) F_Search_meet T (He.meth_ok (c.fact 95 (f := .meth "Search" "meet") rfl)) 
  have m_srow := fun cc T0 ed rd ad wa sv0 => met_search_row (P := P) (w := w) (base := base) F_Search_row_of T (He.meth_ok (c.fact 94 (f := .meth "Search" "row_of") rfl)) m_Search_meet cc T0 ed rd ad wa sv0
  have m_Search_closed := met_cls (P := P) (w := w) (base := base) F_Search_closed T (He.meth_ok (c.fact 97 (f := .meth "Search" "closed") rfl)) 
  have m_Search_grow := met_grow (P := P) (w := w) (base := base) F_Search_grow T (He.meth_ok (c.fact 96 (f := .meth "Search" "grow") rfl)) m_Ways_of m_Search_meet m_srow
  have k_Search := mak_Search (P := P) (w := w) (base := base) F_Search_init T (He.mkr_ok (c.fact 88 (f := .mkr "Search") rfl)) (He.glo_ok X G (c.fact 86 (f := .glo "Search") rfl)) k_Ways c_first_state m_Search_grow m_Search_closed m_Ways_forget
  have c_least_rows := cal_least (P := P) (w := w) (base := base) F_least_rows T (He.glo_ok X G (c.fact 7 (f := .glo "least_rows") rfl)) k_Search
  have c_reachable := cal_reach (P := P) (w := w) (base := base) F_reachable T (He.glo_ok X G (c.fact 8 (f := .glo "reachable") rfl)) k_Search
  have c_most := cal_most (P := P) (w := w) (base := base) F_most T (He.glo_ok X G (c.fact 9 (f := .glo "most") rfl)) c_reachable c_worth
  have c_law_cell := cal_lcell (P := P) (w := w) (base := base) F__law_cell T (He.glo_ok X G (c.fact 10 (f := .glo "_law_cell") rfl)) 
  have c_law_row := cal_lrow (P := P) (w := w) (base := base) F__law_row T (He.glo_ok X G (c.fact 12 (f := .glo "_law_row") rfl)) 
  have c_law_expression := cal_lexp (P := P) (w := w) (base := base) F__law_expression T (He.glo_ok X G (c.fact 13 (f := .glo "_law_expression") rfl)) 
  have c_law_statement := cal_lst (P := P) (w := w) (base := base) F__law_statement T (He.glo_ok X G (c.fact 14 (f := .glo "_law_statement") rfl)) c_law_expression
  have c_law_body := cal_lbody (P := P) (w := w) (base := base) F__law_body T (He.glo_ok X G (c.fact 15 (f := .glo "_law_body") rfl)) c_law_expression c_law_statement
  have c_law_contract := cal_lcon (P := P) (w := w) (base := base) F__law_contract T (He.glo_ok X G (c.fact 16 (f := .glo "_law_contract") rfl)) c_law_row c_law_body
  have c_law_house := cal_lhouse (P := P) (w := w) (base := base) F__law_house T (He.glo_ok X G (c.fact 17 (f := .glo "_law_house") rfl)) c_law_cell c_law_row c_law_contract
  have c_law_combine := cal_lcomb (P := P) (w := w) (base := base) F__law_combine T (He.glo_ok X G (c.fact 22 (f := .glo "_law_combine") rfl)) 
  have c_law_index := cal_lix (P := P) (w := w) (base := base) F__law_index T (He.glo_ok X G (c.fact 21 (f := .glo "_law_index") rfl)) 
  have c_law_value := cal_lval (P := P) (w := w) (base := base) F__law_value T (He.glo_ok X G (c.fact 23 (f := .glo "_law_value") rfl)) c_law_index c_law_combine
  have c_law_store := cal_lsto (P := P) (w := w) (base := base) F__law_store T (He.glo_ok X G (c.fact 24 (f := .glo "_law_store") rfl)) c_law_index
  have c_law_pay := cal_lpay (P := P) (w := w) (base := base) F__law_pay T (He.glo_ok X G (c.fact 25 (f := .glo "_law_pay") rfl)) c_law_index
  have c_law_do := cal_ldo (P := P) (w := w) (base := base) F__law_do T (He.glo_ok X G (c.fact 26 (f := .glo "_law_do") rfl)) c_law_value c_law_index c_law_store c_law_pay
  have c_law_go := cal_lgo (P := P) (w := w) (base := base) F__law_go T (He.glo_ok X G (c.fact 27 (f := .glo "_law_go") rfl)) c_law_value c_law_index c_law_do
  have c_law_copy := cal_lcopy (P := P) (w := w) (base := base) F__law_copy T (He.glo_ok X G (c.fact 19 (f := .glo "_law_copy") rfl)) 
  have c_law_told := cal_ltold (P := P) (w := w) (base := base) F__law_told T (He.glo_ok X G (c.fact 20 (f := .glo "_law_told") rfl)) 
  have c_law_start := cal_lstart (P := P) (w := w) (base := base) F__law_start T (He.glo_ok X G (c.fact 18 (f := .glo "_law_start") rfl)) 
  have c_law_act := cal_lact (P := P) (w := w) (base := base) F__law_act T (He.glo_ok X G (c.fact 29 (f := .glo "_law_act") rfl)) c_law_store c_law_copy c_law_index c_law_go
  have c_law_is_integer := cal_lint (P := P) (w := w) (base := base) F__law_is_integer T (He.glo_ok X G (c.fact 11 (f := .glo "_law_is_integer") rfl)) 
  have c_law_made := cal_lmade (P := P) (w := w) (base := base) F__law_made T (He.glo_ok X G (c.fact 32 (f := .glo "_law_made") rfl)) k_House
  have c_law_walk := cal_lwalk (P := P) (w := w) (base := base) F__law_walk T (He.glo_ok X G (c.fact 30 (f := .glo "_law_walk") rfl)) c_law_start c_law_copy
  have c_law_drawn := cal_ldraw (P := P) (w := w) (base := base) F__law_drawn T (He.glo_ok X G (c.fact 31 (f := .glo "_law_drawn") rfl)) 
  have c_law_changed := cal_lchg (P := P) (w := w) (base := base) F__law_changed T (He.glo_ok X G (c.fact 33 (f := .glo "_law_changed") rfl)) 
  have c_law_stays := cal_lstays (P := P) (w := w) (base := base) F__law_stays T (He.glo_ok X G (c.fact 34 (f := .glo "_law_stays") rfl)) c_is_closed c_bound c_law_is_integer c_law_walk c_law_told c_law_drawn c_law_act
  exact ok_law F_law T c_law_house c_law_made c_law_cell c_least_rows c_is_closed c_bound c_most c_law_changed c_law_stays
end NC
open PySem PySem.W PySem.Calls PyProof.Rows
set_option maxHeartbeats 0 in
theorem PySem.Challenge.cw_nestcall_k24_whole_the_judge_is_right_holds : PySem.Challenge.rw_nestcall_k24_whole_the_judge_is_right.Holds := by
  w_on; o_law
  refine HandSHeadRun.head_any (r := OpenLaw.row PySem.Challenge.rw_nestcall_k24_whole_the_judge_is_right) (q := view (OpenLaw.row PySem.Challenge.rw_nestcall_k24_whole_the_judge_is_right).prog [56]) (H := NC.hk) (ob := NC.ob) (M := 4000) (loose := NC.nms) (d := HandSHeadRun.topDef (OpenLaw.row PySem.Challenge.rw_nestcall_k24_whole_the_judge_is_right).prog 56) (kwd := []) NC.ob_eq
    (by kernel_rfl) (fun s => by kernel_rfl) NC.run (by kernel_rfl) (by kernel_rfl) (by kernel_rfl) (by rfl) (by first | assumption | decide +kernel) (by decide +kernel) ⟨rfl, rfl, rfl, rfl, rfl, by decide +kernel⟩ ?hw ?hc
  case hw => w_witness2
  case hc =>
    refine L2.walk_ofE (l := PySem.Challenge.rw_nestcall_k24_whole_the_judge_is_right) (n := 63) (k := 18) (x := "_law_script") (CX := L2.CX0) rfl (by decide) (by kernel_rfl) ⟨rfl, by decide, by decide⟩ ?F (fun _ _ _ _ z => z)
    intro w mg fa h Y G hmg0
    obtain ⟨K, KX, c⟩ := Y
    have hmg : mg ("law" : PySem.Str) = some (.ref fa) := by
      have e : (HandSHeadRun.topDef (OpenLaw.row PySem.Challenge.rw_nestcall_k24_whole_the_judge_is_right).prog 56).name = ("law" : PySem.Str) := by kernel_rfl
      rw [← e]
      exact hmg0
    obtain ⟨fd, hb, hF⟩ := NC.law_ok (P := (PySem.Challenge.rw_nestcall_k24_whole_the_judge_is_right).prog) (w := w) KX G hmg c
    exact ⟨K, fd, NC.spLaw K, KX, hb, fun H a ns hl _ hS => ⟨a, ns, rfl, hS, fun _ _ => rfl⟩, hF⟩
