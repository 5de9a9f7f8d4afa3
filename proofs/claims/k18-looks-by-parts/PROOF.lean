import PyProof.Rows.All
import Wide.All
import OpenK.AllK
import Wide.FinOn
import KE.KStateDown
import HandS.ForMost
import HandS.Exc
import HandS.TryOnly
import HandS.ExcOwn
import HandS.Defaults
import HandS.Head0
import HandS.Head1
import HandS.Head2
import HandS.HeadEnd
import HandS.HeadHook1
import HandS.HeadHook2
import HandS.HeadHook3
import HandS.HeadHook4
import HandS.IsInst
import HandS.RaiseMore
import HandS.Wide
import HandS.Conv
import HandS.TupAny
import HandS.Deep
import KE.DataEq
import PyProof.StrOps2
import PyProof.Rows.RegStrFacts
import PySem.Challenge.RW_onelook_k18_whole_looks_by_parts
set_option Elab.async false
set_option linter.all false
set_option maxRecDepth 100000
set_option maxHeartbeats 4000000
namespace OL
open PySem PySem.Spec PyProof.Rows L2
def top (i : Nat) : Stmt := PySem.Challenge.pw_onelook_k18_whole_looks_by_parts.main.body.getD i (.Pass ⟨0, 0, 0, 0⟩)
abbrev s_is_place : Stmt := top 6
abbrev s_stands_right : Stmt := top 9
abbrev s_area_many : Stmt := top 10
abbrev s_is_area : Stmt := top 11
abbrev s_asked_area : Stmt := top 12
abbrev s_area_places : Stmt := top 13
abbrev s_fault : Stmt := top 17
abbrev s_is_fault : Stmt := top 18
abbrev s_is_text : Stmt := top 19
abbrev s_held_number : Stmt := top 20
abbrev s_as_number : Stmt := top 21
abbrev s_as_text : Stmt := top 22
abbrev s_single : Stmt := top 23
abbrev s_divided : Stmt := top 24
abbrev s_reckoned : Stmt := top 25
abbrev s_joined : Stmt := top 26
abbrev s_same_worth : Stmt := top 27
abbrev s_ahead_of : Stmt := top 28
abbrev s_paired : Stmt := top 29
abbrev s_gathered : Stmt := top 30
abbrev sm_init : Stmt := inClass (top 35) 0
abbrev sm_note : Stmt := inClass (top 35) 1
abbrev sm_seen : Stmt := inClass (top 35) 2
abbrev sm_read_cell : Stmt := inClass (top 35) 3
abbrev sm_read_area : Stmt := inClass (top 35) 4
abbrev sm_find_place : Stmt := inClass (top 35) 5
abbrev s_gone_on : Stmt := top 36
abbrev s_look_find : Stmt := top 37
abbrev s_look_if : Stmt := top 38
abbrev s_look_else : Stmt := top 39
abbrev s_look_pair : Stmt := top 40
abbrev s_look_area : Stmt := top 41
abbrev s_look_in : Stmt := top 42
abbrev s_look_at : Stmt := top 43
abbrev s_law_cell_at : Stmt := top 45
abbrev s_law_mixed : Stmt := top 46
abbrev s_law_stream : Stmt := top 47
abbrev s_law_digit : Stmt := top 48
abbrev s_law_place : Stmt := top 49
abbrev s_law_area : Stmt := top 50
abbrev s_law_pins : Stmt := top 51
abbrev s_law_number : Stmt := top 52
abbrev s_law_leaf : Stmt := top 53
abbrev s_law_formula : Stmt := top 54
abbrev s_law_spot : Stmt := top 56
abbrev s_law_worth : Stmt := top 58
abbrev s_law_known : Stmt := top 59
abbrev s_law_parts : Stmt := top 60
abbrev s_law_pieces : Stmt := top 61
abbrev s_law_same : Stmt := top 62
abbrev s_law_after : Stmt := top 63
abbrev s_law_two : Stmt := top 64
abbrev s_law_if : Stmt := top 65
abbrev s_law_else : Stmt := top 66
abbrev s_law_leaf_look : Stmt := top 67
abbrev s_law_due : Stmt := top 68
abbrev s_law : Stmt := top 69
def dis_place : He.DefD := ⟨("is_place", none), "is_place", "is_place", defArgs s_is_place, defBody s_is_place, defScope s_is_place, [], []⟩
def dstands_right : He.DefD := ⟨("stands_right", none), "stands_right", "stands_right", defArgs s_stands_right, defBody s_stands_right, defScope s_stands_right, [], []⟩
def darea_many : He.DefD := ⟨("area_many", none), "area_many", "area_many", defArgs s_area_many, defBody s_area_many, defScope s_area_many, [], []⟩
def dis_area : He.DefD := ⟨("is_area", none), "is_area", "is_area", defArgs s_is_area, defBody s_is_area, defScope s_is_area, [], []⟩
def dasked_area : He.DefD := ⟨("asked_area", none), "asked_area", "asked_area", defArgs s_asked_area, defBody s_asked_area, defScope s_asked_area, [], []⟩
def darea_places : He.DefD := ⟨("area_places", none), "area_places", "area_places", defArgs s_area_places, defBody s_area_places, defScope s_area_places, [], []⟩
def dfault : He.DefD := ⟨("fault", none), "fault", "fault", defArgs s_fault, defBody s_fault, defScope s_fault, [], []⟩
def dis_fault : He.DefD := ⟨("is_fault", none), "is_fault", "is_fault", defArgs s_is_fault, defBody s_is_fault, defScope s_is_fault, [], []⟩
def dis_text : He.DefD := ⟨("is_text", none), "is_text", "is_text", defArgs s_is_text, defBody s_is_text, defScope s_is_text, [], []⟩
def dheld_number : He.DefD := ⟨("held_number", none), "held_number", "held_number", defArgs s_held_number, defBody s_held_number, defScope s_held_number, [], []⟩
def das_number : He.DefD := ⟨("as_number", none), "as_number", "as_number", defArgs s_as_number, defBody s_as_number, defScope s_as_number, [], []⟩
def das_text : He.DefD := ⟨("as_text", none), "as_text", "as_text", defArgs s_as_text, defBody s_as_text, defScope s_as_text, [], []⟩
def dsingle : He.DefD := ⟨("single", none), "single", "single", defArgs s_single, defBody s_single, defScope s_single, [], []⟩
def ddivided : He.DefD := ⟨("divided", none), "divided", "divided", defArgs s_divided, defBody s_divided, defScope s_divided, [], []⟩
def dreckoned : He.DefD := ⟨("reckoned", none), "reckoned", "reckoned", defArgs s_reckoned, defBody s_reckoned, defScope s_reckoned, [], []⟩
def djoined : He.DefD := ⟨("joined", none), "joined", "joined", defArgs s_joined, defBody s_joined, defScope s_joined, [], []⟩
def dsame_worth : He.DefD := ⟨("same_worth", none), "same_worth", "same_worth", defArgs s_same_worth, defBody s_same_worth, defScope s_same_worth, [], []⟩
def dahead_of : He.DefD := ⟨("ahead_of", none), "ahead_of", "ahead_of", defArgs s_ahead_of, defBody s_ahead_of, defScope s_ahead_of, [], []⟩
def dpaired : He.DefD := ⟨("paired", none), "paired", "paired", defArgs s_paired, defBody s_paired, defScope s_paired, [], []⟩
def dgathered : He.DefD := ⟨("gathered", none), "gathered", "gathered", defArgs s_gathered, defBody s_gathered, defScope s_gathered, [], []⟩
def m_init : He.DefD := ⟨("Look", some "__init__"), "__init__", "Look.__init__", defArgs sm_init, defBody sm_init, defScope sm_init, [], []⟩
def m_note : He.DefD := ⟨("Look", some "note"), "note", "Look.note", defArgs sm_note, defBody sm_note, defScope sm_note, [], []⟩
def m_seen : He.DefD := ⟨("Look", some "seen"), "seen", "Look.seen", defArgs sm_seen, defBody sm_seen, defScope sm_seen, [], []⟩
def m_read_cell : He.DefD := ⟨("Look", some "read_cell"), "read_cell", "Look.read_cell", defArgs sm_read_cell, defBody sm_read_cell, defScope sm_read_cell, [], []⟩
def m_read_area : He.DefD := ⟨("Look", some "read_area"), "read_area", "Look.read_area", defArgs sm_read_area, defBody sm_read_area, defScope sm_read_area, [], []⟩
def m_find_place : He.DefD := ⟨("Look", some "find_place"), "find_place", "Look.find_place", defArgs sm_find_place, defBody sm_find_place, defScope sm_find_place, [], []⟩
def dgone_on : He.DefD := ⟨("gone_on", none), "gone_on", "gone_on", defArgs s_gone_on, defBody s_gone_on, defScope s_gone_on, [], []⟩
def dlook_find : He.DefD := ⟨("look_find", none), "look_find", "look_find", defArgs s_look_find, defBody s_look_find, defScope s_look_find, [], []⟩
def dlook_if : He.DefD := ⟨("look_if", none), "look_if", "look_if", defArgs s_look_if, defBody s_look_if, defScope s_look_if, [], []⟩
def dlook_else : He.DefD := ⟨("look_else", none), "look_else", "look_else", defArgs s_look_else, defBody s_look_else, defScope s_look_else, [], []⟩
def dlook_pair : He.DefD := ⟨("look_pair", none), "look_pair", "look_pair", defArgs s_look_pair, defBody s_look_pair, defScope s_look_pair, [], []⟩
def dlook_area : He.DefD := ⟨("look_area", none), "look_area", "look_area", defArgs s_look_area, defBody s_look_area, defScope s_look_area, [], []⟩
def dlook_in : He.DefD := ⟨("look_in", none), "look_in", "look_in", defArgs s_look_in, defBody s_look_in, defScope s_look_in, [], []⟩
def dlook_at : He.DefD := ⟨("look_at", none), "look_at", "look_at", defArgs s_look_at, defBody s_look_at, defScope s_look_at, [], []⟩
def dlaw_cell_at : He.DefD := ⟨("_law_cell_at", none), "_law_cell_at", "_law_cell_at", defArgs s_law_cell_at, defBody s_law_cell_at, defScope s_law_cell_at, [], []⟩
def dlaw_mixed : He.DefD := ⟨("_law_mixed", none), "_law_mixed", "_law_mixed", defArgs s_law_mixed, defBody s_law_mixed, defScope s_law_mixed, [], []⟩
def dlaw_stream : He.DefD := ⟨("_law_stream", none), "_law_stream", "_law_stream", defArgs s_law_stream, defBody s_law_stream, defScope s_law_stream, [], []⟩
def dlaw_digit : He.DefD := ⟨("_law_digit", none), "_law_digit", "_law_digit", defArgs s_law_digit, defBody s_law_digit, defScope s_law_digit, [], []⟩
def dlaw_place : He.DefD := ⟨("_law_place", none), "_law_place", "_law_place", defArgs s_law_place, defBody s_law_place, defScope s_law_place, [], []⟩
def dlaw_area : He.DefD := ⟨("_law_area", none), "_law_area", "_law_area", defArgs s_law_area, defBody s_law_area, defScope s_law_area, [], []⟩
def dlaw_pins : He.DefD := ⟨("_law_pins", none), "_law_pins", "_law_pins", defArgs s_law_pins, defBody s_law_pins, defScope s_law_pins, [], []⟩
def dlaw_number : He.DefD := ⟨("_law_number", none), "_law_number", "_law_number", defArgs s_law_number, defBody s_law_number, defScope s_law_number, [], []⟩
def dlaw_leaf : He.DefD := ⟨("_law_leaf", none), "_law_leaf", "_law_leaf", defArgs s_law_leaf, defBody s_law_leaf, defScope s_law_leaf, [], []⟩
def dlaw_formula : He.DefD := ⟨("_law_formula", none), "_law_formula", "_law_formula", defArgs s_law_formula, defBody s_law_formula, defScope s_law_formula, [], []⟩
def dlaw_spot : He.DefD := ⟨("_law_spot", none), "_law_spot", "_law_spot", defArgs s_law_spot, defBody s_law_spot, defScope s_law_spot, [], []⟩
def dlaw_worth : He.DefD := ⟨("_law_worth", none), "_law_worth", "_law_worth", defArgs s_law_worth, defBody s_law_worth, defScope s_law_worth, [], []⟩
def dlaw_known : He.DefD := ⟨("_law_known", none), "_law_known", "_law_known", defArgs s_law_known, defBody s_law_known, defScope s_law_known, [], []⟩
def dlaw_parts : He.DefD := ⟨("_law_parts", none), "_law_parts", "_law_parts", defArgs s_law_parts, defBody s_law_parts, defScope s_law_parts, [], []⟩
def dlaw_pieces : He.DefD := ⟨("_law_pieces", none), "_law_pieces", "_law_pieces", defArgs s_law_pieces, defBody s_law_pieces, defScope s_law_pieces, [], []⟩
def dlaw_same : He.DefD := ⟨("_law_same", none), "_law_same", "_law_same", defArgs s_law_same, defBody s_law_same, defScope s_law_same, [], []⟩
def dlaw_after : He.DefD := ⟨("_law_after", none), "_law_after", "_law_after", defArgs s_law_after, defBody s_law_after, defScope s_law_after, [], []⟩
def dlaw_two : He.DefD := ⟨("_law_two", none), "_law_two", "_law_two", defArgs s_law_two, defBody s_law_two, defScope s_law_two, [], []⟩
def dlaw_if : He.DefD := ⟨("_law_if", none), "_law_if", "_law_if", defArgs s_law_if, defBody s_law_if, defScope s_law_if, [], []⟩
def dlaw_else : He.DefD := ⟨("_law_else", none), "_law_else", "_law_else", defArgs s_law_else, defBody s_law_else, defScope s_law_else, [], []⟩
def dlaw_leaf_look : He.DefD := ⟨("_law_leaf_look", none), "_law_leaf_look", "_law_leaf_look", defArgs s_law_leaf_look, defBody s_law_leaf_look, defScope s_law_leaf_look, [], []⟩
def dlaw_due : He.DefD := ⟨("_law_due", none), "_law_due", "_law_due", defArgs s_law_due, defBody s_law_due, defScope s_law_due, [], []⟩
def dlaw : He.DefD := ⟨("law", none), "law", "law", defArgs s_law, defBody s_law, defScope s_law, [], []⟩
def fn0 : List He.DefD := [dis_place, dstands_right, darea_many, dis_area, dasked_area, darea_places, dfault, dis_fault, dis_text, dheld_number, das_number, das_text, dsingle, ddivided, dreckoned, djoined, dsame_worth, dahead_of, dpaired, dgathered]
def fn1 : List He.DefD := [m_init, m_note, m_seen, m_read_cell, m_read_area, m_find_place, dgone_on, dlook_find, dlook_if, dlook_else, dlook_pair, dlook_area, dlook_in, dlook_at, dlaw_cell_at, dlaw_mixed, dlaw_stream, dlaw_digit, dlaw_place, dlaw_area]
def fn2 : List He.DefD := [dlaw_pins, dlaw_number, dlaw_leaf, dlaw_formula, dlaw_spot, dlaw_worth, dlaw_known, dlaw_parts, dlaw_pieces, dlaw_same, dlaw_after, dlaw_two, dlaw_if, dlaw_else, dlaw_leaf_look, dlaw_due, dlaw]
def fn : List He.DefD := fn0 ++ fn1 ++ fn2
def fa0 : List He.Fa := [.glo "is_place", .glo "stands_right", .glo "area_many", .glo "is_area", .glo "asked_area", .glo "area_places", .glo "fault", .glo "is_fault", .glo "is_text", .glo "held_number", .glo "as_number", .glo "as_text", .glo "single", .glo "divided", .glo "reckoned", .glo "joined", .glo "same_worth", .glo "ahead_of", .glo "paired", .glo "gathered"]
def fa1 : List He.Fa := [.glo "gone_on", .glo "look_find", .glo "look_if", .glo "look_else", .glo "look_pair", .glo "look_area", .glo "look_in", .glo "look_at", .glo "_law_cell_at", .glo "_law_mixed", .glo "_law_stream", .glo "_law_digit", .glo "_law_place", .glo "_law_area", .glo "_law_pins", .glo "_law_number", .glo "_law_leaf", .glo "_law_formula", .glo "_law_spot", .glo "_law_worth"]
def fa2 : List He.Fa := [.glo "_law_known", .glo "_law_parts", .glo "_law_pieces", .glo "_law_same", .glo "_law_after", .glo "_law_two", .glo "_law_if", .glo "_law_else", .glo "_law_leaf_look", .glo "_law_due", .glo "law", .glo "Look", .glo "WAITS", .glo "GATHERING", .glo "SINGLE", .free "len", .free "isinstance", .free "range", .free "abs", .free "str"]
def fa3 : List He.Fa := [.free "int", .free "tuple", .free "list", .free "sum", .free "min", .free "max", .free "bool", .int "ROWS" 99, .int "COLUMNS" 26, .int "MOST_PLACES" 300, .int "MOST_NUMBER" 1000000000000000000000000000000000000000000000000000000000000, .int "MOST_SIGNS" 200, .cls "Look", .mkr "Look", .keep "Look", .noat "Look" "worths", .noat "Look" "waiting", .noat "Look" "reads", .noat "Look" "place", .meth "Look" "__init__"]
def fa4 : List He.Fa := [.meth "Look" "note", .meth "Look" "seen", .meth "Look" "read_cell", .meth "Look" "read_area", .meth "Look" "find_place"]
def fa : List He.Fa := fa0 ++ fa1 ++ fa2 ++ fa3 ++ fa4
def ex (K : PySem.W.Frag) : Bool := He.tupB K "WAITS" [.str "waits"] && He.tupB K "GATHERING" [.str "sum", .str "count", .str "least", .str "greatest"] && He.tupB K "SINGLE" [.str "minus", .str "not"]
abbrev R : PySem.W.OpenRow := PySem.W.OpenLaw.row PySem.Challenge.rw_onelook_k18_whole_looks_by_parts
abbrev hk : PySem.W.Hook := He.hookX 5 fa fn [] [] ex
def ob (s : PySem.W.SharedT) : He.AlX := He.obsX 5 fa fn [] [] ex (HandSHeadRun.getT s)
theorem ob_eq (s : PySem.W.SharedT) : ob s = hk.obs s.abs := He.obsX_eq (HandSHeadRun.getT_eq s)
def loose0 : List PySem.Str := ["SheetError", "BadArea", "ROWS", "COLUMNS", "is_place", "MOST_PLACES", "stands_right", "area_many", "is_area", "asked_area", "area_places", "MOST_NUMBER", "MOST_SIGNS", "fault", "is_fault", "is_text", "held_number", "as_number", "as_text", "single", "divided", "reckoned", "joined", "same_worth", "ahead_of", "paired", "gathered", "WAITS", "GATHERING", "SINGLE"]
def loose1 : List PySem.Str := ["Look", "gone_on", "look_find", "look_if", "look_else", "look_pair", "look_area", "look_in", "look_at", "_law_cell_at", "_law_mixed", "_law_stream", "_law_digit", "_law_place", "_law_area", "_law_pins", "_law_number", "_law_leaf", "_law_formula", "_law_content", "_law_spot", "_law_cells", "_law_worth", "_law_known", "_law_parts", "_law_pieces", "_law_same", "_law_after", "_law_two", "_law_if"]
def loose2 : List PySem.Str := ["_law_else", "_law_leaf_look", "_law_due"]
def loose : List PySem.Str := loose0 ++ loose1 ++ loose2
def lawAt : Nat := 69
theorem run (w : World) : HandSHeadRun.RunEq R (PySem.W.view R.prog [69]) hk ob 8000 loose w := by
  intro os
  kernel_rfl
end OL
namespace OL
open PySem PySem.Spec PyProof.Rows L2

/-! ### data of tuples that stand for good -/
mutual
inductive Da (H : Hp) : V → PyData → Prop
  | non : Da H .non .none
  | int (i : Int) : Da H (.int i) (.int i)
  | str (x : Str) : Da H (.str x) (.str x)
  | tup {a : Addr} {xs : List V} {ds : List PyData} : H a = some (.tup xs) → DaL H xs ds → Da H (.ref a) (.tuple ds)
inductive DaL (H : Hp) : List V → List PyData → Prop
  | nil : DaL H [] []
  | cons {v : V} {vs : List V} {d : PyData} {ds : List PyData} : Da H v d → DaL H vs ds → DaL H (v :: vs) (d :: ds)
end
def Kp (H H' : Hp) : Prop := ∀ b xs, H b = some (.tup xs) → H' b = some (.tup xs)
theorem Kp.refl (H : Hp) : Kp H H := fun _ _ h => h
theorem Kp.trans {H H1 H2 : Hp} (a : Kp H H1) (b : Kp H1 H2) : Kp H H2 := fun c o h => b c o (a c o h)
section
variable {H H' : Hp}
mutual
theorem Da.mono (k : Kp H H') : ∀ (d : PyData) (v : V), Da H v d → Da H' v d
  | .none, _, h => by cases h; exact .non
  | .bool _, _, h => by cases h
  | .int i, _, h => by cases h; exact .int i
  | .str x, _, h => by cases h; exact .str x
  | .list _, _, h => by cases h
  | .tuple ds, _, h => by
    cases h with
    | tup e l => exact .tup (k _ _ e) (DaL.mono k ds _ l)
  | .dict _, _, h => by cases h
theorem DaL.mono (k : Kp H H') : ∀ (ds : List PyData) (vs : List V), DaL H vs ds → DaL H' vs ds
  | [], _, h => by cases h; exact .nil
  | d :: ds, _, h => by
    cases h with
    | cons a b => exact .cons (Da.mono k d _ a) (DaL.mono k ds _ b)
end
mutual
theorem Da.dp {K : PySem.W.Frag} : ∀ (d : PyData) (v : V), Da H v d → Dp K H v d
  | .none, _, h => by cases h; exact .non
  | .bool _, _, h => by cases h
  | .int i, _, h => by cases h; exact .int i
  | .str x, _, h => by cases h; exact .str x
  | .list _, _, h => by cases h
  | .tuple ds, _, h => by
    cases h with
    | tup e l => exact .tup (SqT.of e) (DaL.dp ds _ l)
  | .dict _, _, h => by cases h
theorem DaL.dp {K : PySem.W.Frag} : ∀ (ds : List PyData) (vs : List V), DaL H vs ds → DpAll K H vs ds
  | [], _, h => by cases h; exact .nil
  | d :: ds, _, h => by
    cases h with
    | cons a b => exact .cons (Da.dp d _ a) (DaL.dp ds _ b)
end
mutual
theorem Da.plain : ∀ (d : PyData) (v : V), Da H v d → d.plain = true
  | .none, _, h => rfl
  | .bool _, _, h => rfl
  | .int i, _, h => rfl
  | .str x, _, h => rfl
  | .list _, _, h => by cases h
  | .tuple ds, _, h => by
    cases h with
    | tup e l => simp only [PyData.plain]; exact DaL.plain ds _ l
  | .dict _, _, h => by cases h
theorem DaL.plain : ∀ (ds : List PyData) (vs : List V), DaL H vs ds → PyData.plainAll ds = true
  | [], _, h => rfl
  | d :: ds, _, h => by
    cases h with
    | cons a b => simp only [PyData.plainAll, Da.plain d _ a, DaL.plain ds _ b, Bool.and_self]
end
theorem DaL.length : ∀ {vs : List V} {ds : List PyData}, DaL H vs ds → vs.length = ds.length
  | [], _, h => by cases h; rfl
  | v :: vs, _, h => by
    cases h with
    | cons a b => rw [List.length_cons, List.length_cons, DaL.length b]
theorem DaL.append : ∀ {vs : List V} {ds : List PyData} {ws : List V} {es : List PyData}, DaL H vs ds → DaL H ws es → DaL H (vs ++ ws) (ds ++ es)
  | [], _, _, _, h, g => by cases h; exact g
  | v :: vs, _, _, _, h, g => by
    cases h with
    | cons a b => exact .cons a (DaL.append b g)
theorem DaL.get : ∀ {vs : List V} {ds : List PyData} {i : Nat} {v : V}, DaL H vs ds → vs[i]? = some v → ∃ d, ds[i]? = some d ∧ Da H v d
  | [], _, i, v, h, e => by simp at e
  | w :: vs, _, 0, v, h, e => by
    cases h with
    | cons a b =>
      have e2 : w = v := Option.some.inj (by simpa using e)
      subst e2
      exact ⟨_, rfl, a⟩
  | w :: vs, _, i + 1, v, h, e => by
    cases h with
    | cons a b =>
      obtain ⟨d, e1, e2⟩ := DaL.get (i := i) (v := v) b (by simpa using e)
      exact ⟨d, by simpa using e1, e2⟩
theorem DaL.at {vs : List V} {ds : List PyData} {i : Nat} {d : PyData} (h : DaL H vs ds) (e : ds[i]? = some d) : ∃ v, vs[i]? = some v ∧ Da H v d := by
  have hl := h.length
  have hi : i < ds.length := (List.getElem?_eq_some_iff.mp e).1
  have hv : vs[i]? = some vs[i] := List.getElem?_eq_getElem (by omega)
  obtain ⟨d', e1, e2⟩ := h.get hv
  rw [e] at e1
  cases e1
  exact ⟨_, hv, e2⟩
theorem Da.tupI {v : V} {ds : List PyData} (h : Da H v (.tuple ds)) : ∃ a xs, v = .ref a ∧ H a = some (.tup xs) ∧ DaL H xs ds := by
  cases h with
  | tup e l => exact ⟨_, _, rfl, e, l⟩
theorem Da.intI {v : V} {i : Int} (h : Da H v (.int i)) : v = .int i := by cases h; rfl
theorem Da.strI {v : V} {x : Str} (h : Da H v (.str x)) : v = .str x := by cases h; rfl
theorem Da.nonI {v : V} (h : Da H v .none) : v = .non := by cases h; rfl
end

/-! ### frames: what may have changed lies in M; tuples stand; what is tracked stays tracked -/
structure Fr (M : List Addr) (H H' : Hp) : Prop where
  k : ∀ b o, H b = some o → b ∉ M → H' b = some o
  t : Kp H H'
  l : ∀ b, H' b = none → H b = none
section
variable {M N : List Addr} {H H1 H2 : Hp} {p : Addr} {o u : HO}
theorem Fr.refl : Fr M H H := ⟨fun _ _ h _ => h, Kp.refl H, fun _ h => h⟩
theorem Fr.trans (a : Fr M H H1) (b : Fr M H1 H2) : Fr M H H2 := ⟨fun c o h n => b.k c o (a.k c o h n) n, a.t.trans b.t, fun c h => a.l c (b.l c h)⟩
theorem Fr.wide (a : Fr M H H1) (h : ∀ b ∈ M, b ∈ N) : Fr N H H1 := ⟨fun c o e n => a.k c o e fun z => n (h c z), a.t, a.l⟩
theorem Fr.nil (a : Fr [] H H1) : Fr N H H1 := a.wide fun _ z => nomatch z
theorem upd_none {a : Addr} (e : upd H a o p = none) : p ≠ a ∧ H p = none := by
  by_cases h : p = a
  · subst h
    rw [upd_same] at e
    cases e
  · rw [upd_ne h] at e
    exact ⟨h, e⟩
theorem Fr.new (f : Fr M H H1) (h : H1 p = none) : Fr M H (upd H1 p o) :=
  ⟨fun b u e n => by rw [upd_ne (ne_of_none (f.k b u e n) h)]; exact f.k b u e n, fun b xs e => by rw [upd_ne (ne_of_none (f.t b xs e) h)]; exact f.t b xs e, fun b e => f.l b (upd_none e).2⟩
/-- an object of M (no tuple) is written -/
theorem Fr.set (f : Fr M H H1) (hp : p ∈ M) (e : H1 p = some u) (nt : ∀ xs, u ≠ .tup xs) : Fr M H (upd H1 p o) :=
  ⟨fun b w e n => by
    have hb : b ≠ p := fun z => n (by rw [z]; exact hp)
    rw [upd_ne hb]
    exact f.k b w e n, fun b xs q => by
    have q1 := f.t b xs q
    rw [upd_ne (ne_of q1 e fun z => nt xs z.symm)]
    exact q1, fun b q => f.l b (upd_none q).2⟩
/-- an object that H does not know is written -/
theorem Fr.mut (f : Fr M H H1) (h : H p = none) : Fr M H (upd H1 p o) :=
  ⟨fun b w e n => by rw [upd_ne (ne_of_none e h)]; exact f.k b w e n, fun b xs e => by rw [upd_ne (ne_of_none e h)]; exact f.t b xs e, fun b q => f.l b (upd_none q).2⟩
theorem Fr.same (f : Fr [] H H1) : Same H H1 := fun b o e => f.k b o e (fun z => nomatch z)
theorem Fr.ofSame (f : Same H H1) : Fr M H H1 := ⟨fun b o e _ => f b o e, fun b xs e => f b _ e, fun b e => f.free e⟩
theorem Fr.da (f : Fr M H H1) {v : V} {d : PyData} (h : Da H v d) : Da H1 v d := Da.mono f.t d v h
theorem Fr.dal (f : Fr M H H1) {vs : List V} {ds : List PyData} (h : DaL H vs ds) : DaL H1 vs ds := DaL.mono f.t ds vs h
theorem Fr.tup (f : Fr M H H1) {a : Addr} {xs : List V} (h : H a = some (.tup xs)) : H1 a = some (.tup xs) := f.t a xs h
theorem Fr.seq (f : Fr M H H1) {K : PySem.W.Frag} {a : Addr} {xs : List V} (h : SqL K H a xs) (n : a ∉ M) : SqL K H1 a xs := by
  rcases h with (h | ⟨o, h⟩) | h
  · exact .inl (.inl (f.k _ _ h n))
  · exact .inl (.inr ⟨o, f.k _ _ h n⟩)
  · exact .inr h
end

/-! ### calls of defs -/
def Has (P : Program) (w : World) (K : PySem.W.Frag) (mg : Str → Option Value) (base : Heap) (x : Str) (ps : List Str) (k : Nat) (sp : Sp) : Prop :=
  ∃ f fd, mg x = some (.ref f) ∧ PySem.W.keepIn K (.ref f) = true ∧ Binds K fd ps [] ∧ FnOk P w K mg base CX0 k f fd ps sp
def HasM (P : Program) (w : World) (K : PySem.W.Frag) (mg : Str → Option Value) (base : Heap) (C : Addr) (m : Str) (ps : List Str) (k : Nat) (sp : Sp) : Prop :=
  ∃ f fd, Meth K C m f ∧ Binds K fd ps [] ∧ FnOk P w K mg base CX0 k f fd ps sp
theorem Has.mono {P : Program} {w : World} {K : PySem.W.Frag} {mg : Str → Option Value} {base : Heap} {x : Str} {ps : List Str} {j k : Nat} {sp : Sp} (h : Has P w K mg base x ps j sp) (l : j ≤ k) : Has P w K mg base x ps k sp :=
  let ⟨f, fd, a, b, c, d⟩ := h
  ⟨f, fd, a, b, c, d.mono l⟩
def tCl (sp : Sp) (t : TA) : TE := fun σ H Q => t σ H fun vs H1 => sp vs H1 Q E0
def tMt (C : Addr) (m : Str) (sp : Sp) (ta : TE) (t : TA) : TE := fun σ H Q => ta σ H fun x H1 => ∃ a dx fs, x = .ref a ∧ H1 a = some (.ins C dx fs) ∧ fs.lookup m = none ∧ t σ H1 fun vs H2 => sp (x :: vs) H2 Q E0
section
variable {X : Cx}
theorem tCl_eq {sp : Sp} {t : TA} : tCall sp [] E0 t = tCl sp t := by
  funext σ H Q
  unfold tCall tCl
  simp only [List.append_nil]
theorem tMt_eq {C : Addr} {m : Str} {sp : Sp} {ta : TE} {t : TA} : tMeth C m sp [] E0 ta t = tMt C m sp ta t := by
  funext σ H Q
  unfold tMeth tMt
  simp only [List.append_nil]
theorem cl {x : Str} {ps : List Str} {k : Nat} {sp : Sp} {p pos : Pos} {e : Expr} {es : List Expr} {t : TA} (h : Has X.prog X.w X.K X.mg X.base x ps k sp) (hr : Room k X.A) (ha : PA X (e :: es) t) (hg : Gl X x := by rfl)
    (hdb : (x == ("__debug__" : Str)) = false := by decide) (he : starEach (e :: es) X.env = (false, eval e X.env) :: starEach es X.env := by rfl) (hpl : (backTo pos (starEach es X.env)).any (·.1) = false := by rfl) :
    PE X (.Call (.Name x p) (e :: es) [] pos) (tCl sp t) := by
  obtain ⟨f, fd, a, b, c, d⟩ := h
  rw [← tCl_eq]
  exact pe_call d hr hg a b c .nil pass0 ha hdb he hpl
theorem mt {C : Addr} {m : Str} {ps : List Str} {k : Nat} {sp : Sp} {apos pos : Pos} {o e : Expr} {es : List Expr} {ta : TE} {t : TA} {pl : Sem Bool} (hc : Cls X.K C) (h : HasM X.prog X.w X.K X.mg X.base C m ps k sp) (hr : Room k X.A) (ho : PE X o ta) (ha : PA X (e :: es) t)
    (hst : starEach (e :: es) X.env = (false, eval e X.env) :: starEach es X.env := by rfl) (hpl : (backTo pos (starEach es X.env)).any (·.1) = false := by rfl)
    (ht : eval (.Call (.Attribute o m apos) (e :: es) [] pos) X.env = (do
      let ov ← eval o X.env
      standAt apos.atName
      let (f, first) ← holding [ov] (getMethod ov m pl)
      callWith pos f first (backTo pos (starEach (e :: es) X.env)) (backToKw pos (keywordEach [] X.env))) := by rfl) :
    PE X (.Call (.Attribute o m apos) (e :: es) [] pos) (tMt C m sp ta t) := by
  obtain ⟨f, fd, a, c, d⟩ := h
  rw [← tMt_eq]
  exact pe_meth ho hc a d hr c .nil pass0 ha hst hpl ht
end

/-! ### operators -/
/-- // by any divisor but 0, below 2 ^ 9000 -/
def CDivX (_ j : Int) : Prop := j ≠ 0 ∧ j.natAbs.log2 < 9000
/-- == of data -/
def rEqP (K : PySem.W.Frag) : R2 := fun x y H Q => ∃ d e, Dp K H x d ∧ Dp K H y e ∧ d.plain = true ∧ e.plain = true ∧ min d.depth e.depth ≤ 64 ∧ Q (.bl (PyData.eqv d e)) H
def rNeP (K : PySem.W.Frag) : R2 := fun x y H Q => ∃ d e, Dp K H x d ∧ Dp K H y e ∧ d.plain = true ∧ e.plain = true ∧ min d.depth e.depth ≤ 64 ∧ Q (.bl (!PyData.eqv d e)) H
def rInLP (K : PySem.W.Frag) : R2 := fun x y H Q => ∃ d ds, Dp K H x d ∧ Dp K H y (.list ds) ∧ d.plain = true ∧ PyData.plainAll ds = true ∧ d.depth ≤ 60 ∧ Q (.bl (ds.any fun z => PyData.eqv z d)) H
def rNotInLP (K : PySem.W.Frag) : R2 := fun x y H Q => ∃ d ds, Dp K H x d ∧ Dp K H y (.list ds) ∧ d.plain = true ∧ PyData.plainAll ds = true ∧ d.depth ≤ 60 ∧ Q (.bl (!ds.any fun z => PyData.eqv z d)) H
def rNotInTP (K : PySem.W.Frag) : R2 := fun x y H Q => ∃ d ds, Dp K H x d ∧ Dp K H y (.tuple ds) ∧ d.plain = true ∧ PyData.plainAll ds = true ∧ d.depth ≤ 60 ∧ Q (.bl (!ds.any fun z => PyData.eqv z d)) H
def aaa : Str := ⟨(List.replicate (199 : Int).toNat ("a" : Str).cps).foldl (· ++ ·) #[]⟩
section
variable {X : Cx}
theorem op_fdivX : OpR X (binaryOp .FloorDiv) (rI CDivX fun i j => .int (i.fdiv j)) := opI fun i j _ _ _ _ _ hc q => floordiv_int hc.1 q (.inl (PyProof.noPylong_of_log2 hc.2))
theorem op_eqP (hu : X.A.units + 64 < cLine) : OpR X (compareOp .Eq) (rEqP X.K) := by
  intro pins s σ H x y v u Q I rx ry h
  obtain ⟨d, e, hd, he, sd, se, hm, q⟩ := h
  obtain ⟨as, r1⟩ := Dp.reads I d x v hd rx
  obtain ⟨bs, r2⟩ := Dp.reads I e y u he ry
  exact SeqAt.eq_plain r1 r2 sd se (by omega) ⟨.bl _, H, I, rfl, q⟩
theorem op_neP (hu : X.A.units + 64 < cLine) : OpR X (compareOp .NotEq) (rNeP X.K) := by
  intro pins s σ H x y v u Q I rx ry h
  obtain ⟨d, e, hd, he, sd, se, hm, q⟩ := h
  obtain ⟨as, r1⟩ := Dp.reads I d x v hd rx
  obtain ⟨bs, r2⟩ := Dp.reads I e y u he ry
  exact SeqAt.ne_plain r1 r2 sd se (by omega) ⟨.bl _, H, I, rfl, q⟩
theorem op_inLP (hu : X.A.units + 64 < cLine) : OpR X (compareOp .In) (rInLP X.K) := by
  intro pins s σ H x y v u Q I rx ry h
  obtain ⟨d, ds, hd, he, sd, se, hm, q⟩ := h
  obtain ⟨as, r1⟩ := Dp.reads I d x v hd rx
  obtain ⟨bs, r2⟩ := Dp.reads I (.list ds) y u he ry
  exact SeqAt.in_list_data r2 r1 se sd (by omega) ⟨.bl _, H, I, rfl, q⟩
theorem op_notInLP (hu : X.A.units + 64 < cLine) : OpR X (compareOp .NotIn) (rNotInLP X.K) := by
  intro pins s σ H x y v u Q I rx ry h
  obtain ⟨d, ds, hd, he, sd, se, hm, q⟩ := h
  obtain ⟨as, r1⟩ := Dp.reads I d x v hd rx
  obtain ⟨bs, r2⟩ := Dp.reads I (.list ds) y u he ry
  exact SeqAt.notIn_list_data r2 r1 se sd (by omega) ⟨.bl _, H, I, rfl, q⟩
theorem op_notInTP (hu : X.A.units + 64 < cLine) : OpR X (compareOp .NotIn) (rNotInTP X.K) := by
  intro pins s σ H x y v u Q I rx ry h
  obtain ⟨d, ds, hd, he, sd, se, hm, q⟩ := h
  obtain ⟨as, r1⟩ := Dp.reads I d x v hd rx
  obtain ⟨bs, r2⟩ := Dp.reads I (.tuple ds) y u he ry
  exact SeqAt.notIn_tuple_data r2 r1 se sd (by omega) ⟨.bl _, H, I, rfl, q⟩
/-- 'a' * 199 -/
theorem op_a199 : OpR X (binaryOp .Mult) (fun x y H Q => x = .str "a" ∧ y = .int 199 ∧ Q (.str aaa) H) := by
  intro pins s σ H x y v u Q I rx ry h
  obtain ⟨rfl, rfl, q⟩ := h
  obtain ⟨t, rfl⟩ := rx
  obtain ⟨t', rfl⟩ := ry
  refine PySem.P.mul_str (by decide) (fun _ _ => by decide +kernel) (fun _ _ => by decide +kernel) ?_
  rw [if_neg (by decide), if_neg (by decide +kernel)]
  exact ⟨by decide +kernel, ⟨.str _, H, I.tok _, ⟨_, rfl⟩, q⟩⟩
/-- isinstance(a, T) -/
def Isi (K : PySem.W.Frag) (H : Hp) (x : V) (T : String) (b : Bool) : Prop := ∃ t, TyX K H x (.type t) ∧ kitB t T = some b
def tIsi (K : PySem.W.Frag) (T : String) (ta : TE) : TE := fun σ H Q => ta σ H fun x H1 => ∃ b, Isi K H1 x T b ∧ Q (.bl b) H1
theorem isi {T : String} {x : Str} {a : Expr} {ta : TE} {p p2 pos : Pos} (hm0 : X.mg "isinstance" = none) (hm : X.mg x = none) (ha : PE X a ta) (hv : bootBuiltins x = some (.type T) := by decide +kernel) (hg0 : Gl X "isinstance" := by rfl) (hg : Gl X x := by rfl)
    (hn : x ≠ "__name__" := by decide) (hd : (x == ("__debug__" : Str)) = false := by decide)
    (hs1 : starEach [a, .Name x p2] X.env = (false, eval a X.env) :: starEach [.Name x p2] X.env := by rfl) (hs2 : starEach [.Name x p2] X.env = (false, eval (.Name x p2) X.env) :: starEach [] X.env := by rfl) (hpl : (backTo pos (starEach [.Name x p2] X.env)).any (·.1) = false := by rfl) :
    PE X (.Call (.Name "isinstance" p) [a, .Name x p2] [] pos) (tIsi X.K T ta) := by
  have q : PE X (.Call (.Name "isinstance" p) [a, .Name x p2] [] pos) (tCB (fun xs H Q => ∃ y b, xs = [y, V.ty T] ∧ Isi X.K H y T b ∧ Q (.bl b) H) (tCons ta (tCons (tC (.ty T)) tNil))) :=
    pe_callB (fun pins s σ H xs us Q I r h => by
      obtain ⟨y, b, rfl, ⟨t, h1, h2⟩, q⟩ := h
      exact call_isi pins s σ H _ us Q I r ⟨y, .ty T, .type t, .type T, b, rfl, .ty T, h1, kit_ty h2, q⟩) hg0 hm0 (by decide +kernel)
      (pa_cons ha (pa_cons (pe_bltn hg hm hv rfl hn hd) pa_nil hs2) hs1) (by decide) (by decide) hs1 hpl
  refine ⟨fun pins s σ H Q I h => q.run pins s σ H Q I ?_⟩
  show ta σ H fun x H1 => ∃ y b, ([x, V.ty T] : List V) = [y, V.ty T] ∧ Isi X.K H1 y T b ∧ Q (.bl b) H1
  have e : (fun (x : V) (H1 : Hp) => ∃ y b, ([x, V.ty T] : List V) = [y, V.ty T] ∧ Isi X.K H1 y T b ∧ Q (.bl b) H1) = fun x H1 => ∃ b, Isi X.K H1 x T b ∧ Q (.bl b) H1 := by
    funext x H1
    refine propext ⟨fun ⟨y, b, e, z⟩ => ?_, fun ⟨b, z⟩ => ⟨x, b, rfl, z⟩⟩
    injection e with e1 _
    subst e1
    exact ⟨b, z⟩
  rw [e]
  exact h
theorem cI {x : Str} {i : Int} {pos : Pos} (h : ∃ t, X.mg x = some (.int i t)) (hg : Gl X x := by rfl) (hd : (x == ("__debug__" : Str)) = false := by decide) : PE X (.Name x pos) (tC (.int i)) := by
  obtain ⟨t, h⟩ := h
  exact pe_glob hg h ⟨t, rfl⟩ hd
theorem cR {x : Str} {a : Addr} {pos : Pos} (h : X.mg x = some (.ref a)) (hg : Gl X x := by rfl) (hd : (x == ("__debug__" : Str)) = false := by decide) : PE X (.Name x pos) (tC (.ref a)) := pe_glob hg h rfl hd
end
section
variable {K : PySem.W.Frag} {H : Hp}
theorem isi_non {T : String} (h : kitB "NoneType" T = some false := by decide +kernel) : Isi K H .non T false := ⟨_, .base .non, h⟩
theorem isi_int {T : String} {b : Bool} {i : Int} (h : kitB "int" T = some b := by decide +kernel) : Isi K H (.int i) T b := ⟨_, .base (.int i), h⟩
theorem isi_str {T : String} {b : Bool} {x : Str} (h : kitB "str" T = some b := by decide +kernel) : Isi K H (.str x) T b := ⟨_, .base (.str x), h⟩
theorem isi_tup {T : String} {b : Bool} {a : Addr} {xs : List V} (e : H a = some (.tup xs)) (h : kitB "tuple" T = some b := by decide +kernel) : Isi K H (.ref a) T b := ⟨_, .base (.tup e), h⟩
theorem isi_tupT {T : String} {b : Bool} {a : Addr} {xs : List V} (e : SqT K H a xs) (h : kitB "tuple" T = some b := by decide +kernel) : Isi K H (.ref a) T b := by
  rcases e with (e | ⟨o, e⟩) | ⟨o, its, n, hk, hc, _⟩
  · exact ⟨_, .base (.tup e), h⟩
  · exact ⟨_, .fTuple e, h⟩
  · exact ⟨_, .kTuple hk hc, h⟩
end
/-! ### defs of the text -/
theorem toFun {K : PySem.W.Frag} {x q : Str} {st : Stmt} {f : Addr} {fd : FuncData} (F : FunD K x q (defArgs st) (defBody st) (defScope st) [] [] f fd) : Fun K x q st f fd := by
  obtain ⟨oc, od, dV, kV, doc, pm, an, cdv, ct, osl, rfl, lk, hcd, hD, _⟩ := F.ex
  rcases hD with ⟨_, rfl⟩ | ⟨e, _⟩
  · exact ⟨⟨oc, od, kV, doc, pm, an, cdv, ct, osl, rfl, lk, hcd⟩, F.kp⟩
  · exact absurd rfl e

/-! ### promises by their arguments -/
def sp1 (f : V → Hp → VK → Prop) : Sp := fun vs H Q _ => match vs with
  | [a] => f a H Q
  | _ => False
def sp2 (f : V → V → Hp → VK → Prop) : Sp := fun vs H Q _ => match vs with
  | [a, b] => f a b H Q
  | _ => False
def sp3 (f : V → V → V → Hp → VK → Prop) : Sp := fun vs H Q _ => match vs with
  | [a, b, c] => f a b c H Q
  | _ => False
theorem sp1_inv {f : V → Hp → VK → Prop} {vs : List V} {H : Hp} {Q : VK} {E : XK} (h : sp1 f vs H Q E) : ∃ a, vs = [a] ∧ f a H Q := by
  match vs, h with
  | [a], h => exact ⟨a, rfl, h⟩
theorem sp2_inv {f : V → V → Hp → VK → Prop} {vs : List V} {H : Hp} {Q : VK} {E : XK} (h : sp2 f vs H Q E) : ∃ a b, vs = [a, b] ∧ f a b H Q := by
  match vs, h with
  | [a, b], h => exact ⟨a, b, rfl, h⟩
theorem sp3_inv {f : V → V → V → Hp → VK → Prop} {vs : List V} {H : Hp} {Q : VK} {E : XK} (h : sp3 f vs H Q E) : ∃ a b c, vs = [a, b, c] ∧ f a b c H Q := by
  match vs, h with
  | [a, b, c], h => exact ⟨a, b, c, rfl, h⟩
theorem sp1_len {f : V → Hp → VK → Prop} {vs : List V} {H : Hp} {Q : VK} {E : XK} (h : sp1 f vs H Q E) : vs.length = 1 := by
  obtain ⟨a, rfl, _⟩ := sp1_inv h
  rfl
theorem sp2_len {f : V → V → Hp → VK → Prop} {vs : List V} {H : Hp} {Q : VK} {E : XK} (h : sp2 f vs H Q E) : vs.length = 2 := by
  obtain ⟨a, b, rfl, _⟩ := sp2_inv h
  rfl
theorem sp3_len {f : V → V → V → Hp → VK → Prop} {vs : List V} {H : Hp} {Q : VK} {E : XK} (h : sp3 f vs H Q E) : vs.length = 3 := by
  obtain ⟨a, b, c, rfl, _⟩ := sp3_inv h
  rfl
/-- a new instance by __init__ -/
def tMk (C : Addr) (sp : Sp) (t : TA) : TE := fun σ H Q => t σ H fun vs H1 => ∀ x dx, H1 x = none → H1 dx = none → dx ≠ x → sp (.ref x :: vs) (upd (upd H1 dx (.own x)) x (.ins C dx [])) (fun v H2 => v = .non ∧ Q (.ref x) H2) E0
section
variable {X : Cx}
theorem mkC {x : Str} {C f0 : Addr} {ps : List Str} {k : Nat} {sp : Sp} {p pos : Pos} {e : Expr} {es : List Expr} {t : TA} (M : Mk X.K C f0) (hm : X.mg x = some (.ref C)) (h : HasM X.prog X.w X.K X.mg X.base C "__init__" ps k sp) (hr : Room (k + 1) X.A) (ha : PA X (e :: es) t) (hg : Gl X x := by rfl)
    (hdb : (x == ("__debug__" : Str)) = false := by decide) (he : starEach (e :: es) X.env = (false, eval e X.env) :: starEach es X.env := by rfl) (hpl : (backTo pos (starEach es X.env)).any (·.1) = false := by rfl) :
    PE X (.Call (.Name x p) (e :: es) [] pos) (tMk C sp t) := by
  obtain ⟨f, fd, a, c, d⟩ := h
  have ef : f = f0 := by
    have e1 := a.at_
    have e2 := M.init
    rw [e1] at e2
    injection e2 with e3
    injection e3 with e4
    injection e4
  subst ef
  have q := pe_make (pos := pos) (p := p) M d hr hg hm c .nil pass0 ha hdb he hpl
  have e2 : tMake C sp [] E0 t = tMk C sp t := by
    funext σ H Q
    unfold tMake tMk
    simp only [List.append_nil]
  rw [e2] at q
  exact q
end
end OL
namespace OL
open PySem PySem.Spec PyProof.Rows L2
structure Txt (K : PySem.W.Frag) (mg : Str → Option Value) : Prop where
  cl : Cls K (He.ga K "Look")
  mkr : Mk K (He.ga K "Look") (He.ma K (He.ga K "Look") "__init__")
  gLook : mg "Look" = some (.ref (He.ga K "Look"))
  n_len : mg "len" = none
  n_isinstance : mg "isinstance" = none
  n_range : mg "range" = none
  n_abs : mg "abs" = none
  n_str : mg "str" = none
  n_int : mg "int" = none
  n_tuple : mg "tuple" = none
  n_list : mg "list" = none
  n_sum : mg "sum" = none
  n_min : mg "min" = none
  n_max : mg "max" = none
  n_bool : mg "bool" = none
  i_ROWS : ∃ t, mg "ROWS" = some (.int 99 t)
  i_COLUMNS : ∃ t, mg "COLUMNS" = some (.int 26 t)
  i_MOST_PLACES : ∃ t, mg "MOST_PLACES" = some (.int 300 t)
  i_MOST_NUMBER : ∃ t, mg "MOST_NUMBER" = some (.int 1000000000000000000000000000000000000000000000000000000000000 t)
  i_MOST_SIGNS : ∃ t, mg "MOST_SIGNS" = some (.int 200 t)
  g_WAITS : mg "WAITS" = some (.ref (He.ga K "WAITS"))
  w_WAITS : ∀ H, SqT K H (He.ga K "WAITS") [.str "waits"]
  g_GATHERING : mg "GATHERING" = some (.ref (He.ga K "GATHERING"))
  w_GATHERING : ∀ H, SqT K H (He.ga K "GATHERING") [.str "sum", .str "count", .str "least", .str "greatest"]
  g_SINGLE : mg "SINGLE" = some (.ref (He.ga K "SINGLE"))
  w_SINGLE : ∀ H, SqT K H (He.ga K "SINGLE") [.str "minus", .str "not"]
  at_worths : NoAttr K (He.ga K "Look") "worths"
  at_waiting : NoAttr K (He.ga K "Look") "waiting"
  at_reads : NoAttr K (He.ga K "Look") "reads"
  at_place : NoAttr K (He.ga K "Look") "place"
  g_is_place : mg "is_place" = some (.ref (He.ga K "is_place"))
  f_is_place : ∃ fd, Fun K "is_place" "is_place" s_is_place (He.ga K "is_place") fd
  g_stands_right : mg "stands_right" = some (.ref (He.ga K "stands_right"))
  f_stands_right : ∃ fd, Fun K "stands_right" "stands_right" s_stands_right (He.ga K "stands_right") fd
  g_area_many : mg "area_many" = some (.ref (He.ga K "area_many"))
  f_area_many : ∃ fd, Fun K "area_many" "area_many" s_area_many (He.ga K "area_many") fd
  g_is_area : mg "is_area" = some (.ref (He.ga K "is_area"))
  f_is_area : ∃ fd, Fun K "is_area" "is_area" s_is_area (He.ga K "is_area") fd
  g_asked_area : mg "asked_area" = some (.ref (He.ga K "asked_area"))
  f_asked_area : ∃ fd, Fun K "asked_area" "asked_area" s_asked_area (He.ga K "asked_area") fd
  g_area_places : mg "area_places" = some (.ref (He.ga K "area_places"))
  f_area_places : ∃ fd, Fun K "area_places" "area_places" s_area_places (He.ga K "area_places") fd
  g_fault : mg "fault" = some (.ref (He.ga K "fault"))
  f_fault : ∃ fd, Fun K "fault" "fault" s_fault (He.ga K "fault") fd
  g_is_fault : mg "is_fault" = some (.ref (He.ga K "is_fault"))
  f_is_fault : ∃ fd, Fun K "is_fault" "is_fault" s_is_fault (He.ga K "is_fault") fd
  g_is_text : mg "is_text" = some (.ref (He.ga K "is_text"))
  f_is_text : ∃ fd, Fun K "is_text" "is_text" s_is_text (He.ga K "is_text") fd
  g_held_number : mg "held_number" = some (.ref (He.ga K "held_number"))
  f_held_number : ∃ fd, Fun K "held_number" "held_number" s_held_number (He.ga K "held_number") fd
  g_as_number : mg "as_number" = some (.ref (He.ga K "as_number"))
  f_as_number : ∃ fd, Fun K "as_number" "as_number" s_as_number (He.ga K "as_number") fd
  g_as_text : mg "as_text" = some (.ref (He.ga K "as_text"))
  f_as_text : ∃ fd, Fun K "as_text" "as_text" s_as_text (He.ga K "as_text") fd
  g_single : mg "single" = some (.ref (He.ga K "single"))
  f_single : ∃ fd, Fun K "single" "single" s_single (He.ga K "single") fd
  g_divided : mg "divided" = some (.ref (He.ga K "divided"))
  f_divided : ∃ fd, Fun K "divided" "divided" s_divided (He.ga K "divided") fd
  g_reckoned : mg "reckoned" = some (.ref (He.ga K "reckoned"))
  f_reckoned : ∃ fd, Fun K "reckoned" "reckoned" s_reckoned (He.ga K "reckoned") fd
  g_joined : mg "joined" = some (.ref (He.ga K "joined"))
  f_joined : ∃ fd, Fun K "joined" "joined" s_joined (He.ga K "joined") fd
  g_same_worth : mg "same_worth" = some (.ref (He.ga K "same_worth"))
  f_same_worth : ∃ fd, Fun K "same_worth" "same_worth" s_same_worth (He.ga K "same_worth") fd
  g_ahead_of : mg "ahead_of" = some (.ref (He.ga K "ahead_of"))
  f_ahead_of : ∃ fd, Fun K "ahead_of" "ahead_of" s_ahead_of (He.ga K "ahead_of") fd
  g_paired : mg "paired" = some (.ref (He.ga K "paired"))
  f_paired : ∃ fd, Fun K "paired" "paired" s_paired (He.ga K "paired") fd
  g_gathered : mg "gathered" = some (.ref (He.ga K "gathered"))
  f_gathered : ∃ fd, Fun K "gathered" "gathered" s_gathered (He.ga K "gathered") fd
  mt_init : Meth K (He.ga K "Look") "__init__" (He.ma K (He.ga K "Look") "__init__")
  fm_init : ∃ fd, Fun K "__init__" "Look.__init__" sm_init (He.ma K (He.ga K "Look") "__init__") fd
  mt_note : Meth K (He.ga K "Look") "note" (He.ma K (He.ga K "Look") "note")
  fm_note : ∃ fd, Fun K "note" "Look.note" sm_note (He.ma K (He.ga K "Look") "note") fd
  mt_seen : Meth K (He.ga K "Look") "seen" (He.ma K (He.ga K "Look") "seen")
  fm_seen : ∃ fd, Fun K "seen" "Look.seen" sm_seen (He.ma K (He.ga K "Look") "seen") fd
  mt_read_cell : Meth K (He.ga K "Look") "read_cell" (He.ma K (He.ga K "Look") "read_cell")
  fm_read_cell : ∃ fd, Fun K "read_cell" "Look.read_cell" sm_read_cell (He.ma K (He.ga K "Look") "read_cell") fd
  mt_read_area : Meth K (He.ga K "Look") "read_area" (He.ma K (He.ga K "Look") "read_area")
  fm_read_area : ∃ fd, Fun K "read_area" "Look.read_area" sm_read_area (He.ma K (He.ga K "Look") "read_area") fd
  mt_find_place : Meth K (He.ga K "Look") "find_place" (He.ma K (He.ga K "Look") "find_place")
  fm_find_place : ∃ fd, Fun K "find_place" "Look.find_place" sm_find_place (He.ma K (He.ga K "Look") "find_place") fd
  g_gone_on : mg "gone_on" = some (.ref (He.ga K "gone_on"))
  f_gone_on : ∃ fd, Fun K "gone_on" "gone_on" s_gone_on (He.ga K "gone_on") fd
  g_look_find : mg "look_find" = some (.ref (He.ga K "look_find"))
  f_look_find : ∃ fd, Fun K "look_find" "look_find" s_look_find (He.ga K "look_find") fd
  g_look_if : mg "look_if" = some (.ref (He.ga K "look_if"))
  f_look_if : ∃ fd, Fun K "look_if" "look_if" s_look_if (He.ga K "look_if") fd
  g_look_else : mg "look_else" = some (.ref (He.ga K "look_else"))
  f_look_else : ∃ fd, Fun K "look_else" "look_else" s_look_else (He.ga K "look_else") fd
  g_look_pair : mg "look_pair" = some (.ref (He.ga K "look_pair"))
  f_look_pair : ∃ fd, Fun K "look_pair" "look_pair" s_look_pair (He.ga K "look_pair") fd
  g_look_area : mg "look_area" = some (.ref (He.ga K "look_area"))
  f_look_area : ∃ fd, Fun K "look_area" "look_area" s_look_area (He.ga K "look_area") fd
  g_look_in : mg "look_in" = some (.ref (He.ga K "look_in"))
  f_look_in : ∃ fd, Fun K "look_in" "look_in" s_look_in (He.ga K "look_in") fd
  g_look_at : mg "look_at" = some (.ref (He.ga K "look_at"))
  f_look_at : ∃ fd, Fun K "look_at" "look_at" s_look_at (He.ga K "look_at") fd
  g_law_cell_at : mg "_law_cell_at" = some (.ref (He.ga K "_law_cell_at"))
  f_law_cell_at : ∃ fd, Fun K "_law_cell_at" "_law_cell_at" s_law_cell_at (He.ga K "_law_cell_at") fd
  g_law_mixed : mg "_law_mixed" = some (.ref (He.ga K "_law_mixed"))
  f_law_mixed : ∃ fd, Fun K "_law_mixed" "_law_mixed" s_law_mixed (He.ga K "_law_mixed") fd
  g_law_stream : mg "_law_stream" = some (.ref (He.ga K "_law_stream"))
  f_law_stream : ∃ fd, Fun K "_law_stream" "_law_stream" s_law_stream (He.ga K "_law_stream") fd
  g_law_digit : mg "_law_digit" = some (.ref (He.ga K "_law_digit"))
  f_law_digit : ∃ fd, Fun K "_law_digit" "_law_digit" s_law_digit (He.ga K "_law_digit") fd
  g_law_place : mg "_law_place" = some (.ref (He.ga K "_law_place"))
  f_law_place : ∃ fd, Fun K "_law_place" "_law_place" s_law_place (He.ga K "_law_place") fd
  g_law_area : mg "_law_area" = some (.ref (He.ga K "_law_area"))
  f_law_area : ∃ fd, Fun K "_law_area" "_law_area" s_law_area (He.ga K "_law_area") fd
  g_law_pins : mg "_law_pins" = some (.ref (He.ga K "_law_pins"))
  f_law_pins : ∃ fd, Fun K "_law_pins" "_law_pins" s_law_pins (He.ga K "_law_pins") fd
  g_law_number : mg "_law_number" = some (.ref (He.ga K "_law_number"))
  f_law_number : ∃ fd, Fun K "_law_number" "_law_number" s_law_number (He.ga K "_law_number") fd
  g_law_leaf : mg "_law_leaf" = some (.ref (He.ga K "_law_leaf"))
  f_law_leaf : ∃ fd, Fun K "_law_leaf" "_law_leaf" s_law_leaf (He.ga K "_law_leaf") fd
  g_law_formula : mg "_law_formula" = some (.ref (He.ga K "_law_formula"))
  f_law_formula : ∃ fd, Fun K "_law_formula" "_law_formula" s_law_formula (He.ga K "_law_formula") fd
  g_law_spot : mg "_law_spot" = some (.ref (He.ga K "_law_spot"))
  f_law_spot : ∃ fd, Fun K "_law_spot" "_law_spot" s_law_spot (He.ga K "_law_spot") fd
  g_law_worth : mg "_law_worth" = some (.ref (He.ga K "_law_worth"))
  f_law_worth : ∃ fd, Fun K "_law_worth" "_law_worth" s_law_worth (He.ga K "_law_worth") fd
  g_law_known : mg "_law_known" = some (.ref (He.ga K "_law_known"))
  f_law_known : ∃ fd, Fun K "_law_known" "_law_known" s_law_known (He.ga K "_law_known") fd
  g_law_parts : mg "_law_parts" = some (.ref (He.ga K "_law_parts"))
  f_law_parts : ∃ fd, Fun K "_law_parts" "_law_parts" s_law_parts (He.ga K "_law_parts") fd
  g_law_pieces : mg "_law_pieces" = some (.ref (He.ga K "_law_pieces"))
  f_law_pieces : ∃ fd, Fun K "_law_pieces" "_law_pieces" s_law_pieces (He.ga K "_law_pieces") fd
  g_law_same : mg "_law_same" = some (.ref (He.ga K "_law_same"))
  f_law_same : ∃ fd, Fun K "_law_same" "_law_same" s_law_same (He.ga K "_law_same") fd
  g_law_after : mg "_law_after" = some (.ref (He.ga K "_law_after"))
  f_law_after : ∃ fd, Fun K "_law_after" "_law_after" s_law_after (He.ga K "_law_after") fd
  g_law_two : mg "_law_two" = some (.ref (He.ga K "_law_two"))
  f_law_two : ∃ fd, Fun K "_law_two" "_law_two" s_law_two (He.ga K "_law_two") fd
  g_law_if : mg "_law_if" = some (.ref (He.ga K "_law_if"))
  f_law_if : ∃ fd, Fun K "_law_if" "_law_if" s_law_if (He.ga K "_law_if") fd
  g_law_else : mg "_law_else" = some (.ref (He.ga K "_law_else"))
  f_law_else : ∃ fd, Fun K "_law_else" "_law_else" s_law_else (He.ga K "_law_else") fd
  g_law_leaf_look : mg "_law_leaf_look" = some (.ref (He.ga K "_law_leaf_look"))
  f_law_leaf_look : ∃ fd, Fun K "_law_leaf_look" "_law_leaf_look" s_law_leaf_look (He.ga K "_law_leaf_look") fd
  g_law_due : mg "_law_due" = some (.ref (He.ga K "_law_due"))
  f_law_due : ∃ fd, Fun K "_law_due" "_law_due" s_law_due (He.ga K "_law_due") fd
  g_law : mg "law" = some (.ref (He.ga K "law"))
  f_law : ∃ fd, Fun K "law" "law" s_law (He.ga K "law") fd
theorem txt_of {w : World} {h : Heap} {K : PySem.W.Frag} {h0 : Heap} {mg : Str → Option Value} (X : K.In h) (G : h.Ns mainGlobals mg) (c : He.SaysX fa fn [] [] ex w h0 K) : Txt K mg := by
  have d : He.SaysD fa fn K := c.t.d
  have e := c.more
  unfold ex at e
  rw [Bool.and_eq_true, Bool.and_eq_true] at e
  obtain ⟨⟨e1, e2⟩, e3⟩ := e
  exact ⟨He.cls_ok (d.fact 72),
    He.mkr_ok (d.fact 73),
    He.glo_ok X G (d.fact 51),
    He.free_ok X G (d.fact 55),
    He.free_ok X G (d.fact 56),
    He.free_ok X G (d.fact 57),
    He.free_ok X G (d.fact 58),
    He.free_ok X G (d.fact 59),
    He.free_ok X G (d.fact 60),
    He.free_ok X G (d.fact 61),
    He.free_ok X G (d.fact 62),
    He.free_ok X G (d.fact 63),
    He.free_ok X G (d.fact 64),
    He.free_ok X G (d.fact 65),
    He.free_ok X G (d.fact 66),
    He.int_ok X G (d.fact 67),
    He.int_ok X G (d.fact 68),
    He.int_ok X G (d.fact 69),
    He.int_ok X G (d.fact 70),
    He.int_ok X G (d.fact 71),
    He.glo_ok X G (d.fact 52),
    fun H => He.tupB_ok e1 H,
    He.glo_ok X G (d.fact 53),
    fun H => He.tupB_ok e2 H,
    He.glo_ok X G (d.fact 54),
    fun H => He.tupB_ok e3 H,
    He.noat_ok (d.fact 75),
    He.noat_ok (d.fact 76),
    He.noat_ok (d.fact 77),
    He.noat_ok (d.fact 78),
    He.glo_ok X G (d.fact 0),
    let ⟨fd, F⟩ := d.def_ 0 (d := dis_place); ⟨fd, toFun F⟩,
    He.glo_ok X G (d.fact 1),
    let ⟨fd, F⟩ := d.def_ 1 (d := dstands_right); ⟨fd, toFun F⟩,
    He.glo_ok X G (d.fact 2),
    let ⟨fd, F⟩ := d.def_ 2 (d := darea_many); ⟨fd, toFun F⟩,
    He.glo_ok X G (d.fact 3),
    let ⟨fd, F⟩ := d.def_ 3 (d := dis_area); ⟨fd, toFun F⟩,
    He.glo_ok X G (d.fact 4),
    let ⟨fd, F⟩ := d.def_ 4 (d := dasked_area); ⟨fd, toFun F⟩,
    He.glo_ok X G (d.fact 5),
    let ⟨fd, F⟩ := d.def_ 5 (d := darea_places); ⟨fd, toFun F⟩,
    He.glo_ok X G (d.fact 6),
    let ⟨fd, F⟩ := d.def_ 6 (d := dfault); ⟨fd, toFun F⟩,
    He.glo_ok X G (d.fact 7),
    let ⟨fd, F⟩ := d.def_ 7 (d := dis_fault); ⟨fd, toFun F⟩,
    He.glo_ok X G (d.fact 8),
    let ⟨fd, F⟩ := d.def_ 8 (d := dis_text); ⟨fd, toFun F⟩,
    He.glo_ok X G (d.fact 9),
    let ⟨fd, F⟩ := d.def_ 9 (d := dheld_number); ⟨fd, toFun F⟩,
    He.glo_ok X G (d.fact 10),
    let ⟨fd, F⟩ := d.def_ 10 (d := das_number); ⟨fd, toFun F⟩,
    He.glo_ok X G (d.fact 11),
    let ⟨fd, F⟩ := d.def_ 11 (d := das_text); ⟨fd, toFun F⟩,
    He.glo_ok X G (d.fact 12),
    let ⟨fd, F⟩ := d.def_ 12 (d := dsingle); ⟨fd, toFun F⟩,
    He.glo_ok X G (d.fact 13),
    let ⟨fd, F⟩ := d.def_ 13 (d := ddivided); ⟨fd, toFun F⟩,
    He.glo_ok X G (d.fact 14),
    let ⟨fd, F⟩ := d.def_ 14 (d := dreckoned); ⟨fd, toFun F⟩,
    He.glo_ok X G (d.fact 15),
    let ⟨fd, F⟩ := d.def_ 15 (d := djoined); ⟨fd, toFun F⟩,
    He.glo_ok X G (d.fact 16),
    let ⟨fd, F⟩ := d.def_ 16 (d := dsame_worth); ⟨fd, toFun F⟩,
    He.glo_ok X G (d.fact 17),
    let ⟨fd, F⟩ := d.def_ 17 (d := dahead_of); ⟨fd, toFun F⟩,
    He.glo_ok X G (d.fact 18),
    let ⟨fd, F⟩ := d.def_ 18 (d := dpaired); ⟨fd, toFun F⟩,
    He.glo_ok X G (d.fact 19),
    let ⟨fd, F⟩ := d.def_ 19 (d := dgathered); ⟨fd, toFun F⟩,
    He.meth_ok (d.fact 79),
    let ⟨fd, F⟩ := d.def_ 20 (d := m_init); ⟨fd, toFun F⟩,
    He.meth_ok (d.fact 80),
    let ⟨fd, F⟩ := d.def_ 21 (d := m_note); ⟨fd, toFun F⟩,
    He.meth_ok (d.fact 81),
    let ⟨fd, F⟩ := d.def_ 22 (d := m_seen); ⟨fd, toFun F⟩,
    He.meth_ok (d.fact 82),
    let ⟨fd, F⟩ := d.def_ 23 (d := m_read_cell); ⟨fd, toFun F⟩,
    He.meth_ok (d.fact 83),
    let ⟨fd, F⟩ := d.def_ 24 (d := m_read_area); ⟨fd, toFun F⟩,
    He.meth_ok (d.fact 84),
    let ⟨fd, F⟩ := d.def_ 25 (d := m_find_place); ⟨fd, toFun F⟩,
    He.glo_ok X G (d.fact 20),
    let ⟨fd, F⟩ := d.def_ 26 (d := dgone_on); ⟨fd, toFun F⟩,
    He.glo_ok X G (d.fact 21),
    let ⟨fd, F⟩ := d.def_ 27 (d := dlook_find); ⟨fd, toFun F⟩,
    He.glo_ok X G (d.fact 22),
    let ⟨fd, F⟩ := d.def_ 28 (d := dlook_if); ⟨fd, toFun F⟩,
    He.glo_ok X G (d.fact 23),
    let ⟨fd, F⟩ := d.def_ 29 (d := dlook_else); ⟨fd, toFun F⟩,
    He.glo_ok X G (d.fact 24),
    let ⟨fd, F⟩ := d.def_ 30 (d := dlook_pair); ⟨fd, toFun F⟩,
    He.glo_ok X G (d.fact 25),
    let ⟨fd, F⟩ := d.def_ 31 (d := dlook_area); ⟨fd, toFun F⟩,
    He.glo_ok X G (d.fact 26),
    let ⟨fd, F⟩ := d.def_ 32 (d := dlook_in); ⟨fd, toFun F⟩,
    He.glo_ok X G (d.fact 27),
    let ⟨fd, F⟩ := d.def_ 33 (d := dlook_at); ⟨fd, toFun F⟩,
    He.glo_ok X G (d.fact 28),
    let ⟨fd, F⟩ := d.def_ 34 (d := dlaw_cell_at); ⟨fd, toFun F⟩,
    He.glo_ok X G (d.fact 29),
    let ⟨fd, F⟩ := d.def_ 35 (d := dlaw_mixed); ⟨fd, toFun F⟩,
    He.glo_ok X G (d.fact 30),
    let ⟨fd, F⟩ := d.def_ 36 (d := dlaw_stream); ⟨fd, toFun F⟩,
    He.glo_ok X G (d.fact 31),
    let ⟨fd, F⟩ := d.def_ 37 (d := dlaw_digit); ⟨fd, toFun F⟩,
    He.glo_ok X G (d.fact 32),
    let ⟨fd, F⟩ := d.def_ 38 (d := dlaw_place); ⟨fd, toFun F⟩,
    He.glo_ok X G (d.fact 33),
    let ⟨fd, F⟩ := d.def_ 39 (d := dlaw_area); ⟨fd, toFun F⟩,
    He.glo_ok X G (d.fact 34),
    let ⟨fd, F⟩ := d.def_ 40 (d := dlaw_pins); ⟨fd, toFun F⟩,
    He.glo_ok X G (d.fact 35),
    let ⟨fd, F⟩ := d.def_ 41 (d := dlaw_number); ⟨fd, toFun F⟩,
    He.glo_ok X G (d.fact 36),
    let ⟨fd, F⟩ := d.def_ 42 (d := dlaw_leaf); ⟨fd, toFun F⟩,
    He.glo_ok X G (d.fact 37),
    let ⟨fd, F⟩ := d.def_ 43 (d := dlaw_formula); ⟨fd, toFun F⟩,
    He.glo_ok X G (d.fact 38),
    let ⟨fd, F⟩ := d.def_ 44 (d := dlaw_spot); ⟨fd, toFun F⟩,
    He.glo_ok X G (d.fact 39),
    let ⟨fd, F⟩ := d.def_ 45 (d := dlaw_worth); ⟨fd, toFun F⟩,
    He.glo_ok X G (d.fact 40),
    let ⟨fd, F⟩ := d.def_ 46 (d := dlaw_known); ⟨fd, toFun F⟩,
    He.glo_ok X G (d.fact 41),
    let ⟨fd, F⟩ := d.def_ 47 (d := dlaw_parts); ⟨fd, toFun F⟩,
    He.glo_ok X G (d.fact 42),
    let ⟨fd, F⟩ := d.def_ 48 (d := dlaw_pieces); ⟨fd, toFun F⟩,
    He.glo_ok X G (d.fact 43),
    let ⟨fd, F⟩ := d.def_ 49 (d := dlaw_same); ⟨fd, toFun F⟩,
    He.glo_ok X G (d.fact 44),
    let ⟨fd, F⟩ := d.def_ 50 (d := dlaw_after); ⟨fd, toFun F⟩,
    He.glo_ok X G (d.fact 45),
    let ⟨fd, F⟩ := d.def_ 51 (d := dlaw_two); ⟨fd, toFun F⟩,
    He.glo_ok X G (d.fact 46),
    let ⟨fd, F⟩ := d.def_ 52 (d := dlaw_if); ⟨fd, toFun F⟩,
    He.glo_ok X G (d.fact 47),
    let ⟨fd, F⟩ := d.def_ 53 (d := dlaw_else); ⟨fd, toFun F⟩,
    He.glo_ok X G (d.fact 48),
    let ⟨fd, F⟩ := d.def_ 54 (d := dlaw_leaf_look); ⟨fd, toFun F⟩,
    He.glo_ok X G (d.fact 49),
    let ⟨fd, F⟩ := d.def_ 55 (d := dlaw_due); ⟨fd, toFun F⟩,
    He.glo_ok X G (d.fact 50),
    let ⟨fd, F⟩ := d.def_ 56 (d := dlaw); ⟨fd, toFun F⟩⟩
end OL
namespace OL
open PySem

/-! ### worths -/
/-- a worth: blank, a number, a text, a fault -/
inductive Wo where
  | non | int (i : Int) | str (s : Str) | flt (w : Str)
  deriving DecidableEq
def Wo.d : Wo → PyData
  | .non => .none
  | .int i => .int i
  | .str s => .str s
  | .flt w => .tuple [.str "fault", .str w]
abbrev big : Int := 10 ^ 60
def Wo.ok : Wo → Prop
  | .non => True
  | .int i => -big ≤ i ∧ i ≤ big
  | .str s => s.length ≤ 200
  | .flt _ => True
def Wo.isT : Wo → Bool
  | .str _ => true
  | _ => false
def Wo.isF : Wo → Bool
  | .flt _ => true
  | _ => false
def Wo.num : Wo → Int
  | .int i => i
  | _ => 0
def Wo.txt : Wo → Str
  | .int i => (toString i : String)
  | .str s => s
  | _ => ""
def b2n (b : Bool) : Int := if b then 1 else 0
def heldM (n : Int) : Wo := if big < (if n < 0 then -n else n) then .flt "great" else .int n
theorem heldM_ok (n : Int) : (heldM n).ok := by
  unfold heldM
  by_cases h : big < (if n < 0 then -n else n)
  · rw [if_pos h]
    trivial
  · rw [if_neg h]
    show -big ≤ n ∧ n ≤ big
    by_cases h2 : n < 0
    · rw [if_pos h2] at h
      omega
    · rw [if_neg h2] at h
      omega
def singleM (word : Str) : Wo → Wo
  | .flt w => .flt w
  | .str _ => .flt "kind"
  | w => if word = "minus" then .int (-w.num) else .int (b2n (decide (w.num = 0)))
def divM (op : Str) (a b : Int) : Wo := if b = 0 then .flt "nought" else if op = "/" then .int (a.fdiv b) else .int (a.fmod b)
def reckM (op : Str) (a b : Int) : Wo := if op = "+" then heldM (a + b) else if op = "-" then heldM (a - b) else if op = "*" then heldM (a * b) else divM op a b
def joinM (a b : Wo) : Wo := if 200 < (a.txt ++ b.txt).length then .flt "great" else .str (a.txt ++ b.txt)
def sameM (a b : Wo) : Bool :=
  if a.isF || b.isF then false
  else if a.isT || b.isT then
    (if decide (a = .non) || decide (b = .non) then decide (a.txt = b.txt) else a.isT && (b.isT && decide (a.txt = b.txt)))
  else decide (a.num = b.num)
def aheadM (a b : Wo) : Wo :=
  if a.isT || b.isT then
    (if !decide (a = .non) && (!decide (b = .non) && (a.isT != b.isT)) then .flt "kind" else .int (b2n (decide (a.txt.cps.toList < b.txt.cps.toList))))
  else .int (b2n (decide (a.num < b.num)))
def pairedM (op : Str) (a b : Wo) : Wo :=
  if a.isF then a
  else if b.isF then b
  else if op = "&" then joinM a b
  else if op = "=" then .int (b2n (sameM a b))
  else if op = "<" then aheadM a b
  else if a.isT || b.isT then .flt "kind"
  else reckM op a.num b.num
def intsOf : List Wo → List Int
  | [] => []
  | .int i :: r => i :: intsOf r
  | _ :: r => intsOf r
def firstF : List Wo → Option Wo
  | [] => none
  | .flt w :: _ => some (.flt w)
  | _ :: r => firstF r
def maxM : List Int → Int
  | [] => 0
  | [a] => a
  | a :: b :: r => if maxM (b :: r) < a then a else maxM (b :: r)
def minM : List Int → Int
  | [] => 0
  | [a] => a
  | a :: b :: r => if a < minM (b :: r) then a else minM (b :: r)
def gathM (word : Str) (ws : List Wo) : Wo :=
  match firstF ws with
  | some w => w
  | none =>
    if word = "sum" then heldM (intsOf ws).sum
    else if word = "count" then .int ((intsOf ws).length : Nat)
    else if (intsOf ws).length = 0 then .flt "none"
    else if word = "least" then .int (minM (intsOf ws))
    else .int (maxM (intsOf ws))
theorem b2n_ok (b : Bool) : (Wo.int (b2n b)).ok := by
  cases b
  · show -big ≤ 0 ∧ (0 : Int) ≤ big
    decide
  · show -big ≤ 1 ∧ (1 : Int) ≤ big
    decide
theorem num_ok {w : Wo} (h : w.ok) : -big ≤ w.num ∧ w.num ≤ big := by
  cases w with
  | int i => exact h
  | non => exact (by decide : -big ≤ 0 ∧ (0 : Int) ≤ big)
  | str s => exact (by decide : -big ≤ 0 ∧ (0 : Int) ≤ big)
  | flt s => exact (by decide : -big ≤ 0 ∧ (0 : Int) ≤ big)
theorem singleM_ok (word : Str) {w : Wo} (h : w.ok) : (singleM word w).ok := by
  have hn := num_ok h
  cases w with
  | flt w => trivial
  | str s => trivial
  | non =>
    show (if word = "minus" then Wo.int (-0) else Wo.int (b2n (decide ((0 : Int) = 0)))).ok
    split
    · exact (by decide : -big ≤ -0 ∧ (-0 : Int) ≤ big)
    · exact b2n_ok _
  | int i =>
    show (if word = "minus" then Wo.int (-i) else Wo.int (b2n (decide (i = 0)))).ok
    split
    · have h2 : -big ≤ i ∧ i ≤ big := h
      exact ⟨by omega, by omega⟩
    · exact b2n_ok _
theorem fdiv_pos {a b : Int} (hp : 0 < b) : (a.fdiv b).natAbs ≤ a.natAbs := by
  have h := Int.mul_fdiv_add_fmod a b
  have h1 : 0 ≤ a.fmod b := Int.fmod_nonneg_of_pos a hp
  have h2 : a.fmod b < b := Int.fmod_lt_of_pos a hp
  generalize hq : a.fdiv b = q at *
  generalize hr : a.fmod b = r at *
  by_cases h0 : 0 ≤ q
  · have : 1 * q ≤ b * q := Int.mul_le_mul_of_nonneg_right (show 1 ≤ b by omega) h0
    omega
  · have h4 : 1 * (-q - 1) ≤ b * (-q - 1) := Int.mul_le_mul_of_nonneg_right (by omega) (by omega)
    have h5 : b * (-q - 1) = -(b * q) - b := by rw [Int.mul_sub, Int.mul_neg, Int.mul_one]
    omega
theorem fdiv_bound {a b : Int} (hb : b ≠ 0) : (a.fdiv b).natAbs ≤ a.natAbs := by
  rcases Int.lt_or_gt_of_ne hb with hn | hp
  · have h := fdiv_pos (a := -a) (b := -b) (by omega)
    rw [Int.neg_fdiv_neg] at h
    omega
  · exact fdiv_pos hp
theorem fmod_bound {a b : Int} (hb : b ≠ 0) : (a.fmod b).natAbs ≤ b.natAbs := by
  rcases Int.lt_or_gt_of_ne hb with hn | hp
  · have h1 : 0 ≤ (-a).fmod (-b) := Int.fmod_nonneg_of_pos _ (by omega)
    have h2 : (-a).fmod (-b) < -b := Int.fmod_lt_of_pos _ (by omega)
    rw [Int.neg_fmod_neg] at h1 h2
    omega
  · have h1 : 0 ≤ a.fmod b := Int.fmod_nonneg_of_pos a hp
    have h2 : a.fmod b < b := Int.fmod_lt_of_pos a hp
    omega
theorem divM_ok (op : Str) {a b : Int} (ha : -big ≤ a ∧ a ≤ big) (hb : -big ≤ b ∧ b ≤ big) : (divM op a b).ok := by
  unfold divM
  split
  · trivial
  · rename_i h
    split
    · have := fdiv_bound (a := a) h
      show -big ≤ a.fdiv b ∧ a.fdiv b ≤ big
      omega
    · have := fmod_bound (a := a) h
      show -big ≤ a.fmod b ∧ a.fmod b ≤ big
      omega
theorem reckM_ok (op : Str) {a b : Int} (ha : -big ≤ a ∧ a ≤ big) (hb : -big ≤ b ∧ b ≤ big) : (reckM op a b).ok := by
  unfold reckM
  split
  · exact heldM_ok _
  · split
    · exact heldM_ok _
    · split
      · exact heldM_ok _
      · exact divM_ok op ha hb
theorem joinM_ok (a b : Wo) : (joinM a b).ok := by
  unfold joinM
  split
  · trivial
  · show (a.txt ++ b.txt).length ≤ 200
    omega
theorem aheadM_ok (a b : Wo) : (aheadM a b).ok := by
  unfold aheadM
  split
  · split
    · trivial
    · exact b2n_ok _
  · exact b2n_ok _
theorem pairedM_ok (op : Str) {a b : Wo} (ha : a.ok) (hb : b.ok) : (pairedM op a b).ok := by
  unfold pairedM
  split
  · exact ha
  · split
    · exact hb
    · split
      · exact joinM_ok a b
      · split
        · exact b2n_ok _
        · split
          · exact aheadM_ok a b
          · split
            · trivial
            · exact reckM_ok op (num_ok ha) (num_ok hb)
theorem intsOf_ok : ∀ {ws : List Wo}, (∀ w ∈ ws, w.ok) → ∀ i ∈ intsOf ws, -big ≤ i ∧ i ≤ big
  | [], _, i, hi => by cases hi
  | w :: r, h, i, hi => by
    have hr := intsOf_ok (ws := r) fun x hx => h x (List.mem_cons_of_mem _ hx)
    have hw := h w (List.mem_cons_self ..)
    cases w with
    | int j =>
      rcases List.mem_cons.mp (show i ∈ j :: intsOf r from hi) with e | hi
      · rw [e]; exact hw
      · exact hr i hi
    | non => exact hr i hi
    | str s => exact hr i hi
    | flt s => exact hr i hi
theorem intsOf_len : ∀ ws : List Wo, (intsOf ws).length ≤ ws.length
  | [] => Nat.le_refl _
  | w :: r => by
    have h := intsOf_len r
    cases w <;> simp only [intsOf, List.length_cons] <;> omega
theorem maxM_spec : ∀ {l : List Int}, l ≠ [] → maxM l ∈ l ∧ ∀ y ∈ l, y ≤ maxM l
  | [], h => absurd rfl h
  | [a], _ => ⟨List.mem_cons_self .., fun y hy => by
    have e : y = a := by simpa using hy
    rw [e]
    exact Int.le_refl _⟩
  | a :: b :: r, _ => by
    obtain ⟨h1, h2⟩ := maxM_spec (l := b :: r) (by simp)
    show (if maxM (b :: r) < a then a else maxM (b :: r)) ∈ a :: b :: r ∧ ∀ y ∈ a :: b :: r, y ≤ (if maxM (b :: r) < a then a else maxM (b :: r))
    split
    · rename_i h
      refine ⟨List.mem_cons_self .., fun y hy => ?_⟩
      rcases List.mem_cons.mp hy with e | hy
      · rw [e]; exact Int.le_refl _
      · have := h2 y hy
        omega
    · rename_i h
      refine ⟨List.mem_cons_of_mem _ h1, fun y hy => ?_⟩
      rcases List.mem_cons.mp hy with e | hy
      · rw [e]; omega
      · exact h2 y hy
theorem minM_spec : ∀ {l : List Int}, l ≠ [] → minM l ∈ l ∧ ∀ y ∈ l, minM l ≤ y
  | [], h => absurd rfl h
  | [a], _ => ⟨List.mem_cons_self .., fun y hy => by
    have e : y = a := by simpa using hy
    rw [e]
    exact Int.le_refl _⟩
  | a :: b :: r, _ => by
    obtain ⟨h1, h2⟩ := minM_spec (l := b :: r) (by simp)
    show (if a < minM (b :: r) then a else minM (b :: r)) ∈ a :: b :: r ∧ ∀ y ∈ a :: b :: r, (if a < minM (b :: r) then a else minM (b :: r)) ≤ y
    split
    · rename_i h
      refine ⟨List.mem_cons_self .., fun y hy => ?_⟩
      rcases List.mem_cons.mp hy with e | hy
      · rw [e]; exact Int.le_refl _
      · have := h2 y hy
        omega
    · rename_i h
      refine ⟨List.mem_cons_of_mem _ h1, fun y hy => ?_⟩
      rcases List.mem_cons.mp hy with e | hy
      · rw [e]; omega
      · exact h2 y hy
theorem firstF_ok : ∀ {ws : List Wo} {w : Wo}, firstF ws = some w → ∃ x, w = .flt x
  | [], w, h => by cases h
  | v :: r, w, h => by
    cases v with
    | flt x => exact ⟨x, (Option.some.inj h).symm⟩
    | non => exact firstF_ok (ws := r) h
    | int _ => exact firstF_ok (ws := r) h
    | str _ => exact firstF_ok (ws := r) h
theorem gathM_ok (word : Str) {ws : List Wo} (h : ∀ w ∈ ws, w.ok) (hl : ws.length ≤ 1000) : (gathM word ws).ok := by
  unfold gathM
  split
  · rename_i w e
    obtain ⟨x, rfl⟩ := firstF_ok e
    trivial
  · split
    · exact heldM_ok _
    · split
      · have h1 := intsOf_len ws
        show -big ≤ ((intsOf ws).length : Int) ∧ ((intsOf ws).length : Int) ≤ big
        have h2 : (1000 : Int) ≤ big := by decide
        omega
      · split
        · trivial
        · rename_i h0
          have hne : intsOf ws ≠ [] := fun z => h0 (by rw [z]; rfl)
          split
          · exact intsOf_ok h _ (minM_spec hne).1
          · exact intsOf_ok h _ (maxM_spec hne).1
end OL
namespace OL
open PySem

/-! ### places, areas, items, formulas -/
abbrev Pl := Int × Int
structure Ar where
  t : Int
  l : Int
  b : Int
  r : Int
  deriving DecidableEq
def plD (p : Pl) : PyData := .tuple [.int p.1, .int p.2]
def Ar.d (a : Ar) : PyData := .tuple [.int a.t, .int a.l, .int a.b, .int a.r]
def Ar.ok (a : Ar) : Prop := 0 ≤ a.t ∧ a.t ≤ a.b ∧ a.b < 99 ∧ 0 ≤ a.l ∧ a.l ≤ a.r ∧ a.r < 26 ∧ (a.b - a.t + 1) * (a.r - a.l + 1) ≤ 300
def rowP (y l : Int) (n : Nat) : List Pl := (List.range n).map fun j => (y, l + ((j : Nat) : Int))
def Ar.places (a : Ar) : List Pl := (List.range (a.b + 1 - a.t).toNat).flatMap fun i => rowP (a.t + ((i : Nat) : Int)) a.l (a.r + 1 - a.l).toNat
inductive Itm where
  | cell (p : Pl) | part (a : Ar) (p : Pl)
  deriving DecidableEq
def Itm.d : Itm → PyData
  | .cell p => .tuple [.str "at", plD p]
  | .part a p => .tuple [.str "part", a.d, plD p]
inductive Fm where
  | num (i : Int) | text (s : Str) | lost | at (p : Pl) (ps : List Int) | gat (w : Str) (a : Ar) (ps : List Int)
  | one (w : Str) (f : Fm) | find (f : Fm) (a : Ar) (ps : List Int) | ite (f g h : Fm) | els (f g : Fm) | two (w : Str) (f g : Fm)
def psD (ps : List Int) : PyData := .tuple (ps.map .int)
def Fm.d : Fm → PyData
  | .num i => .tuple [.str "num", .int i]
  | .text s => .tuple [.str "text", .str s]
  | .lost => .tuple [.str "lost"]
  | .at p ps => .tuple [.str "at", plD p, psD ps]
  | .gat w a ps => .tuple [.str w, a.d, psD ps]
  | .one w f => .tuple [.str w, f.d]
  | .find f a ps => .tuple [.str "find", f.d, a.d, psD ps]
  | .ite f g h => .tuple [.str "if", f.d, g.d, h.d]
  | .els f g => .tuple [.str "else", f.d, g.d]
  | .two w f g => .tuple [.str w, f.d, g.d]
def gws : List Str := ["sum", "count", "least", "greatest"]
def sws : List Str := ["minus", "not"]
def ows : List Str := ["rest", "+", "-", "*", "/", "<", "=", "&"]
def Fm.ok : Nat → Fm → Prop
  | _, .num i => -big ≤ i ∧ i ≤ big
  | _, .text s => s.length ≤ 200
  | _, .lost => True
  | _, .at _ ps => ps ≠ []
  | _, .gat w a ps => w ∈ gws ∧ a.ok ∧ ps ≠ []
  | n + 1, .one w f => w ∈ sws ∧ f.ok n
  | n + 1, .find f a ps => f.ok n ∧ a.ok ∧ ps ≠ []
  | n + 1, .ite f g h => f.ok n ∧ g.ok n ∧ h.ok n
  | n + 1, .els f g => f.ok n ∧ g.ok n
  | n + 1, .two w f g => w ∈ ows ∧ f.ok n ∧ g.ok n
  | 0, _ => False
theorem Fm.ok_up : ∀ {f : Fm} {n : Nat}, f.ok n → f.ok (n + 1)
  | .num _, n, h => by cases n <;> exact h
  | .text _, n, h => by cases n <;> exact h
  | .lost, n, h => by cases n <;> exact h
  | .at _ _, n, h => by cases n <;> exact h
  | .gat _ _ _, n, h => by cases n <;> exact h
  | .one _ f, n + 1, h => ⟨h.1, Fm.ok_up (f := f) h.2⟩
  | .find f _ _, n + 1, h => ⟨Fm.ok_up (f := f) h.1, h.2⟩
  | .ite f g k, n + 1, h => ⟨Fm.ok_up (f := f) h.1, Fm.ok_up (f := g) h.2.1, Fm.ok_up (f := k) h.2.2⟩
  | .els f g, n + 1, h => ⟨Fm.ok_up (f := f) h.1, Fm.ok_up (f := g) h.2⟩
  | .two _ f g, n + 1, h => ⟨h.1, Fm.ok_up (f := f) h.2.1, Fm.ok_up (f := g) h.2.2⟩
  | .one _ _, 0, h => False.elim h
  | .find _ _ _, 0, h => False.elim h
  | .ite _ _ _, 0, h => False.elim h
  | .els _ _, 0, h => False.elim h
  | .two _ _ _, 0, h => False.elim h

/-! ### what is known, a look -/
structure Kn where
  wt : Pl → Bool
  wv : Pl → Wo
  ok : ∀ p, (wv p).ok
inductive Res where
  | waits (p : Pl) | worth (w : Wo)
  deriving DecidableEq
def Res.ok : Res → Prop
  | .waits _ => True
  | .worth w => w.ok
def Res.stops : Res → Bool
  | .waits _ => true
  | .worth w => w.isF
def Res.w : Res → Wo
  | .waits _ => .non
  | .worth w => w
def Kn.seen (k : Kn) (p : Pl) : Res := if k.wt p then .waits p else .worth (k.wv p)
theorem Kn.seen_ok (k : Kn) (p : Pl) : (k.seen p).ok := by
  unfold Kn.seen
  split
  · trivial
  · exact k.ok p
/-- those read: up to the first that stops -/
def cutBy (st : Pl → Bool) : List Pl → List Pl
  | [] => []
  | p :: ps => if st p then [p] else p :: cutBy st ps
theorem cutBy_stop {st : Pl → Bool} : ∀ {ps : List Pl} {i : Nat} {p : Pl}, ps[i]? = some p → (∀ q ∈ ps.take i, st q = false) → st p = true → cutBy st ps = ps.take (i + 1) ∧ ps.find? st = some p
  | [], i, p, h, _, _ => by simp at h
  | x :: ps, 0, p, h, _, hp => by
    have e : x = p := by simpa using h
    subst e
    exact ⟨by simp [cutBy, hp], by simp [List.find?, hp]⟩
  | x :: ps, i + 1, p, h, hq, hp => by
    have hx : st x = false := hq x (by simp)
    obtain ⟨e1, e2⟩ := cutBy_stop (ps := ps) (i := i) (p := p) (by simpa using h) (fun q z => hq q (by rw [List.take_succ_cons]; exact List.mem_cons_of_mem _ z)) hp
    refine ⟨?_, ?_⟩
    · show (if st x then [x] else x :: cutBy st ps) = x :: ps.take (i + 1)
      rw [hx, e1]
      all_goals rfl
    · simp [List.find?, hx, e2]
theorem cutBy_all {st : Pl → Bool} : ∀ {ps : List Pl}, (∀ q ∈ ps, st q = false) → cutBy st ps = ps ∧ ps.find? st = none
  | [], _ => ⟨rfl, rfl⟩
  | x :: ps, h => by
    have hx : st x = false := h x (List.mem_cons_self ..)
    obtain ⟨e1, e2⟩ := cutBy_all (ps := ps) fun q z => h q (List.mem_cons_of_mem _ z)
    refine ⟨?_, ?_⟩
    · show (if st x then [x] else x :: cutBy st ps) = x :: ps
      rw [hx, e1]
      all_goals rfl
    · simp [List.find?, hx, e2]
/-- the places read of an area -/
def cut (k : Kn) (ps : List Pl) : List Pl := cutBy (fun p => (k.seen p).stops) ps
def lastP (ps : List Pl) : Pl := ps.getLastD (0, 0)
def areaR (k : Kn) (w : Str) (ps : List Pl) : Res := match k.seen (lastP (cut k ps)) with
  | .waits p => .waits p
  | .worth _ => .worth (gathM w ((cut k ps).map fun p => (k.seen p).w))
inductive Fd where
  | no | stop (r : Res) | hit (p : Pl)
def fst (k : Kn) (key : Wo) (p : Pl) : Bool := (k.seen p).stops || (!decide ((k.seen p).w = .non) && sameM (k.seen p).w key)
def fcut (k : Kn) (key : Wo) (ps : List Pl) : List Pl := cutBy (fst k key) ps
def fres (k : Kn) (key : Wo) (ps : List Pl) : Fd := match ps.find? (fst k key) with
  | none => .no
  | some p => if (k.seen p).stops then .stop (k.seen p) else .hit p
def note (it : Itm) (rs : List Itm) : List Itm := if it ∈ rs then rs else rs ++ [it]
abbrev LK := Res × List Itm
def colA (a : Ar) : Ar := ⟨a.t, a.l, a.b, a.l⟩
def lookM (k : Kn) : Fm → List Itm → LK
  | .num i, rs => (.worth (.int i), rs)
  | .text s, rs => (.worth (.str s), rs)
  | .lost, rs => (.worth (.flt "lost"), rs)
  | .at p _, rs => (k.seen p, note (.cell p) rs)
  | .gat w a _, rs => (areaR k w a.places, note (.part a (lastP (cut k a.places))) rs)
  | .one w f, rs => match lookM k f rs with
    | (.waits p, r1) => (.waits p, r1)
    | (.worth v, r1) => (.worth (singleM w v), r1)
  | .find f a _, rs => match lookM k f rs with
    | (.waits p, r1) => (.waits p, r1)
    | (.worth v, r1) =>
      if v.isF then (.worth v, r1)
      else if v = .non then (.worth (.flt "none"), r1)
      else match fres k v (colA a).places with
        | .no => (.worth (.flt "none"), note (.part (colA a) (lastP (fcut k v (colA a).places))) r1)
        | .stop r => (r, note (.part (colA a) (lastP (fcut k v (colA a).places))) r1)
        | .hit p => (k.seen (p.1, a.r), note (.cell (p.1, a.r)) (note (.part (colA a) (lastP (fcut k v (colA a).places))) r1))
  | .ite f g h, rs => match lookM k f rs with
    | (.waits p, r1) => (.waits p, r1)
    | (.worth v, r1) =>
      if v.isF then (.worth v, r1)
      else if v.isT then (.worth (.flt "kind"), r1)
      else if v.num = 0 then lookM k h r1
      else lookM k g r1
  | .els f g, rs => match lookM k f rs with
    | (.waits p, r1) => (.waits p, r1)
    | (.worth v, r1) => if v.isF then lookM k g r1 else (.worth v, r1)
  | .two w f g, rs => match lookM k f rs with
    | (.waits p, r1) => (.waits p, r1)
    | (.worth v, r1) =>
      if v.isF then (.worth v, r1)
      else match lookM k g r1 with
        | (.waits p, r2) => (.waits p, r2)
        | (.worth u, r2) => (.worth (pairedM w v u), r2)

/-! ### reads put together -/
def mrg (rs xs : List Itm) : List Itm := xs.foldl (fun r x => note x r) rs
theorem mem_note {x y : Itm} {rs : List Itm} : y ∈ note x rs ↔ y ∈ rs ∨ y = x := by
  unfold note
  split
  · rename_i h
    exact ⟨fun z => .inl z, fun z => z.elim id fun e => e ▸ h⟩
  · rw [List.mem_append, List.mem_singleton]
theorem mem_mrg {y : Itm} : ∀ {xs rs : List Itm}, y ∈ mrg rs xs ↔ y ∈ rs ∨ y ∈ xs
  | [], rs => by simp [mrg]
  | x :: xs, rs => by
    show y ∈ mrg (note x rs) xs ↔ _
    rw [mem_mrg (xs := xs), mem_note, List.mem_cons]
    exact ⟨fun h => h.elim (fun h => h.elim .inl fun e => .inr (.inl e)) fun h => .inr (.inr h), fun h => h.elim (fun h => .inl (.inl h)) fun h => h.elim (fun e => .inl (.inr e)) .inr⟩
theorem mrg_snoc (rs xs : List Itm) (y : Itm) : mrg rs (xs ++ [y]) = note y (mrg rs xs) := by
  unfold mrg
  rw [List.foldl_append] <;> rfl
theorem mrg_note (rs xs : List Itm) (y : Itm) : mrg rs (note y xs) = note y (mrg rs xs) := by
  by_cases h : y ∈ xs
  · have h2 : y ∈ mrg rs xs := mem_mrg.mpr (.inr h)
    rw [note, if_pos h, note, if_pos h2]
  · rw [show note y xs = xs ++ [y] from by rw [note, if_neg h], mrg_snoc]
theorem mrg_mrg (rs xs : List Itm) : ∀ ys, mrg rs (mrg xs ys) = mrg (mrg rs xs) ys := by
  intro ys
  induction ys generalizing xs with
  | nil => rfl
  | cons y ys ih =>
    show mrg rs (mrg (note y xs) ys) = mrg (note y (mrg rs xs)) ys
    rw [ih, mrg_note]
theorem nodup_note {x : Itm} {rs : List Itm} (h : rs.Nodup) : (note x rs).Nodup := by
  unfold note
  split
  · exact h
  · rename_i n
    rw [List.nodup_append]
    refine ⟨h, List.nodup_cons.mpr ⟨List.not_mem_nil, List.nodup_nil⟩, fun a ha b hb => ?_⟩
    rw [List.mem_singleton] at hb
    intro e
    exact n (by rw [← hb, ← e]; exact ha)
theorem nodup_mrg : ∀ {xs rs : List Itm}, rs.Nodup → (mrg rs xs).Nodup
  | [], _, h => h
  | x :: xs, rs, h => nodup_mrg (xs := xs) (nodup_note h)
theorem mrg_filter : ∀ {xs rs : List Itm}, xs.Nodup → mrg rs xs = rs ++ xs.filter fun x => decide (x ∉ rs)
  | [], rs, _ => by simp [mrg]
  | x :: xs, rs, h => by
    obtain ⟨hx, hn⟩ := List.nodup_cons.mp h
    show mrg (note x rs) xs = _
    rw [mrg_filter hn]
    by_cases hr : x ∈ rs
    · rw [show note x rs = rs from by rw [note, if_pos hr], List.filter_cons, if_neg (by simpa using hr)]
    · have e : note x rs = rs ++ [x] := by rw [note, if_neg hr]
      rw [e, List.filter_cons, if_pos (by simpa using hr), List.append_assoc]
      refine congrArg (fun z => rs ++ z) ?_
      show [x] ++ xs.filter _ = x :: xs.filter _
      refine congrArg (fun z => x :: z) (List.filter_congr fun y hy => ?_)
      have hne : y ≠ x := fun z => hx (z ▸ hy)
      have : (y ∉ rs ++ [x]) ↔ (y ∉ rs) := by
        rw [List.mem_append, List.mem_singleton]
        exact ⟨fun h z => h (.inl z), fun h z => z.elim h hne⟩
      exact decide_eq_decide.mpr this
theorem lookM_mrg (k : Kn) : ∀ (f : Fm) (rs : List Itm), lookM k f rs = ((lookM k f []).1, mrg rs (lookM k f []).2)
  | .num _, _ => rfl
  | .text _, _ => rfl
  | .lost, _ => rfl
  | .at _ _, _ => rfl
  | .gat _ _ _, _ => rfl
  | .one w f, rs => by
    simp only [lookM]
    rw [lookM_mrg k f rs]
    generalize lookM k f [] = L
    obtain ⟨r, R⟩ := L
    cases r <;> rfl
  | .find f a ps, rs => by
    simp only [lookM]
    rw [lookM_mrg k f rs]
    generalize lookM k f [] = L
    obtain ⟨r, R⟩ := L
    cases r with
    | waits p => rfl
    | worth v =>
      simp only
      by_cases h1 : v.isF = true
      · rw [if_pos h1, if_pos h1]
      · rw [if_neg h1, if_neg h1]
        by_cases h2 : v = .non
        · rw [if_pos h2, if_pos h2]
        · rw [if_neg h2, if_neg h2]
          cases fres k v (colA a).places with
          | no => simp only [mrg_note]
          | stop r => simp only [mrg_note]
          | hit p => simp only [mrg_note]
  | .ite f g h, rs => by
    simp only [lookM]
    rw [lookM_mrg k f rs]
    generalize lookM k f [] = L
    obtain ⟨r, R⟩ := L
    cases r with
    | waits p => rfl
    | worth v =>
      simp only
      by_cases h1 : v.isF = true
      · rw [if_pos h1, if_pos h1]
      · rw [if_neg h1, if_neg h1]
        by_cases h2 : v.isT = true
        · rw [if_pos h2, if_pos h2]
        · rw [if_neg h2, if_neg h2]
          by_cases h3 : v.num = 0
          · rw [if_pos h3, if_pos h3, lookM_mrg k h (mrg rs R), lookM_mrg k h R, mrg_mrg]
          · rw [if_neg h3, if_neg h3, lookM_mrg k g (mrg rs R), lookM_mrg k g R, mrg_mrg]
  | .els f g, rs => by
    simp only [lookM]
    rw [lookM_mrg k f rs]
    generalize lookM k f [] = L
    obtain ⟨r, R⟩ := L
    cases r with
    | waits p => rfl
    | worth v =>
      simp only
      by_cases h1 : v.isF = true
      · rw [if_pos h1, if_pos h1, lookM_mrg k g (mrg rs R), lookM_mrg k g R, mrg_mrg]
      · rw [if_neg h1, if_neg h1]
  | .two w f g, rs => by
    simp only [lookM]
    rw [lookM_mrg k f rs]
    generalize lookM k f [] = L
    obtain ⟨r, R⟩ := L
    cases r with
    | waits p => rfl
    | worth v =>
      simp only
      by_cases h1 : v.isF = true
      · rw [if_pos h1, if_pos h1]
      · rw [if_neg h1, if_neg h1, lookM_mrg k g (mrg rs R), lookM_mrg k g R]
        generalize lookM k g [] = M
        obtain ⟨r2, R2⟩ := M
        cases r2 <;> simp only [mrg_mrg]
theorem lookM_nodup (k : Kn) : ∀ (f : Fm) {rs : List Itm}, rs.Nodup → (lookM k f rs).2.Nodup
  | .num _, _, h => h
  | .text _, _, h => h
  | .lost, _, h => h
  | .at _ _, _, h => nodup_note h
  | .gat _ _ _, _, h => nodup_note h
  | .one w f, rs, h => by
    have h1 := lookM_nodup k f h
    simp only [lookM]
    generalize lookM k f rs = L at *
    obtain ⟨r, R⟩ := L
    cases r <;> exact h1
  | .find f a ps, rs, h => by
    have h1 := lookM_nodup k f h
    simp only [lookM]
    generalize lookM k f rs = L at *
    obtain ⟨r, R⟩ := L
    cases r with
    | waits p => exact h1
    | worth v =>
      simp only
      split
      · exact h1
      · split
        · exact h1
        · split
          · exact nodup_note h1
          · exact nodup_note h1
          · exact nodup_note (nodup_note h1)
  | .ite f g j, rs, h => by
    have h1 := lookM_nodup k f h
    simp only [lookM]
    generalize lookM k f rs = L at *
    obtain ⟨r, R⟩ := L
    cases r with
    | waits p => exact h1
    | worth v =>
      simp only
      split
      · exact h1
      · split
        · exact h1
        · split
          · exact lookM_nodup k j h1
          · exact lookM_nodup k g h1
  | .els f g, rs, h => by
    have h1 := lookM_nodup k f h
    simp only [lookM]
    generalize lookM k f rs = L at *
    obtain ⟨r, R⟩ := L
    cases r with
    | waits p => exact h1
    | worth v =>
      simp only
      split
      · exact lookM_nodup k g h1
      · exact h1
  | .two w f g, rs, h => by
    have h1 := lookM_nodup k f h
    simp only [lookM]
    generalize lookM k f rs = L at *
    obtain ⟨r, R⟩ := L
    cases r with
    | waits p => exact h1
    | worth v =>
      simp only
      split
      · exact h1
      · have h2 := lookM_nodup k g h1
        generalize lookM k g R = M at *
        obtain ⟨r2, R2⟩ := M
        cases r2 <;> exact h2

/-! ### the law's own putting together -/
def afterM (rs : List Itm) (L : LK) : LK := (L.1, rs ++ L.2.filter fun x => decide (x ∉ rs))
def oneM (w : Str) (a : LK) : LK := match a.1 with
  | .waits _ => a
  | .worth v => (.worth (singleM w v), a.2)
def twoM (w : Str) (a b : LK) : LK := if a.1.stops then a else match (afterM a.2 b).1 with
  | .waits _ => afterM a.2 b
  | .worth u => (.worth (pairedM w a.1.w u), (afterM a.2 b).2)
def ifM (a b c : LK) : LK := if a.1.stops then a else if a.1.w.isT then (.worth (.flt "kind"), a.2) else if a.1.w.num = 0 then afterM a.2 c else afterM a.2 b
def elseM (a b : LK) : LK := match a.1 with
  | .waits _ => a
  | .worth v => if v.isF then afterM a.2 b else a
theorem after_eq (k : Kn) (g : Fm) (R : List Itm) : lookM k g R = afterM R (lookM k g []) := by
  rw [lookM_mrg]
  unfold afterM
  rw [mrg_filter (lookM_nodup k g List.nodup_nil)]
theorem one_eq (k : Kn) (w : Str) (f : Fm) : lookM k (.one w f) [] = oneM w (lookM k f []) := by
  simp only [lookM]
  generalize lookM k f [] = L
  obtain ⟨r, R⟩ := L
  cases r <;> rfl
theorem two_eq (k : Kn) (w : Str) (f g : Fm) : lookM k (.two w f g) [] = twoM w (lookM k f []) (lookM k g []) := by
  simp only [lookM]
  generalize lookM k f [] = L
  obtain ⟨r, R⟩ := L
  cases r with
  | waits p => rfl
  | worth v =>
    simp only
    by_cases h1 : v.isF = true
    · have e : twoM w (.worth v, R) (lookM k g []) = (.worth v, R) := if_pos h1
      rw [e, if_pos h1]
    · have e : twoM w (.worth v, R) (lookM k g []) = (match (afterM R (lookM k g [])).1 with
        | .waits _ => afterM R (lookM k g [])
        | .worth u => (.worth (pairedM w v u), (afterM R (lookM k g [])).2)) := if_neg h1
      rw [e, if_neg h1, after_eq]
      generalize afterM R (lookM k g []) = M
      obtain ⟨r2, R2⟩ := M
      cases r2 <;> rfl
theorem if_eq (k : Kn) (f g h : Fm) : lookM k (.ite f g h) [] = ifM (lookM k f []) (lookM k g []) (lookM k h []) := by
  simp only [lookM]
  generalize lookM k f [] = L
  obtain ⟨r, R⟩ := L
  cases r with
  | waits p => rfl
  | worth v =>
    unfold ifM
    simp only [Res.stops, Res.w]
    rw [after_eq k g R, after_eq k h R]
    all_goals rfl
theorem else_eq (k : Kn) (f g : Fm) : lookM k (.els f g) [] = elseM (lookM k f []) (lookM k g []) := by
  simp only [lookM]
  generalize lookM k f [] = L
  obtain ⟨r, R⟩ := L
  cases r with
  | waits p => rfl
  | worth v =>
    unfold elseM
    simp only
    rw [after_eq k g R]
/-- what a look tells, as data -/
def LK.d (L : LK) : PyData := match L.1 with
  | .waits p => .tuple [.str "waits", plD p, .tuple (L.2.map Itm.d)]
  | .worth w => .tuple [.str "worth", w.d, .tuple (L.2.map Itm.d)]
end OL
namespace OL
open PySem PySem.Spec PyProof.Rows L2

theorem ifd {c A B : Prop} [Decidable c] (hc : c) (h : A) : if decide c = true then A else B := by
  rw [decide_eq_true hc, if_pos rfl]
  exact h
theorem ifn {c A B : Prop} [Decidable c] (hc : ¬ c) (h : B) : if decide c = true then A else B := by
  rw [decide_eq_false hc, if_neg (by decide)]
  exact h
theorem ifb {b : Bool} {A B : Prop} (hb : b = true) (h : A) : if b = true then A else B := by
  rw [if_pos hb]
  exact h
theorem ifbn {b : Bool} {A B : Prop} (hb : b = false) (h : B) : if b = true then A else B := by
  rw [if_neg (by rw [hb]; decide)]
  exact h
abbrev plV (p : Pl) : HO := .tup [.int p.1, .int p.2]
abbrev arV (a : Ar) : HO := .tup [.int a.t, .int a.l, .int a.b, .int a.r]
def plOk (p : Pl) : Prop := 0 ≤ p.1 ∧ p.1 < 99 ∧ 0 ≤ p.2 ∧ p.2 < 26

def S_is_place : Sp := sp1 fun v H Q => ∃ a p, v = .ref a ∧ H a = some (plV p) ∧ plOk p ∧ Q (.bl true) H
def S_stands_right : Sp := sp1 fun v H Q => ∃ a r, v = .ref a ∧ H a = some (arV r) ∧ r.ok ∧ ∀ H', Fr [] H H' → Q (.bl true) H'
def S_area_many : Sp := sp1 fun v H Q => ∃ a r, v = .ref a ∧ H a = some (arV r) ∧ r.ok ∧ Q (.int ((r.b - r.t + 1) * (r.r - r.l + 1))) H
def S_area_places : Sp := sp1 fun v H Q => ∃ a r, v = .ref a ∧ H a = some (arV r) ∧ r.ok ∧ ∀ H' p xs, Fr [] H H' → H p = none → H' p = some (.lst xs) → DaL H' xs (r.places.map plD) → Q (.ref p) H'
section
variable {P : Program} {w : World} {K : PySem.W.Frag} {mg : Str → Option Value} {base : Heap}
theorem sc_is_place : FnScope ["place"] ["place"] (defScope s_is_place) := ⟨rfl, rfl, rfl, by decide +kernel, rfl, by decide +kernel, by decide +kernel⟩
theorem h_is_place (T : Txt K mg) : Has P w K mg base "is_place" ["place"] 1 S_is_place := by
  obtain ⟨fd, F⟩ := T.f_is_place
  refine ⟨_, fd, T.g_is_place, F.kp, F.binds (ps := ["place"]) (fun _ _ _ _ _ _ us hl => match us, hl with | [_], _ => rfl), F.ok sc_is_place (fun vs H Q E h => sp1_len h) (fun cdv A outer s H vs Q E hr h => ?_)⟩
  obtain ⟨v0, rfl, h⟩ := sp1_inv h
  obtain ⟨a, p, rfl, hp, ⟨h1, h2, h3, h4⟩, q⟩ := h
  refine ⟨_, (pss_one (ps_ret (pe_and (pe_chain op_le op_lt pe_int (pe_ix ix_tup (pv 0) pe_int (fun _ _ => rfl)) (cI T.i_ROWS)) (pe_one (pe_chain op_le op_lt pe_int (pe_ix ix_tup (pv 0) pe_int (fun _ _ => rfl)) (cI T.i_COLUMNS)))))), ?_⟩
  refine ⟨_, rfl, _, _, _, _, rfl, rfl, SqT.of hp, rfl, _, _, rfl, rfl, _, rfl, ifd h1 ⟨_, _, rfl, rfl, ?_⟩⟩
  refine ⟨_, rfl, ifd h2 ?_⟩
  refine ⟨_, rfl, _, _, _, _, rfl, rfl, SqT.of hp, rfl, _, _, rfl, rfl, _, rfl, ifd h3 ⟨_, _, rfl, rfl, ?_⟩⟩
  show Q (.bl (decide (p.2 < 26))) H
  rw [decide_eq_true h4]
  exact q
theorem sc_stands_right : FnScope ["area"] ["area"] (defScope s_stands_right) := ⟨rfl, rfl, rfl, by decide +kernel, rfl, by decide +kernel, by decide +kernel⟩
theorem h_stands_right (T : Txt K mg) : Has P w K mg base "stands_right" ["area"] 2 S_stands_right := by
  obtain ⟨fd, F⟩ := T.f_stands_right
  refine ⟨_, fd, T.g_stands_right, F.kp, F.binds (ps := ["area"]) (fun _ _ _ _ _ _ us hl => match us, hl with | [_], _ => rfl), F.ok sc_stands_right (fun vs H Q E h => sp1_len h) (fun cdv A outer s H vs Q E hr h => ?_)⟩
  obtain ⟨v0, rfl, h⟩ := sp1_inv h
  obtain ⟨a, r, rfl, hp, ⟨h1, h2, h3, h4, h5, h6, h7⟩, q⟩ := h
  refine ⟨_, (pss_cons (ps_if (PW.pt (pw_or (pt_not (pt_val (cl (h_is_place T) (hr.mono (by omega)) (pa_cons (pe_tup (pa_cons (pe_ix ix_tup (pv 0) pe_int (fun _ _ => rfl)) (pa_cons (pe_ix ix_tup (pv 0) pe_int (fun _ _ => rfl)) pa_nil))) pa_nil)))) (pw_or1 (pt_not (pt_val (cl (h_is_place T) (hr.mono (by omega)) (pa_cons (pe_tup (pa_cons (pe_ix ix_tup (pv 0) pe_int (fun _ _ => rfl)) (pa_cons (pe_ix ix_tup (pv 0) pe_int (fun _ _ => rfl)) pa_nil))) pa_nil))))))) (pss_one (ps_ret pe_bl)) pss_nil)
      (pss_one (ps_ret (pe_and (pe_cmpR op_le (pe_ix ix_tup (pv 0) pe_int (fun _ _ => rfl)) (pe_ix ix_tup (pv 0) pe_int (fun _ _ => rfl)) (nomark _)) (pe_one (pe_cmpR op_le (pe_ix ix_tup (pv 0) pe_int (fun _ _ => rfl)) (pe_ix ix_tup (pv 0) pe_int (fun _ _ => rfl)) (nomark _))))))), ?_⟩
  refine ⟨_, rfl, _, _, _, _, rfl, rfl, SqT.of hp, rfl, _, rfl, _, _, _, _, rfl, rfl, SqT.of hp, rfl, (by show 2 ≤ sizeLine; decide), fun p hpn => ?_⟩
  refine ⟨_, (r.t, r.l), rfl, upd_same, ⟨h1, by show r.t < 99; omega, h4, by show r.l < 26; omega⟩, _, rfl, iteF ?_⟩
  have f1 : Fr [] H (upd H p (.tup [.int r.t, .int r.l])) := Fr.refl.new hpn
  have hp1 := f1.tup hp
  refine ⟨_, rfl, _, _, _, _, rfl, rfl, SqT.of hp1, rfl, _, rfl, _, _, _, _, rfl, rfl, SqT.of hp1, rfl, (by show 2 ≤ sizeLine; decide), fun p2 hpn2 => ?_⟩
  refine ⟨_, (r.b, r.r), rfl, upd_same, ⟨by show 0 ≤ r.b; omega, h3, by show 0 ≤ r.r; omega, h6⟩, _, rfl, iteF ?_⟩
  have f2 := f1.new (o := .tup [.int r.b, .int r.r]) hpn2
  have hp2 := f2.tup hp
  refine ⟨_, rfl, _, _, _, _, rfl, rfl, SqT.of hp2, rfl, _, rfl, _, _, _, _, rfl, rfl, SqT.of hp2, rfl, _, _, rfl, rfl, _, rfl, ifd h2 ?_⟩
  refine ⟨_, rfl, _, _, _, _, rfl, rfl, SqT.of hp2, rfl, _, rfl, _, _, _, _, rfl, rfl, SqT.of hp2, rfl, _, _, rfl, rfl, ?_⟩
  show Q (.bl (decide (r.l ≤ r.r))) _
  rw [decide_eq_true h5]
  exact q _ f2
theorem sc_area_many : FnScope ["area"] ["area"] (defScope s_area_many) := ⟨rfl, rfl, rfl, by decide +kernel, rfl, by decide +kernel, by decide +kernel⟩
theorem h_area_many (T : Txt K mg) : Has P w K mg base "area_many" ["area"] 1 S_area_many := by
  obtain ⟨fd, F⟩ := T.f_area_many
  refine ⟨_, fd, T.g_area_many, F.kp, F.binds (ps := ["area"]) (fun _ _ _ _ _ _ us hl => match us, hl with | [_], _ => rfl), F.ok sc_area_many (fun vs H Q E h => sp1_len h) (fun cdv A outer s H vs Q E hr h => ?_)⟩
  obtain ⟨v0, rfl, h⟩ := sp1_inv h
  obtain ⟨a, r, rfl, hp, ⟨h1, h2, h3, h4, h5, h6, h7⟩, q⟩ := h
  refine ⟨_, (pss_one (ps_ret (pe_op op_mulW (pe_op op_add (pe_op op_sub (pe_ix ix_tup (pv 0) pe_int (fun _ _ => rfl)) (pe_ix ix_tup (pv 0) pe_int (fun _ _ => rfl))) pe_int) (pe_op op_add (pe_op op_sub (pe_ix ix_tup (pv 0) pe_int (fun _ _ => rfl)) (pe_ix ix_tup (pv 0) pe_int (fun _ _ => rfl))) pe_int)))), ?_⟩
  refine ⟨_, rfl, _, _, _, _, rfl, rfl, SqT.of hp, rfl, _, rfl, _, _, _, _, rfl, rfl, SqT.of hp, rfl, _, _, rfl, rfl, _, _, rfl, rfl, ?_⟩
  refine ⟨_, rfl, _, _, _, _, rfl, rfl, SqT.of hp, rfl, _, rfl, _, _, _, _, rfl, rfl, SqT.of hp, rfl, _, _, rfl, rfl, _, _, rfl, rfl, ?_⟩
  exact ⟨_, _, rfl, rfl, wide_mul (a := 10) (b := 10) (by show _ < 1024; omega) (by show _ < 1024; omega) (by decide) (by decide) (by decide), q⟩
def S_is_area : Sp := sp1 fun v H Q => ∃ a r, v = .ref a ∧ H a = some (arV r) ∧ r.ok ∧ ∀ H', Fr [] H H' → Q (.bl true) H'
theorem sc_is_area : FnScope ["area"] ["area"] (defScope s_is_area) := ⟨rfl, rfl, rfl, by decide +kernel, rfl, by decide +kernel, by decide +kernel⟩
theorem h_is_area (T : Txt K mg) : Has P w K mg base "is_area" ["area"] 3 S_is_area := by
  obtain ⟨fd, F⟩ := T.f_is_area
  refine ⟨_, fd, T.g_is_area, F.kp, F.binds (ps := ["area"]) (fun _ _ _ _ _ _ us hl => match us, hl with | [_], _ => rfl), F.ok sc_is_area (fun vs H Q E h => sp1_len h) (fun cdv A outer s H vs Q E hr h => ?_)⟩
  obtain ⟨v0, rfl, h⟩ := sp1_inv h
  obtain ⟨a, r, rfl, hp, ho, q⟩ := h
  refine ⟨_, (pss_one (ps_ret (pe_and (cl (h_stands_right T) (hr.mono (by omega)) (pa_cons (pv 0) pa_nil)) (pe_one (pe_cmpR op_le (cl (h_area_many T) (hr.mono (by omega)) (pa_cons (pv 0) pa_nil)) (cI T.i_MOST_PLACES) (nomark _)))))), ?_⟩
  refine ⟨_, rfl, a, r, rfl, hp, ho, fun H1 f1 => ⟨_, rfl, iteT ?_⟩⟩
  refine ⟨_, rfl, a, r, rfl, f1.tup hp, ho, _, _, rfl, rfl, ?_⟩
  show Q (.bl (decide ((r.b - r.t + 1) * (r.r - r.l + 1) ≤ 300))) _
  rw [decide_eq_true ho.2.2.2.2.2.2]
  exact q _ f1
def S_asked_area : Sp := sp1 fun v H Q => ∃ a r, v = .ref a ∧ H a = some (arV r) ∧ r.ok ∧ ∀ H', Fr [] H H' → Q (.ref a) H'
theorem sc_asked_area : FnScope ["area"] ["area"] (defScope s_asked_area) := ⟨rfl, rfl, rfl, by decide +kernel, rfl, by decide +kernel, by decide +kernel⟩
theorem h_asked_area (T : Txt K mg) : Has P w K mg base "asked_area" ["area"] 4 S_asked_area := by
  obtain ⟨fd, F⟩ := T.f_asked_area
  refine ⟨_, fd, T.g_asked_area, F.kp, F.binds (ps := ["area"]) (fun _ _ _ _ _ _ us hl => match us, hl with | [_], _ => rfl), F.ok sc_asked_area (fun vs H Q E h => sp1_len h) (fun cdv A outer s H vs Q E hr h => ?_)⟩
  obtain ⟨v0, rfl, h⟩ := sp1_inv h
  obtain ⟨a, r, rfl, hp, ho, q⟩ := h
  refine ⟨_, (pss_cons (ps_if (pt_not (pt_val (cl (h_is_area T) (hr.mono (by omega)) (pa_cons (pv 0) pa_nil)))) (pss_one ps_never) pss_nil)
      (pss_one (ps_ret (pv 0)))), ?_⟩
  refine ⟨_, rfl, a, r, rfl, hp, ho, fun H1 f1 => ⟨_, rfl, iteF ?_⟩⟩
  exact ⟨_, rfl, q _ f1⟩
theorem rowP_succ (y l : Int) (n : Nat) : rowP y l (n + 1) = rowP y l n ++ [(y, l + ((n : Nat) : Int))] := by
  unfold rowP
  rw [List.range_succ, List.map_append] <;> rfl
theorem rowP_len (y l : Int) (n : Nat) : (rowP y l n).length = n := by
  unfold rowP
  rw [List.length_map, List.length_range]
def rowsP (t l : Int) (n m : Nat) : List Pl := (List.range m).flatMap fun i => rowP (t + ((i : Nat) : Int)) l n
theorem rowsP_succ (t l : Int) (n m : Nat) : rowsP t l n (m + 1) = rowsP t l n m ++ rowP (t + ((m : Nat) : Int)) l n := by
  unfold rowsP
  rw [List.range_succ, List.flatMap_append]
  simp
theorem rowsP_len (t l : Int) (n : Nat) : ∀ m, (rowsP t l n m).length = m * n
  | 0 => by simp [rowsP]
  | m + 1 => by
    rw [rowsP_succ, List.length_append, rowsP_len t l n m, rowP_len, Nat.succ_mul]
theorem sc_area_places : FnScope ["area", "places", "row", "column"] ["area"] (defScope s_area_places) := ⟨rfl, rfl, rfl, by decide +kernel, rfl, by decide +kernel, by decide +kernel⟩
theorem h_area_places (T : Txt K mg) : Has P w K mg base "area_places" ["area"] 5 S_area_places := by
  obtain ⟨fd, F⟩ := T.f_area_places
  refine ⟨_, fd, T.g_area_places, F.kp, F.binds (ps := ["area"]) (fun _ _ _ _ _ _ us hl => match us, hl with | [_], _ => rfl), F.ok sc_area_places (fun vs H Q E h => sp1_len h) (fun cdv A outer s H vs Q E hr h => ?_)⟩
  obtain ⟨v0, rfl, h⟩ := sp1_inv h
  obtain ⟨a, r, rfl, hp, ho, q⟩ := h
  obtain ⟨h1, h2, h3, h4, h5, h6, h7⟩ := id ho
  refine ⟨_, (pss_cons (ps_expr (cl (h_asked_area T) (hr.mono (by omega)) (pa_cons (pv 0) pa_nil)))
      (pss_cons (ps_set (i := 1) sc_area_places.nd rfl (Or.inl rfl) (pe_lst pa_nil))
      (pss_cons (ps_for PassesOwn.never rfl (pi_range2 (by rfl) T.n_range (pa_cons (pe_ix ix_tup (pv 0) pe_int (fun _ _ => rfl)) (pa_cons (pe_op op_add (pe_ix ix_tup (pv 0) pe_int (fun _ _ => rfl)) pe_int) pa_nil))) (pg_name (i := 2) sc_area_places.nd rfl (Or.inr rfl)) (pss_one (ps_expr (pe_bm PySem.F.plainAttrs_list PySem.F.slot_list_extend PySem.F.type_list_extend mt_extend (pv 1) (pa_cons (pe_lc (own := [("column", 3)]) (g := gName 3) rfl sc_area_places.nd (pi_range2 (by rfl) T.n_range (pa_cons (pe_ix ix_tup (pv 0) pe_int (fun _ _ => rfl)) (pa_cons (pe_op op_add (pe_ix ix_tup (pv 0) pe_int (fun _ _ => rfl)) pe_int) pa_nil))) (blkOk_by (N := ["area", "places", "row", "column"]) (sc := defScope s_area_places) (by decide +kernel)) (fun _ _ _ _ _ => pg_name (i := 3) sc_area_places.nd rfl (Or.inl rfl)) (fun _ _ _ _ _ => pts_nil) (fun _ _ _ _ _ => (pe_tup (pa_cons (pv 2) (pa_cons (pv 3) pa_nil))))) pa_nil)))))
      (pss_one (ps_ret (pv 1)))))), ?_⟩
  refine ⟨_, rfl, a, r, rfl, hp, ho, fun H1 f1 => ?_⟩
  refine ⟨by show 0 ≤ sizeLine; decide, fun l hl => ?_⟩
  have hl0 : H l = none := f1.l l hl
  have f2 : Fr [] H (upd H1 l (.lst [])) := f1.new hl
  have hp2 := f2.tup hp
  refine ⟨_, rfl, _, _, _, _, rfl, rfl, SqT.of hp2, rfl, _, rfl, _, _, _, _, rfl, rfl, SqT.of hp2, rfl, _, _, rfl, rfl, ?_⟩
  refine ⟨_, _, rfl, ⟨by show -(4611686018427387904 : Int) ≤ r.t; omega, by show r.t < (4611686018427387904 : Int); omega, by show -(4611686018427387904 : Int) ≤ r.b + 1; omega, by show r.b + 1 < (4611686018427387904 : Int); omega⟩, ?_⟩
  refine for_range (lo := r.t) (n := (r.b + 1 - r.t).toNat) (fun i σ H' => ∃ xs rv, σ = [some (.ref a), some (.ref l), rv, none] ∧ Fr [] H H' ∧ H' l = some (.lst xs) ∧ DaL H' xs ((rowsP r.t r.l (r.r + 1 - r.l).toNat i).map plD)) ?_ ?_ ?_
  · exact ⟨[], none, rfl, f2, upd_same, .nil⟩
  · rintro i σ H3 hi ⟨xs, rv, rfl, f3, hl3, d3⟩
    have hp3 := f3.tup hp
    refine ⟨_, rfl, .inl ⟨rfl, _, SqL.of hl3⟩, ?_⟩
    refine ⟨_, rfl, _, _, _, _, rfl, rfl, SqT.of hp3, rfl, _, rfl, _, _, _, _, rfl, rfl, SqT.of hp3, rfl, _, _, rfl, rfl, ?_⟩
    refine ⟨_, _, rfl, ⟨by show -(4611686018427387904 : Int) ≤ r.l; omega, by show r.l < (4611686018427387904 : Int); omega, by show -(4611686018427387904 : Int) ≤ r.r + 1; omega, by show r.r + 1 < (4611686018427387904 : Int); omega⟩, fun D hD => ?_⟩
    have hDl : D ≠ l := fun z => by
      rw [z, hl3] at hD
      cases hD
    have hD0 : H D = none := f3.l D hD
    refine lc_range (lo := r.l) (n := (r.r + 1 - r.l).toNat) (fun j H' => ∃ acc, H' D = some (.lst acc) ∧ H' l = some (.lst xs) ∧ Fr [] H H' ∧ Kp H3 H' ∧ DaL H' acc ((rowP (r.t + ((i : Nat) : Int)) r.l j).map plD)) ?_ ?_ ?_
    · exact ⟨[], upd_same, by rw [upd_ne hDl.symm]; exact hl3, f3.new hD, (Fr.refl (M := []).new hD).t, .nil⟩
    · rintro j H4 hj ⟨acc, a1, a2, a3, a4, a5⟩
      have hal := a5.length
      rw [List.length_map, rowP_len] at hal
      refine ⟨rfl, _, rfl, _, rfl, (by show 2 ≤ sizeLine; decide), fun p hpn => ?_⟩
      have pD : D ≠ p := ne_of_none a1 hpn
      have pl' : l ≠ p := ne_of_none a2 hpn
      have f5 : Fr [D] H4 (upd (upd H4 p (.tup [.int (r.t + ((i : Nat) : Int)), .int (r.l + ((j : Nat) : Int))])) D (.lst (acc ++ [.ref p]))) :=
        (Fr.refl.new hpn).set (List.mem_cons_self ..) (by rw [upd_ne pD]; exact a1) (by intro _ z; cases z)
      refine ⟨acc, by rw [upd_ne pD]; exact a1, small1000 (by omega), acc ++ [.ref p], upd_same, ?_, ?_, a4.trans f5.t, ?_⟩
      · rw [upd_ne hDl.symm, upd_ne pl']
        exact a2
      · exact (a3.new hpn).mut hD0
      · rw [rowP_succ, List.map_append]
        refine (f5.dal a5).append (.cons (.tup (xs := [.int (r.t + ((i : Nat) : Int)), .int (r.l + ((j : Nat) : Int))]) ?_ (.cons (.int _) (.cons (.int _) .nil))) .nil)
        rw [upd_ne pD.symm, upd_same]
    · rintro H4 ⟨acc, a1, a2, a3, a4, a5⟩
      have hal := a5.length
      have hxl := d3.length
      rw [List.length_map, rowP_len] at hal
      rw [List.length_map, rowsP_len] at hxl
      have hm : i * (r.r + 1 - r.l).toNat ≤ 99 * 26 := Nat.mul_le_mul (by omega) (by omega)
      have f6 : Fr [l] H4 (upd H4 l (.lst (xs ++ acc))) := Fr.refl.set (List.mem_cons_self ..) a2 (by intro _ z; cases z)
      refine ⟨l, D, xs, acc, rfl, rfl, a2, a1, ?_, xs ++ acc, _, rfl, a3.mut hl0, upd_same, ?_⟩
      · exact Nat.le_of_lt (Nat.lt_of_le_of_lt (m := 10000) (by omega) (by decide))
      · rw [rowsP_succ, List.map_append]
        exact (DaL.mono (a4.trans f6.t) _ _ d3).append (f6.dal a5)
  · rintro σ H3 ⟨xs, rv, rfl, f3, hl3, d3⟩
    exact ⟨_, rfl, q H3 l xs f3 hl0 hl3 d3⟩
end
end OL
namespace OL
open PySem PySem.Spec PyProof.Rows L2

theorem isiT {K : PySem.W.Frag} {H : Hp} {v : V} {w : Wo} (h : Da H v w.d) : Isi K H v "tuple" w.isF := by
  cases w with
  | non => rw [h.nonI]; exact isi_non
  | int i => rw [h.intI]; exact isi_int (b := false)
  | str s => rw [h.strI]; exact isi_str (b := false)
  | flt x =>
    obtain ⟨a, xs, rfl, e, _⟩ := h.tupI
    exact isi_tup (b := true) e
theorem isiS {K : PySem.W.Frag} {H : Hp} {v : V} {w : Wo} (h : Da H v w.d) : Isi K H v "str" w.isT := by
  cases w with
  | non => rw [h.nonI]; exact isi_non
  | int i => rw [h.intI]; exact isi_int (b := false)
  | str s => rw [h.strI]; exact isi_str (b := true)
  | flt x =>
    obtain ⟨a, xs, rfl, e, _⟩ := h.tupI
    exact isi_tup (b := false) e
def isW (H : Hp) (v : V) (w : Wo) : Prop := Da H v w.d ∧ w.ok
theorem wo_num {H : Hp} {v : V} {w : Wo} (h : Da H v w.d) (h1 : w.isF = false) (h2 : w.isT = false) : v = .non ∧ w = .non ∨ v = .int w.num ∧ w = .int w.num := by
  cases w with
  | non => exact .inl ⟨h.nonI, rfl⟩
  | int i => exact .inr ⟨h.intI, rfl⟩
  | str s => cases h2
  | flt x => cases h1
theorem wo_txt {H : Hp} {v : V} {w : Wo} (h : Da H v w.d) (h2 : w.isT = true) : v = .str w.txt ∧ w = .str w.txt := by
  cases w with
  | non => cases h2
  | int i => cases h2
  | str s => exact ⟨h.strI, rfl⟩
  | flt x => cases h2
theorem wo_non {H : Hp} {v : V} {w : Wo} (h : Da H v w.d) : decide (v = .non) = decide (w = .non) := by
  cases w with
  | non => rw [h.nonI]; rfl
  | int i => rw [h.intI]; rfl
  | str s => rw [h.strI]; rfl
  | flt x =>
    obtain ⟨a, xs, rfl, e, _⟩ := h.tupI
    rfl
theorem big_lt : big < 2 ^ 200 := by decide
theorem bits_of {i : Int} (h : -big ≤ i ∧ i ≤ big) : i.natAbs < 2 ^ 200 := by
  have h1 : big = ((10 ^ 60 : Nat) : Int) := by decide
  have h2 : (10 ^ 60 : Nat) < 2 ^ 200 := by decide
  omega
theorem log_of {i : Int} (h : -big ≤ i ∧ i ≤ big) : i.natAbs.log2 < 200 := PySem.Flt.log2_lt_of (by decide) (bits_of h)
theorem txt_len {w : Wo} (h : w.ok) : w.txt.length ≤ 2000 := by
  cases w with
  | non => decide
  | int i => exact Nat.le_trans (int_text_len_1921 (Nat.lt_trans (log_of h) (by decide))) (by decide)
  | str s => exact Nat.le_trans (show s.length ≤ 200 from h) (by decide)
  | flt x => exact (by decide : (Str.ofString "").length ≤ 2000)
theorem str_len (a b : Str) : (a ++ b).length = a.length + b.length := by
  show (a.cps ++ b.cps).size = a.cps.size + b.cps.size
  simp

def S_fault : Sp := sp1 fun v H Q => ∃ x, v = .str x ∧ ∀ v' H', Fr [] H H' → Da H' v' (Wo.flt x).d → Q v' H'
def S_is_fault : Sp := sp1 fun v H Q => ∃ w, Da H v (Wo.d w) ∧ Q (.bl w.isF) H
def S_is_text : Sp := sp1 fun v H Q => ∃ w, Da H v (Wo.d w) ∧ Q (.bl w.isT) H
def S_held_number : Sp := sp1 fun v H Q => ∃ n, v = .int n ∧ ∀ v' H', Fr [] H H' → Da H' v' (heldM n).d → Q v' H'
def S_as_number : Sp := sp1 fun v H Q => ∃ w, Da H v (Wo.d w) ∧ w.isF = false ∧ w.isT = false ∧ Q (.int w.num) H
def S_as_text : Sp := sp1 fun v H Q => ∃ w, Da H v (Wo.d w) ∧ w.ok ∧ w.isF = false ∧ Q (.str w.txt) H
def S_single : Sp := sp2 fun a v H Q => ∃ x w, a = .str x ∧ Da H v (Wo.d w) ∧ ∀ v' H', Fr [] H H' → Da H' v' (singleM x w).d → Q v' H'
def S_divided : Sp := sp3 fun a v u H Q => ∃ x i j, a = .str x ∧ v = .int i ∧ u = .int j ∧ (-big ≤ j ∧ j ≤ big) ∧ ∀ v' H', Fr [] H H' → Da H' v' (divM x i j).d → Q v' H'
def S_reckoned : Sp := sp3 fun a v u H Q => ∃ x i j, a = .str x ∧ v = .int i ∧ u = .int j ∧ (-big ≤ i ∧ i ≤ big) ∧ (-big ≤ j ∧ j ≤ big) ∧ ∀ v' H', Fr [] H H' → Da H' v' (reckM x i j).d → Q v' H'
def S_joined : Sp := sp2 fun v u H Q => ∃ a b, isW H v a ∧ isW H u b ∧ a.isF = false ∧ b.isF = false ∧ ∀ v' H', Fr [] H H' → Da H' v' (joinM a b).d → Q v' H'
def S_same_worth : Sp := sp2 fun v u H Q => ∃ a b, isW H v a ∧ isW H u b ∧ Q (.bl (sameM a b)) H
def S_ahead_of : Sp := sp2 fun v u H Q => ∃ a b, isW H v a ∧ isW H u b ∧ a.isF = false ∧ b.isF = false ∧ ∀ v' H', Fr [] H H' → Da H' v' (aheadM a b).d → Q v' H'
def S_paired : Sp := sp3 fun o v u H Q => ∃ x a b, o = .str x ∧ isW H v a ∧ isW H u b ∧ ∀ v' H', Fr [] H H' → Da H' v' (pairedM x a b).d → Q v' H'
section
variable {P : Program} {w : World} {K : PySem.W.Frag} {mg : Str → Option Value} {base : Heap}
theorem sc_fault : FnScope ["word"] ["word"] (defScope s_fault) := ⟨rfl, rfl, rfl, by decide +kernel, rfl, by decide +kernel, by decide +kernel⟩
theorem h_fault (T : Txt K mg) : Has P w K mg base "fault" ["word"] 1 S_fault := by
  obtain ⟨fd, F⟩ := T.f_fault
  refine ⟨_, fd, T.g_fault, F.kp, F.binds (ps := ["word"]) (fun _ _ _ _ _ _ us hl => match us, hl with | [_], _ => rfl), F.ok sc_fault (fun vs H Q E h => sp1_len h) (fun cdv A outer s H vs Q E hr h => ?_)⟩
  obtain ⟨v0, rfl, h⟩ := sp1_inv h
  obtain ⟨x, rfl, q⟩ := h
  refine ⟨_, (pss_one (ps_ret (pe_tup (pa_cons pe_str (pa_cons (pv 0) pa_nil))))), ?_⟩
  refine ⟨_, rfl, (by show 2 ≤ sizeLine; decide), fun p hp => ?_⟩
  exact q _ _ (Fr.refl.new hp) (.tup upd_same (.cons (.str _) (.cons (.str _) .nil)))
theorem sc_is_fault : FnScope ["worth"] ["worth"] (defScope s_is_fault) := ⟨rfl, rfl, rfl, by decide +kernel, rfl, by decide +kernel, by decide +kernel⟩
theorem h_is_fault (T : Txt K mg) : Has P w K mg base "is_fault" ["worth"] 1 S_is_fault := by
  obtain ⟨fd, F⟩ := T.f_is_fault
  refine ⟨_, fd, T.g_is_fault, F.kp, F.binds (ps := ["worth"]) (fun _ _ _ _ _ _ us hl => match us, hl with | [_], _ => rfl), F.ok sc_is_fault (fun vs H Q E h => sp1_len h) (fun cdv A outer s H vs Q E hr h => ?_)⟩
  obtain ⟨v0, rfl, h⟩ := sp1_inv h
  obtain ⟨a, ha, q⟩ := h
  refine ⟨_, (pss_one (ps_ret (isi (T := "tuple") T.n_isinstance T.n_tuple (pv 0)))), ?_⟩
  exact ⟨_, rfl, _, isiT ha, q⟩
theorem sc_is_text : FnScope ["worth"] ["worth"] (defScope s_is_text) := ⟨rfl, rfl, rfl, by decide +kernel, rfl, by decide +kernel, by decide +kernel⟩
theorem h_is_text (T : Txt K mg) : Has P w K mg base "is_text" ["worth"] 1 S_is_text := by
  obtain ⟨fd, F⟩ := T.f_is_text
  refine ⟨_, fd, T.g_is_text, F.kp, F.binds (ps := ["worth"]) (fun _ _ _ _ _ _ us hl => match us, hl with | [_], _ => rfl), F.ok sc_is_text (fun vs H Q E h => sp1_len h) (fun cdv A outer s H vs Q E hr h => ?_)⟩
  obtain ⟨v0, rfl, h⟩ := sp1_inv h
  obtain ⟨a, ha, q⟩ := h
  refine ⟨_, (pss_one (ps_ret (isi (T := "str") T.n_isinstance T.n_str (pv 0)))), ?_⟩
  exact ⟨_, rfl, _, isiS ha, q⟩
theorem sc_held_number : FnScope ["number"] ["number"] (defScope s_held_number) := ⟨rfl, rfl, rfl, by decide +kernel, rfl, by decide +kernel, by decide +kernel⟩
theorem h_held_number (T : Txt K mg) : Has P w K mg base "held_number" ["number"] 2 S_held_number := by
  obtain ⟨fd, F⟩ := T.f_held_number
  refine ⟨_, fd, T.g_held_number, F.kp, F.binds (ps := ["number"]) (fun _ _ _ _ _ _ us hl => match us, hl with | [_], _ => rfl), F.ok sc_held_number (fun vs H Q E h => sp1_len h) (fun cdv A outer s H vs Q E hr h => ?_)⟩
  obtain ⟨v0, rfl, h⟩ := sp1_inv h
  obtain ⟨n, rfl, q⟩ := h
  refine ⟨_, (pss_cons (ps_if (pt_cmpR op_gt (pe_callB call_abs (by rfl) T.n_abs (by decide +kernel) (pa_cons (pv 0) pa_nil)) (cI T.i_MOST_NUMBER) (nomark _)) (pss_one (ps_ret (cl (h_fault T) (hr.mono (by omega)) (pa_cons pe_str pa_nil)))) pss_nil)
      (pss_one (ps_ret (pv 0)))), ?_⟩
  refine ⟨_, rfl, _, rfl, _, _, rfl, rfl, _, rfl, ?_⟩
  by_cases h : (10 ^ 60 : Int) < (if n < 0 then -n else n)
  · refine ifd h ⟨_, rfl, fun v' H' f d => ?_⟩
    refine q v' H' f ?_
    rw [heldM, if_pos h]
    exact d
  · refine ifn h ⟨_, rfl, q _ _ Fr.refl ?_⟩
    rw [heldM, if_neg h]
    exact .int n
theorem sc_as_number : FnScope ["worth"] ["worth"] (defScope s_as_number) := ⟨rfl, rfl, rfl, by decide +kernel, rfl, by decide +kernel, by decide +kernel⟩
theorem h_as_number (T : Txt K mg) : Has P w K mg base "as_number" ["worth"] 1 S_as_number := by
  obtain ⟨fd, F⟩ := T.f_as_number
  refine ⟨_, fd, T.g_as_number, F.kp, F.binds (ps := ["worth"]) (fun _ _ _ _ _ _ us hl => match us, hl with | [_], _ => rfl), F.ok sc_as_number (fun vs H Q E h => sp1_len h) (fun cdv A outer s H vs Q E hr h => ?_)⟩
  obtain ⟨v0, rfl, h⟩ := sp1_inv h
  obtain ⟨a, ha, h1, h2, q⟩ := h
  refine ⟨_, (pss_cons (ps_if (pt_cmpR op_isN (pv 0) pe_non (nomark _)) (pss_one (ps_ret pe_int)) pss_nil)
      (pss_one (ps_ret (pv 0)))), ?_⟩
  rcases wo_num ha h1 h2 with ⟨rfl, rfl⟩ | ⟨e, _⟩
  · exact ⟨_, rfl, rfl, _, rfl, ifd rfl q⟩
  · subst e
    exact ⟨_, rfl, rfl, _, rfl, ifn (by intro z; cases z) ⟨_, rfl, q⟩⟩
theorem sc_as_text : FnScope ["worth"] ["worth"] (defScope s_as_text) := ⟨rfl, rfl, rfl, by decide +kernel, rfl, by decide +kernel, by decide +kernel⟩
theorem h_as_text (T : Txt K mg) : Has P w K mg base "as_text" ["worth"] 1 S_as_text := by
  obtain ⟨fd, F⟩ := T.f_as_text
  refine ⟨_, fd, T.g_as_text, F.kp, F.binds (ps := ["worth"]) (fun _ _ _ _ _ _ us hl => match us, hl with | [_], _ => rfl), F.ok sc_as_text (fun vs H Q E h => sp1_len h) (fun cdv A outer s H vs Q E hr h => ?_)⟩
  obtain ⟨v0, rfl, h⟩ := sp1_inv h
  obtain ⟨a, ha, ho, h1, q⟩ := h
  refine ⟨_, (pss_cons (ps_if (pt_cmpR op_isN (pv 0) pe_non (nomark _)) (pss_one (ps_ret pe_str)) pss_nil)
      (pss_one (ps_ret (pe_callTy (CallR.or call_str_int SkE.call_str_str) (by rfl) T.n_str (by decide +kernel) (pa_cons (pv 0) pa_nil))))), ?_⟩
  cases a with
  | non =>
    rw [ha.nonI]
    exact ⟨_, rfl, rfl, _, rfl, ifd rfl q⟩
  | int i =>
    rw [ha.intI]
    exact ⟨_, rfl, rfl, _, rfl, ifn (by intro z; cases z) ⟨_, rfl, .inl ⟨i, rfl, Nat.lt_trans (log_of ho) (by decide), q⟩⟩⟩
  | str x =>
    rw [ha.strI]
    exact ⟨_, rfl, rfl, _, rfl, ifn (by intro z; cases z) ⟨_, rfl, .inr ⟨x, rfl, q⟩⟩⟩
  | flt x => cases h1
theorem sc_single : FnScope ["word", "one"] ["word", "one"] (defScope s_single) := ⟨rfl, rfl, rfl, by decide +kernel, rfl, by decide +kernel, by decide +kernel⟩
theorem h_single (T : Txt K mg) : Has P w K mg base "single" ["word", "one"] 2 S_single := by
  obtain ⟨fd, F⟩ := T.f_single
  refine ⟨_, fd, T.g_single, F.kp, F.binds (ps := ["word", "one"]) (fun _ _ _ _ _ _ us hl => match us, hl with | [_, _], _ => rfl), F.ok sc_single (fun vs H Q E h => sp2_len h) (fun cdv A outer s H vs Q E hr h => ?_)⟩
  obtain ⟨v0, v1, rfl, h⟩ := sp2_inv h
  obtain ⟨x, a, rfl, ha, q⟩ := h
  refine ⟨_, (pss_cons (ps_if (pt_val (cl (h_is_fault T) (hr.mono (by omega)) (pa_cons (pv 1) pa_nil))) (pss_one (ps_ret (pv 1))) pss_nil)
      (pss_cons (ps_if (pt_val (cl (h_is_text T) (hr.mono (by omega)) (pa_cons (pv 1) pa_nil))) (pss_one (ps_ret (cl (h_fault T) (hr.mono (by omega)) (pa_cons pe_str pa_nil)))) pss_nil)
      (pss_cons (ps_if (pt_cmpR op_eq (pv 0) pe_str (nomark _)) (pss_one (ps_ret (pe_un un_neg (cl (h_as_number T) (hr.mono (by omega)) (pa_cons (pv 1) pa_nil))))) pss_nil)
      (pss_one (ps_ret (pe_callTy call_int1 (by rfl) T.n_int (by decide +kernel) (pa_cons (pe_cmpR op_eq (cl (h_as_number T) (hr.mono (by omega)) (pa_cons (pv 1) pa_nil)) pe_int (nomark _)) pa_nil))))))), ?_⟩
  refine ⟨_, rfl, a, ha, _, rfl, ?_⟩
  by_cases h1 : a.isF = true
  · refine ifb h1 ⟨_, rfl, q _ _ Fr.refl ?_⟩
    cases a with
    | flt y => exact ha
    | non => cases h1
    | int _ => cases h1
    | str _ => cases h1
  have h1' := Bool.eq_false_iff.mpr h1
  refine ifbn h1' ⟨_, rfl, a, ha, _, rfl, ?_⟩
  by_cases h2 : a.isT = true
  · refine ifb h2 ⟨_, rfl, fun v' H' f d => ?_⟩
    refine q v' H' f ?_
    cases a with
    | str y => exact d
    | non => cases h2
    | int _ => cases h2
    | flt _ => cases h2
  have h2' := Bool.eq_false_iff.mpr h2
  have e : singleM x a = if x = "minus" then .int (-a.num) else .int (b2n (decide (a.num = 0))) := by
    cases a with
    | str y => cases h2'
    | non => rfl
    | int _ => rfl
    | flt _ => cases h1'
  refine ifbn h2' ⟨_, rfl, rfl, _, rfl, ?_⟩
  by_cases h3 : x = "minus"
  · refine ifd (by rw [h3]) ⟨_, rfl, a, ha, h1', h2', _, rfl, q _ _ Fr.refl ?_⟩
    rw [e, if_pos h3]
    exact .int _
  · refine ifn (fun z => h3 (V.str.inj z)) ⟨_, rfl, a, ha, h1', h2', rfl, .inr ⟨_, rfl, q _ _ Fr.refl ?_⟩⟩
    rw [e, if_neg h3]
    have e2 : decide (V.int a.num = V.int 0) = decide (a.num = 0) := decide_eq_decide.mpr ⟨V.int.inj, congrArg V.int⟩
    rw [e2]
    exact .int _
theorem sc_divided : FnScope ["op", "one", "other"] ["op", "one", "other"] (defScope s_divided) := ⟨rfl, rfl, rfl, by decide +kernel, rfl, by decide +kernel, by decide +kernel⟩
theorem h_divided (T : Txt K mg) : Has P w K mg base "divided" ["op", "one", "other"] 2 S_divided := by
  obtain ⟨fd, F⟩ := T.f_divided
  refine ⟨_, fd, T.g_divided, F.kp, F.binds (ps := ["op", "one", "other"]) (fun _ _ _ _ _ _ us hl => match us, hl with | [_, _, _], _ => rfl), F.ok sc_divided (fun vs H Q E h => sp3_len h) (fun cdv A outer s H vs Q E hr h => ?_)⟩
  obtain ⟨v0, v1, v2, rfl, h⟩ := sp3_inv h
  obtain ⟨x, i, j, rfl, rfl, rfl, hj, q⟩ := h
  refine ⟨_, (pss_cons (ps_if (pt_cmpR op_eq (pv 2) pe_int (nomark _)) (pss_one (ps_ret (cl (h_fault T) (hr.mono (by omega)) (pa_cons pe_str pa_nil)))) pss_nil)
      (pss_cons (ps_if (pt_cmpR op_eq (pv 0) pe_str (nomark _)) (pss_one (ps_ret (pe_op op_fdivX (pv 1) (pv 2)))) pss_nil)
      (pss_one (ps_ret (pe_op op_modN (pv 1) (pv 2)))))), ?_⟩
  refine ⟨_, rfl, rfl, _, rfl, ?_⟩
  by_cases h0 : j = 0
  · refine ifd (by rw [h0]) ⟨_, rfl, fun v' H' f d => q v' H' f ?_⟩
    rw [divM, if_pos h0]
    exact d
  · refine ifn (fun z => h0 (V.int.inj z)) ⟨_, rfl, rfl, _, rfl, ?_⟩
    by_cases h1 : x = "/"
    · refine ifd (by rw [h1]) ⟨_, rfl, _, rfl, _, _, rfl, rfl, ⟨h0, Nat.lt_trans (log_of hj) (by decide)⟩, q _ _ Fr.refl ?_⟩
      rw [divM, if_neg h0, if_pos h1]
      exact .int _
    · refine ifn (fun z => h1 (V.str.inj z)) ⟨_, rfl, _, rfl, _, _, rfl, rfl, h0, q _ _ Fr.refl ?_⟩
      rw [divM, if_neg h0, if_neg h1]
      exact .int _
theorem sc_reckoned : FnScope ["op", "one", "other"] ["op", "one", "other"] (defScope s_reckoned) := ⟨rfl, rfl, rfl, by decide +kernel, rfl, by decide +kernel, by decide +kernel⟩
theorem h_reckoned (T : Txt K mg) : Has P w K mg base "reckoned" ["op", "one", "other"] 3 S_reckoned := by
  obtain ⟨fd, F⟩ := T.f_reckoned
  refine ⟨_, fd, T.g_reckoned, F.kp, F.binds (ps := ["op", "one", "other"]) (fun _ _ _ _ _ _ us hl => match us, hl with | [_, _, _], _ => rfl), F.ok sc_reckoned (fun vs H Q E h => sp3_len h) (fun cdv A outer s H vs Q E hr h => ?_)⟩
  obtain ⟨v0, v1, v2, rfl, h⟩ := sp3_inv h
  obtain ⟨x, i, j, rfl, rfl, rfl, hi, hj, q⟩ := h
  refine ⟨_, (pss_cons (ps_if (pt_cmpR op_eq (pv 0) pe_str (nomark _)) (pss_one (ps_ret (cl (h_held_number T) (hr.mono (by omega)) (pa_cons (pe_op op_add (pv 1) (pv 2)) pa_nil)))) pss_nil)
      (pss_cons (ps_if (pt_cmpR op_eq (pv 0) pe_str (nomark _)) (pss_one (ps_ret (cl (h_held_number T) (hr.mono (by omega)) (pa_cons (pe_op op_sub (pv 1) (pv 2)) pa_nil)))) pss_nil)
      (pss_cons (ps_if (pt_cmpR op_eq (pv 0) pe_str (nomark _)) (pss_one (ps_ret (cl (h_held_number T) (hr.mono (by omega)) (pa_cons (pe_op op_mulW (pv 1) (pv 2)) pa_nil)))) pss_nil)
      (pss_one (ps_ret (cl (h_divided T) (hr.mono (by omega)) (pa_cons (pv 0) (pa_cons (pv 1) (pa_cons (pv 2) pa_nil))))))))), ?_⟩
  refine ⟨_, rfl, rfl, _, rfl, ?_⟩
  by_cases h1 : x = "+"
  · refine ifd (by rw [h1]) ⟨_, rfl, _, rfl, _, _, rfl, rfl, _, rfl, fun v' H' f d => q v' H' f ?_⟩
    rw [reckM, if_pos h1]
    exact d
  refine ifn (fun z => h1 (V.str.inj z)) ⟨_, rfl, rfl, _, rfl, ?_⟩
  by_cases h2 : x = "-"
  · refine ifd (by rw [h2]) ⟨_, rfl, _, rfl, _, _, rfl, rfl, _, rfl, fun v' H' f d => q v' H' f ?_⟩
    rw [reckM, if_neg h1, if_pos h2]
    exact d
  refine ifn (fun z => h2 (V.str.inj z)) ⟨_, rfl, rfl, _, rfl, ?_⟩
  by_cases h3 : x = "*"
  · refine ifd (by rw [h3]) ⟨_, rfl, _, rfl, _, _, rfl, rfl, wide_mul (bits_of hi) (bits_of hj) (by decide) (by decide) (by decide), _, rfl, fun v' H' f d => q v' H' f ?_⟩
    rw [reckM, if_neg h1, if_neg h2, if_pos h3]
    exact d
  refine ifn (fun z => h3 (V.str.inj z)) ⟨_, rfl, _, rfl, _, rfl, x, i, j, rfl, rfl, rfl, hj, fun v' H' f d => q v' H' f ?_⟩
  rw [reckM, if_neg h1, if_neg h2, if_neg h3]
  exact d
theorem sc_joined : FnScope ["one", "other", "text"] ["one", "other"] (defScope s_joined) := ⟨rfl, rfl, rfl, by decide +kernel, rfl, by decide +kernel, by decide +kernel⟩
theorem h_joined (T : Txt K mg) : Has P w K mg base "joined" ["one", "other"] 2 S_joined := by
  obtain ⟨fd, F⟩ := T.f_joined
  refine ⟨_, fd, T.g_joined, F.kp, F.binds (ps := ["one", "other"]) (fun _ _ _ _ _ _ us hl => match us, hl with | [_, _], _ => rfl), F.ok sc_joined (fun vs H Q E h => sp2_len h) (fun cdv A outer s H vs Q E hr h => ?_)⟩
  obtain ⟨v0, v1, rfl, h⟩ := sp2_inv h
  obtain ⟨a, b, ⟨ha, oa⟩, ⟨hb, ob⟩, fa, fb, q⟩ := h
  refine ⟨_, (pss_cons (ps_set (i := 2) sc_joined.nd rfl (Or.inl rfl) (pe_op op_add_str (cl (h_as_text T) (hr.mono (by omega)) (pa_cons (pv 0) pa_nil)) (cl (h_as_text T) (hr.mono (by omega)) (pa_cons (pv 1) pa_nil))))
      (pss_cons (ps_if (pt_cmpR op_gt (pe_callB call_len_str (by rfl) T.n_len (by decide +kernel) (pa_cons (pv 2) pa_nil)) (cI T.i_MOST_SIGNS) (nomark _)) (pss_one (ps_ret (cl (h_fault T) (hr.mono (by omega)) (pa_cons pe_str pa_nil)))) pss_nil)
      (pss_one (ps_ret (pv 2))))), ?_⟩
  have l1 := txt_len oa
  have l2 := txt_len ob
  have l3 : (a.txt ++ b.txt).length ≤ 4000 := by rw [str_len]; omega
  refine ⟨_, rfl, a, ha, oa, fa, _, rfl, b, hb, ob, fb, _, _, rfl, rfl, Nat.le_trans (show _ ≤ 4000 by omega) (by decide), ?_⟩
  refine ⟨_, rfl, _, rfl, Nat.le_trans l3 (by decide), _, _, rfl, rfl, _, rfl, ?_⟩
  by_cases h : (200 : Int) < (((a.txt ++ b.txt).length : Nat) : Int)
  · refine ifd h ⟨_, rfl, fun v' H' f d => q v' H' f ?_⟩
    rw [joinM, if_pos (by omega)]
    exact d
  · refine ifn h ⟨_, rfl, q _ _ Fr.refl ?_⟩
    rw [joinM, if_neg (by omega)]
    exact .str _
theorem sc_same_worth : FnScope ["one", "other"] ["one", "other"] (defScope s_same_worth) := ⟨rfl, rfl, rfl, by decide +kernel, rfl, by decide +kernel, by decide +kernel⟩
theorem h_same_worth (T : Txt K mg) : Has P w K mg base "same_worth" ["one", "other"] 2 S_same_worth := by
  obtain ⟨fd, F⟩ := T.f_same_worth
  refine ⟨_, fd, T.g_same_worth, F.kp, F.binds (ps := ["one", "other"]) (fun _ _ _ _ _ _ us hl => match us, hl with | [_, _], _ => rfl), F.ok sc_same_worth (fun vs H Q E h => sp2_len h) (fun cdv A outer s H vs Q E hr h => ?_)⟩
  obtain ⟨v0, v1, rfl, h⟩ := sp2_inv h
  obtain ⟨a, b, ⟨ha, oa⟩, ⟨hb, ob⟩, q⟩ := h
  refine ⟨_, (pss_cons (ps_if (PW.pt (pw_or (pt_val (cl (h_is_fault T) (hr.mono (by omega)) (pa_cons (pv 0) pa_nil))) (pw_or1 (pt_val (cl (h_is_fault T) (hr.mono (by omega)) (pa_cons (pv 1) pa_nil)))))) (pss_one (ps_ret pe_bl)) pss_nil)
      (pss_cons (ps_if (PW.pt (pw_or (pt_val (cl (h_is_text T) (hr.mono (by omega)) (pa_cons (pv 0) pa_nil))) (pw_or1 (pt_val (cl (h_is_text T) (hr.mono (by omega)) (pa_cons (pv 1) pa_nil)))))) (pss_cons (ps_if (PW.pt (pw_or (pt_cmpR op_isN (pv 0) pe_non (nomark _)) (pw_or1 (pt_cmpR op_isN (pv 1) pe_non (nomark _))))) (pss_one (ps_ret (pe_cmpR op_eq (cl (h_as_text T) (hr.mono (by omega)) (pa_cons (pv 0) pa_nil)) (cl (h_as_text T) (hr.mono (by omega)) (pa_cons (pv 1) pa_nil)) (nomark _)))) pss_nil)
      (pss_one (ps_ret (pe_and (cl (h_is_text T) (hr.mono (by omega)) (pa_cons (pv 0) pa_nil)) (pe_and (cl (h_is_text T) (hr.mono (by omega)) (pa_cons (pv 1) pa_nil)) (pe_one (pe_cmpR op_eq (pv 0) (pv 1) (nomark _)))))))) pss_nil)
      (pss_one (ps_ret (pe_cmpR op_eq (cl (h_as_number T) (hr.mono (by omega)) (pa_cons (pv 0) pa_nil)) (cl (h_as_number T) (hr.mono (by omega)) (pa_cons (pv 1) pa_nil)) (nomark _)))))), ?_⟩
  refine ⟨_, rfl, a, ha, _, rfl, ?_⟩
  by_cases f1 : a.isF = true
  · refine ifb f1 (iteT ?_)
    have e : sameM a b = false := by simp [sameM, f1]
    rw [e] at q
    exact q
  have f1' := Bool.eq_false_iff.mpr f1
  refine ifbn f1' ⟨_, rfl, b, hb, _, rfl, ?_⟩
  by_cases f2 : b.isF = true
  · refine ifb f2 ?_
    have e : sameM a b = false := by simp [sameM, f2]
    rw [e] at q
    exact q
  have f2' := Bool.eq_false_iff.mpr f2
  refine ifbn f2' ⟨_, rfl, a, ha, _, rfl, ?_⟩
  -- behind the faults
  have hstr : ∀ c d : Str, decide (V.str c = V.str d) = decide (c = d) := fun c d => decide_eq_decide.mpr ⟨V.str.inj, congrArg V.str⟩
  have na := wo_non ha
  have nb := wo_non hb
  by_cases t1 : a.isT = true
  · obtain ⟨rfl, ea⟩ := wo_txt ha t1
    refine ifb t1 (iteT ?_)
    refine ⟨_, rfl, rfl, _, rfl, ifn (by intro z; cases z) ⟨_, rfl, rfl, _, rfl, ?_⟩⟩
    by_cases hb0 : v1 = .non
    · refine ifd hb0 ⟨_, rfl, a, ha, oa, f1', _, rfl, b, hb, ob, f2', rfl, ?_⟩
      have e : sameM a b = decide (a.txt = b.txt) := by
        have h1 : decide (b = .non) = true := by rw [← nb, decide_eq_true hb0]
        simp only [sameM, f1', f2', t1, h1, Bool.or_true, Bool.true_or, Bool.or_false, if_true, Bool.false_eq_true, if_false]
      rw [hstr, ← e]
      exact q
    · refine ifn hb0 ⟨_, rfl, a, ha, _, rfl, ifb t1 ⟨_, rfl, b, hb, _, rfl, ?_⟩⟩
      have h1 : decide (b = .non) = false := by rw [← nb, decide_eq_false hb0]
      have h2 : decide (a = .non) = false := by rw [← na]; rfl
      by_cases t2 : b.isT = true
      · obtain ⟨rfl, eb⟩ := wo_txt hb t2
        refine ifb t2 ⟨_, rfl, _, rfl, rfl, ?_⟩
        have e : sameM a b = decide (a.txt = b.txt) := by
          simp only [sameM, f1', f2', t1, t2, h1, h2, Bool.or_true, Bool.true_or, Bool.or_false, if_true, Bool.false_eq_true, if_false, Bool.true_and]
        rw [hstr, ← e]
        exact q
      · have t2' := Bool.eq_false_iff.mpr t2
        refine ifbn t2' ?_
        have e : sameM a b = false := by
          simp only [sameM, f1', f2', t1, t2', h1, h2, Bool.or_true, Bool.true_or, Bool.or_false, if_true, Bool.false_eq_true, if_false, Bool.true_and, Bool.false_and]
        rw [e] at q
        exact q
  · have t1' := Bool.eq_false_iff.mpr t1
    refine ifbn t1' ⟨_, rfl, b, hb, _, rfl, ?_⟩
    by_cases t2 : b.isT = true
    · obtain ⟨rfl, eb⟩ := wo_txt hb t2
      refine ifb t2 ⟨_, rfl, rfl, _, rfl, ?_⟩
      by_cases ha0 : v0 = .non
      · refine ifd ha0 (iteT ⟨_, rfl, a, ha, oa, f1', _, rfl, b, hb, ob, f2', rfl, ?_⟩)
        have e : sameM a b = decide (a.txt = b.txt) := by
          have h1 : decide (a = .non) = true := by rw [← na, decide_eq_true ha0]
          simp only [sameM, f1', f2', t2, h1, Bool.or_true, Bool.true_or, Bool.or_false, if_true, Bool.false_eq_true, if_false]
        rw [hstr, ← e]
        exact q
      · refine ifn ha0 ⟨_, rfl, rfl, _, rfl, ifn (by intro z; cases z) ⟨_, rfl, a, ha, _, rfl, ifbn t1' ?_⟩⟩
        have h1 : decide (a = .non) = false := by rw [← na, decide_eq_false ha0]
        have h2 : decide (b = .non) = false := by rw [← nb]; rfl
        have e : sameM a b = false := by
          simp only [sameM, f1', f2', t1', t2, h1, h2, Bool.or_true, Bool.true_or, Bool.or_false, if_true, Bool.false_eq_true, if_false, Bool.true_and, Bool.false_and]
        rw [e] at q
        exact q
    · have t2' := Bool.eq_false_iff.mpr t2
      refine ifbn t2' ⟨_, rfl, a, ha, f1', t1', _, rfl, b, hb, f2', t2', rfl, ?_⟩
      have e : sameM a b = decide (a.num = b.num) := by
        simp only [sameM, f1', f2', t1', t2', Bool.or_true, Bool.true_or, Bool.or_false, if_true, Bool.false_eq_true, if_false, Bool.true_and, Bool.false_and]
      have hint : decide (V.int a.num = V.int b.num) = decide (a.num = b.num) := decide_eq_decide.mpr ⟨V.int.inj, congrArg V.int⟩
      rw [hint, ← e]
      exact q
theorem sc_ahead_of : FnScope ["one", "other"] ["one", "other"] (defScope s_ahead_of) := ⟨rfl, rfl, rfl, by decide +kernel, rfl, by decide +kernel, by decide +kernel⟩
theorem h_ahead_of (T : Txt K mg) : Has P w K mg base "ahead_of" ["one", "other"] 2 S_ahead_of := by
  obtain ⟨fd, F⟩ := T.f_ahead_of
  refine ⟨_, fd, T.g_ahead_of, F.kp, F.binds (ps := ["one", "other"]) (fun _ _ _ _ _ _ us hl => match us, hl with | [_, _], _ => rfl), F.ok sc_ahead_of (fun vs H Q E h => sp2_len h) (fun cdv A outer s H vs Q E hr h => ?_)⟩
  obtain ⟨v0, v1, rfl, h⟩ := sp2_inv h
  obtain ⟨a, b, ⟨ha, oa⟩, ⟨hb, ob⟩, fa, fb, q⟩ := h
  refine ⟨_, (pss_cons (ps_if (PW.pt (pw_or (pt_val (cl (h_is_text T) (hr.mono (by omega)) (pa_cons (pv 0) pa_nil))) (pw_or1 (pt_val (cl (h_is_text T) (hr.mono (by omega)) (pa_cons (pv 1) pa_nil)))))) (pss_cons (ps_if (PW.pt (pw_and (pt_cmpR op_notN (pv 0) pe_non (nomark _)) (pw_and (pt_cmpR op_notN (pv 1) pe_non (nomark _)) (pw_and1 (pt_cmpR op_ne (cl (h_is_text T) (hr.mono (by omega)) (pa_cons (pv 0) pa_nil)) (cl (h_is_text T) (hr.mono (by omega)) (pa_cons (pv 1) pa_nil)) (nomark _)))))) (pss_one (ps_ret (cl (h_fault T) (hr.mono (by omega)) (pa_cons pe_str pa_nil)))) pss_nil)
      (pss_one (ps_ret (pe_callTy call_int1 (by rfl) T.n_int (by decide +kernel) (pa_cons (pe_cmpR op_lt_str (cl (h_as_text T) (hr.mono (by omega)) (pa_cons (pv 0) pa_nil)) (cl (h_as_text T) (hr.mono (by omega)) (pa_cons (pv 1) pa_nil)) (nomark _)) pa_nil))))) pss_nil)
      (pss_one (ps_ret (pe_callTy call_int1 (by rfl) T.n_int (by decide +kernel) (pa_cons (pe_cmpR op_lt (cl (h_as_number T) (hr.mono (by omega)) (pa_cons (pv 0) pa_nil)) (cl (h_as_number T) (hr.mono (by omega)) (pa_cons (pv 1) pa_nil)) (nomark _)) pa_nil))))), ?_⟩
  have na := wo_non ha
  have nb := wo_non hb
  refine ⟨_, rfl, a, ha, _, rfl, ?_⟩
  have fin : (a.isT || b.isT) = true → (!decide (a = .non) && (!decide (b = .non) && (a.isT != b.isT))) = false → Q (.int (if decide (a.txt.cps.toList < b.txt.cps.toList) = true then 1 else 0)) H := fun h1 h2 => by
    refine q _ _ Fr.refl ?_
    have e : aheadM a b = .int (b2n (decide (a.txt.cps.toList < b.txt.cps.toList))) := by
      unfold aheadM
      rw [if_pos h1, h2, if_neg (by decide)]
    rw [e]
    exact .int _
  by_cases t1 : a.isT = true
  · obtain ⟨rfl, ea⟩ := wo_txt ha t1
    have h1 : decide (a = .non) = false := by rw [← na]; rfl
    refine ifb t1 (iteT ⟨_, rfl, rfl, _, rfl, ⟨_, rfl, rfl, _, rfl, ?_⟩⟩)
    by_cases hb0 : v1 = .non
    · have h2 : decide (b = .non) = true := by rw [← nb, decide_eq_true hb0]
      rw [decide_eq_true hb0]
      exact ⟨_, rfl, a, ha, oa, fa, _, rfl, b, hb, ob, fb, _, _, rfl, rfl, .inr ⟨_, rfl, fin (by rw [t1]; rfl) (by rw [h1, h2]; rfl)⟩⟩
    · have h2 : decide (b = .non) = false := by rw [← nb, decide_eq_false hb0]
      rw [decide_eq_false hb0]
      refine ⟨_, rfl, a, ha, _, rfl, b, hb, rfl, _, rfl, ?_⟩
      by_cases t2 : b.isT = true
      · rw [t1, t2]
        exact ⟨_, rfl, a, ha, oa, fa, _, rfl, b, hb, ob, fb, _, _, rfl, rfl, .inr ⟨_, rfl, fin (by rw [t1]; rfl) (by rw [h1, h2, t1, t2]; rfl)⟩⟩
      · have t2' := Bool.eq_false_iff.mpr t2
        rw [t1, t2']
        refine ⟨_, rfl, fun v' H' f d => q v' H' f ?_⟩
        have e : aheadM a b = .flt "kind" := by
          unfold aheadM
          rw [t1, t2', h1, h2]
          all_goals rfl
        rw [e]
        exact d
  · have t1' := Bool.eq_false_iff.mpr t1
    refine ifbn t1' ⟨_, rfl, b, hb, _, rfl, ?_⟩
    by_cases t2 : b.isT = true
    · obtain ⟨rfl, eb⟩ := wo_txt hb t2
      have h2 : decide (b = .non) = false := by rw [← nb]; rfl
      refine ifb t2 ⟨_, rfl, rfl, _, rfl, ?_⟩
      by_cases ha0 : v0 = .non
      · have h1 : decide (a = .non) = true := by rw [← na, decide_eq_true ha0]
        rw [decide_eq_true ha0]
        exact ⟨_, rfl, a, ha, oa, fa, _, rfl, b, hb, ob, fb, _, _, rfl, rfl, .inr ⟨_, rfl, fin (by rw [t2, Bool.or_true]) (by rw [h1]; rfl)⟩⟩
      · have h1 : decide (a = .non) = false := by rw [← na, decide_eq_false ha0]
        rw [decide_eq_false ha0]
        refine ⟨_, rfl, rfl, _, rfl, ⟨_, rfl, a, ha, _, rfl, b, hb, rfl, _, rfl, ?_⟩⟩
        rw [t1', t2]
        refine ⟨_, rfl, fun v' H' f d => q v' H' f ?_⟩
        have e : aheadM a b = .flt "kind" := by
          unfold aheadM
          rw [t1', t2, h1, h2]
          all_goals rfl
        rw [e]
        exact d
    · have t2' := Bool.eq_false_iff.mpr t2
      refine ifbn t2' ⟨_, rfl, a, ha, fa, t1', _, rfl, b, hb, fb, t2', _, _, rfl, rfl, .inr ⟨_, rfl, q _ _ Fr.refl ?_⟩⟩
      have e : aheadM a b = .int (b2n (decide (a.num < b.num))) := by
        unfold aheadM
        rw [t1', t2']
        all_goals rfl
      rw [e]
      exact .int _
theorem sc_paired : FnScope ["op", "one", "other"] ["op", "one", "other"] (defScope s_paired) := ⟨rfl, rfl, rfl, by decide +kernel, rfl, by decide +kernel, by decide +kernel⟩
theorem h_paired (T : Txt K mg) : Has P w K mg base "paired" ["op", "one", "other"] 4 S_paired := by
  obtain ⟨fd, F⟩ := T.f_paired
  refine ⟨_, fd, T.g_paired, F.kp, F.binds (ps := ["op", "one", "other"]) (fun _ _ _ _ _ _ us hl => match us, hl with | [_, _, _], _ => rfl), F.ok sc_paired (fun vs H Q E h => sp3_len h) (fun cdv A outer s H vs Q E hr h => ?_)⟩
  obtain ⟨v0, v1, v2, rfl, h⟩ := sp3_inv h
  obtain ⟨x, a, b, rfl, ⟨ha, oa⟩, ⟨hb, ob⟩, q⟩ := h
  refine ⟨_, (pss_cons (ps_if (pt_val (cl (h_is_fault T) (hr.mono (by omega)) (pa_cons (pv 1) pa_nil))) (pss_one (ps_ret (pv 1))) pss_nil)
      (pss_cons (ps_if (pt_val (cl (h_is_fault T) (hr.mono (by omega)) (pa_cons (pv 2) pa_nil))) (pss_one (ps_ret (pv 2))) pss_nil)
      (pss_cons (ps_if (pt_cmpR op_eq (pv 0) pe_str (nomark _)) (pss_one (ps_ret (cl (h_joined T) (hr.mono (by omega)) (pa_cons (pv 1) (pa_cons (pv 2) pa_nil))))) pss_nil)
      (pss_cons (ps_if (pt_cmpR op_eq (pv 0) pe_str (nomark _)) (pss_one (ps_ret (pe_callTy call_int1 (by rfl) T.n_int (by decide +kernel) (pa_cons (cl (h_same_worth T) (hr.mono (by omega)) (pa_cons (pv 1) (pa_cons (pv 2) pa_nil))) pa_nil)))) pss_nil)
      (pss_cons (ps_if (pt_cmpR op_eq (pv 0) pe_str (nomark _)) (pss_one (ps_ret (cl (h_ahead_of T) (hr.mono (by omega)) (pa_cons (pv 1) (pa_cons (pv 2) pa_nil))))) pss_nil)
      (pss_cons (ps_if (PW.pt (pw_or (pt_val (cl (h_is_text T) (hr.mono (by omega)) (pa_cons (pv 1) pa_nil))) (pw_or1 (pt_val (cl (h_is_text T) (hr.mono (by omega)) (pa_cons (pv 2) pa_nil)))))) (pss_one (ps_ret (cl (h_fault T) (hr.mono (by omega)) (pa_cons pe_str pa_nil)))) pss_nil)
      (pss_one (ps_ret (cl (h_reckoned T) (hr.mono (by omega)) (pa_cons (pv 0) (pa_cons (cl (h_as_number T) (hr.mono (by omega)) (pa_cons (pv 1) pa_nil)) (pa_cons (cl (h_as_number T) (hr.mono (by omega)) (pa_cons (pv 2) pa_nil)) pa_nil)))))))))))), ?_⟩
  refine ⟨_, rfl, a, ha, _, rfl, ?_⟩
  by_cases f1 : a.isF = true
  · refine ifb f1 ⟨_, rfl, q _ _ Fr.refl ?_⟩
    rw [pairedM, if_pos f1]
    exact ha
  have f1' := Bool.eq_false_iff.mpr f1
  refine ifbn f1' ⟨_, rfl, b, hb, _, rfl, ?_⟩
  by_cases f2 : b.isF = true
  · refine ifb f2 ⟨_, rfl, q _ _ Fr.refl ?_⟩
    rw [pairedM, if_neg f1, if_pos f2]
    exact hb
  have f2' := Bool.eq_false_iff.mpr f2
  refine ifbn f2' ⟨_, rfl, rfl, _, rfl, ?_⟩
  by_cases o1 : x = "&"
  · refine ifd (by rw [o1]) ⟨_, rfl, _, rfl, a, b, ⟨ha, oa⟩, ⟨hb, ob⟩, f1', f2', fun v' H' f d => q v' H' f ?_⟩
    rw [pairedM, if_neg f1, if_neg f2, if_pos o1]
    exact d
  refine ifn (fun z => o1 (V.str.inj z)) ⟨_, rfl, rfl, _, rfl, ?_⟩
  by_cases o2 : x = "="
  · refine ifd (by rw [o2]) ⟨_, rfl, _, rfl, a, b, ⟨ha, oa⟩, ⟨hb, ob⟩, .inr ⟨_, rfl, q _ _ Fr.refl ?_⟩⟩
    rw [pairedM, if_neg f1, if_neg f2, if_neg o1, if_pos o2]
    exact .int _
  refine ifn (fun z => o2 (V.str.inj z)) ⟨_, rfl, rfl, _, rfl, ?_⟩
  by_cases o3 : x = "<"
  · refine ifd (by rw [o3]) ⟨_, rfl, _, rfl, a, b, ⟨ha, oa⟩, ⟨hb, ob⟩, f1', f2', fun v' H' f d => q v' H' f ?_⟩
    rw [pairedM, if_neg f1, if_neg f2, if_neg o1, if_neg o2, if_pos o3]
    exact d
  refine ifn (fun z => o3 (V.str.inj z)) ⟨_, rfl, a, ha, _, rfl, ?_⟩
  have e0 : pairedM x a b = if a.isT || b.isT then .flt "kind" else reckM x a.num b.num := by
    rw [pairedM, if_neg f1, if_neg f2, if_neg o1, if_neg o2, if_neg o3]
  rw [e0] at q
  by_cases t1 : a.isT = true
  · refine ifb t1 (iteT ⟨_, rfl, fun v' H' f d => q v' H' f ?_⟩)
    rw [t1]
    exact d
  have t1' := Bool.eq_false_iff.mpr t1
  refine ifbn t1' ⟨_, rfl, b, hb, _, rfl, ?_⟩
  by_cases t2 : b.isT = true
  · refine ifb t2 ⟨_, rfl, fun v' H' f d => q v' H' f ?_⟩
    rw [t1', t2]
    exact d
  have t2' := Bool.eq_false_iff.mpr t2
  refine ifbn t2' ⟨_, rfl, _, rfl, a, ha, f1', t1', _, rfl, b, hb, f2', t2', x, _, _, rfl, rfl, rfl, num_ok oa, num_ok ob, fun v' H' f d => q v' H' f ?_⟩
  rw [t1', t2']
  exact d
end
end OL
namespace OL
open PySem PySem.Spec PyProof.Rows L2

theorem intsOf_append : ∀ (a b : List Wo), intsOf (a ++ b) = intsOf a ++ intsOf b
  | [], _ => rfl
  | w :: r, b => by
    have h := intsOf_append r b
    cases w <;> simp only [List.cons_append, intsOf, h]
theorem firstF_append : ∀ (a b : List Wo), firstF a = none → firstF (a ++ b) = firstF b
  | [], _, _ => rfl
  | w :: r, b, h => by
    cases w with
    | flt x => cases h
    | non => exact firstF_append r b h
    | int _ => exact firstF_append r b h
    | str _ => exact firstF_append r b h
theorem take_snoc {α : Type} {l : List α} {i : Nat} {x : α} (h : l[i]? = some x) : l.take (i + 1) = l.take i ++ [x] := by
  rw [List.take_add_one, h] <;> rfl
theorem at_map {H : Hp} {xs : List V} {α : Type} {f : α → PyData} {l : List α} {i : Nat} {x : V} (h : DaL H xs (l.map f)) (e : xs[i]? = some x) : ∃ y, l[i]? = some y ∧ Da H x (f y) := by
  obtain ⟨d, e1, e2⟩ := h.get e
  rw [List.getElem?_map] at e1
  cases q : l[i]? with
  | none => rw [q] at e1; cases e1
  | some y =>
    rw [q] at e1
    have e3 : f y = d := Option.some.inj e1
    exact ⟨y, rfl, e3 ▸ e2⟩
def S_gathered (K : PySem.W.Frag) : Sp := sp2 fun x l H Q => ∃ o a xs ws, x = .str o ∧ l = .ref a ∧ H a = some (.lst xs) ∧ DaL H xs (ws.map Wo.d) ∧ ws.length ≤ 1000 ∧ ∀ v' H', Fr [] H H' → Da H' v' (gathM o ws).d → Q v' H'
section
variable {P : Program} {w : World} {K : PySem.W.Frag} {mg : Str → Option Value} {base : Heap}
theorem sc_gathered : FnScope ["word", "worths", "numbers", "worth"] ["word", "worths"] (defScope s_gathered) := ⟨rfl, rfl, rfl, by decide +kernel, rfl, by decide +kernel, by decide +kernel⟩
theorem h_gathered (T : Txt K mg) : Has P w K mg base "gathered" ["word", "worths"] 3 (S_gathered K) := by
  obtain ⟨fd, F⟩ := T.f_gathered
  refine ⟨_, fd, T.g_gathered, F.kp, F.binds (ps := ["word", "worths"]) (fun _ _ _ _ _ _ us hl => match us, hl with | [_, _], _ => rfl), F.ok sc_gathered (fun vs H Q E h => sp2_len h) (fun cdv A outer s H vs Q E hr h => ?_)⟩
  obtain ⟨v0, v1, rfl, h⟩ := sp2_inv h
  obtain ⟨o, a, xs, ws, rfl, rfl, ha, hd, hl, q⟩ := h
  have hlx : xs.length = ws.length := by rw [hd.length, List.length_map]
  refine ⟨_, (pss_cons (ps_set (i := 2) sc_gathered.nd rfl (Or.inl rfl) (pe_lst pa_nil))
      (pss_cons (ps_for PassesOwn.never rfl (pi_list (pv 1)) (pg_name (i := 3) sc_gathered.nd rfl (Or.inl rfl)) (pss_cons (ps_if (pt_val (cl (h_is_fault T) (hr.mono (by omega)) (pa_cons (pv 3) pa_nil))) (pss_one (ps_ret (pv 3))) pss_nil)
      (pss_one (ps_if (PW.pt (pw_and (pt_cmpR op_notN (pv 3) pe_non (nomark _)) (pw_and1 (pt_not (pt_val (cl (h_is_text T) (hr.mono (by omega)) (pa_cons (pv 3) pa_nil))))))) (pss_one (ps_expr (pe_bm PySem.F.plainAttrs_list PySem.F.slot_list_append PySem.F.type_list_append mt_append (pv 2) (pa_cons (pv 3) pa_nil)))) pss_nil))))
      (pss_cons (ps_if (pt_cmpR op_eq (pv 0) pe_str (nomark _)) (pss_one (ps_ret (cl (h_held_number T) (hr.mono (by omega)) (pa_cons (pe_callB (cr_sum rfl) (by rfl) T.n_sum (by decide +kernel) (pa_cons (pv 2) pa_nil)) pa_nil)))) pss_nil)
      (pss_cons (ps_if (pt_cmpR op_eq (pv 0) pe_str (nomark _)) (pss_one (ps_ret (pe_callB call_len_seq (by rfl) T.n_len (by decide +kernel) (pa_cons (pv 2) pa_nil)))) pss_nil)
      (pss_cons (ps_if (pt_cmpR op_eq (pe_callB call_len_seq (by rfl) T.n_len (by decide +kernel) (pa_cons (pv 2) pa_nil)) pe_int (nomark _)) (pss_one (ps_ret (cl (h_fault T) (hr.mono (by omega)) (pa_cons pe_str pa_nil)))) pss_nil)
      (pss_cons (ps_if (pt_cmpR op_eq (pv 0) pe_str (nomark _)) (pss_one (ps_ret (pe_callB (cr_min rfl) (by rfl) T.n_min (by decide +kernel) (pa_cons (pv 2) pa_nil)))) pss_nil)
      (pss_one (ps_ret (pe_callB (cr_max rfl) (by rfl) T.n_max (by decide +kernel) (pa_cons (pv 2) pa_nil)))))))))), ?_⟩
  refine ⟨by show 0 ≤ sizeLine; decide, fun n hn => ?_⟩
  have f1 : Fr [] H (upd H n (.lst [])) := Fr.refl.new hn
  refine ⟨_, rfl, a, rfl, ⟨_, SqL.of (f1.k _ _ ha (by simp))⟩, ?_⟩
  refine for_list (K := K) (a := a) (xs := xs) (fun i σ H' => ∃ wv, σ = [some (.str o), some (.ref a), some (.ref n), wv] ∧ Fr [] H H' ∧ H' n = some (.lst ((intsOf (ws.take i)).map V.int)) ∧ firstF (ws.take i) = none) ?_ ?_ ?_ ?_
  · exact ⟨none, rfl, f1, upd_same, rfl⟩
  · rintro i σ H' _ ⟨_, _, f, _, _⟩
    exact SqL.of (f.k _ _ ha (by simp))
  · rintro i x σ H' hi ⟨wv, rfl, f, hns, hf⟩
    obtain ⟨y, ey, dy⟩ := at_map (f.dal hd) hi
    have hil : i < xs.length := (List.getElem?_eq_some_iff.mp hi).1
    have tk := take_snoc ey
    refine ⟨_, rfl, y, dy, _, rfl, ?_⟩
    have lenn : ((intsOf (ws.take i)).map V.int).length < sizeLine := by
      have h1 := intsOf_len (ws.take i)
      rw [List.length_map]
      rw [List.length_take] at h1
      exact small1000 (by omega)
    by_cases h1 : y.isF = true
    · refine ifb h1 ⟨_, rfl, q _ _ f ?_⟩
      have e : gathM o ws = y := by
        have e1 : firstF ws = some y := by
          rw [← List.take_append_drop (i + 1) ws, tk, List.append_assoc, firstF_append _ _ hf]
          cases y with
          | flt z => rfl
          | non => cases h1
          | int _ => cases h1
          | str _ => cases h1
        rw [gathM, e1]
      rw [e]
      exact dy
    have h1' := Bool.eq_false_iff.mpr h1
    have ff : firstF (ws.take (i + 1)) = none := by
      rw [tk, firstF_append _ _ hf]
      cases y with
      | flt z => cases h1'
      | non => rfl
      | int _ => rfl
      | str _ => rfl
    refine ifbn h1' ?_
    cases y with
    | flt z => cases h1'
    | non =>
      rw [dy.nonI]
      refine ⟨_, rfl, rfl, _, rfl, _, rfl, f, ?_, ff⟩
      rw [tk, intsOf_append, show intsOf [Wo.non] = [] from rfl, List.append_nil]
      exact hns
    | str z =>
      rw [dy.strI]
      refine ⟨_, rfl, rfl, _, rfl, ⟨_, rfl, .str z, .str z, _, rfl, _, rfl, f, ?_, ff⟩⟩
      rw [tk, intsOf_append, show intsOf [Wo.str z] = [] from rfl, List.append_nil]
      exact hns
    | int z =>
      rw [dy.intI]
      refine ⟨_, rfl, rfl, _, rfl, ⟨_, rfl, .int z, .int z, _, rfl, ?_⟩⟩
      refine ⟨_, rfl, .inl ⟨rfl, _, SqL.of hns⟩, _, rfl, n, _, _, rfl, rfl, hns, lenn, _, rfl, f.mut hn, ?_, ff⟩
      rw [upd_same, tk, intsOf_append, List.map_append]
      all_goals rfl
  · rintro σ H' ⟨wv, rfl, f, hns, hf⟩
    have et : ws.take xs.length = ws := by rw [hlx, List.take_length]
    rw [et] at hns hf
    have e0 : gathM o ws = if o = "sum" then heldM (intsOf ws).sum else if o = "count" then .int ((intsOf ws).length : Nat) else if (intsOf ws).length = 0 then .flt "none" else if o = "least" then .int (minM (intsOf ws)) else .int (maxM (intsOf ws)) := by
      rw [gathM, hf]
    rw [e0] at q
    refine ⟨_, rfl, rfl, _, rfl, ?_⟩
    by_cases o1 : o = "sum"
    · refine ifd (by rw [o1]) ⟨_, rfl, n, _, rfl, SqL.of hns, _, rfl, fun v' H2 f2 d => q v' H2 (f.trans f2) ?_⟩
      rw [if_pos o1]
      exact d
    rw [if_neg o1] at q
    refine ifn (fun z => o1 (V.str.inj z)) ⟨_, rfl, rfl, _, rfl, ?_⟩
    by_cases o2 : o = "count"
    · refine ifd (by rw [o2]) ⟨_, rfl, n, _, rfl, .inl (SqL.of hns), q _ _ f ?_⟩
      rw [if_pos o2, List.length_map]
      exact .int _
    rw [if_neg o2] at q
    refine ifn (fun z => o2 (V.str.inj z)) ⟨_, rfl, n, _, rfl, .inl (SqL.of hns), rfl, _, rfl, ?_⟩
    rw [List.length_map]
    by_cases o3 : (intsOf ws).length = 0
    · refine ifd (by rw [o3]; rfl) ⟨_, rfl, fun v' H2 f2 d => q v' H2 (f.trans f2) ?_⟩
      rw [if_pos o3]
      exact d
    rw [if_neg o3] at q
    have hne : intsOf ws ≠ [] := fun z => o3 (by rw [z]; rfl)
    refine ifn (fun z => o3 (by have := V.int.inj z; omega)) ⟨_, rfl, rfl, _, rfl, ?_⟩
    by_cases o4 : o = "least"
    · refine ifd (by rw [o4]) ⟨_, rfl, n, _, rfl, SqL.of hns, by omega, fun m hm hy => q _ _ f ?_⟩
      obtain ⟨g1, g2⟩ := minM_spec hne
      have e : m = minM (intsOf ws) := Int.le_antisymm (hy _ g1) (g2 _ hm)
      rw [if_pos o4, ← e]
      exact .int _
    · refine ifn (fun z => o4 (V.str.inj z)) ⟨_, rfl, n, _, rfl, SqL.of hns, by omega, fun m hm hy => q _ _ f ?_⟩
      obtain ⟨g1, g2⟩ := maxM_spec hne
      have e : m = maxM (intsOf ws) := Int.le_antisymm (g2 _ hm) (hy _ g1)
      rw [if_neg o4, ← e]
      exact .int _
end
end OL
namespace OL
open PySem PySem.Spec PyProof.Rows L2

/-! ### the look's object -/
def lf (wd wl rd : Addr) (pv : V) : List (Str × V) := [("worths", .ref wd), ("waiting", .ref wl), ("reads", .ref rd), ("place", pv)]
theorem beq_ne {a b : Str} (h : ¬ a = b) : (a == b) = false := beq_eq_false_iff_ne.mpr h
theorem nWW : ("waiting" == ("worths" : Str)) = false := beq_ne (by decide +kernel)
theorem nRW : ("reads" == ("worths" : Str)) = false := beq_ne (by decide +kernel)
theorem nRA : ("reads" == ("waiting" : Str)) = false := beq_ne (by decide +kernel)
theorem nPW : ("place" == ("worths" : Str)) = false := beq_ne (by decide +kernel)
theorem nPA : ("place" == ("waiting" : Str)) = false := beq_ne (by decide +kernel)
theorem nPR : ("place" == ("reads" : Str)) = false := beq_ne (by decide +kernel)
section
variable {wd wl rd : Addr} {pv : V}
theorem lf_w : (lf wd wl rd pv).lookup ("worths" : Str) = some (.ref wd) := by simp [lf, List.lookup]
theorem lf_a : (lf wd wl rd pv).lookup ("waiting" : Str) = some (.ref wl) := by simp [lf, List.lookup, nWW]
theorem lf_r : (lf wd wl rd pv).lookup ("reads" : Str) = some (.ref rd) := by simp [lf, List.lookup, nRW, nRA]
theorem lf_p : (lf wd wl rd pv).lookup ("place" : Str) = some pv := by simp [lf, List.lookup, nPW, nPA, nPR]
theorem lf_no {m : Str} (h1 : ¬ m = "worths") (h2 : ¬ m = "waiting") (h3 : ¬ m = "reads") (h4 : ¬ m = "place") : (lf wd wl rd pv).lookup m = none := by
  simp [lf, List.lookup, beq_ne h1, beq_ne h2, beq_ne h3, beq_ne h4]
theorem lf_put {pv' : V} : putF "place" pv' (lf wd wl rd pv) = lf wd wl rd pv' := by
  have h1 : ¬ ("worths" : Str) = "place" := by decide +kernel
  have h2 : ¬ ("waiting" : Str) = "place" := by decide +kernel
  have h3 : ¬ ("reads" : Str) = "place" := by decide +kernel
  simp [lf, putF, h1, h2, h3]
theorem lf_made : putF "place" pv (putF "reads" (.ref rd) (putF "waiting" (.ref wl) (putF "worths" (.ref wd) []))) = lf wd wl rd pv := by
  have h1 : ¬ ("worths" : Str) = "place" := by decide +kernel
  have h2 : ¬ ("waiting" : Str) = "place" := by decide +kernel
  have h3 : ¬ ("reads" : Str) = "place" := by decide +kernel
  have h4 : ¬ ("worths" : Str) = "reads" := by decide +kernel
  have h5 : ¬ ("waiting" : Str) = "reads" := by decide +kernel
  have h6 : ¬ ("worths" : Str) = "waiting" := by decide +kernel
  simp [lf, putF, h1, h2, h3, h4, h5, h6]
end
def kyP (p : Pl) : List Key := [.inl p.1, .inl p.2]
theorem kyP_map (p : Pl) : (kyP p).map kV = [.int p.1, .int p.2] := rfl
/-- what is known, as it stands: the dict of worths, the list of those that wait -/
structure Known (k : Kn) (H : Hp) (wd wl : Addr) : Prop where
  d : ∃ kvs : List (List Key × V), H wd = some (.dT kvs) ∧ ∀ p, Da H ((valV kvs (kyP p)).getD .non) (k.wv p).d
  l : ∃ (xs : List V) (ps : List Pl), H wl = some (.lst xs) ∧ DaL H xs (ps.map plD) ∧ ∀ p, k.wt p = decide (p ∈ ps)
theorem Known.fr {k : Kn} {M : List Addr} {H H' : Hp} {wd wl : Addr} (h : Known k H wd wl) (f : Fr M H H') (n1 : wd ∉ M) (n2 : wl ∉ M) : Known k H' wd wl := by
  obtain ⟨⟨kvs, e1, e2⟩, ⟨xs, ps, e3, e4, e5⟩⟩ := h
  exact ⟨⟨kvs, f.k _ _ e1 n1, fun p => f.da (e2 p)⟩, ⟨xs, ps, f.k _ _ e3 n2, f.dal e4, e5⟩⟩
structure LkAt (K : PySem.W.Frag) (k : Kn) (H : Hp) (L rd wd wl : Addr) (rs : List Itm) (pv : V) : Prop where
  ob : ∃ dx, H L = some (.ins (He.ga K "Look") dx (lf wd wl rd pv))
  rl : ∃ xs, H rd = some (.lst xs) ∧ DaL H xs (rs.map Itm.d)
  kn : Known k H wd wl
  ne : wl ≠ rd
  sz : rs.length ≤ 100000
section
variable {K : PySem.W.Frag} {k : Kn} {H H' : Hp} {L rd wd wl : Addr} {rs : List Itm} {pv : V}
theorem LkAt.nL (h : LkAt K k H L rd wd wl rs pv) : wd ∉ [L, rd] ∧ wl ∉ [L, rd] ∧ L ≠ rd := by
  obtain ⟨⟨dx, e1⟩, ⟨xs, e2, _⟩, ⟨⟨kvs, e3, _⟩, ⟨ys, ps, e4, _⟩⟩, ne, _⟩ := h
  refine ⟨?_, ?_, ne_of e1 e2 (by intro z; cases z)⟩
  · intro z
    rcases List.mem_cons.mp z with z | z
    · rw [z, e1] at e3; cases e3
    · rw [List.mem_singleton.mp z, e2] at e3; cases e3
  · intro z
    rcases List.mem_cons.mp z with z | z
    · rw [z, e1] at e4; cases e4
    · exact ne (List.mem_singleton.mp z)
theorem LkAt.fr (h : LkAt K k H L rd wd wl rs pv) (f : Fr [] H H') : LkAt K k H' L rd wd wl rs pv := by
  obtain ⟨⟨dx, e1⟩, ⟨xs, e2, e3⟩, kn, ne, sz⟩ := h
  exact ⟨⟨dx, f.k _ _ e1 (by simp)⟩, ⟨xs, f.k _ _ e2 (by simp), f.dal e3⟩, kn.fr f (by simp) (by simp), ne, sz⟩
end
def Wt (K : PySem.W.Frag) : Addr := He.ga K "WAITS"
def ResV (K : PySem.W.Frag) (H : Hp) (v : V) : Res → Prop
  | .waits _ => v = .ref (Wt K)
  | .worth w => Da H v w.d
def PvOk (H : Hp) (pv : V) : Res → Prop
  | .waits p => Da H pv (plD p)
  | .worth _ => True
theorem ResV.fr {K : PySem.W.Frag} {M : List Addr} {H H' : Hp} {v : V} {r : Res} (h : ResV K H v r) (f : Fr M H H') : ResV K H' v r := by
  cases r with
  | waits p => exact h
  | worth w => exact f.da h
theorem PvOk.fr {M : List Addr} {H H' : Hp} {v : V} {r : Res} (h : PvOk H v r) (f : Fr M H H') : PvOk H' v r := by
  cases r with
  | waits p => exact f.da h
  | worth w => trivial
/-- what a step of a look promises -/
def Post (K : PySem.W.Frag) (k : Kn) (H : Hp) (L rd wd wl : Addr) (r : LK) (Q : VK) : Prop :=
  ∀ v H' pv, Fr [L, rd] H H' → LkAt K k H' L rd wd wl r.2 pv → ResV K H' v r.1 → PvOk H' pv r.1 → Q v H'
theorem itm_eqv (a b : Itm) : PyData.eqv a.d b.d = decide (a = b) := by
  cases a with
  | cell p =>
    cases b with
    | cell q =>
      obtain ⟨x, y⟩ := p
      obtain ⟨x', y'⟩ := q
      have e : PyData.eqv (Itm.cell (x, y)).d (Itm.cell (x', y')).d = ((("at" : Str) == "at") && (((x == x') && ((y == y') && true)) && true)) := by simp only [Itm.d, plD, PyData.eqv, PyData.eqvAll]
      rw [e]
      by_cases h1 : x = x'
      · by_cases h2 : y = y'
        · subst h1 h2
          simp
        · have q : (y == y') = false := beq_eq_false_iff_ne.mpr h2
          rw [q, decide_eq_false (fun z => h2 (by injection z with z; injection z))]
          simp
      · have q : (x == x') = false := beq_eq_false_iff_ne.mpr h1
        rw [q, decide_eq_false (fun z => h1 (by injection z with z; injection z))]
        simp
    | part r q =>
      have e : PyData.eqv (Itm.cell p).d (Itm.part r q).d = ((("at" : Str) == "part") && (PyData.eqv (plD p) r.d && false)) := by simp only [Itm.d, PyData.eqv, PyData.eqvAll]
      rw [e, Bool.and_false, Bool.and_false, decide_eq_false (fun z => nomatch z)]
  | part r p =>
    cases b with
    | cell q =>
      have e : PyData.eqv (Itm.part r p).d (Itm.cell q).d = ((("part" : Str) == "at") && (PyData.eqv r.d (plD q) && false)) := by simp only [Itm.d, PyData.eqv, PyData.eqvAll]
      rw [e, Bool.and_false, Bool.and_false, decide_eq_false (fun z => nomatch z)]
    | part r' q =>
      obtain ⟨x, y⟩ := p
      obtain ⟨x', y'⟩ := q
      obtain ⟨a1, a2, a3, a4⟩ := r
      obtain ⟨b1, b2, b3, b4⟩ := r'
      have e : PyData.eqv (Itm.part ⟨a1, a2, a3, a4⟩ (x, y)).d (Itm.part ⟨b1, b2, b3, b4⟩ (x', y')).d =
          ((("part" : Str) == "part") && (((a1 == b1) && ((a2 == b2) && ((a3 == b3) && ((a4 == b4) && true)))) && (((x == x') && ((y == y') && true)) && true))) := by simp only [Itm.d, plD, Ar.d, PyData.eqv, PyData.eqvAll]
      rw [e, Bool.eq_iff_iff]
      simp only [Bool.and_eq_true, beq_iff_eq, and_true, true_and, decide_eq_true_eq, Itm.part.injEq, Ar.mk.injEq, Prod.mk.injEq]
theorem itm_depth (a : Itm) : a.d.depth ≤ 60 := by
  cases a with
  | cell p => simp [Itm.d, plD, PyData.depth, PyData.depthAll]
  | part r p => simp [Itm.d, plD, Ar.d, PyData.depth, PyData.depthAll]
theorem itm_plain (a : Itm) : a.d.plain = true := by
  cases a with
  | cell p => simp [Itm.d, plD, PyData.plain, PyData.plainAll]
  | part r p => simp [Itm.d, plD, Ar.d, PyData.plain, PyData.plainAll]
theorem itm_any (rs : List Itm) (i : Itm) : ((rs.map Itm.d).any fun z => PyData.eqv z i.d) = decide (i ∈ rs) := by
  rw [List.any_map, Bool.eq_iff_iff, List.any_eq_true, decide_eq_true_eq]
  constructor
  · rintro ⟨x, hx, e⟩
    have e2 : PyData.eqv x.d i.d = true := e
    rw [itm_eqv, decide_eq_true_eq] at e2
    exact e2 ▸ hx
  · intro h
    refine ⟨i, h, ?_⟩
    show PyData.eqv i.d i.d = true
    rw [itm_eqv, decide_eq_true rfl]
theorem pl_eqv (p q : Pl) : PyData.eqv (plD p) (plD q) = decide (p = q) := by
  obtain ⟨x, y⟩ := p
  obtain ⟨x', y'⟩ := q
  have e : PyData.eqv (plD (x, y)) (plD (x', y')) = ((x == x') && ((y == y') && true)) := by simp only [plD, PyData.eqv, PyData.eqvAll]
  rw [e, Bool.eq_iff_iff]
  simp only [Bool.and_eq_true, beq_iff_eq, and_true, decide_eq_true_eq, Prod.mk.injEq]
theorem pl_any (ps : List Pl) (p : Pl) : ((ps.map plD).any fun z => PyData.eqv z (plD p)) = decide (p ∈ ps) := by
  rw [List.any_map, Bool.eq_iff_iff, List.any_eq_true, decide_eq_true_eq]
  constructor
  · rintro ⟨x, hx, e⟩
    have e2 : PyData.eqv (plD x) (plD p) = true := e
    rw [pl_eqv, decide_eq_true_eq] at e2
    exact e2 ▸ hx
  · intro h
    refine ⟨p, h, ?_⟩
    show PyData.eqv (plD p) (plD p) = true
    rw [pl_eqv, decide_eq_true rfl]
theorem pl_depth (p : Pl) : (plD p).depth ≤ 60 := by simp [plD, PyData.depth, PyData.depthAll]
theorem pl_plain (p : Pl) : (plD p).plain = true := by simp [plD, PyData.plain, PyData.plainAll]
theorem pl_tup {H : Hp} {v : V} {p : Pl} (h : Da H v (plD p)) : ∃ a, v = .ref a ∧ H a = some (plV p) := by
  obtain ⟨a, xs, rfl, e, l⟩ := h.tupI
  cases l with
  | cons h1 l =>
    cases l with
    | cons h2 l =>
      cases l
      rw [h1.intI, h2.intI] at e
      exact ⟨a, rfl, e⟩
end OL
namespace OL
open PySem PySem.Spec PyProof.Rows L2

def S_init (K : PySem.W.Frag) : Sp := sp3 fun s a b H Q => ∃ L dx wd wl, s = .ref L ∧ a = .ref wd ∧ b = .ref wl ∧ H L = some (.ins (He.ga K "Look") dx []) ∧
  ∀ H' rd, Fr [L] H H' → H rd = none → H' L = some (.ins (He.ga K "Look") dx (lf wd wl rd .non)) → H' rd = some (.lst []) → Q .non H'
def S_note (K : PySem.W.Frag) : Sp := sp2 fun s it H Q => ∃ k L rd wd wl rs pz i, s = .ref L ∧ LkAt K k H L rd wd wl rs pz ∧ Da H it (Itm.d i) ∧ rs.length < 100000 ∧ ∀ H', Fr [L, rd] H H' → LkAt K k H' L rd wd wl (note i rs) pz → Q .non H'
def S_seen (K : PySem.W.Frag) : Sp := sp2 fun s pl H Q => ∃ k L rd wd wl rs pz p, s = .ref L ∧ LkAt K k H L rd wd wl rs pz ∧ Da H pl (plD p) ∧ Post K k H L rd wd wl (k.seen p, rs) Q
def S_read_cell (K : PySem.W.Frag) : Sp := sp2 fun s pl H Q => ∃ k L rd wd wl rs pz p, s = .ref L ∧ LkAt K k H L rd wd wl rs pz ∧ Da H pl (plD p) ∧ rs.length < 100000 ∧ Post K k H L rd wd wl (k.seen p, note (.cell p) rs) Q
theorem note_len {i : Itm} {rs : List Itm} : (note i rs).length ≤ rs.length + 1 := by
  unfold note
  split
  · omega
  · simp
section
variable {P : Program} {w : World} {K : PySem.W.Frag} {mg : Str → Option Value} {base : Heap}
theorem scm_init : FnScope ["self", "worths", "waiting"] ["self", "worths", "waiting"] (defScope sm_init) := ⟨rfl, rfl, rfl, by decide +kernel, rfl, by decide +kernel, by decide +kernel⟩
theorem hm_init (T : Txt K mg) : HasM P w K mg base (He.ga K "Look") "__init__" ["self", "worths", "waiting"] 1 (S_init K) := by
  obtain ⟨fd, F⟩ := T.fm_init
  refine ⟨_, fd, T.mt_init, F.binds (ps := ["self", "worths", "waiting"]) (fun _ _ _ _ _ _ us hl => match us, hl with | [_, _, _], _ => rfl), F.ok scm_init (fun vs H Q E h => sp3_len h) (fun cdv A outer s H vs Q E hr h => ?_)⟩
  obtain ⟨v0, v1, v2, rfl, h⟩ := sp3_inv h
  obtain ⟨L, dx, wd, wl, rfl, rfl, rfl, hL, q⟩ := h
  refine ⟨_, (pss_cons (ps_fld (pv 0) (pv 1) rfl)
      (pss_cons (ps_fld (pv 0) (pv 2) rfl)
      (pss_cons (ps_fld (pv 0) (pe_lst pa_nil) rfl)
      (pss_one (ps_fld (pv 0) pe_non rfl))))), ?_⟩
  refine ⟨_, rfl, _, rfl, L, _, dx, _, rfl, hL, T.cl, T.at_worths, (by show 0 < 1000; decide), ?_⟩
  refine ⟨_, rfl, _, rfl, L, _, dx, _, rfl, upd_same, T.cl, T.at_waiting, (by show 1 < 1000; decide), ?_⟩
  refine ⟨by show 0 ≤ sizeLine; decide, fun rd hrd => ?_⟩
  have hrd1 := hrd
  rw [upd_upd] at hrd
  obtain ⟨hne, hrd0⟩ := upd_none hrd
  refine ⟨_, rfl, L, _, dx, _, rfl, (by rw [upd_ne hne.symm, upd_same]), T.cl, T.at_reads, (by show 2 < 1000; decide), ?_⟩
  refine ⟨_, rfl, L, _, dx, _, rfl, upd_same, T.cl, T.at_place, (by show 3 < 1000; decide), ?_⟩
  rw [lf_made]
  refine q _ rd ?_ hrd0 upd_same (by rw [upd_ne hne, upd_ne hne, upd_same])
  have m : L ∈ [L] := List.mem_cons_self ..
  exact ((((Fr.refl.set m hL (by intro _ z; cases z)).set m upd_same (by intro _ z; cases z)).new hrd1).set m (by rw [upd_ne hne.symm]; exact upd_same) (by intro _ z; cases z)).set m upd_same (by intro _ z; cases z)
theorem scm_note : FnScope ["self", "item"] ["self", "item"] (defScope sm_note) := ⟨rfl, rfl, rfl, by decide +kernel, rfl, by decide +kernel, by decide +kernel⟩
theorem hm_note (T : Txt K mg) : HasM P w K mg base (He.ga K "Look") "note" ["self", "item"] 1 (S_note K) := by
  obtain ⟨fd, F⟩ := T.fm_note
  refine ⟨_, fd, T.mt_note, F.binds (ps := ["self", "item"]) (fun _ _ _ _ _ _ us hl => match us, hl with | [_, _], _ => rfl), F.ok scm_note (fun vs H Q E h => sp2_len h) (fun cdv A outer s H vs Q E hr h => ?_)⟩
  obtain ⟨v0, v1, rfl, h⟩ := sp2_inv h
  obtain ⟨k, L, rd, wd, wl, rs, pz, i, rfl, S, hi, hz, q⟩ := h
  obtain ⟨n1, n2, n3⟩ := S.nL
  obtain ⟨⟨dx, e1⟩, ⟨xs, e2, e3⟩, kn, ne, sz⟩ := id S
  refine ⟨_, (pss_one (ps_if (pt_cmpR (op_notInLP (hr.units)) (pv 1) (pe_fld (pv 0) rfl) (by rfl)) (pss_one (ps_expr (pe_bm PySem.F.plainAttrs_list PySem.F.slot_list_append PySem.F.type_list_append mt_append (pe_fld (pv 0) rfl) (pa_cons (pv 1) pa_nil)))) pss_nil)), ?_⟩
  refine ⟨_, rfl, _, rfl, L, _, dx, _, _, rfl, e1, T.cl, T.at_reads, lf_r, i.d, rs.map Itm.d, Da.dp _ _ hi, .lst (SqL.of e2) (DaL.dp _ _ e3), itm_plain i, DaL.plain _ _ e3, itm_depth i, _, rfl, ?_⟩
  rw [itm_any]
  by_cases h : i ∈ rs
  · rw [decide_eq_true h]
    have e : note i rs = rs := if_pos h
    rw [e] at q
    exact q H Fr.refl S
  · rw [decide_eq_false h]
    have e : note i rs = rs ++ [i] := if_neg h
    rw [e] at q
    have hl := e3.length
    rw [List.length_map] at hl
    refine ⟨_, rfl, L, _, dx, _, _, rfl, e1, T.cl, T.at_reads, lf_r, .inl ⟨rfl, _, SqL.of e2⟩, _, rfl, rd, xs, _, rfl, rfl, e2, Nat.lt_of_lt_of_le (show xs.length < 100000 by omega) (by decide), ?_⟩
    have f : Fr [L, rd] H (upd H rd (.lst (xs ++ [v1]))) := Fr.refl.set (by simp) e2 (by intro _ z; cases z)
    refine q _ f ⟨⟨dx, by rw [upd_ne n3]; exact e1⟩, ⟨_, upd_same, ?_⟩, kn.fr f n1 n2, ne, by rw [List.length_append, List.length_singleton]; omega⟩
    rw [List.map_append]
    exact (f.dal e3).append (.cons (f.da hi) .nil)
theorem scm_seen : FnScope ["self", "place"] ["self", "place"] (defScope sm_seen) := ⟨rfl, rfl, rfl, by decide +kernel, rfl, by decide +kernel, by decide +kernel⟩
theorem hm_seen (T : Txt K mg) : HasM P w K mg base (He.ga K "Look") "seen" ["self", "place"] 1 (S_seen K) := by
  obtain ⟨fd, F⟩ := T.fm_seen
  refine ⟨_, fd, T.mt_seen, F.binds (ps := ["self", "place"]) (fun _ _ _ _ _ _ us hl => match us, hl with | [_, _], _ => rfl), F.ok scm_seen (fun vs H Q E h => sp2_len h) (fun cdv A outer s H vs Q E hr h => ?_)⟩
  obtain ⟨v0, v1, rfl, h⟩ := sp2_inv h
  obtain ⟨k, L, rd, wd, wl, rs, pz, p, rfl, S, hi, q⟩ := h
  obtain ⟨n1, n2, n3⟩ := S.nL
  obtain ⟨⟨dx, e1⟩, ⟨xs, e2, e3⟩, ⟨⟨kvs, k1, k2⟩, ⟨ys, ps, k3, k4, k5⟩⟩, ne, sz⟩ := id S
  refine ⟨_, (pss_cons (ps_if (pt_cmpR (op_inLP (hr.units)) (pv 1) (pe_fld (pv 0) rfl) (by rfl)) (pss_cons (ps_fld (pv 0) (pv 1) rfl)
      (pss_one (ps_ret (cR T.g_WAITS)))) pss_nil)
      (pss_one (ps_ret (pe_dget2 (hu_of hr) (pe_fld (pv 0) rfl) (pv 1) pe_non ⟨rfl, rfl, rfl, rfl⟩)))), ?_⟩
  refine ⟨_, rfl, _, rfl, L, _, dx, _, _, rfl, e1, T.cl, T.at_waiting, lf_a, plD p, ps.map plD, Da.dp _ _ hi, .lst (SqL.of k3) (DaL.dp _ _ k4), pl_plain p, DaL.plain _ _ k4, pl_depth p, _, rfl, ?_⟩
  rw [pl_any]
  by_cases h : p ∈ ps
  · rw [decide_eq_true h]
    have e : k.seen p = .waits p := by
      rw [Kn.seen, k5, decide_eq_true h]
      rfl
    rw [e] at q
    refine ⟨_, rfl, _, rfl, L, _, dx, _, rfl, e1, T.cl, T.at_place, (by show 4 < 1000; decide), ?_⟩
    rw [lf_put]
    have f : Fr [L, rd] H (upd H L (.ins (He.ga K "Look") dx (lf wd wl rd v1))) := Fr.refl.set (by simp) e1 (by intro _ z; cases z)
    refine q _ _ v1 f ⟨⟨dx, upd_same⟩, ⟨xs, by rw [upd_ne n3.symm]; exact e2, f.dal e3⟩, S.kn.fr f n1 n2, ne, sz⟩ rfl (f.da hi)
  · rw [decide_eq_false h]
    have e : k.seen p = .worth (k.wv p) := by
      rw [Kn.seen, k5, decide_eq_false h]
      rfl
    rw [e] at q
    obtain ⟨a, rfl, ea⟩ := pl_tup hi
    refine ⟨_, rfl, L, _, dx, _, _, rfl, e1, T.cl, T.at_worths, lf_w, wd, rfl, .inr ⟨kvs, .inl k1⟩, _, rfl, _, DGet.t (k := kyP p) k1 ea, ?_⟩
    exact q _ _ pz Fr.refl S (k2 p) trivial
theorem scm_read_cell : FnScope ["self", "place"] ["self", "place"] (defScope sm_read_cell) := ⟨rfl, rfl, rfl, by decide +kernel, rfl, by decide +kernel, by decide +kernel⟩
theorem hm_read_cell (T : Txt K mg) : HasM P w K mg base (He.ga K "Look") "read_cell" ["self", "place"] 2 (S_read_cell K) := by
  obtain ⟨fd, F⟩ := T.fm_read_cell
  refine ⟨_, fd, T.mt_read_cell, F.binds (ps := ["self", "place"]) (fun _ _ _ _ _ _ us hl => match us, hl with | [_, _], _ => rfl), F.ok scm_read_cell (fun vs H Q E h => sp2_len h) (fun cdv A outer s H vs Q E hr h => ?_)⟩
  obtain ⟨v0, v1, rfl, h⟩ := sp2_inv h
  obtain ⟨k, L, rd, wd, wl, rs, pz, p, rfl, S, hi, hz, q⟩ := h
  refine ⟨_, (pss_cons (ps_expr (mt T.cl (hm_note T) (hr.mono (by omega)) (pv 0) (pa_cons (pe_tup (pa_cons pe_str (pa_cons (pv 1) pa_nil))) pa_nil)))
      (pss_one (ps_ret (mt T.cl (hm_seen T) (hr.mono (by omega)) (pv 0) (pa_cons (pv 1) pa_nil))))), ?_⟩
  obtain ⟨dx, e1⟩ := S.ob
  have noN : (lf wd wl rd pz).lookup ("note" : Str) = none := lf_no (by decide +kernel) (by decide +kernel) (by decide +kernel) (by decide +kernel)
  have noS : (lf wd wl rd pz).lookup ("seen" : Str) = none := lf_no (by decide +kernel) (by decide +kernel) (by decide +kernel) (by decide +kernel)
  refine ⟨_, rfl, L, dx, _, rfl, e1, noN, _, rfl, (by show 2 ≤ sizeLine; decide), fun t ht => ?_⟩
  have f0 : Fr [] H (upd H t (.tup [.str "at", v1])) := Fr.refl.new ht
  refine ⟨k, L, rd, wd, wl, rs, pz, .cell p, rfl, S.fr f0, .tup upd_same (.cons (.str _) (.cons (f0.da hi) .nil)), hz, fun H2 f2 S2 => ?_⟩
  obtain ⟨dx2, e2⟩ := S2.ob
  have f02 : Fr [L, rd] H H2 := f0.nil.trans f2
  refine ⟨_, rfl, L, dx2, _, rfl, e2, noS, _, rfl, k, L, rd, wd, wl, _, pz, p, rfl, S2, f02.da hi, fun v H3 pv3 f3 S3 r3 p3 => ?_⟩
  exact q v H3 pv3 (f02.trans f3) S3 r3 p3
end
end OL
namespace OL
open PySem PySem.Spec PyProof.Rows L2

/-- a list of what has been seen -/
inductive ResL (K : PySem.W.Frag) (H : Hp) : List V → List Res → Prop
  | nil : ResL K H [] []
  | cons {v : V} {vs : List V} {r : Res} {rs : List Res} : ResV K H v r → ResL K H vs rs → ResL K H (v :: vs) (r :: rs)
section
variable {K : PySem.W.Frag} {H H' : Hp}
theorem ResL.fr {M : List Addr} (f : Fr M H H') : ∀ {vs : List V} {rs : List Res}, ResL K H vs rs → ResL K H' vs rs
  | _, _, .nil => .nil
  | _, _, .cons a b => .cons (a.fr f) (ResL.fr f b)
theorem ResL.length : ∀ {vs : List V} {rs : List Res}, ResL K H vs rs → vs.length = rs.length
  | _, _, .nil => rfl
  | _, _, .cons _ b => by rw [List.length_cons, List.length_cons, ResL.length b]
theorem ResL.snoc {v : V} {r : Res} (h : ResV K H v r) : ∀ {vs : List V} {rs : List Res}, ResL K H vs rs → ResL K H (vs ++ [v]) (rs ++ [r])
  | _, _, .nil => .cons h .nil
  | _, _, .cons a b => .cons a (ResL.snoc h b)
theorem isiR (T : Txt K mg) {v : V} {r : Res} (h : ResV K H v r) : Isi K H v "tuple" r.stops := by
  cases r with
  | waits p =>
    cases (show v = .ref (Wt K) from h)
    exact isi_tupT (b := true) (T.w_WAITS H)
  | worth w => exact isiT h
end
theorem Post.to {K : PySem.W.Frag} {k : Kn} {H H1 : Hp} {L rd wd wl : Addr} {r : LK} {Q : VK} (q : Post K k H L rd wd wl r Q) (f : Fr [L, rd] H H1) : Post K k H1 L rd wd wl r Q :=
  fun v H' pz f2 S r p => q v H' pz (f.trans f2) S r p
theorem rows_eq (a : Ar) : a.places = rowsP a.t a.l (a.r + 1 - a.l).toNat (a.b + 1 - a.t).toNat := rfl
theorem places_len {a : Ar} (h : a.ok) : 0 < a.places.length ∧ a.places.length ≤ 3000 := by
  obtain ⟨h1, h2, h3, h4, h5, h6, h7⟩ := h
  rw [rows_eq, rowsP_len]
  constructor
  · exact Nat.mul_pos (by omega) (by omega)
  · exact Nat.le_trans (Nat.mul_le_mul (show (a.b + 1 - a.t).toNat ≤ 99 by omega) (show (a.r + 1 - a.l).toNat ≤ 26 by omega)) (by decide)
theorem lastP_take {ps : List Pl} {i : Nat} {p : Pl} (h : ps[i]? = some p) : lastP (ps.take (i + 1)) = p := by
  unfold lastP
  rw [take_snoc h, List.getLastD_concat]
def lastV (qs : List V) (i : Nat) : Option V := if i = 0 then some .non else qs[i - 1]?
theorem lastV_succ {qs : List V} {i : Nat} {v : V} (h : qs[i]? = some v) : lastV qs (i + 1) = some v := h
def S_read_area (K : PySem.W.Frag) : Sp := sp2 fun s ar H Q => ∃ k L rd wd wl rs pz r a, s = .ref L ∧ LkAt K k H L rd wd wl rs pz ∧ ar = .ref a ∧ H a = some (arV r) ∧ r.ok ∧ rs.length < 100000 ∧
  ∀ p xs H' pz', Fr [L, rd] H H' → H' p = some (.lst xs) → ResL K H' xs ((cut k r.places).map k.seen) → LkAt K k H' L rd wd wl (note (.part r (lastP (cut k r.places))) rs) pz' → PvOk H' pz' (k.seen (lastP (cut k r.places))) → Q (.ref p) H'
theorem ar_da {H : Hp} {a : Addr} {r : Ar} (h : H a = some (arV r)) : Da H (.ref a) r.d := .tup h (.cons (.int _) (.cons (.int _) (.cons (.int _) (.cons (.int _) .nil))))
section
variable {P : Program} {w : World} {K : PySem.W.Frag} {mg : Str → Option Value} {base : Heap}
theorem scm_read_area : FnScope ["self", "area", "found", "last", "place"] ["self", "area"] (defScope sm_read_area) := ⟨rfl, rfl, rfl, by decide +kernel, rfl, by decide +kernel, by decide +kernel⟩
theorem hm_read_area (T : Txt K mg) : HasM P w K mg base (He.ga K "Look") "read_area" ["self", "area"] 6 (S_read_area K) := by
  obtain ⟨fd, F⟩ := T.fm_read_area
  refine ⟨_, fd, T.mt_read_area, F.binds (ps := ["self", "area"]) (fun _ _ _ _ _ _ us hl => match us, hl with | [_, _], _ => rfl), F.ok scm_read_area (fun vs H Q E h => sp2_len h) (fun cdv A outer s H vs Q E hr h => ?_)⟩
  obtain ⟨v0, v1, rfl, h⟩ := sp2_inv h
  obtain ⟨k, L, rd, wd, wl, rs, pz, r, a, rfl, S, rfl, ha, ho, hz, q⟩ := h
  refine ⟨_, (pss_cons (ps_set (i := 2) scm_read_area.nd rfl (Or.inl rfl) (pe_lst pa_nil))
      (pss_cons (ps_set (i := 3) scm_read_area.nd rfl (Or.inl rfl) pe_non)
      (pss_cons (ps_for PassesOwn.never rfl (pi_list (cl (h_area_places T) (hr.mono (by omega)) (pa_cons (pv 1) pa_nil))) (pg_name (i := 4) scm_read_area.nd rfl (Or.inl rfl)) (pss_cons (ps_expr (pe_bm PySem.F.plainAttrs_list PySem.F.slot_list_append PySem.F.type_list_append mt_append (pv 2) (pa_cons (mt T.cl (hm_seen T) (hr.mono (by omega)) (pv 0) (pa_cons (pv 4) pa_nil)) pa_nil)))
      (pss_cons (ps_set (i := 3) scm_read_area.nd rfl (Or.inl rfl) (pv 4))
      (pss_one (ps_if (pt_val (isi (T := "tuple") T.n_isinstance T.n_tuple (pe_ix ix_list (pv 2) (pe_un un_neg pe_int) (fun _ _ => rfl)))) (pss_one ps_break) pss_nil)))))
      (pss_cons (ps_expr (mt T.cl (hm_note T) (hr.mono (by omega)) (pv 0) (pa_cons (pe_tup (pa_cons pe_str (pa_cons (pv 1) (pa_cons (pv 3) pa_nil)))) pa_nil)))
      (pss_one (ps_ret (pv 2))))))), ?_⟩
  obtain ⟨pl1, pl2⟩ := places_len ho
  refine ⟨by show 0 ≤ sizeLine; decide, fun n hn => ?_⟩
  have f1 : Fr [] H (upd H n (.lst [])) := Fr.refl.new hn
  refine ⟨_, rfl, a, r, rfl, f1.tup ha, ho, fun H1 g qs f2 hg hgl hqs => ?_⟩
  have f12 : Fr [] H H1 := f1.trans f2
  have gn : g ≠ n := by
    intro z
    rw [z, upd_same] at hg
    cases hg
  have hg0 : H g = none := f1.l g hg
  have hnl : H1 n = some (.lst []) := f2.k _ _ upd_same (by simp)
  obtain ⟨dx, e1⟩ := S.ob
  obtain ⟨xrd, e2, _⟩ := S.rl
  have nL : n ≠ L := fun z => by rw [z, e1] at hn; cases hn
  have nR : n ≠ rd := fun z => by rw [z, e2] at hn; cases hn
  have gL : g ≠ L := fun z => by rw [z, e1] at hg0; cases hg0
  have gR : g ≠ rd := fun z => by rw [z, e2] at hg0; cases hg0
  have hqn : qs.length = r.places.length := by rw [hqs.length, List.length_map]
  -- what the loop leaves, by how many are read
  have fin : ∀ (i : Nat) (p : Pl) (lv plv : Option V) (xs : List V) (H2 : Hp) (pz2 : V) (v : V), cut k r.places = r.places.take (i + 1) → r.places[i]? = some p → lv = some v → Da H2 v (plD p) → Fr [L, rd] H H2 → H2 n = some (.lst xs) →
      ResL K H2 xs ((r.places.take (i + 1)).map k.seen) → LkAt K k H2 L rd wd wl rs pz2 → PvOk H2 pz2 (k.seen p) →
      tSeq (tDrop (tMt (He.ga K "Look") "note" (S_note K) (tVar 0) (tCons (tTup (tCons (tC (.str "part")) (tCons (tVar 1) (tCons (tVar 3) tNil)))) tNil))) (tRet (tVar 2)) { nx := fun _ H' => Q .non H', rt := Q } [some (.ref L), some (.ref a), some (.ref n), lv, plv] H2 := by
    intro i p lv plv xs H2 pz2 v hc hp hlv hv f hx hr S2 hpz
    subst hlv
    obtain ⟨dx2, e3⟩ := S2.ob
    refine ⟨_, rfl, L, dx2, _, rfl, e3, lf_no (by decide +kernel) (by decide +kernel) (by decide +kernel) (by decide +kernel), _, rfl, _, rfl, (by show 3 ≤ sizeLine; decide), fun t ht => ?_⟩
    have ft : Fr [] H2 (upd H2 t (.tup [.str "part", .ref a, v])) := Fr.refl.new ht
    refine ⟨k, L, rd, wd, wl, rs, pz2, .part r p, rfl, S2.fr ft, .tup upd_same (.cons (.str _) (.cons (ar_da (ft.tup (f.tup ha))) (.cons (ft.da hv) .nil))), hz, fun H3 f3 S3 => ?_⟩
    have f23 : Fr [L, rd] H2 H3 := ft.nil.trans f3
    have el : lastP (cut k r.places) = p := by rw [hc, lastP_take hp]
    have hx3 : H3 n = some (.lst xs) := f23.k _ _ hx (by simp [nL, nR])
    refine ⟨_, rfl, q n xs H3 pz2 (f.trans f23) hx3 ?_ ?_ ?_⟩
    · rw [hc]
      exact hr.fr f23
    · rw [el]
      exact S3
    · rw [el]
      exact hpz.fr f23
  refine ⟨g, rfl, ⟨_, SqL.of hgl⟩, ?_⟩
  refine for_list (K := K) (a := g) (xs := qs) (fun i σ H2 => ∃ xs plv pz2, σ = [some (.ref L), some (.ref a), some (.ref n), lastV qs i, plv] ∧ Fr [L, rd] H H2 ∧ Kp H1 H2 ∧ H2 g = some (.lst qs) ∧ H2 n = some (.lst xs) ∧ xs.length = i ∧
    ResL K H2 xs ((r.places.take i).map k.seen) ∧ (∀ p ∈ r.places.take i, (k.seen p).stops = false) ∧ LkAt K k H2 L rd wd wl rs pz2) ?_ ?_ ?_ ?_
  · exact ⟨[], none, pz, rfl, f12.nil, Kp.refl _, hgl, hnl, rfl, .nil, (by intro p hp; cases hp), S.fr f12⟩
  · rintro i σ H2 _ ⟨_, _, _, _, _, _, h, _⟩
    exact SqL.of h
  · rintro i v σ H2 hi ⟨xs, plv, pz2, rfl, f, kp, hg2, hx, hxl, hr, hst, S2⟩
    obtain ⟨p, ep, dp⟩ := at_map (DaL.mono kp _ _ hqs) hi
    have hil : i < qs.length := (List.getElem?_eq_some_iff.mp hi).1
    have tk := take_snoc ep
    obtain ⟨dx2, e3⟩ := S2.ob
    refine ⟨_, rfl, .inl ⟨rfl, _, SqL.of hx⟩, ?_⟩
    refine ⟨_, rfl, L, dx2, _, rfl, e3, lf_no (by decide +kernel) (by decide +kernel) (by decide +kernel) (by decide +kernel), _, rfl, k, L, rd, wd, wl, rs, pz2, p, rfl, S2, dp, fun u H3 pz3 f3 S3 r3 p3 => ?_⟩
    have hx3 : H3 n = some (.lst xs) := f3.k _ _ hx (by simp [nL, nR])
    have hg3 : H3 g = some (.lst qs) := f3.k _ _ hg2 (by simp [gL, gR])
    refine ⟨n, xs, _, rfl, rfl, hx3, Nat.lt_of_lt_of_le (show xs.length < 3001 by omega) (by decide), ?_⟩
    have f4 : Fr [n] H3 (upd H3 n (.lst (xs ++ [u]))) := Fr.refl.set (by simp) hx3 (by intro _ z; cases z)
    have S4 : LkAt K k (upd H3 n (.lst (xs ++ [u]))) L rd wd wl rs pz3 := by
      obtain ⟨⟨dx3, e4⟩, ⟨ys, e5, e6⟩, kn, ne, sz⟩ := id S3
      have h1 : wd ≠ n := by
        obtain ⟨kvs, e7, _⟩ := kn.d
        exact ne_of e7 hx3 (by intro z; cases z)
      have h2 : wl ≠ n := by
        obtain ⟨ys, ps, e7, _⟩ := S.kn.l
        intro z
        rw [z, hn] at e7
        cases e7
      exact ⟨⟨dx3, by rw [upd_ne nL.symm]; exact e4⟩, ⟨ys, by rw [upd_ne nR.symm]; exact e5, f4.dal e6⟩, kn.fr f4 (by simpa using h1) (by simpa using h2), ne, sz⟩
    have hg4 : (upd H3 n (.lst (xs ++ [u]))) g = some (.lst qs) := by rw [upd_ne gn]; exact hg3
    have f5 : Fr [L, rd] H (upd H3 n (.lst (xs ++ [u]))) := (f.trans f3).mut hn
    have r4 : ResV K (upd H3 n (.lst (xs ++ [u]))) u (k.seen p) := r3.fr f4
    have rl4 : ResL K (upd H3 n (.lst (xs ++ [u]))) (xs ++ [u]) ((r.places.take (i + 1)).map k.seen) := by
      rw [tk, List.map_append]
      exact ResL.snoc r4 ((hr.fr f3).fr f4)
    refine ⟨_, rfl, ?_⟩
    refine ⟨_, rfl, _, rfl, _, _, _, _, rfl, rfl, SqL.of upd_same, atI_last _ _, _, isiR T r4, _, rfl, ?_⟩
    by_cases st : (k.seen p).stops = true
    · refine ifb st ?_
      obtain ⟨c1, _⟩ := cutBy_stop (st := fun p => (k.seen p).stops) ep hst st
      exact fin i p _ _ _ _ pz3 v c1 ep rfl (f4.da (f3.da dp)) f5 upd_same rl4 S4 (p3.fr f4)
    · have st' := Bool.eq_false_iff.mpr st
      refine ifbn st' ?_
      refine ⟨xs ++ [u], some v, pz3, ?_, f5, (kp.trans f3.t).trans f4.t, hg4, upd_same, by rw [List.length_append, hxl]; rfl, rl4, ?_, S4⟩
      · rw [lastV_succ hi]
        rfl
      · intro p' hp'
        rw [tk] at hp'
        rcases List.mem_append.mp hp' with z | z
        · exact hst p' z
        · rw [List.mem_singleton.mp z]
          exact st'
  · rintro σ H2 ⟨xs, plv, pz2, rfl, f, kp, hg2, hx, hxl, hr, hst, S2⟩
    rw [hqn, List.take_length] at hr hst
    obtain ⟨c1, _⟩ := cutBy_all (st := fun p => (k.seen p).stops) hst
    have hlast : r.places[qs.length - 1]? = some (r.places[qs.length - 1]'(by omega)) := List.getElem?_eq_getElem _
    have hv : qs[qs.length - 1]? = some (qs[qs.length - 1]'(by omega)) := List.getElem?_eq_getElem _
    obtain ⟨p', ep', dp'⟩ := at_map (DaL.mono kp _ _ hqs) hv
    have et : r.places.take (qs.length - 1 + 1) = r.places := by
      rw [show qs.length - 1 + 1 = r.places.length by omega, List.take_length]
    have hns : (k.seen p').stops = false := hst p' (List.mem_of_getElem? ep')
    refine fin (qs.length - 1) p' _ _ xs H2 pz2 _ (by rw [et]; exact c1) ep' ?_ dp' f hx (by rw [et]; exact hr) S2 ?_
    · unfold lastV
      rw [if_neg (by omega)]
      exact hv
    · cases e : k.seen p' with
      | waits z =>
        rw [e] at hns
        cases hns
      | worth z => trivial
def FdV (K : PySem.W.Frag) (H : Hp) (v pz : V) : Fd → Prop
  | .no => v = .non
  | .stop r => ResV K H v r ∧ PvOk H pz r ∧ r.stops = true
  | .hit p => Da H v (plD p)
def S_find_place (K : PySem.W.Frag) : Sp := sp3 fun s ar key H Q => ∃ k L rd wd wl rs pz r a w0, s = .ref L ∧ LkAt K k H L rd wd wl rs pz ∧ ar = .ref a ∧ H a = some (arV r) ∧ r.ok ∧ isW H key w0 ∧ rs.length < 100000 ∧
  ∀ v H' pz', Fr [L, rd] H H' → LkAt K k H' L rd wd wl (note (.part r (lastP (fcut k w0 r.places))) rs) pz' → FdV K H' v pz' (fres k w0 r.places) → Q v H'
theorem scm_find_place : FnScope ["self", "area", "key", "last", "found", "place", "worth"] ["self", "area", "key"] (defScope sm_find_place) := ⟨rfl, rfl, rfl, by decide +kernel, rfl, by decide +kernel, by decide +kernel⟩
theorem hm_find_place (T : Txt K mg) : HasM P w K mg base (He.ga K "Look") "find_place" ["self", "area", "key"] 6 (S_find_place K) := by
  obtain ⟨fd, F⟩ := T.fm_find_place
  refine ⟨_, fd, T.mt_find_place, F.binds (ps := ["self", "area", "key"]) (fun _ _ _ _ _ _ us hl => match us, hl with | [_, _, _], _ => rfl), F.ok scm_find_place (fun vs H Q E h => sp3_len h) (fun cdv A outer s H vs Q E hr h => ?_)⟩
  obtain ⟨v0, v1, v2, rfl, h⟩ := sp3_inv h
  obtain ⟨k, L, rd, wd, wl, rs, pz, r, a, w0, rfl, S, rfl, ha, ho, hk, hz, q⟩ := h
  refine ⟨_, (pss_cons (ps_set (i := 3) scm_find_place.nd rfl (Or.inl rfl) pe_non)
      (pss_cons (ps_set (i := 4) scm_find_place.nd rfl (Or.inl rfl) pe_non)
      (pss_cons (ps_for PassesOwn.never rfl (pi_list (cl (h_area_places T) (hr.mono (by omega)) (pa_cons (pv 1) pa_nil))) (pg_name (i := 5) scm_find_place.nd rfl (Or.inl rfl)) (pss_cons (ps_set (i := 3) scm_find_place.nd rfl (Or.inl rfl) (pv 5))
      (pss_cons (ps_set (i := 6) scm_find_place.nd rfl (Or.inl rfl) (mt T.cl (hm_seen T) (hr.mono (by omega)) (pv 0) (pa_cons (pv 5) pa_nil)))
      (pss_cons (ps_if (pt_val (isi (T := "tuple") T.n_isinstance T.n_tuple (pv 6))) (pss_cons (ps_set (i := 4) scm_find_place.nd rfl (Or.inl rfl) (pv 6))
      (pss_one ps_break)) pss_nil)
      (pss_one (ps_if (PW.pt (pw_and (pt_cmpR op_notN (pv 6) pe_non (nomark _)) (pw_and1 (pt_val (cl (h_same_worth T) (hr.mono (by omega)) (pa_cons (pv 6) (pa_cons (pv 2) pa_nil))))))) (pss_cons (ps_set (i := 4) scm_find_place.nd rfl (Or.inl rfl) (pv 5))
      (pss_one ps_break)) pss_nil))))))
      (pss_cons (ps_expr (mt T.cl (hm_note T) (hr.mono (by omega)) (pv 0) (pa_cons (pe_tup (pa_cons pe_str (pa_cons (pv 1) (pa_cons (pv 3) pa_nil)))) pa_nil)))
      (pss_one (ps_ret (pv 4))))))), ?_⟩
  obtain ⟨pl1, pl2⟩ := places_len ho
  refine ⟨_, rfl, a, r, rfl, ha, ho, fun H1 g qs f12 hg0 hgl hqs => ?_⟩
  obtain ⟨dx, e1⟩ := S.ob
  obtain ⟨xrd, e2, _⟩ := S.rl
  have gL : g ≠ L := fun z => by rw [z, e1] at hg0; cases hg0
  have gR : g ≠ rd := fun z => by rw [z, e2] at hg0; cases hg0
  have hqn : qs.length = r.places.length := by rw [hqs.length, List.length_map]
  have fin : ∀ (i : Nat) (p : Pl) (lv plv wv : Option V) (fv : V) (H2 : Hp) (pz2 : V) (v : V), fcut k w0 r.places = r.places.take (i + 1) → r.places[i]? = some p → lv = some v → Da H2 v (plD p) → Fr [L, rd] H H2 →
      LkAt K k H2 L rd wd wl rs pz2 → FdV K H2 fv pz2 (fres k w0 r.places) →
      tSeq (tDrop (tMt (He.ga K "Look") "note" (S_note K) (tVar 0) (tCons (tTup (tCons (tC (.str "part")) (tCons (tVar 1) (tCons (tVar 3) tNil)))) tNil))) (tRet (tVar 4)) { nx := fun _ H' => Q .non H', rt := Q } [some (.ref L), some (.ref a), some v2, lv, some fv, plv, wv] H2 := by
    intro i p lv plv wv fv H2 pz2 v hc hp hlv hv f S2 hfd
    subst hlv
    obtain ⟨dx2, e3⟩ := S2.ob
    refine ⟨_, rfl, L, dx2, _, rfl, e3, lf_no (by decide +kernel) (by decide +kernel) (by decide +kernel) (by decide +kernel), _, rfl, _, rfl, (by show 3 ≤ sizeLine; decide), fun t ht => ?_⟩
    have ft : Fr [] H2 (upd H2 t (.tup [.str "part", .ref a, v])) := Fr.refl.new ht
    refine ⟨k, L, rd, wd, wl, rs, pz2, .part r p, rfl, S2.fr ft, .tup upd_same (.cons (.str _) (.cons (ar_da (ft.tup (f.tup ha))) (.cons (ft.da hv) .nil))), hz, fun H3 f3 S3 => ?_⟩
    have f23 : Fr [L, rd] H2 H3 := ft.nil.trans f3
    have el : lastP (fcut k w0 r.places) = p := by rw [hc, lastP_take hp]
    refine ⟨_, rfl, q fv H3 pz2 (f.trans f23) ?_ ?_⟩
    · rw [el]
      exact S3
    · cases e : fres k w0 r.places with
      | no =>
        rw [e] at hfd
        exact hfd
      | stop x =>
        rw [e] at hfd
        exact ⟨hfd.1.fr f23, hfd.2.1.fr f23, hfd.2.2⟩
      | hit x =>
        rw [e] at hfd
        exact f23.da hfd
  refine ⟨g, rfl, ⟨_, SqL.of hgl⟩, ?_⟩
  refine for_list (K := K) (a := g) (xs := qs) (fun i σ H2 => ∃ plv wv pz2, σ = [some (.ref L), some (.ref a), some v2, lastV qs i, some .non, plv, wv] ∧ Fr [L, rd] H H2 ∧ Kp H1 H2 ∧ H2 g = some (.lst qs) ∧
    (∀ p ∈ r.places.take i, fst k w0 p = false) ∧ LkAt K k H2 L rd wd wl rs pz2) ?_ ?_ ?_ ?_
  · exact ⟨none, none, pz, rfl, f12.nil, Kp.refl _, hgl, (by intro p hp; cases hp), S.fr f12⟩
  · rintro i σ H2 _ ⟨_, _, _, _, _, _, h, _⟩
    exact SqL.of h
  · rintro i v σ H2 hi ⟨plv, wv, pz2, rfl, f, kp, hg2, hst, S2⟩
    obtain ⟨p, ep, dp⟩ := at_map (DaL.mono kp _ _ hqs) hi
    have tk := take_snoc ep
    obtain ⟨dx2, e3⟩ := S2.ob
    refine ⟨_, rfl, ?_⟩
    refine ⟨_, rfl, L, dx2, _, rfl, e3, lf_no (by decide +kernel) (by decide +kernel) (by decide +kernel) (by decide +kernel), _, rfl, k, L, rd, wd, wl, rs, pz2, p, rfl, S2, dp, fun u H3 pz3 f3 S3 r3 p3 => ?_⟩
    have hg3 : H3 g = some (.lst qs) := f3.k _ _ hg2 (by simp [gL, gR])
    have f5 : Fr [L, rd] H H3 := f.trans f3
    refine ⟨_, rfl, _, isiR T r3, _, rfl, ?_⟩
    by_cases st : (k.seen p).stops = true
    · refine ifb st ?_
      have sf : fst k w0 p = true := by rw [fst, st]; rfl
      obtain ⟨c1, c2⟩ := cutBy_stop (st := fst k w0) ep hst sf
      have ef : fres k w0 r.places = .stop (k.seen p) := by
        rw [fres, c2]
        show (if (k.seen p).stops then Fd.stop (k.seen p) else .hit p) = _
        rw [if_pos st]
      refine ⟨_, rfl, ?_⟩
      exact fin i p _ _ _ u H3 pz3 v c1 ep rfl (f3.da dp) f5 S3 (by rw [ef]; exact ⟨r3, p3, st⟩)
    · have st' := Bool.eq_false_iff.mpr st
      refine ifbn st' ?_
      -- no tuple: a worth
      have ew : ∃ y, k.seen p = .worth y ∧ y.isF = false ∧ y.ok := by
        have hok := k.seen_ok p
        cases e : k.seen p with
        | waits z =>
          rw [e] at st'
          cases st'
        | worth y =>
          rw [e] at st' hok
          exact ⟨y, rfl, st', hok⟩
      obtain ⟨y, ey, yf, yo⟩ := ew
      rw [ey] at r3
      have dy : Da H3 u y.d := r3
      have nn := wo_non dy
      have fse : fst k w0 p = (!decide (y = .non) && sameM y w0) := by
        rw [fst, st', ey]
        rfl
      refine ⟨_, rfl, rfl, _, rfl, ?_⟩
      have next : fst k w0 p = false → ∃ plv wv pz2, [some (V.ref L), some (V.ref a), some v2, some v, some V.non, some v, some u] = [some (V.ref L), some (V.ref a), some v2, lastV qs (i + 1), some V.non, plv, wv] ∧ Fr [L, rd] H H3 ∧ Kp H1 H3 ∧ H3 g = some (.lst qs) ∧
          (∀ p ∈ r.places.take (i + 1), fst k w0 p = false) ∧ LkAt K k H3 L rd wd wl rs pz2 := fun sf => by
        refine ⟨some v, some u, pz3, ?_, f5, kp.trans f3.t, hg3, ?_, S3⟩
        · rw [lastV_succ hi]
        · intro p' hp'
          rw [tk] at hp'
          rcases List.mem_append.mp hp' with z | z
          · exact hst p' z
          · rw [List.mem_singleton.mp z]
            exact sf
      by_cases hn : u = .non
      · have h1 : decide (y = .non) = true := by rw [← nn, decide_eq_true hn]
        rw [decide_eq_true hn]
        exact next (by rw [fse, h1]; rfl)
      · have h1 : decide (y = .non) = false := by rw [← nn, decide_eq_false hn]
        rw [decide_eq_false hn]
        refine ⟨_, rfl, _, rfl, y, w0, ⟨dy, yo⟩, ⟨f5.da hk.1, hk.2⟩, _, rfl, ?_⟩
        by_cases sm : sameM y w0 = true
        · refine ifb sm ?_
          have sf : fst k w0 p = true := by rw [fse, h1, sm]; rfl
          obtain ⟨c1, c2⟩ := cutBy_stop (st := fst k w0) ep hst sf
          have ef : fres k w0 r.places = .hit p := by
            rw [fres, c2]
            show (if (k.seen p).stops then Fd.stop (k.seen p) else .hit p) = _
            rw [if_neg st]
          refine ⟨_, rfl, ?_⟩
          exact fin i p _ _ _ v H3 pz3 v c1 ep rfl (f3.da dp) f5 S3 (by rw [ef]; exact f3.da dp)
        · have sm' := Bool.eq_false_iff.mpr sm
          refine ifbn sm' ?_
          exact next (by rw [fse, h1, sm']; rfl)
  · rintro σ H2 ⟨plv, wv, pz2, rfl, f, kp, hg2, hst, S2⟩
    rw [hqn, List.take_length] at hst
    obtain ⟨c1, c2⟩ := cutBy_all (st := fst k w0) hst
    have hv : qs[qs.length - 1]? = some (qs[qs.length - 1]'(by omega)) := List.getElem?_eq_getElem _
    obtain ⟨p', ep', dp'⟩ := at_map (DaL.mono kp _ _ hqs) hv
    have et : r.places.take (qs.length - 1 + 1) = r.places := by
      rw [show qs.length - 1 + 1 = r.places.length by omega, List.take_length]
    have ef : fres k w0 r.places = .no := by
      rw [fres, c2]
    refine fin (qs.length - 1) p' _ _ _ .non H2 pz2 _ (by rw [et]; exact c1) ep' ?_ dp' f S2 (by rw [ef]; rfl)
    unfold lastV
    rw [if_neg (by omega)]
    exact hv
end
end OL
namespace OL
open PySem PySem.Spec PyProof.Rows L2

theorem ns {a b : Str} (h : ¬ a = b) : ¬ V.str a = V.str b := fun z => h (V.str.inj z)
def Res.isW : Res → Bool
  | .waits _ => true
  | .worth _ => false
def wD : PyData := .tuple [.str "waits"]
theorem wD_plain : wD.plain = true := by simp [wD, PyData.plain, PyData.plainAll]
theorem wD_depth : wD.depth = 1 := by simp [wD, PyData.depth, PyData.depthAll]
theorem wD_min (d : PyData) : min d.depth wD.depth ≤ 64 := by
  rw [wD_depth]
  omega
section
variable {K : PySem.W.Frag} {mg : Str → Option Value} {H : Hp}
theorem wDp (T : Txt K mg) : Dp K H (.ref (Wt K)) wD := .tup (T.w_WAITS H) (.cons (.str _) .nil)
theorem res_eqv (T : Txt K mg) {v : V} {r : Res} (h : ResV K H v r) : ∃ d, Dp K H v d ∧ d.plain = true ∧ PyData.eqv d wD = r.isW := by
  cases r with
  | waits p =>
    cases (show v = .ref (Wt K) from h)
    refine ⟨wD, wDp T, wD_plain, ?_⟩
    simp [wD, PyData.eqv, PyData.eqvAll, Res.isW]
  | worth w =>
    have h2 : Da H v w.d := h
    refine ⟨w.d, Da.dp _ _ h2, Da.plain _ _ h2, ?_⟩
    cases w <;> simp [wD, Wo.d, PyData.eqv, PyData.eqvAll, Res.isW]
theorem neW (T : Txt K mg) {v : V} {r : Res} {Q : VK} (h : ResV K H v r) (q : Q (.bl (!r.isW)) H) : rNeP K v (.ref (Wt K)) H Q := by
  obtain ⟨d, h1, h2, h3⟩ := res_eqv T h
  refine ⟨d, wD, h1, wDp T, h2, wD_plain, wD_min d, ?_⟩
  rw [h3]
  exact q
theorem eqW (T : Txt K mg) {v : V} {r : Res} {Q : VK} (h : ResV K H v r) (q : Q (.bl r.isW) H) : rEqP K v (.ref (Wt K)) H Q := by
  obtain ⟨d, h1, h2, h3⟩ := res_eqv T h
  refine ⟨d, wD, h1, wDp T, h2, wD_plain, wD_min d, ?_⟩
  rw [h3]
  exact q
end
theorem inStr (w : Str) : ∀ l : List Str, inV (.str w) (l.map V.str) = decide (w ∈ l)
  | [] => rfl
  | a :: l => by
    have h := inStr w l
    have e : inV (.str w) ((a :: l).map V.str) = (eqV (.str a) (.str w) || inV (.str w) (l.map V.str)) := rfl
    rw [e, h, Bool.eq_iff_iff, Bool.or_eq_true, decide_eq_true_eq, decide_eq_true_eq, List.mem_cons]
    have e2 : eqV (.str a) (.str w) = true ↔ w = a := by
      show (a == w) = true ↔ w = a
      rw [beq_iff_eq]
      exact eq_comm
    rw [e2]
theorem flatStr : ∀ l : List Str, (l.map V.str).all flatV = true
  | [] => rfl
  | a :: l => by
    rw [List.map_cons, List.all_cons, flatStr l]
    rfl
theorem inTup {K : PySem.W.Frag} {H : Hp} {a : Addr} {w : Str} {l : List Str} {Q : VK} (h : SqT K H a (l.map V.str)) (q : Q (.bl (decide (w ∈ l))) H) : rIn K false (.str w) (.ref a) H Q := by
  refine ⟨a, _, rfl, .inr h, rfl, flatStr l, ?_⟩
  show Q (.bl (inV (.str w) (l.map V.str))) H
  rw [inStr]
  exact q
theorem cutBy_split {st : Pl → Bool} : ∀ {ps : List Pl}, ps ≠ [] → ∃ a l, cutBy st ps = a ++ [l] ∧ ∀ p ∈ a, st p = false
  | [], h => absurd rfl h
  | x :: ps, _ => by
    by_cases hx : st x = true
    · exact ⟨[], x, by simp [cutBy, hx], by intro p hp; cases hp⟩
    · have hx' := Bool.eq_false_iff.mpr hx
      cases ps with
      | nil => exact ⟨[], x, by simp [cutBy, hx'], by intro p hp; cases hp⟩
      | cons y r =>
        obtain ⟨a, l, e, h⟩ := cutBy_split (st := st) (ps := y :: r) (by simp)
        refine ⟨x :: a, l, ?_, fun p hp => ?_⟩
        · show (if st x then [x] else x :: cutBy st (y :: r)) = _
          rw [hx', e]
          rfl
        · rcases List.mem_cons.mp hp with z | z
          · rw [z]; exact hx'
          · exact h p z
theorem cutBy_len {st : Pl → Bool} : ∀ ps : List Pl, (cutBy st ps).length ≤ ps.length
  | [] => Nat.le_refl _
  | x :: ps => by
    have h := cutBy_len (st := st) ps
    show (if st x then [x] else x :: cutBy st ps).length ≤ _
    split
    · simp
    · simp only [List.length_cons]
      omega
theorem places_300 {a : Ar} (h : a.ok) : a.places.length ≤ 300 := by
  obtain ⟨h1, h2, h3, h4, h5, h6, h7⟩ := h
  rw [rows_eq, rowsP_len]
  have e1 : (((a.b + 1 - a.t).toNat : Nat) : Int) = a.b - a.t + 1 := by omega
  have e2 : (((a.r + 1 - a.l).toNat : Nat) : Int) = a.r - a.l + 1 := by omega
  have e3 : (((a.b + 1 - a.t).toNat * (a.r + 1 - a.l).toNat : Nat) : Int) = (a.b - a.t + 1) * (a.r - a.l + 1) := by
    rw [Int.natCast_mul, e1, e2]
  omega
theorem resL_da {K : PySem.W.Frag} {H : Hp} : ∀ {xs : List V} {rs : List Res}, ResL K H xs rs → (∀ r ∈ rs, r.isW = false) → DaL H xs ((rs.map Res.w).map Wo.d)
  | _, _, .nil, _ => .nil
  | _, _, .cons (r := r) a b, h => by
    refine .cons ?_ (resL_da b fun x hx => h x (List.mem_cons_of_mem _ hx))
    cases r with
    | waits p =>
      have := h (.waits p) (List.mem_cons_self ..)
      cases this
    | worth w => exact a
theorem resL_last {K : PySem.W.Frag} {H : Hp} {l : Res} : ∀ {xs : List V} {rs : List Res}, ResL K H xs (rs ++ [l]) → ∃ ys v, xs = ys ++ [v] ∧ ResV K H v l
  | _, [], .cons a .nil => ⟨[], _, rfl, a⟩
  | _, r :: rs, .cons a b => by
    obtain ⟨ys, v, e, h⟩ := resL_last b
    subst e
    exact ⟨_ :: ys, v, rfl, h⟩
/-- how many notes a look makes at most -/
def Fm.cost : Fm → Nat
  | .num _ => 0
  | .text _ => 0
  | .lost => 0
  | .at _ _ => 1
  | .gat _ _ _ => 1
  | .one _ f => f.cost
  | .find f _ _ => f.cost + 2
  | .ite f g h => f.cost + g.cost + h.cost
  | .els f g => f.cost + g.cost
  | .two _ f g => f.cost + g.cost
theorem lookM_len (k : Kn) : ∀ (f : Fm) (rs : List Itm), (lookM k f rs).2.length ≤ rs.length + f.cost
  | .num _, _ => Nat.le_refl _
  | .text _, _ => Nat.le_refl _
  | .lost, _ => Nat.le_refl _
  | .at _ _, _ => note_len
  | .gat _ _ _, _ => note_len
  | .one w f, rs => by
    have h1 := lookM_len k f rs
    simp only [lookM, Fm.cost]
    generalize lookM k f rs = L at *
    obtain ⟨r, R⟩ := L
    cases r <;> exact h1
  | .find f a ps, rs => by
    have h1 := lookM_len k f rs
    simp only [lookM, Fm.cost]
    generalize lookM k f rs = L at *
    obtain ⟨r, R⟩ := L
    cases r with
    | waits p => simp only at h1 ⊢; omega
    | worth v =>
      simp only at h1 ⊢
      split
      · simp only; omega
      · split
        · simp only; omega
        · have n1 := note_len (i := .part (colA a) (lastP (fcut k v (colA a).places))) (rs := R)
          split
          · simp only; omega
          · simp only; omega
          · rename_i p _
            have n2 := note_len (i := .cell (p.1, a.r)) (rs := note (.part (colA a) (lastP (fcut k v (colA a).places))) R)
            simp only
            omega
  | .ite f g h, rs => by
    have h1 := lookM_len k f rs
    simp only [lookM, Fm.cost]
    generalize lookM k f rs = L at *
    obtain ⟨r, R⟩ := L
    have h2 := lookM_len k g R
    have h3 := lookM_len k h R
    cases r with
    | waits p => simp only at h1 ⊢; omega
    | worth v =>
      simp only at h1 ⊢
      split
      · simp only; omega
      · split
        · simp only; omega
        · split <;> omega
  | .els f g, rs => by
    have h1 := lookM_len k f rs
    simp only [lookM, Fm.cost]
    generalize lookM k f rs = L at *
    obtain ⟨r, R⟩ := L
    have h2 := lookM_len k g R
    cases r with
    | waits p => simp only at h1 ⊢; omega
    | worth v =>
      simp only at h1 ⊢
      split
      · omega
      · simp only; omega
  | .two w f g, rs => by
    have h1 := lookM_len k f rs
    simp only [lookM, Fm.cost]
    generalize lookM k f rs = L at *
    obtain ⟨r, R⟩ := L
    have h2 := lookM_len k g R
    cases r with
    | waits p => simp only at h1 ⊢; omega
    | worth v =>
      simp only at h1 ⊢
      split
      · simp only; omega
      · generalize lookM k g R = M at *
        obtain ⟨r2, R2⟩ := M
        cases r2 <;> (simp only at h2 ⊢; omega)
theorem lookM_ok (k : Kn) : ∀ {n : Nat} {f : Fm} (rs : List Itm), f.ok n → (lookM k f rs).1.ok := by
  intro n f
  induction f generalizing n with
  | num i => intro rs h; cases n <;> exact h
  | text s => intro rs h; cases n <;> exact h
  | lost => intro rs h; trivial
  | «at» p ps => intro rs h; exact k.seen_ok p
  | gat w a ps =>
    intro rs h
    have ho : a.ok := by cases n <;> exact h.2.1
    show (areaR k w a.places).ok
    unfold areaR
    split
    · trivial
    · refine gathM_ok w (fun x hx => ?_) ?_
      · obtain ⟨p, _, e⟩ := List.mem_map.mp hx
        have h2 := k.seen_ok p
        rw [← e]
        cases e2 : k.seen p with
        | waits z => trivial
        | worth z =>
          rw [e2] at h2
          exact h2
      · rw [List.length_map]
        have h1 := cutBy_len (st := fun p => (k.seen p).stops) a.places
        have h2 := places_300 ho
        exact Nat.le_trans h1 (by omega)
  | one w f ih =>
    intro rs h
    cases n with
    | zero => exact h.elim
    | succ n =>
      have h1 := ih rs h.2
      simp only [lookM]
      generalize lookM k f rs = L at *
      obtain ⟨r, R⟩ := L
      cases r with
      | waits p => trivial
      | worth v => exact singleM_ok w h1
  | find f a ps ih =>
    intro rs h
    cases n with
    | zero => exact h.elim
    | succ n =>
      have h1 := ih rs h.1
      simp only [lookM]
      generalize lookM k f rs = L at *
      obtain ⟨r, R⟩ := L
      cases r with
      | waits p => trivial
      | worth v =>
        simp only
        split
        · exact h1
        · split
          · trivial
          · cases e : fres k v (colA a).places with
            | no => trivial
            | stop x =>
              unfold fres at e
              split at e
              · cases e
              · split at e
                · injection e with e
                  rw [← e]
                  exact k.seen_ok _
                · cases e
            | hit p => exact k.seen_ok _
  | ite f g j ihf ihg ihj =>
    intro rs h
    cases n with
    | zero => exact h.elim
    | succ n =>
      have h1 := ihf rs h.1
      simp only [lookM]
      generalize lookM k f rs = L at *
      obtain ⟨r, R⟩ := L
      cases r with
      | waits p => trivial
      | worth v =>
        simp only
        split
        · exact h1
        · split
          · trivial
          · split
            · exact ihj R h.2.2
            · exact ihg R h.2.1
  | els f g ihf ihg =>
    intro rs h
    cases n with
    | zero => exact h.elim
    | succ n =>
      have h1 := ihf rs h.1
      simp only [lookM]
      generalize lookM k f rs = L at *
      obtain ⟨r, R⟩ := L
      cases r with
      | waits p => trivial
      | worth v =>
        simp only
        split
        · exact ihg R h.2
        · exact h1
  | two w f g ihf ihg =>
    intro rs h
    cases n with
    | zero => exact h.elim
    | succ n =>
      have h1 := ihf rs h.2.1
      simp only [lookM]
      generalize lookM k f rs = L at *
      obtain ⟨r, R⟩ := L
      cases r with
      | waits p => trivial
      | worth v =>
        simp only
        split
        · exact h1
        · have h2 := ihg R h.2.2
          generalize lookM k g R = M at *
          obtain ⟨r2, R2⟩ := M
          cases r2 with
          | waits p => trivial
          | worth u => exact pairedM_ok w h1 h2
end OL
namespace OL
open PySem PySem.Spec PyProof.Rows L2

theorem ar_tup {H : Hp} {v : V} {a : Ar} (h : Da H v a.d) : ∃ p, v = .ref p ∧ H p = some (arV a) := by
  obtain ⟨p, xs, rfl, e, l⟩ := h.tupI
  cases l with
  | cons h1 l =>
  cases l with
  | cons h2 l =>
  cases l with
  | cons h3 l =>
  cases l with
  | cons h4 l =>
    cases l
    rw [h1.intI, h2.intI, h3.intI, h4.intI] at e
    exact ⟨p, rfl, e⟩
theorem colA_ok {a : Ar} (h : a.ok) : (colA a).ok := by
  obtain ⟨h1, h2, h3, h4, h5, h6, h7⟩ := h
  refine ⟨h1, h2, h3, h4, by show a.l ≤ a.l; omega, by show a.l < 26; omega, ?_⟩
  show (a.b - a.t + 1) * (a.l - a.l + 1) ≤ 300
  rw [show a.l - a.l + 1 = 1 by omega, Int.mul_one]
  omega
section
variable (k : Kn)
theorem find_stop {g : Fm} {a : Ar} {ps : List Int} {rs : List Itm} (h : (lookM k g rs).1.stops = true) : lookM k (.find g a ps) rs = lookM k g rs := by
  simp only [lookM]
  generalize lookM k g rs = M at *
  obtain ⟨r, R⟩ := M
  cases r with
  | waits p => rfl
  | worth v => exact if_pos h
theorem if_stop {f g h : Fm} {rs : List Itm} (e : (lookM k f rs).1.stops = true) : lookM k (.ite f g h) rs = lookM k f rs := by
  simp only [lookM]
  generalize lookM k f rs = M at *
  obtain ⟨r, R⟩ := M
  cases r with
  | waits p => rfl
  | worth v => exact if_pos e
theorem two_stop {w : Str} {f g : Fm} {rs : List Itm} (e : (lookM k f rs).1.stops = true) : lookM k (.two w f g) rs = lookM k f rs := by
  simp only [lookM]
  generalize lookM k f rs = M at *
  obtain ⟨r, R⟩ := M
  cases r with
  | waits p => rfl
  | worth v => exact if_pos e
end
section
variable {H : Hp}
theorem DaL.inv1 {xs : List V} {a : PyData} (h : DaL H xs [a]) : ∃ x, xs = [x] ∧ Da H x a := by
  cases h with
  | cons h1 t => cases t; exact ⟨_, rfl, h1⟩
theorem DaL.inv2 {xs : List V} {a b : PyData} (h : DaL H xs [a, b]) : ∃ x y, xs = [x, y] ∧ Da H x a ∧ Da H y b := by
  cases h with
  | cons h1 t =>
    obtain ⟨y, rfl, h2⟩ := DaL.inv1 t
    exact ⟨_, _, rfl, h1, h2⟩
theorem DaL.inv3 {xs : List V} {a b c : PyData} (h : DaL H xs [a, b, c]) : ∃ x y z, xs = [x, y, z] ∧ Da H x a ∧ Da H y b ∧ Da H z c := by
  cases h with
  | cons h1 t =>
    obtain ⟨y, z, rfl, h2, h3⟩ := DaL.inv2 t
    exact ⟨_, _, _, rfl, h1, h2, h3⟩
theorem DaL.inv4 {xs : List V} {a b c d : PyData} (h : DaL H xs [a, b, c, d]) : ∃ x y z u, xs = [x, y, z, u] ∧ Da H x a ∧ Da H y b ∧ Da H z c ∧ Da H u d := by
  cases h with
  | cons h1 t =>
    obtain ⟨y, z, u, rfl, h2, h3, h4⟩ := DaL.inv3 t
    exact ⟨_, _, _, _, rfl, h1, h2, h3, h4⟩
end
theorem find_go (k : Kn) {g : Fm} {a : Ar} {ps : List Int} {rs : List Itm} {y : Wo} (h : (lookM k g rs).1 = .worth y) (yf : y.isF = false) : lookM k (.find g a ps) rs = if y = .non then (.worth (.flt "none"), (lookM k g rs).2) else match fres k y (colA a).places with
        | .no => (.worth (.flt "none"), note (.part (colA a) (lastP (fcut k y (colA a).places))) (lookM k g rs).2)
        | .stop r => (r, note (.part (colA a) (lastP (fcut k y (colA a).places))) (lookM k g rs).2)
        | .hit p => (k.seen (p.1, a.r), note (.cell (p.1, a.r)) (note (.part (colA a) (lastP (fcut k y (colA a).places))) (lookM k g rs).2)) := by
  simp only [lookM]
  generalize lookM k g rs = M at *
  obtain ⟨r, R⟩ := M
  have h2 : r = .worth y := h
  subst h2
  exact if_neg (by rw [yf]; decide)
theorem go_of {r : Res} (h : ¬ r.stops = true) : ∃ y, r = .worth y ∧ y.isF = false := by
  cases r with
  | waits p => exact absurd rfl h
  | worth y => exact ⟨y, rfl, Bool.eq_false_iff.mpr h⟩
def S_gone (K : PySem.W.Frag) : Sp := sp1 fun v H Q => ∃ r, ResV K H v r ∧ Q (.bl (!r.stops)) H
def SI (K : PySem.W.Frag) (n : Nat) (pat : Fm → Prop) : Sp := sp2 fun s fm H Q => ∃ k L rd wd wl rs pz f, s = .ref L ∧ LkAt K k H L rd wd wl rs pz ∧ Da H fm f.d ∧ f.ok n ∧ pat f ∧ rs.length + f.cost < 100000 ∧ Post K k H L rd wd wl (lookM k f rs) Q
abbrev S_in (K : PySem.W.Frag) (n : Nat) : Sp := SI K n fun _ => True
section
variable {P : Program} {w : World} {K : PySem.W.Frag} {mg : Str → Option Value} {base : Heap}
theorem sc_gone_on : FnScope ["worth"] ["worth"] (defScope s_gone_on) := ⟨rfl, rfl, rfl, by decide +kernel, rfl, by decide +kernel, by decide +kernel⟩
theorem h_gone_on (T : Txt K mg) : Has P w K mg base "gone_on" ["worth"] 2 (S_gone K) := by
  obtain ⟨fd, F⟩ := T.f_gone_on
  refine ⟨_, fd, T.g_gone_on, F.kp, F.binds (ps := ["worth"]) (fun _ _ _ _ _ _ us hl => match us, hl with | [_], _ => rfl), F.ok sc_gone_on (fun vs H Q E h => sp1_len h) (fun cdv A outer s H vs Q E hr h => ?_)⟩
  obtain ⟨v0, rfl, h⟩ := sp1_inv h
  obtain ⟨r, hr0, q⟩ := h
  refine ⟨_, (pss_one (ps_ret (pe_and (pe_cmpR (op_neP (hr.units)) (pv 0) (cR T.g_WAITS) (nomark _)) (pe_one (pe_not (cl (h_is_fault T) (hr.mono (by omega)) (pa_cons (pv 0) pa_nil))))))), ?_⟩
  obtain ⟨d, z1, z2, z3⟩ := res_eqv T hr0
  refine ⟨_, rfl, d, wD, z1, wDp T, z2, wD_plain, wD_min d, ?_⟩
  rw [z3]
  refine ⟨_, rfl, ?_⟩
  cases r with
  | waits p => exact q
  | worth y => exact ⟨_, rfl, y, hr0, _, rfl, q⟩
theorem sc_look_find : FnScope ["look", "formula", "key", "top", "left", "bottom", "right", "found"] ["look", "formula"] (defScope s_look_find) := ⟨rfl, rfl, rfl, by decide +kernel, rfl, by decide +kernel, by decide +kernel⟩
theorem h_look_find (T : Txt K mg) {n lv : Nat} (hl : 6 ≤ lv) (hIn : Has P w K mg base "look_in" ["look", "formula"] lv (S_in K n)) :
    Has P w K mg base "look_find" ["look", "formula"] (lv + 1) (SI K (n + 1) fun f => ∃ g a ps, f = .find g a ps) := by
  obtain ⟨fd, F⟩ := T.f_look_find
  refine ⟨_, fd, T.g_look_find, F.kp, F.binds (ps := ["look", "formula"]) (fun _ _ _ _ _ _ us hl => match us, hl with | [_, _], _ => rfl), F.ok sc_look_find (fun vs H Q E h => sp2_len h) (fun cdv A outer s H vs Q E hr h => ?_)⟩
  obtain ⟨v0, v1, rfl, h⟩ := sp2_inv h
  obtain ⟨k, L, rd, wd, wl, rs, pz, _, rfl, S, hf, ho, ⟨g, a, ps, rfl⟩, hz, q⟩ := h
  obtain ⟨fa, xs, rfl, ef, l⟩ := hf.tupI
  obtain ⟨x0, x1, x2, x3, rfl, d0, d1, d2, d3⟩ := DaL.inv4 l
  refine ⟨_, (pss_cons (ps_set (i := 2) sc_look_find.nd rfl (Or.inl rfl) (cl hIn (hr.mono (by omega)) (pa_cons (pv 0) (pa_cons (pe_ix ix_tup (pv 1) pe_int (fun _ _ => rfl)) pa_nil))))
      (pss_cons (ps_if (pt_not (pt_val (cl (h_gone_on T) (hr.mono (by omega)) (pa_cons (pv 2) pa_nil)))) (pss_one (ps_ret (pv 2))) pss_nil)
      (pss_cons (ps_if (pt_cmpR op_isN (pv 2) pe_non (nomark _)) (pss_one (ps_ret (cl (h_fault T) (hr.mono (by omega)) (pa_cons pe_str pa_nil)))) pss_nil)
      (pss_cons (ps_asg (pe_ix ix_tup (pv 1) pe_int (fun _ _ => rfl)) (pg_tup (by rfl) (pgs_cons (pg_name (i := 3) sc_look_find.nd rfl (Or.inl rfl)) (pgs_cons (pg_name (i := 4) sc_look_find.nd rfl (Or.inl rfl)) (pgs_cons (pg_name (i := 5) sc_look_find.nd rfl (Or.inl rfl)) (pgs_cons (pg_name (i := 6) sc_look_find.nd rfl (Or.inl rfl)) pgs_nil))))))
      (pss_cons (ps_set (i := 7) sc_look_find.nd rfl (Or.inl rfl) (mt T.cl (hm_find_place T) (hr.mono (by omega)) (pv 0) (pa_cons (pe_tup (pa_cons (pv 3) (pa_cons (pv 4) (pa_cons (pv 5) (pa_cons (pv 4) pa_nil))))) (pa_cons (pv 2) pa_nil))))
      (pss_cons (ps_if (pt_cmpR op_isN (pv 7) pe_non (nomark _)) (pss_one (ps_ret (cl (h_fault T) (hr.mono (by omega)) (pa_cons pe_str pa_nil)))) pss_nil)
      (pss_cons (ps_if (pt_val (isi (T := "str") T.n_isinstance T.n_str (pe_ix ix_tup (pv 7) pe_int (fun _ _ => rfl)))) (pss_one (ps_ret (pv 7))) pss_nil)
      (pss_one (ps_ret (mt T.cl (hm_read_cell T) (hr.mono (by omega)) (pv 0) (pa_cons (pe_tup (pa_cons (pe_ix ix_tup (pv 7) pe_int (fun _ _ => rfl)) (pa_cons (pv 6) pa_nil))) pa_nil))))))))))), ?_⟩
  have hc : (Fm.find g a ps).cost = g.cost + 2 := rfl
  have len1 := lookM_len k g rs
  refine ⟨_, rfl, _, rfl, _, _, _, _, rfl, rfl, SqT.of ef, rfl, k, L, rd, wd, wl, rs, pz, g, rfl, S, d1, ho.1, trivial, by omega, fun v H1 pz1 f1 S1 r1 p1 => ?_⟩
  refine ⟨_, rfl, _, r1, _, rfl, ?_⟩
  by_cases st : (lookM k g rs).1.stops = true
  · rw [st]
    rw [find_stop k st] at q
    exact ⟨_, rfl, q v H1 pz1 f1 S1 r1 p1⟩
  have st' := Bool.eq_false_iff.mpr st
  rw [st']
  obtain ⟨y, ey, yf⟩ := go_of st
  have yo : y.ok := by
    have h1 := lookM_ok k rs ho.1
    rw [ey] at h1
    exact h1
  have e0 := find_go k (a := a) (ps := ps) ey yf
  rw [ey] at r1
  have dy : Da H1 v y.d := r1
  have nn := wo_non dy
  rw [e0] at q
  refine ⟨_, rfl, rfl, _, rfl, ?_⟩
  by_cases hn : v = .non
  · have hy : y = .non := of_decide_eq_true (by rw [← nn, decide_eq_true hn])
    rw [if_pos hy] at q
    refine ifd hn ⟨_, rfl, fun v2 H2 f2 d2' => ?_⟩
    exact q v2 H2 pz1 (f1.trans f2.nil) (S1.fr f2) d2' trivial
  have hy : ¬ y = .non := of_decide_eq_false (by rw [← nn, decide_eq_false hn])
  rw [if_neg hy] at q
  refine ifn hn ?_
  obtain ⟨aa, rfl, ea⟩ := ar_tup d2
  have ef1 := f1.tup ef
  have ea1 := f1.tup ea
  refine ⟨_, rfl, _, _, _, _, rfl, rfl, SqT.of ef1, rfl, aa, _, rfl, SqT.of ea1, rfl, _, _, rfl, _, _, rfl, _, _, rfl, _, _, rfl, rfl, ?_⟩
  obtain ⟨dx1, e1⟩ := S1.ob
  refine ⟨_, rfl, L, dx1, _, rfl, e1, lf_no (by decide +kernel) (by decide +kernel) (by decide +kernel) (by decide +kernel), _, rfl, _, rfl, _, rfl, _, rfl, (by show 4 ≤ sizeLine; decide), fun t ht => ?_⟩
  refine ⟨_, rfl, ?_⟩
  have ft : Fr [] H1 (upd H1 t (arV (colA a))) := Fr.refl.new ht
  refine ⟨k, L, rd, wd, wl, _, pz1, colA a, t, y, rfl, S1.fr ft, rfl, upd_same, colA_ok ho.2.1, ⟨ft.da dy, yo⟩, by omega, fun u H2 pz2 f2 S2 fd2 => ?_⟩
  have f02 : Fr [L, rd] H H2 := f1.trans (ft.nil.trans f2)
  refine ⟨_, rfl, rfl, _, rfl, ?_⟩
  cases efr : fres k y (colA a).places with
  | no =>
    rw [efr] at fd2 q
    refine ifd fd2 ⟨_, rfl, fun v3 H3 f3 d3' => ?_⟩
    exact q v3 H3 pz2 (f02.trans f3.nil) (S2.fr f3) d3' trivial
  | stop r =>
    rw [efr] at fd2 q
    obtain ⟨g1, g2, g3⟩ := fd2
    have hu : ∃ ua us s, u = .ref ua ∧ SqT K H2 ua us ∧ us[0]? = some (.str s) := by
      cases r with
      | waits z => exact ⟨_, _, _, g1, T.w_WAITS H2, rfl⟩
      | worth z =>
        cases z with
        | flt m =>
          obtain ⟨ua, us, rfl, e, l⟩ := Da.tupI (show Da H2 u (.tuple [.str "fault", .str m]) from g1)
          obtain ⟨u0, u1, rfl, m0, m1⟩ := DaL.inv2 l
          exact ⟨ua, _, _, rfl, SqT.of e, by rw [m0.strI]; rfl⟩
        | non => cases g3
        | int _ => cases g3
        | str _ => cases g3
    obtain ⟨ua, us, s0, rfl, hs, h0⟩ := hu
    refine ifn (by intro z; cases z) ⟨_, rfl, _, _, _, _, rfl, rfl, hs, atI_nat h0, _, isi_str (b := true), _, rfl, ?_⟩
    exact ⟨_, rfl, q _ H2 pz2 f02 S2 g1 g2⟩
  | hit p =>
    rw [efr] at fd2 q
    obtain ⟨ua, rfl, eu⟩ := pl_tup fd2
    refine ifn (by intro z; cases z) ⟨_, rfl, _, _, _, _, rfl, rfl, SqT.of eu, rfl, _, isi_int (b := false), _, rfl, ?_⟩
    obtain ⟨dx2, e2⟩ := S2.ob
    refine ⟨_, rfl, L, dx2, _, rfl, e2, lf_no (by decide +kernel) (by decide +kernel) (by decide +kernel) (by decide +kernel), _, rfl, _, _, _, _, rfl, rfl, SqT.of eu, rfl, _, rfl, (by show 2 ≤ sizeLine; decide), fun t2 ht2 => ?_⟩
    have ft2 : Fr [] H2 (upd H2 t2 (plV (p.1, a.r))) := Fr.refl.new ht2
    have nl := note_len (i := .part (colA a) (lastP (fcut k y (colA a).places))) (rs := (lookM k g rs).2)
    refine ⟨k, L, rd, wd, wl, _, pz2, (p.1, a.r), rfl, S2.fr ft2, .tup upd_same (.cons (.int _) (.cons (.int _) .nil)), by omega, fun v3 H3 pz3 f3 S3 r3 p3 => ?_⟩
    exact q v3 H3 pz3 (f02.trans (ft2.nil.trans f3)) S3 r3 p3
theorem sc_look_if : FnScope ["look", "formula", "worth"] ["look", "formula"] (defScope s_look_if) := ⟨rfl, rfl, rfl, by decide +kernel, rfl, by decide +kernel, by decide +kernel⟩
theorem h_look_if (T : Txt K mg) {n lv : Nat} (hl : 6 ≤ lv) (hIn : Has P w K mg base "look_in" ["look", "formula"] lv (S_in K n)) :
    Has P w K mg base "look_if" ["look", "formula"] (lv + 1) (SI K (n + 1) fun f => ∃ a b c, f = .ite a b c) := by
  obtain ⟨fd, F⟩ := T.f_look_if
  refine ⟨_, fd, T.g_look_if, F.kp, F.binds (ps := ["look", "formula"]) (fun _ _ _ _ _ _ us hl => match us, hl with | [_, _], _ => rfl), F.ok sc_look_if (fun vs H Q E h => sp2_len h) (fun cdv A outer s H vs Q E hr h => ?_)⟩
  obtain ⟨v0, v1, rfl, h⟩ := sp2_inv h
  obtain ⟨k, L, rd, wd, wl, rs, pz, _, rfl, S, hf, ho, ⟨a, b, c, rfl⟩, hz, q⟩ := h
  obtain ⟨fa, xs, rfl, ef, l⟩ := hf.tupI
  obtain ⟨x0, x1, x2, x3, rfl, d0, d1, d2, d3⟩ := DaL.inv4 l
  refine ⟨_, (pss_cons (ps_set (i := 2) sc_look_if.nd rfl (Or.inl rfl) (cl hIn (hr.mono (by omega)) (pa_cons (pv 0) (pa_cons (pe_ix ix_tup (pv 1) pe_int (fun _ _ => rfl)) pa_nil))))
      (pss_cons (ps_if (pt_not (pt_val (cl (h_gone_on T) (hr.mono (by omega)) (pa_cons (pv 2) pa_nil)))) (pss_one (ps_ret (pv 2))) pss_nil)
      (pss_cons (ps_if (pt_val (cl (h_is_text T) (hr.mono (by omega)) (pa_cons (pv 2) pa_nil))) (pss_one (ps_ret (cl (h_fault T) (hr.mono (by omega)) (pa_cons pe_str pa_nil)))) pss_nil)
      (pss_cons (ps_if (pt_cmpR op_ne (cl (h_as_number T) (hr.mono (by omega)) (pa_cons (pv 2) pa_nil)) pe_int (nomark _)) (pss_one (ps_ret (cl hIn (hr.mono (by omega)) (pa_cons (pv 0) (pa_cons (pe_ix ix_tup (pv 1) pe_int (fun _ _ => rfl)) pa_nil))))) pss_nil)
      (pss_one (ps_ret (cl hIn (hr.mono (by omega)) (pa_cons (pv 0) (pa_cons (pe_ix ix_tup (pv 1) pe_int (fun _ _ => rfl)) pa_nil))))))))), ?_⟩
  have hc : (Fm.ite a b c).cost = a.cost + b.cost + c.cost := rfl
  have len1 := lookM_len k a rs
  refine ⟨_, rfl, _, rfl, _, _, _, _, rfl, rfl, SqT.of ef, rfl, k, L, rd, wd, wl, rs, pz, a, rfl, S, d1, ho.1, trivial, by omega, fun v H1 pz1 f1 S1 r1 p1 => ?_⟩
  refine ⟨_, rfl, _, r1, _, rfl, ?_⟩
  by_cases st : (lookM k a rs).1.stops = true
  · rw [st]
    rw [if_stop k st] at q
    exact ⟨_, rfl, q v H1 pz1 f1 S1 r1 p1⟩
  have st' := Bool.eq_false_iff.mpr st
  rw [st']
  obtain ⟨y, ey, yf⟩ := go_of st
  rw [ey] at r1
  have dy : Da H1 v y.d := r1
  have e0 : lookM k (.ite a b c) rs = if y.isT then (.worth (.flt "kind"), (lookM k a rs).2) else if y.num = 0 then lookM k c (lookM k a rs).2 else lookM k b (lookM k a rs).2 := by
    simp only [lookM]
    generalize lookM k a rs = M at *
    obtain ⟨r, R⟩ := M
    have h2 : r = .worth y := ey
    subst h2
    exact if_neg (by rw [yf]; decide)
  rw [e0] at q
  have ef1 := f1.tup ef
  refine ⟨_, rfl, y, dy, _, rfl, ?_⟩
  by_cases t : y.isT = true
  · rw [if_pos t] at q
    refine ifb t ⟨_, rfl, fun v2 H2 f2 d2' => ?_⟩
    exact q v2 H2 pz1 (f1.trans f2.nil) (S1.fr f2) d2' trivial
  have t' := Bool.eq_false_iff.mpr t
  rw [if_neg t] at q
  refine ifbn t' ⟨_, rfl, y, dy, yf, t', rfl, _, rfl, ?_⟩
  by_cases z : y.num = 0
  · rw [if_pos z] at q
    rw [z]
    exact ⟨_, rfl, _, rfl, _, _, _, _, rfl, rfl, SqT.of ef1, rfl, k, L, rd, wd, wl, _, pz1, c, rfl, S1, f1.da d3, ho.2.2, trivial, by omega, q.to f1⟩
  · rw [if_neg z] at q
    have e1 : (!decide (V.int y.num = V.int 0)) = true := by
      rw [decide_eq_false (fun h => z (V.int.inj h))]
      rfl
    rw [e1]
    exact ⟨_, rfl, _, rfl, _, _, _, _, rfl, rfl, SqT.of ef1, rfl, k, L, rd, wd, wl, _, pz1, b, rfl, S1, f1.da d2, ho.2.1, trivial, by omega, q.to f1⟩
theorem sc_look_else : FnScope ["look", "formula", "worth"] ["look", "formula"] (defScope s_look_else) := ⟨rfl, rfl, rfl, by decide +kernel, rfl, by decide +kernel, by decide +kernel⟩
theorem h_look_else (T : Txt K mg) {n lv : Nat} (hl : 6 ≤ lv) (hIn : Has P w K mg base "look_in" ["look", "formula"] lv (S_in K n)) :
    Has P w K mg base "look_else" ["look", "formula"] (lv + 1) (SI K (n + 1) fun f => ∃ a b, f = .els a b) := by
  obtain ⟨fd, F⟩ := T.f_look_else
  refine ⟨_, fd, T.g_look_else, F.kp, F.binds (ps := ["look", "formula"]) (fun _ _ _ _ _ _ us hl => match us, hl with | [_, _], _ => rfl), F.ok sc_look_else (fun vs H Q E h => sp2_len h) (fun cdv A outer s H vs Q E hr h => ?_)⟩
  obtain ⟨v0, v1, rfl, h⟩ := sp2_inv h
  obtain ⟨k, L, rd, wd, wl, rs, pz, _, rfl, S, hf, ho, ⟨a, b, rfl⟩, hz, q⟩ := h
  obtain ⟨fa, xs, rfl, ef, l⟩ := hf.tupI
  obtain ⟨x0, x1, x2, rfl, d0, d1, d2⟩ := DaL.inv3 l
  refine ⟨_, (pss_cons (ps_set (i := 2) sc_look_else.nd rfl (Or.inl rfl) (cl hIn (hr.mono (by omega)) (pa_cons (pv 0) (pa_cons (pe_ix ix_tup (pv 1) pe_int (fun _ _ => rfl)) pa_nil))))
      (pss_cons (ps_if (PW.pt (pw_or (pt_cmpR (op_eqP (hr.units)) (pv 2) (cR T.g_WAITS) (nomark _)) (pw_or1 (pt_not (pt_val (cl (h_is_fault T) (hr.mono (by omega)) (pa_cons (pv 2) pa_nil))))))) (pss_one (ps_ret (pv 2))) pss_nil)
      (pss_one (ps_ret (cl hIn (hr.mono (by omega)) (pa_cons (pv 0) (pa_cons (pe_ix ix_tup (pv 1) pe_int (fun _ _ => rfl)) pa_nil))))))), ?_⟩
  have hc : (Fm.els a b).cost = a.cost + b.cost := rfl
  have len1 := lookM_len k a rs
  refine ⟨_, rfl, _, rfl, _, _, _, _, rfl, rfl, SqT.of ef, rfl, k, L, rd, wd, wl, rs, pz, a, rfl, S, d1, ho.1, trivial, by omega, fun v H1 pz1 f1 S1 r1 p1 => ?_⟩
  have ef1 := f1.tup ef
  obtain ⟨d, z1, z2, z3⟩ := res_eqv T r1
  refine ⟨_, rfl, d, wD, z1, wDp T, z2, wD_plain, wD_min d, _, rfl, ?_⟩
  rw [z3]
  cases e : (lookM k a rs).1 with
  | waits p =>
    have e0 : lookM k (.els a b) rs = lookM k a rs := by
      simp only [lookM]
      generalize lookM k a rs = M at *
      obtain ⟨r, R⟩ := M
      have h2 : r = .waits p := e
      subst h2
      rfl
    rw [e0] at q
    exact ⟨_, rfl, q v H1 pz1 f1 S1 r1 p1⟩
  | worth y =>
    have e0 : lookM k (.els a b) rs = if y.isF then lookM k b (lookM k a rs).2 else lookM k a rs := by
      simp only [lookM]
      generalize lookM k a rs = M at *
      obtain ⟨r, R⟩ := M
      have h2 : r = .worth y := e
      subst h2
      rfl
    have dy : Da H1 v y.d := by
      rw [e] at r1
      exact r1
    refine ⟨_, rfl, y, dy, _, rfl, ?_⟩
    rw [e0] at q
    by_cases yf : y.isF = true
    · rw [if_pos yf] at q
      rw [yf]
      exact ⟨_, rfl, _, rfl, _, _, _, _, rfl, rfl, SqT.of ef1, rfl, k, L, rd, wd, wl, _, pz1, b, rfl, S1, f1.da d2, ho.2, trivial, by omega, q.to f1⟩
    · rw [if_neg yf] at q
      rw [Bool.eq_false_iff.mpr yf]
      exact ⟨_, rfl, q v H1 pz1 f1 S1 r1 p1⟩
theorem sc_look_pair : FnScope ["look", "formula", "op", "one", "other", "left", "right"] ["look", "formula"] (defScope s_look_pair) := ⟨rfl, rfl, rfl, by decide +kernel, rfl, by decide +kernel, by decide +kernel⟩
theorem h_look_pair (T : Txt K mg) {n lv : Nat} (hl : 6 ≤ lv) (hIn : Has P w K mg base "look_in" ["look", "formula"] lv (S_in K n)) :
    Has P w K mg base "look_pair" ["look", "formula"] (lv + 1) (SI K (n + 1) fun f => ∃ o a b, f = .two o a b) := by
  obtain ⟨fd, F⟩ := T.f_look_pair
  refine ⟨_, fd, T.g_look_pair, F.kp, F.binds (ps := ["look", "formula"]) (fun _ _ _ _ _ _ us hl => match us, hl with | [_, _], _ => rfl), F.ok sc_look_pair (fun vs H Q E h => sp2_len h) (fun cdv A outer s H vs Q E hr h => ?_)⟩
  obtain ⟨v0, v1, rfl, h⟩ := sp2_inv h
  obtain ⟨k, L, rd, wd, wl, rs, pz, _, rfl, S, hf, ho, ⟨o, a, b, rfl⟩, hz, q⟩ := h
  obtain ⟨fa, xs, rfl, ef, l⟩ := hf.tupI
  obtain ⟨x0, x1, x2, rfl, d0, d1, d2⟩ := DaL.inv3 l
  have e00 := d0.strI
  subst e00
  refine ⟨_, (pss_cons (ps_asg (pv 1) (pg_tup (by rfl) (pgs_cons (pg_name (i := 2) sc_look_pair.nd rfl (Or.inl rfl)) (pgs_cons (pg_name (i := 3) sc_look_pair.nd rfl (Or.inl rfl)) (pgs_cons (pg_name (i := 4) sc_look_pair.nd rfl (Or.inl rfl)) pgs_nil)))))
      (pss_cons (ps_set (i := 5) sc_look_pair.nd rfl (Or.inl rfl) (cl hIn (hr.mono (by omega)) (pa_cons (pv 0) (pa_cons (pv 3) pa_nil))))
      (pss_cons (ps_if (pt_not (pt_val (cl (h_gone_on T) (hr.mono (by omega)) (pa_cons (pv 5) pa_nil)))) (pss_one (ps_ret (pv 5))) pss_nil)
      (pss_cons (ps_set (i := 6) sc_look_pair.nd rfl (Or.inl rfl) (cl hIn (hr.mono (by omega)) (pa_cons (pv 0) (pa_cons (pv 4) pa_nil))))
      (pss_cons (ps_if (pt_not (pt_val (cl (h_gone_on T) (hr.mono (by omega)) (pa_cons (pv 6) pa_nil)))) (pss_one (ps_ret (pv 6))) pss_nil)
      (pss_one (ps_ret (cl (h_paired T) (hr.mono (by omega)) (pa_cons (pv 2) (pa_cons (pv 5) (pa_cons (pv 6) pa_nil))))))))))), ?_⟩
  have hc : (Fm.two o a b).cost = a.cost + b.cost := rfl
  have len1 := lookM_len k a rs
  refine ⟨_, rfl, fa, _, rfl, SqT.of ef, rfl, _, _, rfl, _, _, rfl, _, _, rfl, rfl, ?_⟩
  refine ⟨_, rfl, _, rfl, k, L, rd, wd, wl, rs, pz, a, rfl, S, d1, ho.2.1, trivial, by omega, fun v H1 pz1 f1 S1 r1 p1 => ?_⟩
  refine ⟨_, rfl, _, r1, _, rfl, ?_⟩
  by_cases st : (lookM k a rs).1.stops = true
  · rw [st]
    rw [two_stop k st] at q
    exact ⟨_, rfl, q v H1 pz1 f1 S1 r1 p1⟩
  have st' := Bool.eq_false_iff.mpr st
  rw [st']
  obtain ⟨y, ey, yf⟩ := go_of st
  have yo : y.ok := by
    have h1 := lookM_ok k rs ho.2.1
    rw [ey] at h1
    exact h1
  rw [ey] at r1
  have dy : Da H1 v y.d := r1
  have e0 : lookM k (.two o a b) rs = match lookM k b (lookM k a rs).2 with
        | (.waits p, r2) => (.waits p, r2)
        | (.worth u, r2) => (.worth (pairedM o y u), r2) := by
    simp only [lookM]
    generalize lookM k a rs = M at *
    obtain ⟨r, R⟩ := M
    have h2 : r = .worth y := ey
    subst h2
    exact if_neg (by rw [yf]; decide)
  rw [e0] at q
  have len2 := lookM_len k b (lookM k a rs).2
  have ok2 := lookM_ok k (lookM k a rs).2 ho.2.2
  refine ⟨_, rfl, _, rfl, k, L, rd, wd, wl, _, pz1, b, rfl, S1, f1.da d2, ho.2.2, trivial, by omega, fun u H2 pz2 f2 S2 r2 p2 => ?_⟩
  have f02 := f1.trans f2
  refine ⟨_, rfl, _, r2, _, rfl, ?_⟩
  generalize lookM k b (lookM k a rs).2 = M at *
  obtain ⟨r, R⟩ := M
  cases r with
  | waits p => exact ⟨_, rfl, q u H2 pz2 f02 S2 r2 p2⟩
  | worth z =>
    have dz : Da H2 u z.d := r2
    by_cases zf : z.isF = true
    · have e1 : pairedM o y z = z := by
        rw [pairedM, if_neg (by rw [yf]; decide), if_pos zf]
      have q1 : Post K k H L rd wd wl (.worth z, R) Q := by
        have q2 : Post K k H L rd wd wl (.worth (pairedM o y z), R) Q := q
        rw [e1] at q2
        exact q2
      show (if (!(!z.isF)) = true then _ else _)
      rw [zf]
      exact ⟨_, rfl, q1 u H2 pz2 f02 S2 r2 trivial⟩
    · have zf' := Bool.eq_false_iff.mpr zf
      show (if (!(!z.isF)) = true then _ else _)
      rw [zf']
      exact ⟨_, rfl, _, rfl, _, rfl, o, y, z, rfl, ⟨f2.da dy, yo⟩, ⟨dz, ok2⟩, fun v3 H3 f3 d3 => q v3 H3 pz2 (f02.trans f3.nil) (S2.fr f3) d3 trivial⟩
end
end OL
namespace OL
open PySem PySem.Spec PyProof.Rows L2

theorem has_never {P : Program} {w : World} {K : PySem.W.Frag} {mg : Str → Option Value} {base : Heap} {x : Str} {ps : List Str} {k j : Nat} {sp sp' : Sp} (h : Has P w K mg base x ps j sp) (no : ∀ vs H Q E, ¬ sp' vs H Q E) : Has P w K mg base x ps k sp' := by
  obtain ⟨f, fd, a, b, c, d⟩ := h
  exact ⟨f, fd, a, b, c, ⟨fun vs H Q E z => absurd z (no vs H Q E), fun A outer s H args us vs Q E _ _ _ _ z => absurd z (no vs H Q E)⟩⟩
def S_sub (K : PySem.W.Frag) (n : Nat) : Sp := sp2 fun s fm H Q => ∃ k L rd wd wl rs pz f m, s = .ref L ∧ LkAt K k H L rd wd wl rs pz ∧ Da H fm f.d ∧ n = m + 1 ∧ f.ok m ∧ rs.length + f.cost < 100000 ∧ Post K k H L rd wd wl (lookM k f rs) Q
theorem ok_gat {n : Nat} {w : Str} {a : Ar} {ps : List Int} (h : (Fm.gat w a ps).ok n) : w ∈ gws ∧ a.ok ∧ ps ≠ [] := by
  cases n <;> exact h
section
variable {P : Program} {w : World} {K : PySem.W.Frag} {mg : Str → Option Value} {base : Heap}
theorem sc_look_area : FnScope ["look", "formula", "worths"] ["look", "formula"] (defScope s_look_area) := ⟨rfl, rfl, rfl, by decide +kernel, rfl, by decide +kernel, by decide +kernel⟩
theorem h_look_area (T : Txt K mg) {n : Nat} : Has P w K mg base "look_area" ["look", "formula"] 7 (SI K n fun f => ∃ w a ps, f = .gat w a ps) := by
  obtain ⟨fd, F⟩ := T.f_look_area
  refine ⟨_, fd, T.g_look_area, F.kp, F.binds (ps := ["look", "formula"]) (fun _ _ _ _ _ _ us hl => match us, hl with | [_, _], _ => rfl), F.ok sc_look_area (fun vs H Q E h => sp2_len h) (fun cdv A outer s H vs Q E hr h => ?_)⟩
  obtain ⟨v0, v1, rfl, h⟩ := sp2_inv h
  obtain ⟨k, L, rd, wd, wl, rs, pz, _, rfl, S, hf, ho, ⟨o, a, ps, rfl⟩, hz, q⟩ := h
  obtain ⟨fa, xs0, rfl, ef, l⟩ := hf.tupI
  obtain ⟨x0, x1, x2, rfl, d0, d1, d2⟩ := DaL.inv3 l
  have e00 := d0.strI
  subst e00
  obtain ⟨hw, ha, _⟩ := ok_gat ho
  obtain ⟨aa, rfl, ea⟩ := ar_tup d1
  refine ⟨_, (pss_cons (ps_set (i := 2) sc_look_area.nd rfl (Or.inl rfl) (mt T.cl (hm_read_area T) (hr.mono (by omega)) (pv 0) (pa_cons (pe_ix ix_tup (pv 1) pe_int (fun _ _ => rfl)) pa_nil)))
      (pss_cons (ps_if (pt_cmpR (op_eqP (hr.units)) (pe_ix ix_list (pv 2) (pe_un un_neg pe_int) (fun _ _ => rfl)) (cR T.g_WAITS) (nomark _)) (pss_one (ps_ret (cR T.g_WAITS))) pss_nil)
      (pss_one (ps_ret (cl (h_gathered T) (hr.mono (by omega)) (pa_cons (pe_ix ix_tup (pv 1) pe_int (fun _ _ => rfl)) (pa_cons (pv 2) pa_nil))))))), ?_⟩
  have hc : (Fm.gat o a ps).cost = 1 := rfl
  obtain ⟨dx, e1⟩ := S.ob
  have hne : a.places ≠ [] := fun z => by
    have := (places_len ha).1
    rw [z] at this
    cases this
  obtain ⟨ini, lst, ec, hini⟩ := cutBy_split (st := fun p => (k.seen p).stops) hne
  have ec2 : cut k a.places = ini ++ [lst] := ec
  have el : lastP (cut k a.places) = lst := by
    rw [ec2]
    unfold lastP
    rw [List.getLastD_concat]
  refine ⟨_, rfl, L, dx, _, rfl, e1, lf_no (by decide +kernel) (by decide +kernel) (by decide +kernel) (by decide +kernel), _, rfl, _, _, _, _, rfl, rfl, SqT.of ef, rfl, k, L, rd, wd, wl, rs, pz, a, aa, rfl, S, rfl, ea, ha, by omega, fun p xs H1 pz1 f1 hp rl S1 p1 => ?_⟩
  rw [el] at p1
  have hlook : (lookM k (.gat o a ps) rs).2 = OL.note (.part a (lastP (cut k a.places))) rs := rfl
  rw [ec2, List.map_append] at rl
  obtain ⟨ys, v, rfl, rv⟩ := resL_last rl
  obtain ⟨d, z1, z2, z3⟩ := res_eqv T rv
  refine ⟨_, rfl, _, rfl, _, _, _, _, rfl, rfl, SqL.of hp, atI_last _ _, d, wD, z1, wDp T, z2, wD_plain, wD_min d, _, rfl, ?_⟩
  rw [z3]
  cases es : k.seen lst with
  | waits z =>
    have e0 : lookM k (.gat o a ps) rs = (.waits z, OL.note (.part a (lastP (cut k a.places))) rs) := by
      show (areaR k o a.places, _) = _
      unfold areaR
      rw [el, es]
    rw [e0] at q
    rw [es] at p1
    exact q _ H1 pz1 f1 S1 rfl p1
  | worth z =>
    have e0 : lookM k (.gat o a ps) rs = (.worth (gathM o ((cut k a.places).map fun p => (k.seen p).w)), OL.note (.part a (lastP (cut k a.places))) rs) := by
      show (areaR k o a.places, _) = _
      unfold areaR
      rw [el, es]
    rw [e0] at q
    have hall : ∀ r ∈ (cut k a.places).map k.seen, r.isW = false := by
      intro r hr0
      obtain ⟨p0, hp0, e⟩ := List.mem_map.mp hr0
      rw [ec2] at hp0
      rcases List.mem_append.mp hp0 with hm | hm
      · have h1 := hini p0 hm
        rw [← e]
        cases e3 : k.seen p0 with
        | waits y =>
          have h2 : (k.seen p0).stops = false := h1
          rw [e3] at h2
          cases h2
        | worth y => rfl
      · rw [List.mem_singleton.mp hm] at e
        rw [← e, es]
        rfl
    have da1 : DaL H1 (ys ++ [v]) ((((cut k a.places).map k.seen).map Res.w).map Wo.d) := resL_da (by rw [ec2, List.map_append]; exact rl) hall
    rw [List.map_map (f := k.seen)] at da1
    have cl := cutBy_len (st := fun p => (k.seen p).stops) a.places
    have pl := places_300 ha
    refine ⟨_, rfl, _, _, _, _, rfl, rfl, SqT.of (f1.tup ef), rfl, _, rfl, o, p, _, _, rfl, rfl, hp, da1, ?_, fun v2 H2 f2 d2' => q v2 H2 pz1 (f1.trans f2.nil) (S1.fr f2) d2' trivial⟩
    rw [List.length_map]
    exact Nat.le_trans cl (by omega)
theorem sc_look_in : FnScope ["look", "formula", "word", "worth"] ["look", "formula"] (defScope s_look_in) := ⟨rfl, rfl, rfl, by decide +kernel, rfl, by decide +kernel, by decide +kernel⟩
theorem h_look_in_of (T : Txt K mg) {n lv : Nat} (hl : 7 ≤ lv) (hF : Has P w K mg base "look_find" ["look", "formula"] lv (SI K n fun f => ∃ g a ps, f = .find g a ps)) (hI : Has P w K mg base "look_if" ["look", "formula"] lv (SI K n fun f => ∃ a b c, f = .ite a b c))
    (hE : Has P w K mg base "look_else" ["look", "formula"] lv (SI K n fun f => ∃ a b, f = .els a b)) (hP : Has P w K mg base "look_pair" ["look", "formula"] lv (SI K n fun f => ∃ o a b, f = .two o a b)) (hS : Has P w K mg base "look_in" ["look", "formula"] lv (S_sub K n)) :
    Has P w K mg base "look_in" ["look", "formula"] (lv + 1) (S_in K n) := by
  obtain ⟨fd, F⟩ := T.f_look_in
  refine ⟨_, fd, T.g_look_in, F.kp, F.binds (ps := ["look", "formula"]) (fun _ _ _ _ _ _ us hl => match us, hl with | [_, _], _ => rfl), F.ok sc_look_in (fun vs H Q E h => sp2_len h) (fun cdv A outer s H vs Q E hr h => ?_)⟩
  obtain ⟨v0, v1, rfl, h⟩ := sp2_inv h
  obtain ⟨k, L, rd, wd, wl, rs, pz, f, rfl, S, hf, ho, _, hz, q⟩ := h
  have hA : Has P w K mg base "look_area" ["look", "formula"] 7 (SI K n fun f => ∃ w a ps, f = .gat w a ps) := h_look_area T
  refine ⟨_, (pss_cons (ps_set (i := 2) sc_look_in.nd rfl (Or.inl rfl) (pe_ix ix_tup (pv 1) pe_int (fun _ _ => rfl)))
      (pss_cons (ps_if (PW.pt (pw_or (pt_cmpR op_eq (pv 2) pe_str (nomark _)) (pw_or1 (pt_cmpR op_eq (pv 2) pe_str (nomark _))))) (pss_one (ps_ret (pe_ix ix_tup (pv 1) pe_int (fun _ _ => rfl)))) pss_nil)
      (pss_cons (ps_if (pt_cmpR op_eq (pv 2) pe_str (nomark _)) (pss_one (ps_ret (cl (h_fault T) (hr.mono (by omega)) (pa_cons pe_str pa_nil)))) pss_nil)
      (pss_cons (ps_if (pt_cmpR op_eq (pv 2) pe_str (nomark _)) (pss_one (ps_ret (mt T.cl (hm_read_cell T) (hr.mono (by omega)) (pv 0) (pa_cons (pe_ix ix_tup (pv 1) pe_int (fun _ _ => rfl)) pa_nil)))) pss_nil)
      (pss_cons (ps_if (pt_cmpR op_in_seq (pv 2) (cR T.g_GATHERING) (by rfl)) (pss_one (ps_ret (cl hA (hr.mono (by omega)) (pa_cons (pv 0) (pa_cons (pv 1) pa_nil))))) pss_nil)
      (pss_cons (ps_if (pt_cmpR op_eq (pv 2) pe_str (nomark _)) (pss_one (ps_ret (cl hF (hr.mono (by omega)) (pa_cons (pv 0) (pa_cons (pv 1) pa_nil))))) pss_nil)
      (pss_cons (ps_if (pt_cmpR op_eq (pv 2) pe_str (nomark _)) (pss_one (ps_ret (cl hI (hr.mono (by omega)) (pa_cons (pv 0) (pa_cons (pv 1) pa_nil))))) pss_nil)
      (pss_cons (ps_if (pt_cmpR op_eq (pv 2) pe_str (nomark _)) (pss_one (ps_ret (cl hE (hr.mono (by omega)) (pa_cons (pv 0) (pa_cons (pv 1) pa_nil))))) pss_nil)
      (pss_cons (ps_if (pt_cmpR op_in_seq (pv 2) (cR T.g_SINGLE) (by rfl)) (pss_cons (ps_set (i := 3) sc_look_in.nd rfl (Or.inl rfl) (cl hS (hr.mono (by omega)) (pa_cons (pv 0) (pa_cons (pe_ix ix_tup (pv 1) pe_int (fun _ _ => rfl)) pa_nil))))
      (pss_cons (ps_if (pt_cmpR (op_eqP (hr.units)) (pv 3) (cR T.g_WAITS) (nomark _)) (pss_one (ps_ret (pv 3))) pss_nil)
      (pss_one (ps_ret (cl (h_single T) (hr.mono (by omega)) (pa_cons (pv 2) (pa_cons (pv 3) pa_nil))))))) pss_nil)
      (pss_one (ps_ret (cl hP (hr.mono (by omega)) (pa_cons (pv 0) (pa_cons (pv 1) pa_nil)))))))))))))), ?_⟩
  cases f with
  | num i =>
    obtain ⟨fa, xs, rfl, ef, l⟩ := hf.tupI
    obtain ⟨x0, x1, rfl, d0, d1⟩ := DaL.inv2 l
    have e00 := d0.strI
    subst e00
    refine ⟨_, rfl, _, _, _, _, rfl, rfl, SqT.of ef, rfl, ?_⟩
    refine ⟨_, rfl, rfl, _, rfl, ifd rfl (iteT ⟨_, rfl, _, _, _, _, rfl, rfl, SqT.of ef, rfl, ?_⟩)⟩
    exact q _ H pz Fr.refl S d1 trivial
  | text i =>
    obtain ⟨fa, xs, rfl, ef, l⟩ := hf.tupI
    obtain ⟨x0, x1, rfl, d0, d1⟩ := DaL.inv2 l
    have e00 := d0.strI
    subst e00
    refine ⟨_, rfl, _, _, _, _, rfl, rfl, SqT.of ef, rfl, ?_⟩
    refine ⟨_, rfl, rfl, _, rfl, ifn (ns (by decide +kernel)) ⟨_, rfl, rfl, _, rfl, ifd rfl ⟨_, rfl, _, _, _, _, rfl, rfl, SqT.of ef, rfl, ?_⟩⟩⟩
    exact q _ H pz Fr.refl S d1 trivial
  | lost =>
    obtain ⟨fa, xs, rfl, ef, l⟩ := hf.tupI
    obtain ⟨x0, rfl, d0⟩ := DaL.inv1 l
    have e00 := d0.strI
    subst e00
    refine ⟨_, rfl, _, _, _, _, rfl, rfl, SqT.of ef, rfl, ?_⟩
    refine ⟨_, rfl, rfl, _, rfl, ifn (ns (by decide +kernel)) ⟨_, rfl, rfl, _, rfl, ifn (ns (by decide +kernel)) ?_⟩⟩
    refine ⟨_, rfl, rfl, _, rfl, ifd rfl ⟨_, rfl, fun v H1 f1 d1 => ?_⟩⟩
    exact q _ H1 pz f1.nil (S.fr f1) d1 trivial
  | «at» p ps =>
    obtain ⟨fa, xs, rfl, ef, l⟩ := hf.tupI
    obtain ⟨x0, x1, x2, rfl, d0, d1, d2⟩ := DaL.inv3 l
    have e00 := d0.strI
    subst e00
    have hc : (Fm.at p ps).cost = 1 := rfl
    refine ⟨_, rfl, _, _, _, _, rfl, rfl, SqT.of ef, rfl, ?_⟩
    refine ⟨_, rfl, rfl, _, rfl, ifn (ns (by decide +kernel)) ⟨_, rfl, rfl, _, rfl, ifn (ns (by decide +kernel)) ?_⟩⟩
    refine ⟨_, rfl, rfl, _, rfl, ifn (ns (by decide +kernel)) ?_⟩
    obtain ⟨dx, e1⟩ := S.ob
    refine ⟨_, rfl, rfl, _, rfl, ifd rfl ⟨_, rfl, L, dx, _, rfl, e1, lf_no (by decide +kernel) (by decide +kernel) (by decide +kernel) (by decide +kernel), _, rfl, _, _, _, _, rfl, rfl, SqT.of ef, rfl, ?_⟩⟩
    exact ⟨k, L, rd, wd, wl, rs, pz, p, rfl, S, d1, by omega, q⟩
  | gat o a ps =>
    obtain ⟨hw, ha, _⟩ := ok_gat ho
    obtain ⟨fa, xs, rfl, ef, l⟩ := id hf.tupI
    obtain ⟨x0, x1, x2, rfl, d0, d1, d2⟩ := DaL.inv3 l
    have e00 := d0.strI
    subst e00
    have hn : ∀ x ∈ gws, ¬ x = "num" ∧ ¬ x = "text" ∧ ¬ x = "lost" ∧ ¬ x = "at" := by decide +kernel
    obtain ⟨m1, m2, m3, m4⟩ := hn o hw
    refine ⟨_, rfl, _, _, _, _, rfl, rfl, SqT.of ef, rfl, ?_⟩
    refine ⟨_, rfl, rfl, _, rfl, ifn (ns m1) ⟨_, rfl, rfl, _, rfl, ifn (ns m2) ?_⟩⟩
    refine ⟨_, rfl, rfl, _, rfl, ifn (ns m3) ?_⟩
    refine ⟨_, rfl, rfl, _, rfl, ifn (ns m4) ?_⟩
    refine ⟨_, rfl, _, _, rfl, .inr (T.w_GATHERING _), rfl, flatStr gws, _, rfl, ifb ((inStr o gws).trans (decide_eq_true hw)) ?_⟩
    exact ⟨_, rfl, _, rfl, k, L, rd, wd, wl, rs, pz, .gat o a ps, rfl, S, hf, ho, ⟨o, a, ps, rfl⟩, hz, q⟩
  | find g a ps =>
    obtain ⟨fa, xs, rfl, ef, l⟩ := id hf.tupI
    obtain ⟨x0, x1, x2, x3, rfl, d0, d1, d2, d3⟩ := DaL.inv4 l
    have e00 := d0.strI
    subst e00
    refine ⟨_, rfl, _, _, _, _, rfl, rfl, SqT.of ef, rfl, ?_⟩
    refine ⟨_, rfl, rfl, _, rfl, ifn (ns (by decide +kernel)) ⟨_, rfl, rfl, _, rfl, ifn (ns (by decide +kernel)) ?_⟩⟩
    refine ⟨_, rfl, rfl, _, rfl, ifn (ns (by decide +kernel)) ?_⟩
    refine ⟨_, rfl, rfl, _, rfl, ifn (ns (by decide +kernel)) ?_⟩
    refine ⟨_, rfl, _, _, rfl, .inr (T.w_GATHERING _), rfl, flatStr gws, _, rfl, ifbn ((inStr "find" gws).trans (by decide +kernel)) ?_⟩
    refine ⟨_, rfl, rfl, _, rfl, ifd rfl ?_⟩
    exact ⟨_, rfl, _, rfl, k, L, rd, wd, wl, rs, pz, .find g a ps, rfl, S, hf, ho, ⟨g, a, ps, rfl⟩, hz, q⟩
  | ite a b c =>
    obtain ⟨fa, xs, rfl, ef, l⟩ := id hf.tupI
    obtain ⟨x0, x1, x2, x3, rfl, d0, d1, d2, d3⟩ := DaL.inv4 l
    have e00 := d0.strI
    subst e00
    refine ⟨_, rfl, _, _, _, _, rfl, rfl, SqT.of ef, rfl, ?_⟩
    refine ⟨_, rfl, rfl, _, rfl, ifn (ns (by decide +kernel)) ⟨_, rfl, rfl, _, rfl, ifn (ns (by decide +kernel)) ?_⟩⟩
    refine ⟨_, rfl, rfl, _, rfl, ifn (ns (by decide +kernel)) ?_⟩
    refine ⟨_, rfl, rfl, _, rfl, ifn (ns (by decide +kernel)) ?_⟩
    refine ⟨_, rfl, _, _, rfl, .inr (T.w_GATHERING _), rfl, flatStr gws, _, rfl, ifbn ((inStr "if" gws).trans (by decide +kernel)) ?_⟩
    refine ⟨_, rfl, rfl, _, rfl, ifn (ns (by decide +kernel)) ?_⟩
    refine ⟨_, rfl, rfl, _, rfl, ifd rfl ?_⟩
    exact ⟨_, rfl, _, rfl, k, L, rd, wd, wl, rs, pz, .ite a b c, rfl, S, hf, ho, ⟨a, b, c, rfl⟩, hz, q⟩
  | els a b =>
    obtain ⟨fa, xs, rfl, ef, l⟩ := id hf.tupI
    obtain ⟨x0, x1, x2, rfl, d0, d1, d2⟩ := DaL.inv3 l
    have e00 := d0.strI
    subst e00
    refine ⟨_, rfl, _, _, _, _, rfl, rfl, SqT.of ef, rfl, ?_⟩
    refine ⟨_, rfl, rfl, _, rfl, ifn (ns (by decide +kernel)) ⟨_, rfl, rfl, _, rfl, ifn (ns (by decide +kernel)) ?_⟩⟩
    refine ⟨_, rfl, rfl, _, rfl, ifn (ns (by decide +kernel)) ?_⟩
    refine ⟨_, rfl, rfl, _, rfl, ifn (ns (by decide +kernel)) ?_⟩
    refine ⟨_, rfl, _, _, rfl, .inr (T.w_GATHERING _), rfl, flatStr gws, _, rfl, ifbn ((inStr "else" gws).trans (by decide +kernel)) ?_⟩
    refine ⟨_, rfl, rfl, _, rfl, ifn (ns (by decide +kernel)) ?_⟩
    refine ⟨_, rfl, rfl, _, rfl, ifn (ns (by decide +kernel)) ?_⟩
    refine ⟨_, rfl, rfl, _, rfl, ifd rfl ?_⟩
    exact ⟨_, rfl, _, rfl, k, L, rd, wd, wl, rs, pz, .els a b, rfl, S, hf, ho, ⟨a, b, rfl⟩, hz, q⟩
  | one o g =>
    cases n with
    | zero => exact ho.elim
    | succ m =>
    have hw : o ∈ sws := ho.1
    obtain ⟨fa, xs, rfl, ef, l⟩ := id hf.tupI
    obtain ⟨x0, x1, rfl, d0, d1⟩ := DaL.inv2 l
    have e00 := d0.strI
    subst e00
    have hn : ∀ x ∈ sws, ¬ x = "num" ∧ ¬ x = "text" ∧ ¬ x = "lost" ∧ ¬ x = "at" ∧ ¬ x ∈ gws ∧ ¬ x = "find" ∧ ¬ x = "if" ∧ ¬ x = "else" := by decide +kernel
    obtain ⟨m1, m2, m3, m4, m5, m6, m7, m8⟩ := hn o hw
    refine ⟨_, rfl, _, _, _, _, rfl, rfl, SqT.of ef, rfl, ?_⟩
    refine ⟨_, rfl, rfl, _, rfl, ifn (ns m1) ⟨_, rfl, rfl, _, rfl, ifn (ns m2) ?_⟩⟩
    refine ⟨_, rfl, rfl, _, rfl, ifn (ns m3) ?_⟩
    refine ⟨_, rfl, rfl, _, rfl, ifn (ns m4) ?_⟩
    refine ⟨_, rfl, _, _, rfl, .inr (T.w_GATHERING _), rfl, flatStr gws, _, rfl, ifbn ((inStr o gws).trans (decide_eq_false m5)) ?_⟩
    refine ⟨_, rfl, rfl, _, rfl, ifn (ns m6) ?_⟩
    refine ⟨_, rfl, rfl, _, rfl, ifn (ns m7) ?_⟩
    refine ⟨_, rfl, rfl, _, rfl, ifn (ns m8) ?_⟩
    refine ⟨_, rfl, _, _, rfl, .inr (T.w_SINGLE _), rfl, flatStr sws, _, rfl, ifb ((inStr o sws).trans (decide_eq_true hw)) ?_⟩
    refine ⟨_, rfl, _, rfl, _, _, _, _, rfl, rfl, SqT.of ef, rfl, k, L, rd, wd, wl, rs, pz, g, m, rfl, S, d1, rfl, ho.2, hz, fun v H1 pz1 f1 S1 r1 p1 => ?_⟩
    obtain ⟨d, z1, z2, z3⟩ := res_eqv T r1
    refine ⟨_, rfl, d, wD, z1, wDp T, z2, wD_plain, wD_min d, _, rfl, ?_⟩
    rw [z3]
    have e0 : lookM k (.one o g) rs = oneM o (lookM k g rs) := by
      simp only [lookM]
      generalize lookM k g rs = M
      obtain ⟨r, R⟩ := M
      cases r <;> rfl
    rw [e0] at q
    generalize lookM k g rs = M at *
    obtain ⟨r, R⟩ := M
    cases r with
    | waits p => exact ⟨_, rfl, q v H1 pz1 f1 S1 r1 p1⟩
    | worth y => exact ⟨_, rfl, _, rfl, o, y, rfl, r1, fun v2 H2 f2 d2 => q v2 H2 pz1 (f1.trans f2.nil) (S1.fr f2) d2 trivial⟩
  | two o a b =>
    cases n with
    | zero => exact ho.elim
    | succ m =>
    have hw : o ∈ ows := ho.1
    obtain ⟨fa, xs, rfl, ef, l⟩ := id hf.tupI
    obtain ⟨x0, x1, x2, rfl, d0, d1, d2⟩ := DaL.inv3 l
    have e00 := d0.strI
    subst e00
    have hn : ∀ x ∈ ows, ¬ x = "num" ∧ ¬ x = "text" ∧ ¬ x = "lost" ∧ ¬ x = "at" ∧ ¬ x ∈ gws ∧ ¬ x = "find" ∧ ¬ x = "if" ∧ ¬ x = "else" ∧ ¬ x ∈ sws := by decide +kernel
    obtain ⟨m1, m2, m3, m4, m5, m6, m7, m8, m9⟩ := hn o hw
    refine ⟨_, rfl, _, _, _, _, rfl, rfl, SqT.of ef, rfl, ?_⟩
    refine ⟨_, rfl, rfl, _, rfl, ifn (ns m1) ⟨_, rfl, rfl, _, rfl, ifn (ns m2) ?_⟩⟩
    refine ⟨_, rfl, rfl, _, rfl, ifn (ns m3) ?_⟩
    refine ⟨_, rfl, rfl, _, rfl, ifn (ns m4) ?_⟩
    refine ⟨_, rfl, _, _, rfl, .inr (T.w_GATHERING _), rfl, flatStr gws, _, rfl, ifbn ((inStr o gws).trans (decide_eq_false m5)) ?_⟩
    refine ⟨_, rfl, rfl, _, rfl, ifn (ns m6) ?_⟩
    refine ⟨_, rfl, rfl, _, rfl, ifn (ns m7) ?_⟩
    refine ⟨_, rfl, rfl, _, rfl, ifn (ns m8) ?_⟩
    refine ⟨_, rfl, _, _, rfl, .inr (T.w_SINGLE _), rfl, flatStr sws, _, rfl, ifbn ((inStr o sws).trans (decide_eq_false m9)) ?_⟩
    exact ⟨_, rfl, _, rfl, k, L, rd, wd, wl, rs, pz, .two o a b, rfl, S, hf, ho, ⟨o, a, b, rfl⟩, hz, q⟩
/-- the level at which a formula so deep is looked at -/
def lv : Nat → Nat
  | 0 => 8
  | n + 1 => lv n + 2
theorem lv_ge : ∀ n, 8 ≤ lv n
  | 0 => Nat.le_refl _
  | n + 1 => Nat.le_trans (lv_ge n) (Nat.le_add_right _ 2)
theorem never0 {pat : Fm → Prop} (h : ∀ f, pat f → ¬ f.ok 0) : ∀ vs H Q E, ¬ SI K 0 pat vs H Q E := by
  intro vs H Q E z
  obtain ⟨v0, v1, rfl, k, L, rd, wd, wl, rs, pz, f, _, _, _, ho, hp, _⟩ := sp2_inv z
  exact h f hp ho
theorem has_f {x : Str} {ps : List Str} {st : Stmt} {f : Addr} {sp : Sp} {k : Nat} (g : mg x = some (.ref f)) (F : ∃ fd, Fun K x x st f fd) (b : ∀ fd, Fun K x x st f fd → Binds K fd ps []) (no : ∀ vs H Q E, ¬ sp vs H Q E) : Has P w K mg base x ps k sp := by
  obtain ⟨fd, F⟩ := F
  exact ⟨f, fd, g, F.kp, b fd F, ⟨fun vs H Q E z => absurd z (no vs H Q E), fun A outer s H args us vs Q E _ _ _ _ z => absurd z (no vs H Q E)⟩⟩
theorem h_look_in (T : Txt K mg) : ∀ n, Has P w K mg base "look_in" ["look", "formula"] (lv n) (S_in K n)
  | 0 => by
    refine h_look_in_of T (lv := 7) (Nat.le_refl _) ?_ ?_ ?_ ?_ ?_
    · exact has_f T.g_look_find T.f_look_find (fun fd F => F.binds (ps := ["look", "formula"]) (fun _ _ _ _ _ _ us hl => match us, hl with | [_, _], _ => rfl)) (never0 fun f ⟨_, _, _, e⟩ h => by subst e; exact h)
    · exact has_f T.g_look_if T.f_look_if (fun fd F => F.binds (ps := ["look", "formula"]) (fun _ _ _ _ _ _ us hl => match us, hl with | [_, _], _ => rfl)) (never0 fun f ⟨_, _, _, e⟩ h => by subst e; exact h)
    · exact has_f T.g_look_else T.f_look_else (fun fd F => F.binds (ps := ["look", "formula"]) (fun _ _ _ _ _ _ us hl => match us, hl with | [_, _], _ => rfl)) (never0 fun f ⟨_, _, e⟩ h => by subst e; exact h)
    · exact has_f T.g_look_pair T.f_look_pair (fun fd F => F.binds (ps := ["look", "formula"]) (fun _ _ _ _ _ _ us hl => match us, hl with | [_, _], _ => rfl)) (never0 fun f ⟨_, _, _, e⟩ h => by subst e; exact h)
    · refine has_f T.g_look_in T.f_look_in (fun fd F => F.binds (ps := ["look", "formula"]) (fun _ _ _ _ _ _ us hl => match us, hl with | [_, _], _ => rfl)) ?_
      intro vs H Q E z
      obtain ⟨v0, v1, rfl, k, L, rd, wd, wl, rs, pz, f, m, _, _, _, e, _⟩ := sp2_inv z
      omega
  | n + 1 => by
    have ih := h_look_in T n
    have h8 := lv_ge n
    refine h_look_in_of T (lv := lv n + 1) (by omega) (h_look_find T (by omega) ih) (h_look_if T (by omega) ih) (h_look_else T (by omega) ih) (h_look_pair T (by omega) ih) ?_
    obtain ⟨f, fd, a, b, c, d⟩ := ih.mono (Nat.le_add_right _ 1)
    refine ⟨f, fd, a, b, c, d.imp fun vs H Q E z => ?_⟩
    obtain ⟨v0, v1, rfl, k, L, rd, wd, wl, rs, pz, f, m, e1, e2, e3, e4, e5, e6⟩ := sp2_inv z
    have e : n = m := by omega
    subst e
    exact ⟨k, L, rd, wd, wl, rs, pz, f, e1, e2, e3, e5, trivial, e6⟩
/-- what look_at promises: a look, as data -/
def S_look_at (n : Nat) : Sp := sp3 fun fm a b H Q => ∃ k wd wl f, Da H fm f.d ∧ f.ok n ∧ f.cost < 100000 ∧ a = .ref wd ∧ b = .ref wl ∧ Known k H wd wl ∧ ∀ v H', Fr [] H H' → Da H' v (LK.d (lookM k f [])) → Q v H'
theorem sc_look_at : FnScope ["formula", "worths", "waiting", "look", "worth"] ["formula", "worths", "waiting"] (defScope s_look_at) := ⟨rfl, rfl, rfl, by decide +kernel, rfl, by decide +kernel, by decide +kernel⟩
theorem h_look_at (T : Txt K mg) {n : Nat} : Has P w K mg base "look_at" ["formula", "worths", "waiting"] (lv n + 1) (S_look_at n) := by
  obtain ⟨fd, F⟩ := T.f_look_at
  refine ⟨_, fd, T.g_look_at, F.kp, F.binds (ps := ["formula", "worths", "waiting"]) (fun _ _ _ _ _ _ us hl => match us, hl with | [_, _, _], _ => rfl), F.ok sc_look_at (fun vs H Q E h => sp3_len h) (fun cdv A outer s H vs Q E hr h => ?_)⟩
  obtain ⟨v0, v1, v2, rfl, h⟩ := sp3_inv h
  obtain ⟨k, wd, wl, f, hf, ho, hcst, rfl, rfl, kn, q⟩ := h
  have hIn : Has P w K mg base "look_in" ["look", "formula"] (lv n) (S_in K n) := h_look_in T n
  have h8 := lv_ge n
  refine ⟨_, (pss_cons (ps_set (i := 3) sc_look_at.nd rfl (Or.inl rfl) (mkC T.mkr T.gLook (hm_init T) (hr.mono (by omega)) (pa_cons (pv 1) (pa_cons (pv 2) pa_nil))))
      (pss_cons (ps_set (i := 4) sc_look_at.nd rfl (Or.inl rfl) (cl hIn (hr.mono (by omega)) (pa_cons (pv 3) (pa_cons (pv 0) pa_nil))))
      (pss_cons (ps_if (pt_cmpR (op_eqP (hr.units)) (pv 4) (cR T.g_WAITS) (nomark _)) (pss_one (ps_ret (pe_tup (pa_cons pe_str (pa_cons (pe_fld (pv 3) rfl) (pa_cons (pe_callTy call_tuple_of (by rfl) T.n_tuple (by decide +kernel) (pa_cons (pe_fld (pv 3) rfl) pa_nil)) pa_nil)))))) pss_nil)
      (pss_one (ps_ret (pe_tup (pa_cons pe_str (pa_cons (pv 4) (pa_cons (pe_callTy call_tuple_of (by rfl) T.n_tuple (by decide +kernel) (pa_cons (pe_fld (pv 3) rfl) pa_nil)) pa_nil))))))))), ?_⟩
  refine ⟨_, rfl, _, rfl, fun L dx nL nd ne => ?_⟩
  have f0 : Fr [] H (upd (upd H dx (.own L)) L (.ins (He.ga K "Look") dx [])) := (Fr.refl.new nd).new (by rw [upd_ne ne.symm]; exact nL)
  refine ⟨L, dx, wd, wl, rfl, rfl, rfl, upd_same, fun H1 rd f1 hrd hL hR => ⟨rfl, ?_⟩⟩
  have f01 : Fr [L] H H1 := f0.nil.trans f1
  have hrd0 : H rd = none := f0.l rd hrd
  have e3 := kn.d
  have e4 := kn.l
  obtain ⟨kvs, e5, _⟩ := e3
  obtain ⟨xs, ps, e6, _⟩ := e4
  have n1 : wd ∉ [L] := by
    intro z
    rw [List.mem_singleton.mp z, nL] at e5
    cases e5
  have n2 : wl ∉ [L] := by
    intro z
    rw [List.mem_singleton.mp z, nL] at e6
    cases e6
  have nwr : wl ≠ rd := by
    intro z
    rw [z, hrd0] at e6
    cases e6
  have S1 : LkAt K k H1 L rd wd wl [] .non := ⟨⟨dx, hL⟩, ⟨[], hR, .nil⟩, kn.fr f01 n1 n2, nwr, by simp⟩
  refine ⟨_, rfl, _, rfl, k, L, rd, wd, wl, [], .non, f, rfl, S1, f01.da hf, ho, trivial, by simpa using hcst, fun v H2 pz2 f2 S2 r2 p2 => ?_⟩
  have f02 : Fr [] H H2 := by
    have f3 : Fr [L, rd] H H2 := (f01.wide (N := [L, rd]) (by simp)).trans f2
    refine ⟨fun b o e _ => f3.k b o e ?_, f3.t, f3.l⟩
    intro z
    rcases List.mem_cons.mp z with z | z
    · rw [z, nL] at e
      cases e
    · rw [List.mem_singleton.mp z, hrd0] at e
      cases e
  obtain ⟨d, z1, z2, z3⟩ := res_eqv T r2
  refine ⟨_, rfl, d, wD, z1, wDp T, z2, wD_plain, wD_min d, _, rfl, ?_⟩
  rw [z3]
  obtain ⟨dx2, g1⟩ := S2.ob
  obtain ⟨xr, g2, g3⟩ := S2.rl
  have szx : xr.length ≤ sizeLine := by
    have h1 := g3.length
    rw [List.length_map] at h1
    rw [h1]
    exact Nat.le_trans S2.sz (by decide)
  cases e : (lookM k f []).1 with
  | waits p =>
    have ed : LK.d (lookM k f []) = .tuple [.str "waits", plD p, .tuple ((lookM k f []).2.map Itm.d)] := by
      unfold LK.d
      rw [e]
    rw [ed] at q
    rw [e] at p2
    have dp : Da H2 pz2 (plD p) := p2
    refine ⟨_, rfl, L, _, dx2, _, _, rfl, g1, T.cl, T.at_place, lf_p, _, rfl, L, _, dx2, _, _, rfl, g1, T.cl, T.at_reads, lf_r, rd, _, rfl, .inl ⟨SqL.of g2, fun t ht => ?_⟩⟩
    have ft : Fr [] H2 (upd H2 t (.tup xr)) := Fr.refl.new ht
    refine ⟨by show 3 ≤ sizeLine; decide, fun t2 ht2 => ?_⟩
    have ft2 : Fr [] H2 (upd (upd H2 t (.tup xr)) t2 (.tup [.str "waits", pz2, .ref t])) := ft.new ht2
    refine q _ _ (f02.trans ft2) (.tup upd_same (.cons (.str _) (.cons (ft2.da dp) (.cons (.tup ?_ (ft2.dal g3)) .nil))))
    rw [upd_ne (ne_of_none upd_same ht2), upd_same]
  | worth y =>
    have ed : LK.d (lookM k f []) = .tuple [.str "worth", y.d, .tuple ((lookM k f []).2.map Itm.d)] := by
      unfold LK.d
      rw [e]
    rw [ed] at q
    rw [e] at r2
    have dp : Da H2 v y.d := r2
    refine ⟨_, rfl, _, rfl, L, _, dx2, _, _, rfl, g1, T.cl, T.at_reads, lf_r, rd, _, rfl, .inl ⟨SqL.of g2, fun t ht => ?_⟩⟩
    have ft : Fr [] H2 (upd H2 t (.tup xr)) := Fr.refl.new ht
    refine ⟨by show 3 ≤ sizeLine; decide, fun t2 ht2 => ?_⟩
    have ft2 : Fr [] H2 (upd (upd H2 t (.tup xr)) t2 (.tup [.str "worth", v, .ref t])) := ft.new ht2
    refine q _ _ (f02.trans ft2) (.tup upd_same (.cons (.str _) (.cons (ft2.da dp) (.cons (.tup ?_ (ft2.dal g3)) .nil))))
    rw [upd_ne (ne_of_none upd_same ht2), upd_same]
end
end OL
namespace OL
open PySem PySem.Spec PyProof.Rows L2

/-! ### what the law makes of its script -/
theorem atI_mem {xs : List V} {d : Int} (h0 : 0 ≤ d) (h1 : d < xs.length) : ∃ v, v ∈ xs ∧ atI xs d = some v := by
  have h2 : d.toNat < xs.length := by omega
  refine ⟨xs[d.toNat], List.getElem_mem h2, ?_⟩
  have e : d = ((d.toNat : Nat) : Int) := by omega
  have q : atI xs ((d.toNat : Nat) : Int) = some xs[d.toNat] := atI_nat (List.getElem?_eq_getElem h2)
  rw [← e] at q
  exact q
theorem small_thirteen {a b : Int} (ha : 0 ≤ a) (ha' : a < 1000) (hb : 0 ≤ b) (hb' : b < 1000) : Builtin.Range.small a b 13 = true := by
  unfold Builtin.Range.small
  have h : 0 ≤ Builtin.Range.rangeSize a b 13 ∧ Builtin.Range.rangeSize a b 13 < 2000 := by
    unfold Builtin.Range.rangeSize
    simp only [show (13 : Int) > 0 by decide, if_true]
    split <;> omega
  simp only [Builtin.Range.rangeFitsLong, Bool.and_eq_true, Bool.or_eq_true, decide_eq_true_eq, beq_iff_eq, show (13 : Int) > 0 by decide, if_true]
  omega
theorem rg_thirteen {a b : Int} (ha : 0 ≤ a) (ha' : a < 1000) (hb : 0 ≤ b) (hb' : b < 1000) : ∃ n : Nat, RgC a b 13 n ∧ n ≤ 1000 ∧ ∀ i : Nat, i < n → a + (i : Int) * 13 < b := by
  have h : 0 ≤ Builtin.Range.rangeSize a b 13 ∧ Builtin.Range.rangeSize a b 13 ≤ 1000 ∧ (a < b → Builtin.Range.rangeSize a b 13 = (b - a - 1) / 13 + 1) ∧ (¬ a < b → Builtin.Range.rangeSize a b 13 = 0) := by
    unfold Builtin.Range.rangeSize
    simp only [show (13 : Int) > 0 by decide, if_true]
    refine ⟨?_, ?_, fun z => if_pos z, fun z => if_neg z⟩
    · split <;> omega
    · split <;> omega
  obtain ⟨h1, h2, h3, h4⟩ := h
  refine ⟨(Builtin.Range.rangeSize a b 13).toNat, ⟨by decide, by decide, small_thirteen ha ha' hb hb', by omega⟩, by omega, fun i hi => ?_⟩
  by_cases z : a < b
  · have := h3 z
    omega
  · have := h4 z
    omega
def Row (H : Hp) (r : Addr) : Prop := ∃ n, H r = some (.lst [.int n])
structure Spot (H : Hp) (v : V) (dn ac : Int) : Prop where
  at_ : ∃ a, v = .ref a ∧ H a = some (.tup [.int dn, .int ac])
  d0 : 0 ≤ dn
  d1 : dn ≤ 96
  a0 : 0 ≤ ac
  a1 : ac ≤ 22
theorem Spot.fr {M : List Addr} {H H' : Hp} {v : V} {dn ac : Int} (h : Spot H v dn ac) (f : Fr M H H') : Spot H' v dn ac := by
  obtain ⟨⟨a, e, h1⟩, h2, h3, h4, h5⟩ := h
  exact ⟨⟨a, e, f.tup h1⟩, h2, h3, h4, h5⟩
def S_cell_at (K : PySem.W.Frag) : Sp := sp2 fun s k H Q => ∃ (a : Addr) (ns : List Int) (kk : Int), s = .ref a ∧ SqL K H a (ns.map V.int) ∧ k = .int kk ∧ 0 ≤ kk ∧ ∀ i, Q (.int i) H
def S_mixed : Sp := sp2 fun c k H Q => ∃ i j, c = .int i ∧ k = .int j ∧ 0 ≤ j ∧ j ≤ 1000 ∧ ∀ r, 0 ≤ r → r < 2147483647 → Q (.int r) H
def S_stream (K : PySem.W.Frag) : Sp := sp2 fun s k H Q => ∃ (a : Addr) (ns : List Int) (kk : Int), s = .ref a ∧ SqL K H a (ns.map V.int) ∧ ns.length ≤ 63 ∧ k = .int kk ∧ 0 ≤ kk ∧ kk ≤ 100 ∧ ∀ p H' n, Fr [] H H' → H p = none → H' p = some (.lst [.int n]) → Q (.ref p) H'
def S_digit : Sp := sp2 fun row many H Q => ∃ r m, row = .ref r ∧ Row H r ∧ many = .int m ∧ 0 < m ∧ m.natAbs.log2 < 9000 ∧ ∀ d H', 0 ≤ d → d < m → Fr [r] H H' → Row H' r → Q (.int d) H'
def S_place : Sp := sp2 fun row spot H Q => ∃ r dn ac, row = .ref r ∧ Row H r ∧ Spot H spot dn ac ∧ ∀ v p H', Fr [r] H H' → Row H' r → Da H' v (plD p) → Q v H'
def S_area : Sp := sp2 fun row spot H Q => ∃ r dn ac, row = .ref r ∧ Row H r ∧ Spot H spot dn ac ∧ ∀ v a H', Fr [r] H H' → Row H' r → Da H' v (Ar.d a) → a.ok → Q v H'
def S_pins : Sp := sp2 fun row many H Q => ∃ r m, row = .ref r ∧ Row H r ∧ many = .int m ∧ 0 < m ∧ m ≤ 100 ∧ ∀ v ps H', Fr [r] H H' → Row H' r → Da H' v (psD ps) → ps ≠ [] → Q v H'
def S_number : Sp := sp1 fun row H Q => ∃ r, row = .ref r ∧ Row H r ∧ ∀ i H', Fr [r] H H' → Row H' r → -big ≤ i → i ≤ big → Q (.int i) H'
def S_leaf : Sp := sp2 fun row spot H Q => ∃ r dn ac, row = .ref r ∧ Row H r ∧ Spot H spot dn ac ∧ ∀ v f H', Fr [r] H H' → Row H' r → Da H' v (Fm.d f) → f.ok 0 → Q v H'
def S_formula (n : Nat) : Sp := sp3 fun row spot deep H Q => ∃ r dn ac, row = .ref r ∧ Row H r ∧ Spot H spot dn ac ∧ deep = .int (n : Nat) ∧ ∀ v f H', Fr [r] H H' → Row H' r → Da H' v (Fm.d f) → f.ok n → Q v H'
section
variable {P : Program} {w : World} {K : PySem.W.Frag} {mg : Str → Option Value} {base : Heap}
theorem sc_law_cell_at : FnScope ["script", "k"] ["script", "k"] (defScope s_law_cell_at) := ⟨rfl, rfl, rfl, by decide +kernel, rfl, by decide +kernel, by decide +kernel⟩
theorem h_law_cell_at (T : Txt K mg) : Has P w K mg base "_law_cell_at" ["script", "k"] 1 (S_cell_at K) := by
  obtain ⟨fd, F⟩ := T.f_law_cell_at
  refine ⟨_, fd, T.g_law_cell_at, F.kp, F.binds (ps := ["script", "k"]) (fun _ _ _ _ _ _ us hl => match us, hl with | [_, _], _ => rfl), F.ok sc_law_cell_at (fun vs H Q E h => sp2_len h) (fun cdv A outer s H vs Q E hr h => ?_)⟩
  obtain ⟨v0, v1, rfl, h⟩ := sp2_inv h
  obtain ⟨a, ns, kk, rfl, hS, rfl, h0, q⟩ := h
  refine ⟨_, (pss_cons (ps_if (pt_cmpR op_lt (pv 1) (pe_callB call_len_seq (by rfl) T.n_len (by decide +kernel) (pa_cons (pv 0) pa_nil)) (nomark _)) (pss_one (ps_ret (pe_ix ix_list (pv 0) (pv 1) (fun _ _ => rfl)))) pss_nil)
      (pss_one (ps_ret pe_int))), ?_⟩
  refine ⟨_, rfl, _, rfl, a, _, rfl, .inl hS, _, _, rfl, rfl, _, rfl, ?_⟩
  by_cases c : kk < (((ns.map V.int).length : Nat) : Int)
  · obtain ⟨v, hv, e⟩ := atI_mem h0 c
    obtain ⟨i, _, rfl⟩ := List.mem_map.mp hv
    exact ifd c ⟨_, rfl, _, rfl, _, _, _, _, rfl, rfl, hS, e, q i⟩
  · exact ifn c (q 0)
theorem sc_law_mixed : FnScope ["cell", "k", "stir"] ["cell", "k"] (defScope s_law_mixed) := ⟨rfl, rfl, rfl, by decide +kernel, rfl, by decide +kernel, by decide +kernel⟩
theorem h_law_mixed (T : Txt K mg) : Has P w K mg base "_law_mixed" ["cell", "k"] 1 S_mixed := by
  obtain ⟨fd, F⟩ := T.f_law_mixed
  refine ⟨_, fd, T.g_law_mixed, F.kp, F.binds (ps := ["cell", "k"]) (fun _ _ _ _ _ _ us hl => match us, hl with | [_, _], _ => rfl), F.ok sc_law_mixed (fun vs H Q E h => sp2_len h) (fun cdv A outer s H vs Q E hr h => ?_)⟩
  obtain ⟨v0, v1, rfl, h⟩ := sp2_inv h
  obtain ⟨i, j, rfl, rfl, h0, h1, q⟩ := h
  refine ⟨_, (pss_cons (ps_set (i := 2) sc_law_mixed.nd rfl (Or.inl rfl) (pe_op op_modN (pe_op op_mulW (pe_op op_add (pe_op op_add (pe_op op_modN (pv 0) pe_int) (pe_op op_mulW pe_int (pv 1))) pe_int) pe_int) pe_int))
      (pss_one (ps_ret (pe_op op_modN (pe_op op_mulW (pe_op op_modN (pe_op op_mulW (pv 2) (pv 2)) pe_int) pe_int) pe_int)))), ?_⟩
  have a1 : 0 ≤ i.fmod 1000000007 := Int.fmod_nonneg_of_pos i (by decide)
  have a2 : i.fmod 1000000007 < 1000000007 := Int.fmod_lt_of_pos i (by decide)
  refine ⟨_, rfl, _, _, rfl, rfl, (show (1000000007 : Int) ≠ 0 by decide), _, rfl, _, _, rfl, rfl, wide_mul (a := 20) (b := 20) (by decide) (by show _ < 1048576; omega) (by decide) (by decide) (by decide), _, _, rfl, rfl, _, _, rfl, rfl, ?_⟩
  refine ⟨_, _, rfl, rfl, wide_mul (a := 40) (b := 20) (by show _ < 1099511627776; omega) (by decide) (by decide) (by decide) (by decide), _, _, rfl, rfl, (show (2147483647 : Int) ≠ 0 by decide), ?_⟩
  generalize hx : (i.fmod 1000000007 + 7919 * j + 1) * 48271 = x
  have b1 : 0 ≤ x.fmod 2147483647 := Int.fmod_nonneg_of_pos x (by decide)
  have b2 : x.fmod 2147483647 < 2147483647 := Int.fmod_lt_of_pos x (by decide)
  refine ⟨_, rfl, _, rfl, _, _, rfl, rfl, wide_mul (a := 40) (b := 40) (by show _ < 1099511627776; omega) (by show _ < 1099511627776; omega) (by decide) (by decide) (by decide), _, _, rfl, rfl, (show (2147483629 : Int) ≠ 0 by decide), ?_⟩
  generalize hy : x.fmod 2147483647 * x.fmod 2147483647 = y
  have c1 : 0 ≤ y.fmod 2147483629 := Int.fmod_nonneg_of_pos y (by decide)
  have c2 : y.fmod 2147483629 < 2147483629 := Int.fmod_lt_of_pos y (by decide)
  refine ⟨_, _, rfl, rfl, wide_mul (a := 40) (b := 20) (by show _ < 1099511627776; omega) (by decide) (by decide) (by decide) (by decide), _, _, rfl, rfl, (show (2147483647 : Int) ≠ 0 by decide), ?_⟩
  exact q _ (Int.fmod_nonneg_of_pos _ (by decide)) (Int.fmod_lt_of_pos _ (by decide))
theorem sc_law_digit : FnScope ["row", "many", "digit"] ["row", "many"] (defScope s_law_digit) := ⟨rfl, rfl, rfl, by decide +kernel, rfl, by decide +kernel, by decide +kernel⟩
theorem h_law_digit (T : Txt K mg) : Has P w K mg base "_law_digit" ["row", "many"] 1 S_digit := by
  obtain ⟨fd, F⟩ := T.f_law_digit
  refine ⟨_, fd, T.g_law_digit, F.kp, F.binds (ps := ["row", "many"]) (fun _ _ _ _ _ _ us hl => match us, hl with | [_, _], _ => rfl), F.ok sc_law_digit (fun vs H Q E h => sp2_len h) (fun cdv A outer s H vs Q E hr h => ?_)⟩
  obtain ⟨v0, v1, rfl, h⟩ := sp2_inv h
  obtain ⟨r, m, rfl, ⟨n, hr0⟩, rfl, h0, h1, q⟩ := h
  refine ⟨_, (pss_cons (ps_set (i := 2) sc_law_digit.nd rfl (Or.inl rfl) (pe_op op_modN (pe_ix ix_list (pv 0) pe_int (fun _ _ => rfl)) (pv 1)))
      (pss_cons (ps_asg (pe_op op_fdivX (pe_ix ix_list (pv 0) pe_int (fun _ _ => rfl)) (pv 1)) (pg_sub (pv 0) pe_int set_list))
      (pss_one (ps_ret (pv 2))))), ?_⟩
  refine ⟨_, rfl, _, _, _, _, rfl, rfl, SqL.of hr0, rfl, _, rfl, _, _, rfl, rfl, by omega, ?_⟩
  refine ⟨_, rfl, _, _, _, _, rfl, rfl, SqL.of hr0, rfl, _, rfl, _, _, rfl, rfl, ⟨by omega, h1⟩, ?_⟩
  refine ⟨_, rfl, r, _, _, _, rfl, rfl, hr0, rfl, ?_⟩
  refine ⟨_, rfl, ?_⟩
  exact q _ _ (Int.fmod_nonneg_of_pos n h0) (Int.fmod_lt_of_pos n h0) (Fr.refl.set (by simp) hr0 (by intro _ z; cases z)) ⟨_, upd_same⟩
theorem sc_law_place : FnScope ["row", "spot"] ["row", "spot"] (defScope s_law_place) := ⟨rfl, rfl, rfl, by decide +kernel, rfl, by decide +kernel, by decide +kernel⟩
theorem h_law_place (T : Txt K mg) : Has P w K mg base "_law_place" ["row", "spot"] 2 S_place := by
  obtain ⟨fd, F⟩ := T.f_law_place
  refine ⟨_, fd, T.g_law_place, F.kp, F.binds (ps := ["row", "spot"]) (fun _ _ _ _ _ _ us hl => match us, hl with | [_, _], _ => rfl), F.ok sc_law_place (fun vs H Q E h => sp2_len h) (fun cdv A outer s H vs Q E hr h => ?_)⟩
  obtain ⟨v0, v1, rfl, h⟩ := sp2_inv h
  obtain ⟨r, dn, ac, rfl, R, S, q⟩ := h
  obtain ⟨sa, rfl, hs⟩ := S.at_
  refine ⟨_, (pss_one (ps_ret (pe_tup (pa_cons (pe_op op_add (pe_ix ix_tup (pv 1) pe_int (fun _ _ => rfl)) (cl (h_law_digit T) (hr.mono (by omega)) (pa_cons (pv 0) (pa_cons pe_int pa_nil)))) (pa_cons (pe_op op_add (pe_ix ix_tup (pv 1) pe_int (fun _ _ => rfl)) (cl (h_law_digit T) (hr.mono (by omega)) (pa_cons (pv 0) (pa_cons pe_int pa_nil)))) pa_nil))))), ?_⟩
  refine ⟨_, rfl, _, _, _, _, rfl, rfl, SqT.of hs, rfl, _, rfl, r, _, rfl, R, rfl, by decide, by decide, fun d1 H1 g1 g2 f1 R1 => ⟨_, _, rfl, rfl, ?_⟩⟩
  refine ⟨_, rfl, _, _, _, _, rfl, rfl, SqT.of (f1.tup hs), rfl, _, rfl, r, _, rfl, R1, rfl, by decide, by decide, fun d2 H2 g3 g4 f2 R2 => ⟨_, _, rfl, rfl, ?_⟩⟩
  refine ⟨by show 2 ≤ sizeLine; decide, fun p hp => ?_⟩
  have f3 : Fr [r] H2 (upd H2 p (plV (dn + d1, ac + d2))) := Fr.refl.new hp
  obtain ⟨n2, hn2⟩ := R2
  exact q _ (dn + d1, ac + d2) _ ((f1.trans f2).trans f3) ⟨n2, by rw [upd_ne (ne_of_none hn2 hp)]; exact hn2⟩ (.tup upd_same (.cons (.int _) (.cons (.int _) .nil)))
theorem sc_law_area : FnScope ["row", "spot", "top", "left", "bottom", "right", "down", "across"] ["row", "spot"] (defScope s_law_area) := ⟨rfl, rfl, rfl, by decide +kernel, rfl, by decide +kernel, by decide +kernel⟩
theorem h_law_area (T : Txt K mg) : Has P w K mg base "_law_area" ["row", "spot"] 2 S_area := by
  obtain ⟨fd, F⟩ := T.f_law_area
  refine ⟨_, fd, T.g_law_area, F.kp, F.binds (ps := ["row", "spot"]) (fun _ _ _ _ _ _ us hl => match us, hl with | [_, _], _ => rfl), F.ok sc_law_area (fun vs H Q E h => sp2_len h) (fun cdv A outer s H vs Q E hr h => ?_)⟩
  obtain ⟨v0, v1, rfl, h⟩ := sp2_inv h
  obtain ⟨r, dn, ac, rfl, R, S, q⟩ := h
  obtain ⟨sa, rfl, hs⟩ := S.at_
  obtain ⟨_, s1, s2, s3, s4⟩ := S
  refine ⟨_, (pss_cons (ps_set (i := 2) sc_law_area.nd rfl (Or.inl rfl) (cl (h_law_digit T) (hr.mono (by omega)) (pa_cons (pv 0) (pa_cons pe_int pa_nil))))
      (pss_cons (ps_set (i := 3) sc_law_area.nd rfl (Or.inl rfl) (cl (h_law_digit T) (hr.mono (by omega)) (pa_cons (pv 0) (pa_cons pe_int pa_nil))))
      (pss_cons (ps_set (i := 4) sc_law_area.nd rfl (Or.inl rfl) (pe_op op_add (pv 2) (cl (h_law_digit T) (hr.mono (by omega)) (pa_cons (pv 0) (pa_cons (pe_op op_sub pe_int (pv 2)) pa_nil)))))
      (pss_cons (ps_set (i := 5) sc_law_area.nd rfl (Or.inl rfl) (pe_op op_add (pv 3) (cl (h_law_digit T) (hr.mono (by omega)) (pa_cons (pv 0) (pa_cons (pe_op op_sub pe_int (pv 3)) pa_nil)))))
      (pss_cons (ps_asg (pv 1) (pg_tup (by rfl) (pgs_cons (pg_name (i := 6) sc_law_area.nd rfl (Or.inl rfl)) (pgs_cons (pg_name (i := 7) sc_law_area.nd rfl (Or.inl rfl)) pgs_nil))))
      (pss_one (ps_ret (pe_tup (pa_cons (pe_op op_add (pv 6) (pv 2)) (pa_cons (pe_op op_add (pv 7) (pv 3)) (pa_cons (pe_op op_add (pv 6) (pv 4)) (pa_cons (pe_op op_add (pv 7) (pv 5)) pa_nil)))))))))))), ?_⟩
  refine ⟨_, rfl, r, _, rfl, R, rfl, by decide, by decide, fun d1 H1 g1 g2 f1 R1 => ?_⟩
  refine ⟨_, rfl, r, _, rfl, R1, rfl, by decide, by decide, fun d2 H2 g3 g4 f2 R2 => ?_⟩
  have lg : ∀ m : Int, 0 ≤ m → m ≤ 100 → m.natAbs.log2 < 9000 := fun m h1 h2 => Nat.lt_trans (PySem.Flt.log2_lt_of (by decide) (show m.natAbs < 2 ^ 10 by show _ < 1024; omega)) (by decide)
  refine ⟨_, rfl, _, rfl, _, rfl, _, _, rfl, rfl, r, _, rfl, R2, rfl, by omega, lg _ (by omega) (by omega), fun d3 H3 g5 g6 f3 R3 => ⟨_, _, rfl, rfl, ?_⟩⟩
  refine ⟨_, rfl, _, rfl, _, rfl, _, _, rfl, rfl, r, _, rfl, R3, rfl, by omega, lg _ (by omega) (by omega), fun d4 H4 g7 g8 f4 R4 => ⟨_, _, rfl, rfl, ?_⟩⟩
  have f14 := ((f1.trans f2).trans f3).trans f4
  have hs4 := f14.tup hs
  refine ⟨_, rfl, sa, _, rfl, SqT.of hs4, rfl, _, _, rfl, _, _, rfl, rfl, ?_⟩
  refine ⟨_, rfl, _, rfl, _, _, rfl, rfl, _, rfl, _, rfl, _, _, rfl, rfl, _, rfl, _, rfl, _, _, rfl, rfl, _, rfl, _, rfl, _, _, rfl, rfl, by show 4 ≤ sizeLine; decide, fun p hp => ?_⟩
  have f5 : Fr [r] H4 (upd H4 p (arV ⟨dn + d1, ac + d2, dn + (d1 + d3), ac + (d2 + d4)⟩)) := Fr.refl.new hp
  obtain ⟨n4, hn4⟩ := R4
  refine q _ ⟨dn + d1, ac + d2, dn + (d1 + d3), ac + (d2 + d4)⟩ _ (f14.trans f5) ⟨n4, by rw [upd_ne (ne_of_none hn4 hp)]; exact hn4⟩ (ar_da upd_same) ⟨by show 0 ≤ dn + d1; omega, by show dn + d1 ≤ dn + (d1 + d3); omega, by show dn + (d1 + d3) < 99; omega, by show 0 ≤ ac + d2; omega, by show ac + d2 ≤ ac + (d2 + d4); omega, by show ac + (d2 + d4) < 26; omega, ?_⟩
  show (dn + (d1 + d3) - (dn + d1) + 1) * (ac + (d2 + d4) - (ac + d2) + 1) ≤ 300
  have e1 : dn + (d1 + d3) - (dn + d1) + 1 ≤ 3 := by omega
  have e2 : ac + (d2 + d4) - (ac + d2) + 1 ≤ 4 := by omega
  have e3 : 0 ≤ ac + (d2 + d4) - (ac + d2) + 1 := by omega
  exact Int.le_trans (Int.mul_le_mul e1 e2 e3 (by decide)) (by decide)
theorem sc_law_pins : FnScope ["row", "many", "k"] ["row", "many"] (defScope s_law_pins) := ⟨rfl, rfl, rfl, by decide +kernel, rfl, by decide +kernel, by decide +kernel⟩
theorem h_law_pins (T : Txt K mg) : Has P w K mg base "_law_pins" ["row", "many"] 2 S_pins := by
  obtain ⟨fd, F⟩ := T.f_law_pins
  refine ⟨_, fd, T.g_law_pins, F.kp, F.binds (ps := ["row", "many"]) (fun _ _ _ _ _ _ us hl => match us, hl with | [_, _], _ => rfl), F.ok sc_law_pins (fun vs H Q E h => sp2_len h) (fun cdv A outer s H vs Q E hr h => ?_)⟩
  obtain ⟨v0, v1, rfl, h⟩ := sp2_inv h
  obtain ⟨r, m, rfl, R, rfl, h0, h1, q⟩ := h
  refine ⟨_, (pss_one (ps_ret (pe_callTy call_tuple_of (by rfl) T.n_tuple (by decide +kernel) (pa_cons (pe_lc (own := [("k", 2)]) (g := gName 2) rfl sc_law_pins.nd (pi_range1 (by rfl) T.n_range (pa_cons (pv 1) pa_nil)) (blkOk_by (N := ["row", "many", "k"]) (sc := defScope s_law_pins) (by decide +kernel)) (fun _ _ _ _ _ => pg_name (i := 2) sc_law_pins.nd rfl (Or.inl rfl)) (fun _ _ _ _ _ => pts_nil) (fun _ _ _ _ _ => (cl (h_law_digit T) (hr.mono (by omega)) (pa_cons (pv 0) (pa_cons pe_int pa_nil))))) pa_nil)))), ?_⟩
  refine ⟨_, rfl, _, rfl, by show -(4611686018427387904 : Int) ≤ m; omega, by show m < (4611686018427387904 : Int); omega, fun D hD => ?_⟩
  obtain ⟨n0, hn0⟩ := id R
  have rD : r ≠ D := ne_of_none hn0 hD
  refine lc_range (lo := 0) (n := m.toNat) (fun j H' => ∃ ps : List Int, H' D = some (.lst (ps.map V.int)) ∧ Row H' r ∧ Fr [r] H H' ∧ ps.length = j) ?_ ?_ ?_
  · exact ⟨[], upd_same, ⟨n0, by rw [upd_ne rD]; exact hn0⟩, Fr.refl.new hD, rfl⟩
  · rintro j H2 hj ⟨ps, a1, a2, a3, a4⟩
    refine ⟨rfl, _, rfl, r, _, rfl, a2, rfl, by decide, by decide, fun d H3 g1 g2 f3 R3 => ?_⟩
    have hD3 : H3 D = some (.lst (ps.map V.int)) := f3.k _ _ a1 (by simpa using rD.symm)
    obtain ⟨n3, hn3⟩ := R3
    refine ⟨ps.map V.int, hD3, small1000 (by rw [List.length_map]; omega), ps ++ [d], by rw [upd_same, List.map_append]; rfl, ⟨n3, by rw [upd_ne rD]; exact hn3⟩, (a3.trans f3).mut hD, by rw [List.length_append, a4]; rfl⟩
  · rintro H2 ⟨ps, a1, ⟨n2, hn2⟩, a3, a4⟩
    refine ⟨D, _, rfl, .inl ⟨SqL.of a1, fun t ht => ?_⟩⟩
    have f4 : Fr [r] H2 (upd H2 t (.tup (ps.map V.int))) := Fr.refl.new ht
    refine q _ ps _ (a3.trans f4) ⟨n2, by rw [upd_ne (ne_of_none hn2 ht)]; exact hn2⟩ (.tup upd_same ?_) (fun z => by rw [z] at a4; simp at a4; omega)
    have : ∀ l : List Int, DaL (upd H2 t (.tup (ps.map V.int))) (l.map V.int) (l.map PyData.int) := by
      intro l
      induction l with
      | nil => exact .nil
      | cons x l ih => exact .cons (.int x) ih
    exact this ps
theorem sc_law_number : FnScope ["row"] ["row"] (defScope s_law_number) := ⟨rfl, rfl, rfl, by decide +kernel, rfl, by decide +kernel, by decide +kernel⟩
theorem h_law_number (T : Txt K mg) : Has P w K mg base "_law_number" ["row"] 2 S_number := by
  obtain ⟨fd, F⟩ := T.f_law_number
  refine ⟨_, fd, T.g_law_number, F.kp, F.binds (ps := ["row"]) (fun _ _ _ _ _ _ us hl => match us, hl with | [_], _ => rfl), F.ok sc_law_number (fun vs H Q E h => sp1_len h) (fun cdv A outer s H vs Q E hr h => ?_)⟩
  obtain ⟨v0, rfl, h⟩ := sp1_inv h
  obtain ⟨r, rfl, R, q⟩ := h
  refine ⟨_, (pss_cons (ps_if (pt_cmpR op_eq (cl (h_law_digit T) (hr.mono (by omega)) (pa_cons (pv 0) (pa_cons pe_int pa_nil))) pe_int (nomark _)) (pss_one (ps_ret (pe_op op_sub (pe_op op_pow pe_int pe_int) (cl (h_law_digit T) (hr.mono (by omega)) (pa_cons (pv 0) (pa_cons pe_int pa_nil)))))) pss_nil)
      (pss_one (ps_ret (cl (h_law_digit T) (hr.mono (by omega)) (pa_cons (pv 0) (pa_cons pe_int pa_nil)))))), ?_⟩
  refine ⟨_, rfl, r, _, rfl, R, rfl, by decide, by decide, fun d1 H1 g1 g2 f1 R1 => ⟨rfl, _, rfl, ?_⟩⟩
  by_cases h : d1 = 0
  · refine ifd (by rw [h]) ⟨_, _, rfl, rfl, ⟨by decide, by decide, by decide⟩, _, rfl, r, _, rfl, R1, rfl, by decide, by decide, fun d2 H2 g3 g4 f2 R2 => ⟨_, _, rfl, rfl, ?_⟩⟩
    have e : (10 : Int) ^ (60 : Int).toNat = big := rfl
    rw [e]
    have hb : (3 : Int) ≤ big := by decide
    exact q _ H2 (f1.trans f2) R2 (by omega) (by omega)
  · refine ifn (fun z => h (V.int.inj z)) ⟨_, rfl, r, _, rfl, R1, rfl, by decide, by decide, fun d2 H2 g3 g4 f2 R2 => ?_⟩
    have hb : (6 : Int) ≤ big := by decide
    exact q _ H2 (f1.trans f2) R2 (by omega) (by omega)
end
end OL
namespace OL
open PySem PySem.Spec PyProof.Rows L2

theorem Row.new {H : Hp} {r p : Addr} {o : HO} (h : Row H r) (hp : H p = none) : Row (upd H p o) r := by
  obtain ⟨n, e⟩ := h
  exact ⟨n, by rw [upd_ne (ne_of_none e hp)]; exact e⟩
theorem Row.nil {H H' : Hp} {r : Addr} (h : Row H r) (f : Fr [] H H') : Row H' r := by
  obtain ⟨n, e⟩ := h
  exact ⟨n, f.k _ _ e (by simp)⟩
/-- a list of texts just laid is read behind a digit -/
theorem lst_at {H H' : Hp} {r l : Addr} {xs : List V} (h : H l = some (.lst xs)) (R : Row H r) (hn : r ≠ l) (f : Fr [r] H H') : H' l = some (.lst xs) := f.k _ _ h (by simpa using hn.symm)
theorem Fm.ok_lift {f : Fm} (h : f.ok 0) : ∀ n, f.ok n
  | 0 => h
  | n + 1 => Fm.ok_up (Fm.ok_lift h n)
section
variable {P : Program} {w : World} {K : PySem.W.Frag} {mg : Str → Option Value} {base : Heap}
theorem sc_law_leaf : FnScope ["row", "spot", "way", "word", "area"] ["row", "spot"] (defScope s_law_leaf) := ⟨rfl, rfl, rfl, by decide +kernel, rfl, by decide +kernel, by decide +kernel⟩
theorem h_law_leaf (T : Txt K mg) : Has P w K mg base "_law_leaf" ["row", "spot"] 3 S_leaf := by
  obtain ⟨fd, F⟩ := T.f_law_leaf
  refine ⟨_, fd, T.g_law_leaf, F.kp, F.binds (ps := ["row", "spot"]) (fun _ _ _ _ _ _ us hl => match us, hl with | [_, _], _ => rfl), F.ok sc_law_leaf (fun vs H Q E h => sp2_len h) (fun cdv A outer s H vs Q E hr h => ?_)⟩
  obtain ⟨v0, v1, rfl, h⟩ := sp2_inv h
  obtain ⟨r, dn, ac, rfl, R, S, q⟩ := h
  refine ⟨_, (pss_cons (ps_set (i := 2) sc_law_leaf.nd rfl (Or.inl rfl) (cl (h_law_digit T) (hr.mono (by omega)) (pa_cons (pv 0) (pa_cons pe_int pa_nil))))
      (pss_cons (ps_if (pt_cmpR op_eq (pv 2) pe_int (nomark _)) (pss_one (ps_ret (pe_tup (pa_cons pe_str (pa_cons (cl (h_law_number T) (hr.mono (by omega)) (pa_cons (pv 0) pa_nil)) pa_nil))))) pss_nil)
      (pss_cons (ps_if (pt_cmpR op_eq (pv 2) pe_int (nomark _)) (pss_one (ps_ret (pe_tup (pa_cons pe_str (pa_cons (pe_ix ix_list (pe_lst (pa_cons pe_str (pa_cons pe_str (pa_cons pe_str (pa_cons pe_str pa_nil))))) (cl (h_law_digit T) (hr.mono (by omega)) (pa_cons (pv 0) (pa_cons pe_int pa_nil))) (fun _ _ => rfl)) pa_nil))))) pss_nil)
      (pss_cons (ps_if (PW.pt (pw_and (pt_cmpR op_eq (pv 2) pe_int (nomark _)) (pw_and1 (pt_cmpR op_eq (cl (h_law_digit T) (hr.mono (by omega)) (pa_cons (pv 0) (pa_cons pe_int pa_nil))) pe_int (nomark _))))) (pss_one (ps_ret (pe_tup (pa_cons pe_str pa_nil)))) pss_nil)
      (pss_cons (ps_if (pt_cmpR op_lt (pv 2) pe_int (nomark _)) (pss_one (ps_ret (pe_tup (pa_cons pe_str (pa_cons (cl (h_law_place T) (hr.mono (by omega)) (pa_cons (pv 0) (pa_cons (pv 1) pa_nil))) (pa_cons (cl (h_law_pins T) (hr.mono (by omega)) (pa_cons (pv 0) (pa_cons pe_int pa_nil))) pa_nil)))))) pss_nil)
      (pss_cons (ps_set (i := 3) sc_law_leaf.nd rfl (Or.inl rfl) (pe_ix ix_list (pe_lst (pa_cons pe_str (pa_cons pe_str (pa_cons pe_str (pa_cons pe_str pa_nil))))) (cl (h_law_digit T) (hr.mono (by omega)) (pa_cons (pv 0) (pa_cons pe_int pa_nil))) (fun _ _ => rfl)))
      (pss_cons (ps_set (i := 4) sc_law_leaf.nd rfl (Or.inl rfl) (cl (h_law_area T) (hr.mono (by omega)) (pa_cons (pv 0) (pa_cons (pv 1) pa_nil))))
      (pss_one (ps_ret (pe_tup (pa_cons (pv 3) (pa_cons (pv 4) (pa_cons (cl (h_law_pins T) (hr.mono (by omega)) (pa_cons (pv 0) (pa_cons pe_int pa_nil))) pa_nil))))))))))))), ?_⟩
  refine ⟨_, rfl, r, _, rfl, R, rfl, by decide, by decide, fun d1 H1 g1 g2 f1 R1 => ?_⟩
  refine ⟨_, rfl, rfl, _, rfl, ?_⟩
  by_cases c0 : d1 = 0
  · refine ifd (by rw [c0]) ⟨_, rfl, r, rfl, R1, fun i H2 f2 R2 b1 b2 => ⟨by show 2 ≤ sizeLine; decide, fun p hp => ?_⟩⟩
    have f3 : Fr [r] H2 (upd H2 p (.tup [.str "num", .int i])) := Fr.refl.new hp
    exact q _ (.num i) _ ((f1.trans f2).trans f3) (R2.new hp) (.tup upd_same (.cons (.str _) (.cons (.int _) .nil))) ⟨b1, b2⟩
  refine ifn (fun z => c0 (V.int.inj z)) ⟨_, rfl, rfl, _, rfl, ?_⟩
  by_cases c1 : d1 = 1
  · refine ifd (by rw [c1]) ⟨by show 4 ≤ sizeLine; decide, fun l hl => ?_⟩
    have R2 := R1.new (o := .lst [.str "", .str "a", .str "b7", .str "no"]) hl
    obtain ⟨n1, hn1⟩ := id R1
    refine ⟨_, rfl, r, _, rfl, R2, rfl, by decide, by decide, fun d2 H2 g3 g4 f2 R3 => ?_⟩
    have hl2 := lst_at upd_same R2 (ne_of_none hn1 hl) f2
    obtain ⟨v, hv, e⟩ := atI_mem (xs := [.str "", .str "a", .str "b7", .str "no"]) g3 g4
    have hs : ∃ s : Str, v = .str s ∧ s.length ≤ 200 := by
      simp only [List.mem_cons, List.not_mem_nil, or_false] at hv
      rcases hv with rfl | rfl | rfl | rfl
      · exact ⟨_, rfl, by decide +kernel⟩
      · exact ⟨_, rfl, by decide +kernel⟩
      · exact ⟨_, rfl, by decide +kernel⟩
      · exact ⟨_, rfl, by decide +kernel⟩
    obtain ⟨s, rfl, hs⟩ := hs
    refine ⟨_, _, _, _, rfl, rfl, SqL.of hl2, e, by show 2 ≤ sizeLine; decide, fun p hp => ?_⟩
    have f3 : Fr [r] H2 (upd H2 p (.tup [.str "text", .str s])) := Fr.refl.new hp
    exact q _ (.text s) _ (((f1.new hl).trans f2).trans f3) (R3.new hp) (.tup upd_same (.cons (.str _) (.cons (.str _) .nil))) hs
  refine ifn (fun z => c1 (V.int.inj z)) ⟨_, rfl, rfl, _, rfl, ?_⟩
  -- behind: a cell or an area, whatever is drawn on the way
  have rest : ∀ H2, Fr [r] H H2 → Row H2 r → tSeq (tIfS (tTest (tOp (rI0 fun i j => .bl (decide (i < j))) (tVar 2) (tC (.int 6)))) (tRet (tTup (tCons (tC (.str "at")) (tCons (tCl S_place (tCons (tVar 0) (tCons (tVar 1) tNil))) (tCons (tCl S_pins (tCons (tVar 0) (tCons (tC (.int 2)) tNil))) tNil))))) tNext)
      (tSeq (tAsg (tOp (rIxL K) (tLst (tCons (tC (.str "sum")) (tCons (tC (.str "count")) (tCons (tC (.str "least")) (tCons (tC (.str "greatest")) tNil))))) (tCl S_digit (tCons (tVar 0) (tCons (tC (.int 4)) tNil)))) (gName 3))
        (tSeq (tAsg (tCl S_area (tCons (tVar 0) (tCons (tVar 1) tNil))) (gName 4)) (tRet (tTup (tCons (tVar 3) (tCons (tVar 4) (tCons (tCl S_pins (tCons (tVar 0) (tCons (tC (.int 4)) tNil))) tNil)))))))
      { nx := fun _ H' => Q .non H', rt := Q } [some (.ref r), some v1, some (.int d1), none, none] H2 := by
    intro H2 f02 R2
    have S2 := S.fr f02
    refine ⟨_, rfl, _, _, rfl, rfl, _, rfl, ?_⟩
    by_cases c6 : d1 < 6
    · refine ifd c6 ⟨_, rfl, _, rfl, r, dn, ac, rfl, R2, S2, fun v p H3 f3 R3 dp => ?_⟩
      refine ⟨_, rfl, r, _, rfl, R3, rfl, by decide, by decide, fun u ps H4 f4 R4 dps hne => ?_⟩
      refine ⟨by show 3 ≤ sizeLine; decide, fun t ht => ?_⟩
      have f5 : Fr [r] H4 (upd H4 t (.tup [.str "at", v, u])) := Fr.refl.new ht
      exact q _ (.at p ps) _ (((f02.trans f3).trans f4).trans f5) (R4.new ht) (.tup upd_same (.cons (.str _) (.cons (f5.da (f4.da dp)) (.cons (f5.da dps) .nil)))) hne
    · refine ifn c6 ⟨by show 4 ≤ sizeLine; decide, fun l hl => ?_⟩
      have R3 := R2.new (o := .lst [.str "sum", .str "count", .str "least", .str "greatest"]) hl
      obtain ⟨n1, hn1⟩ := id R2
      refine ⟨_, rfl, r, _, rfl, R3, rfl, by decide, by decide, fun d2 H3 g3 g4 f3 R4 => ?_⟩
      have hl2 := lst_at upd_same R3 (ne_of_none hn1 hl) f3
      obtain ⟨v, hv, e⟩ := atI_mem (xs := [.str "sum", .str "count", .str "least", .str "greatest"]) g3 g4
      have hs : ∃ s : Str, v = .str s ∧ s ∈ gws := by
        simp only [List.mem_cons, List.not_mem_nil, or_false] at hv
        rcases hv with rfl | rfl | rfl | rfl
        · exact ⟨_, rfl, by decide +kernel⟩
        · exact ⟨_, rfl, by decide +kernel⟩
        · exact ⟨_, rfl, by decide +kernel⟩
        · exact ⟨_, rfl, by decide +kernel⟩
      obtain ⟨s, rfl, hs⟩ := hs
      refine ⟨_, _, _, _, rfl, rfl, SqL.of hl2, e, ?_⟩
      have f03 := (f02.new hl).trans f3
      refine ⟨_, rfl, _, rfl, r, dn, ac, rfl, R4, S.fr f03, fun v a H4 f4 R5 da hao => ?_⟩
      refine ⟨_, rfl, _, rfl, _, rfl, r, _, rfl, R5, rfl, by decide, by decide, fun u ps H5 f5 R6 dps hne => ?_⟩
      refine ⟨by show 3 ≤ sizeLine; decide, fun t ht => ?_⟩
      have f6 : Fr [r] H5 (upd H5 t (.tup [.str s, v, u])) := Fr.refl.new ht
      exact q _ (.gat s a ps) _ (((f03.trans f4).trans f5).trans f6) (R6.new ht) (.tup upd_same (.cons (.str _) (.cons (f6.da (f5.da da)) (.cons (f6.da dps) .nil)))) ⟨hs, hao, hne⟩
  by_cases c2 : d1 = 2
  · refine ifd (by rw [c2]) ⟨_, rfl, r, _, rfl, R1, rfl, by decide, by decide, fun d2 H2 g3 g4 f2 R2 => ⟨rfl, _, rfl, ?_⟩⟩
    by_cases c3 : d2 = 0
    · refine ifd (by rw [c3]) ⟨by show 1 ≤ sizeLine; decide, fun p hp => ?_⟩
      have f3 : Fr [r] H2 (upd H2 p (.tup [.str "lost"])) := Fr.refl.new hp
      exact q _ .lost _ ((f1.trans f2).trans f3) (R2.new hp) (.tup upd_same (.cons (.str _) .nil)) trivial
    · exact ifn (fun z => c3 (V.int.inj z)) (rest H2 (f1.trans f2) R2)
  · exact ifn (fun z => c2 (V.int.inj z)) (rest H1 f1 R1)
end
end OL
namespace OL
open PySem PySem.Spec PyProof.Rows L2

theorem Fm.ok_one {n : Nat} {f : Fm} (h : f.ok n) : f.ok (n + 1) := Fm.ok_up h
section
variable {P : Program} {w : World} {K : PySem.W.Frag} {mg : Str → Option Value} {base : Heap}
theorem sc_law_formula : FnScope ["row", "spot", "deep", "way", "one", "other"] ["row", "spot", "deep"] (defScope s_law_formula) := ⟨rfl, rfl, rfl, by decide +kernel, rfl, by decide +kernel, by decide +kernel⟩
theorem h_law_formula_0 (T : Txt K mg) (hX : Has P w K mg base "_law_formula" ["row", "spot", "deep"] 3 (sp3 fun _ _ _ _ _ => False)) : Has P w K mg base "_law_formula" ["row", "spot", "deep"] 4 (S_formula 0) := by
  obtain ⟨fd, F⟩ := T.f_law_formula
  refine ⟨_, fd, T.g_law_formula, F.kp, F.binds (ps := ["row", "spot", "deep"]) (fun _ _ _ _ _ _ us hl => match us, hl with | [_, _, _], _ => rfl), F.ok sc_law_formula (fun vs H Q E h => sp3_len h) (fun cdv A outer s H vs Q E hr h => ?_)⟩
  obtain ⟨v0, v1, v2, rfl, h⟩ := sp3_inv h
  obtain ⟨r, dn, ac, rfl, R, S, rfl, q⟩ := h
  refine ⟨_, (pss_cons (ps_if (pt_cmpR op_eq (pv 2) pe_int (nomark _)) (pss_one (ps_ret (cl (h_law_leaf T) (hr.mono (by omega)) (pa_cons (pv 0) (pa_cons (pv 1) pa_nil))))) pss_nil)
      (pss_cons (ps_set (i := 3) sc_law_formula.nd rfl (Or.inl rfl) (cl (h_law_digit T) (hr.mono (by omega)) (pa_cons (pv 0) (pa_cons pe_int pa_nil))))
      (pss_cons (ps_if (pt_cmpR op_lt (pv 3) pe_int (nomark _)) (pss_one (ps_ret (cl (h_law_leaf T) (hr.mono (by omega)) (pa_cons (pv 0) (pa_cons (pv 1) pa_nil))))) pss_nil)
      (pss_cons (ps_set (i := 4) sc_law_formula.nd rfl (Or.inl rfl) (cl hX (hr.mono (by omega)) (pa_cons (pv 0) (pa_cons (pv 1) (pa_cons (pe_op op_sub (pv 2) pe_int) pa_nil)))))
      (pss_cons (ps_if (pt_cmpR op_lt (pv 3) pe_int (nomark _)) (pss_one (ps_ret (pe_tup (pa_cons (pe_ix ix_list (pe_lst (pa_cons pe_str (pa_cons pe_str pa_nil))) (pe_op op_sub (pv 3) pe_int) (fun _ _ => rfl)) (pa_cons (pv 4) pa_nil))))) pss_nil)
      (pss_cons (ps_if (pt_cmpR op_eq (pv 3) pe_int (nomark _)) (pss_one (ps_ret (pe_tup (pa_cons pe_str (pa_cons (pv 4) (pa_cons (cl (h_law_area T) (hr.mono (by omega)) (pa_cons (pv 0) (pa_cons (pv 1) pa_nil))) (pa_cons (cl (h_law_pins T) (hr.mono (by omega)) (pa_cons (pv 0) (pa_cons pe_int pa_nil))) pa_nil))))))) pss_nil)
      (pss_cons (ps_set (i := 5) sc_law_formula.nd rfl (Or.inl rfl) (cl hX (hr.mono (by omega)) (pa_cons (pv 0) (pa_cons (pv 1) (pa_cons (pe_op op_sub (pv 2) pe_int) pa_nil)))))
      (pss_cons (ps_if (pt_cmpR op_lt (pv 3) pe_int (nomark _)) (pss_one (ps_ret (pe_tup (pa_cons pe_str (pa_cons (pv 4) (pa_cons (pv 5) (pa_cons (cl hX (hr.mono (by omega)) (pa_cons (pv 0) (pa_cons (pv 1) (pa_cons (pe_op op_sub (pv 2) pe_int) pa_nil)))) pa_nil))))))) pss_nil)
      (pss_cons (ps_if (pt_cmpR op_eq (pv 3) pe_int (nomark _)) (pss_one (ps_ret (pe_tup (pa_cons (pe_ix ix_list (pe_lst (pa_cons pe_str (pa_cons pe_str pa_nil))) (cl (h_law_digit T) (hr.mono (by omega)) (pa_cons (pv 0) (pa_cons pe_int pa_nil))) (fun _ _ => rfl)) (pa_cons (pv 4) (pa_cons (pv 5) pa_nil)))))) pss_nil)
      (pss_one (ps_ret (pe_tup (pa_cons (pe_ix ix_list (pe_lst (pa_cons pe_str (pa_cons pe_str (pa_cons pe_str (pa_cons pe_str (pa_cons pe_str (pa_cons pe_str (pa_cons pe_str pa_nil)))))))) (pe_op op_sub (pv 3) pe_int) (fun _ _ => rfl)) (pa_cons (pv 4) (pa_cons (pv 5) pa_nil))))))))))))))), ?_⟩
  refine ⟨_, rfl, rfl, _, rfl, ifd rfl ?_⟩
  exact ⟨_, rfl, _, rfl, r, dn, ac, rfl, R, S, q⟩
theorem h_law_formula_1 (T : Txt K mg) {n lf : Nat} (hlf : 4 ≤ lf) (hX : Has P w K mg base "_law_formula" ["row", "spot", "deep"] lf (S_formula n)) : Has P w K mg base "_law_formula" ["row", "spot", "deep"] (lf + 1) (S_formula (n + 1)) := by
  obtain ⟨fd, F⟩ := T.f_law_formula
  refine ⟨_, fd, T.g_law_formula, F.kp, F.binds (ps := ["row", "spot", "deep"]) (fun _ _ _ _ _ _ us hl => match us, hl with | [_, _, _], _ => rfl), F.ok sc_law_formula (fun vs H Q E h => sp3_len h) (fun cdv A outer s H vs Q E hr h => ?_)⟩
  obtain ⟨v0, v1, v2, rfl, h⟩ := sp3_inv h
  obtain ⟨r, dn, ac, rfl, R, S, rfl, q⟩ := h
  refine ⟨_, (pss_cons (ps_if (pt_cmpR op_eq (pv 2) pe_int (nomark _)) (pss_one (ps_ret (cl (h_law_leaf T) (hr.mono (by omega)) (pa_cons (pv 0) (pa_cons (pv 1) pa_nil))))) pss_nil)
      (pss_cons (ps_set (i := 3) sc_law_formula.nd rfl (Or.inl rfl) (cl (h_law_digit T) (hr.mono (by omega)) (pa_cons (pv 0) (pa_cons pe_int pa_nil))))
      (pss_cons (ps_if (pt_cmpR op_lt (pv 3) pe_int (nomark _)) (pss_one (ps_ret (cl (h_law_leaf T) (hr.mono (by omega)) (pa_cons (pv 0) (pa_cons (pv 1) pa_nil))))) pss_nil)
      (pss_cons (ps_set (i := 4) sc_law_formula.nd rfl (Or.inl rfl) (cl hX (hr.mono (by omega)) (pa_cons (pv 0) (pa_cons (pv 1) (pa_cons (pe_op op_sub (pv 2) pe_int) pa_nil)))))
      (pss_cons (ps_if (pt_cmpR op_lt (pv 3) pe_int (nomark _)) (pss_one (ps_ret (pe_tup (pa_cons (pe_ix ix_list (pe_lst (pa_cons pe_str (pa_cons pe_str pa_nil))) (pe_op op_sub (pv 3) pe_int) (fun _ _ => rfl)) (pa_cons (pv 4) pa_nil))))) pss_nil)
      (pss_cons (ps_if (pt_cmpR op_eq (pv 3) pe_int (nomark _)) (pss_one (ps_ret (pe_tup (pa_cons pe_str (pa_cons (pv 4) (pa_cons (cl (h_law_area T) (hr.mono (by omega)) (pa_cons (pv 0) (pa_cons (pv 1) pa_nil))) (pa_cons (cl (h_law_pins T) (hr.mono (by omega)) (pa_cons (pv 0) (pa_cons pe_int pa_nil))) pa_nil))))))) pss_nil)
      (pss_cons (ps_set (i := 5) sc_law_formula.nd rfl (Or.inl rfl) (cl hX (hr.mono (by omega)) (pa_cons (pv 0) (pa_cons (pv 1) (pa_cons (pe_op op_sub (pv 2) pe_int) pa_nil)))))
      (pss_cons (ps_if (pt_cmpR op_lt (pv 3) pe_int (nomark _)) (pss_one (ps_ret (pe_tup (pa_cons pe_str (pa_cons (pv 4) (pa_cons (pv 5) (pa_cons (cl hX (hr.mono (by omega)) (pa_cons (pv 0) (pa_cons (pv 1) (pa_cons (pe_op op_sub (pv 2) pe_int) pa_nil)))) pa_nil))))))) pss_nil)
      (pss_cons (ps_if (pt_cmpR op_eq (pv 3) pe_int (nomark _)) (pss_one (ps_ret (pe_tup (pa_cons (pe_ix ix_list (pe_lst (pa_cons pe_str (pa_cons pe_str pa_nil))) (cl (h_law_digit T) (hr.mono (by omega)) (pa_cons (pv 0) (pa_cons pe_int pa_nil))) (fun _ _ => rfl)) (pa_cons (pv 4) (pa_cons (pv 5) pa_nil)))))) pss_nil)
      (pss_one (ps_ret (pe_tup (pa_cons (pe_ix ix_list (pe_lst (pa_cons pe_str (pa_cons pe_str (pa_cons pe_str (pa_cons pe_str (pa_cons pe_str (pa_cons pe_str (pa_cons pe_str pa_nil)))))))) (pe_op op_sub (pv 3) pe_int) (fun _ _ => rfl)) (pa_cons (pv 4) (pa_cons (pv 5) pa_nil))))))))))))))), ?_⟩
  have en : (((n + 1 : Nat) : Int)) - 1 = ((n : Nat) : Int) := by omega
  refine ⟨_, rfl, rfl, _, rfl, ifn (fun z => by have := V.int.inj z; omega) ?_⟩
  refine ⟨_, rfl, r, _, rfl, R, rfl, by decide, by decide, fun d1 H1 g1 g2 f1 R1 => ?_⟩
  refine ⟨_, rfl, _, _, rfl, rfl, _, rfl, ?_⟩
  by_cases c3 : d1 < 3
  · refine ifd c3 ⟨_, rfl, _, rfl, r, dn, ac, rfl, R1, S.fr f1, fun v f H2 f2 R2 df hf => ?_⟩
    exact q v f H2 (f1.trans f2) R2 df (Fm.ok_lift hf _)
  refine ifn c3 ⟨_, rfl, _, rfl, _, rfl, _, _, rfl, rfl, ?_⟩
  refine ⟨r, dn, ac, rfl, R1, S.fr f1, congrArg V.int en, fun va fa H2 f2 R2 da ha => ?_⟩
  have f02 := f1.trans f2
  refine ⟨_, rfl, _, _, rfl, rfl, _, rfl, ?_⟩
  by_cases c5 : d1 < 5
  · refine ifd c5 ⟨by show 2 ≤ sizeLine; decide, fun l hl => ?_⟩
    obtain ⟨v, hv, e⟩ := atI_mem (xs := [.str "minus", .str "not"]) (d := d1 - 3) (by omega) (by show d1 - 3 < 2; omega)
    have hs : ∃ s : Str, v = .str s ∧ s ∈ sws := by
      simp only [List.mem_cons, List.not_mem_nil, or_false] at hv
      rcases hv with rfl | rfl
      · exact ⟨_, rfl, by decide +kernel⟩
      · exact ⟨_, rfl, by decide +kernel⟩
    obtain ⟨s, rfl, hs⟩ := hs
    refine ⟨_, rfl, _, _, rfl, rfl, _, _, _, _, rfl, rfl, SqL.of upd_same, e, _, rfl, by show 2 ≤ sizeLine; decide, fun t ht => ?_⟩
    have f3 := (Fr.refl (M := [r]) (H := H2)).new (o := .lst [.str "minus", .str "not"]) hl
    have f4 := f3.new (o := .tup [.str s, va]) ht
    exact q _ (.one s fa) _ (f02.trans f4) ((R2.new hl).new ht) (.tup upd_same (.cons (.str _) (.cons (f4.da da) .nil))) ⟨hs, ha⟩
  refine ifn c5 ⟨_, rfl, rfl, _, rfl, ?_⟩
  by_cases c6 : d1 = 5
  · refine ifd (by rw [c6]) ⟨_, rfl, _, rfl, _, rfl, r, dn, ac, rfl, R2, S.fr f02, fun u a H3 f3 R3 dar hao => ?_⟩
    refine ⟨_, rfl, r, _, rfl, R3, rfl, by decide, by decide, fun pv3 ps H4 f4 R4 dps hne => ?_⟩
    refine ⟨by show 4 ≤ sizeLine; decide, fun t ht => ?_⟩
    have f5 : Fr [r] H4 (upd H4 t (.tup [.str "find", va, u, pv3])) := Fr.refl.new ht
    exact q _ (.find fa a ps) _ (((f02.trans f3).trans f4).trans f5) (R4.new ht) (.tup upd_same (.cons (.str _) (.cons (f5.da (f4.da (f3.da da))) (.cons (f5.da (f4.da dar)) (.cons (f5.da dps) .nil))))) ⟨ha, hao, hne⟩
  refine ifn (fun z => c6 (V.int.inj z)) ⟨_, rfl, _, rfl, _, rfl, _, _, rfl, rfl, ?_⟩
  refine ⟨r, dn, ac, rfl, R2, S.fr f02, congrArg V.int en, fun vb fb H3 f3 R3 db hb => ?_⟩
  have f03 := f02.trans f3
  refine ⟨_, rfl, _, _, rfl, rfl, _, rfl, ?_⟩
  by_cases c8 : d1 < 8
  · refine ifd c8 ⟨_, rfl, _, rfl, _, rfl, _, rfl, _, rfl, _, _, rfl, rfl, ?_⟩
    refine ⟨r, dn, ac, rfl, R3, S.fr f03, congrArg V.int en, fun vc fc H4 f4 R4 dc hc => ⟨by show 4 ≤ sizeLine; decide, fun t ht => ?_⟩⟩
    have f5 : Fr [r] H4 (upd H4 t (.tup [.str "if", va, vb, vc])) := Fr.refl.new ht
    exact q _ (.ite fa fb fc) _ ((f03.trans f4).trans f5) (R4.new ht) (.tup upd_same (.cons (.str _) (.cons (f5.da (f4.da (f3.da da))) (.cons (f5.da (f4.da db)) (.cons (f5.da dc) .nil))))) ⟨ha, hb, hc⟩
  refine ifn c8 ⟨_, rfl, rfl, _, rfl, ?_⟩
  by_cases c15 : d1 = 15
  · refine ifd (by rw [c15]) ⟨by show 2 ≤ sizeLine; decide, fun l hl => ?_⟩
    have R4 := R3.new (o := .lst [.str "=", .str "&"]) hl
    obtain ⟨n1, hn1⟩ := id R3
    refine ⟨_, rfl, r, _, rfl, R4, rfl, by decide, by decide, fun d2 H4 g3 g4 f4 R5 => ?_⟩
    have hl2 := lst_at upd_same R4 (ne_of_none hn1 hl) f4
    obtain ⟨v, hv, e⟩ := atI_mem (xs := [.str "=", .str "&"]) g3 g4
    have hs : ∃ s : Str, v = .str s ∧ s ∈ ows := by
      simp only [List.mem_cons, List.not_mem_nil, or_false] at hv
      rcases hv with rfl | rfl
      · exact ⟨_, rfl, by decide +kernel⟩
      · exact ⟨_, rfl, by decide +kernel⟩
    obtain ⟨s, rfl, hs⟩ := hs
    refine ⟨_, _, _, _, rfl, rfl, SqL.of hl2, e, _, rfl, _, rfl, by show 3 ≤ sizeLine; decide, fun t ht => ?_⟩
    have f5 := ((Fr.refl (M := [r]) (H := H3)).new (o := .lst [.str "=", .str "&"]) hl).trans f4
    have f6 := f5.new (o := .tup [.str s, va, vb]) ht
    exact q _ (.two s fa fb) _ (f03.trans f6) (R5.new ht) (.tup upd_same (.cons (.str _) (.cons (f6.da (f3.da da)) (.cons (f6.da db) .nil)))) ⟨hs, ha, hb⟩
  · refine ifn (fun z => c15 (V.int.inj z)) ⟨by show 7 ≤ sizeLine; decide, fun l hl => ?_⟩
    obtain ⟨v, hv, e⟩ := atI_mem (xs := [.str "else", .str "rest", .str "+", .str "-", .str "*", .str "/", .str "<"]) (d := d1 - 8) (by omega) (by show d1 - 8 < 7; omega)
    have f4 := (Fr.refl (M := [r]) (H := H3)).new (o := .lst [.str "else", .str "rest", .str "+", .str "-", .str "*", .str "/", .str "<"]) hl
    have hs : ∃ s : Str, v = .str s ∧ (s = "else" ∨ s ∈ ows) := by
      simp only [List.mem_cons, List.not_mem_nil, or_false] at hv
      rcases hv with rfl | rfl | rfl | rfl | rfl | rfl | rfl
      · exact ⟨_, rfl, .inl rfl⟩
      · exact ⟨_, rfl, .inr (by decide +kernel)⟩
      · exact ⟨_, rfl, .inr (by decide +kernel)⟩
      · exact ⟨_, rfl, .inr (by decide +kernel)⟩
      · exact ⟨_, rfl, .inr (by decide +kernel)⟩
      · exact ⟨_, rfl, .inr (by decide +kernel)⟩
      · exact ⟨_, rfl, .inr (by decide +kernel)⟩
    obtain ⟨s, rfl, hs⟩ := hs
    refine ⟨_, rfl, _, _, rfl, rfl, _, _, _, _, rfl, rfl, SqL.of upd_same, e, _, rfl, _, rfl, by show 3 ≤ sizeLine; decide, fun t ht => ?_⟩
    have f6 := f4.new (o := .tup [.str s, va, vb]) ht
    have dd := DaL.cons (H := _) (f6.da (f3.da da)) (.cons (f6.da db) .nil)
    rcases hs with rfl | hs
    · exact q _ (.els fa fb) _ (f03.trans f6) ((R3.new hl).new ht) (.tup upd_same (.cons (.str _) dd)) ⟨ha, hb⟩
    · exact q _ (.two s fa fb) _ (f03.trans f6) ((R3.new hl).new ht) (.tup upd_same (.cons (.str _) dd)) ⟨hs, ha, hb⟩
theorem h_law_formula (T : Txt K mg) : ∀ n, Has P w K mg base "_law_formula" ["row", "spot", "deep"] (4 + n) (S_formula n)
  | 0 => by
    refine h_law_formula_0 T (has_f T.g_law_formula T.f_law_formula (fun fd F => F.binds (ps := ["row", "spot", "deep"]) (fun _ _ _ _ _ _ us hl => match us, hl with | [_, _, _], _ => rfl)) ?_)
    intro vs H Q E z
    obtain ⟨_, _, _, _, z⟩ := sp3_inv z
    exact z
  | n + 1 => h_law_formula_1 T (Nat.le_add_right 4 n) (h_law_formula T n)
def S_spot (K : PySem.W.Frag) : Sp := sp1 fun s H Q => ∃ (a : Addr) (ns : List Int), s = .ref a ∧ SqL K H a (ns.map V.int) ∧ ∀ v H' dn ac, Fr [] H H' → Spot H' v dn ac → Q v H'
theorem sc_law_spot : FnScope ["script", "first", "down"] ["script"] (defScope s_law_spot) := ⟨rfl, rfl, rfl, by decide +kernel, rfl, by decide +kernel, by decide +kernel⟩
theorem h_law_spot (T : Txt K mg) : Has P w K mg base "_law_spot" ["script"] 2 (S_spot K) := by
  obtain ⟨fd, F⟩ := T.f_law_spot
  refine ⟨_, fd, T.g_law_spot, F.kp, F.binds (ps := ["script"]) (fun _ _ _ _ _ _ us hl => match us, hl with | [_], _ => rfl), F.ok sc_law_spot (fun vs H Q E h => sp1_len h) (fun cdv A outer s H vs Q E hr h => ?_)⟩
  obtain ⟨v0, rfl, h⟩ := sp1_inv h
  obtain ⟨a, ns, rfl, hS, q⟩ := h
  refine ⟨_, (pss_cons (ps_set (i := 1) sc_law_spot.nd rfl (Or.inl rfl) (pe_op op_fdivX (cl (h_law_cell_at T) (hr.mono (by omega)) (pa_cons (pv 0) (pa_cons pe_int pa_nil))) pe_int))
      (pss_cons (ps_set (i := 2) sc_law_spot.nd rfl (Or.inl rfl) (pe_ix ix_list (pe_lst (pa_cons pe_int (pa_cons (pe_op op_modN (pe_op op_fdivX (pv 1) pe_int) pe_int) pa_nil))) (pe_op op_modN (pv 1) pe_int) (fun _ _ => rfl)))
      (pss_one (ps_ret (pe_tup (pa_cons (pv 2) (pa_cons (pe_ix ix_list (pe_lst (pa_cons pe_int (pa_cons (pe_op op_modN (pe_op op_fdivX (pv 1) pe_int) pe_int) pa_nil))) (pe_op op_modN (pe_op op_fdivX (pv 1) pe_int) pe_int) (fun _ _ => rfl)) pa_nil))))))), ?_⟩
  refine ⟨_, rfl, a, ns, 0, rfl, hS, rfl, by decide, fun i => ?_⟩
  have c2 : CDivX i 2 := ⟨by decide, by decide⟩
  refine ⟨_, _, rfl, rfl, c2, ?_⟩
  have m2 : ∀ y : Int, 0 ≤ y.fmod 2 ∧ y.fmod 2 < 2 := fun y => ⟨Int.fmod_nonneg_of_pos y (by decide), Int.fmod_lt_of_pos y (by decide)⟩
  have pick : ∀ (x y : Int), ∃ u, atI [V.int 0, V.int x] (y.fmod 2) = some (.int u) ∧ (u = 0 ∨ u = x) := fun x y => by
    obtain ⟨v, hv, e⟩ := atI_mem (xs := [V.int 0, V.int x]) (m2 y).1 (m2 y).2
    simp only [List.mem_cons, List.not_mem_nil, or_false] at hv
    rcases hv with rfl | rfl
    · exact ⟨0, e, .inl rfl⟩
    · exact ⟨x, e, .inr rfl⟩
  refine ⟨_, rfl, _, _, rfl, rfl, ⟨by decide, by decide⟩, _, _, rfl, rfl, (show (97 : Int) ≠ 0 by decide), by show 2 ≤ sizeLine; decide, fun l hl => ?_⟩
  have b1 := Int.fmod_nonneg_of_pos ((i.fdiv 2).fdiv 4) (show (0 : Int) < 97 by decide)
  have b2 := Int.fmod_lt_of_pos ((i.fdiv 2).fdiv 4) (show (0 : Int) < 97 by decide)
  obtain ⟨u1, e1, h1⟩ := pick (((i.fdiv 2).fdiv 4).fmod 97) (i.fdiv 2)
  refine ⟨_, rfl, _, _, rfl, rfl, (show (2 : Int) ≠ 0 by decide), _, _, _, _, rfl, rfl, SqL.of upd_same, e1, ?_⟩
  refine ⟨_, rfl, _, rfl, _, _, rfl, rfl, ⟨by decide, by decide⟩, _, _, rfl, rfl, (show (23 : Int) ≠ 0 by decide), by show 2 ≤ sizeLine; decide, fun l2 hl2 => ?_⟩
  have b3 := Int.fmod_nonneg_of_pos ((i.fdiv 2).fdiv 400) (show (0 : Int) < 23 by decide)
  have b4 := Int.fmod_lt_of_pos ((i.fdiv 2).fdiv 400) (show (0 : Int) < 23 by decide)
  obtain ⟨u2, e2, h2⟩ := pick (((i.fdiv 2).fdiv 400).fmod 23) ((i.fdiv 2).fdiv 2)
  refine ⟨_, rfl, _, _, rfl, rfl, ⟨by decide, by decide⟩, _, _, rfl, rfl, (show (2 : Int) ≠ 0 by decide), _, _, _, _, rfl, rfl, SqL.of upd_same, e2, by show 2 ≤ sizeLine; decide, fun t ht => ?_⟩
  exact q _ _ u1 u2 (((Fr.refl.new hl).new hl2).new ht) ⟨⟨t, rfl, upd_same⟩, by omega, by omega, by omega, by omega⟩
def S_worth : Sp := sp1 fun row H Q => ∃ r, row = .ref r ∧ Row H r ∧ ∀ v y H', Fr [r] H H' → Row H' r → isW H' v y → Q v H'
theorem sc_law_worth : FnScope ["row", "way"] ["row"] (defScope s_law_worth) := ⟨rfl, rfl, rfl, by decide +kernel, rfl, by decide +kernel, by decide +kernel⟩
theorem h_law_worth (T : Txt K mg) : Has P w K mg base "_law_worth" ["row"] 2 S_worth := by
  obtain ⟨fd, F⟩ := T.f_law_worth
  refine ⟨_, fd, T.g_law_worth, F.kp, F.binds (ps := ["row"]) (fun _ _ _ _ _ _ us hl => match us, hl with | [_], _ => rfl), F.ok sc_law_worth (fun vs H Q E h => sp1_len h) (fun cdv A outer s H vs Q E hr h => ?_)⟩
  obtain ⟨v0, rfl, h⟩ := sp1_inv h
  obtain ⟨r, rfl, R, q⟩ := h
  refine ⟨_, (pss_cons (ps_set (i := 1) sc_law_worth.nd rfl (Or.inl rfl) (cl (h_law_digit T) (hr.mono (by omega)) (pa_cons (pv 0) (pa_cons pe_int pa_nil))))
      (pss_cons (ps_if (pt_cmpR op_eq (pv 1) pe_int (nomark _)) (pss_one (ps_ret pe_non)) pss_nil)
      (pss_cons (ps_if (pt_cmpR op_eq (pv 1) pe_int (nomark _)) (pss_one (ps_ret (pe_tup (pa_cons pe_str (pa_cons (pe_ix ix_list (pe_lst (pa_cons pe_str (pa_cons pe_str (pa_cons pe_str (pa_cons pe_str (pa_cons pe_str pa_nil)))))) (cl (h_law_digit T) (hr.mono (by omega)) (pa_cons (pv 0) (pa_cons pe_int pa_nil))) (fun _ _ => rfl)) pa_nil))))) pss_nil)
      (pss_cons (ps_if (pt_cmpR op_eq (pv 1) pe_int (nomark _)) (pss_one (ps_ret (pe_ix ix_list (pe_lst (pa_cons pe_str (pa_cons pe_str (pa_cons pe_str (pa_cons pe_str (pa_cons (pe_op op_a199 pe_str pe_int) (pa_cons pe_str pa_nil))))))) (cl (h_law_digit T) (hr.mono (by omega)) (pa_cons (pv 0) (pa_cons pe_int pa_nil))) (fun _ _ => rfl)))) pss_nil)
      (pss_cons (ps_if (pt_cmpR op_eq (pv 1) pe_int (nomark _)) (pss_one (ps_ret (pe_op op_sub (cl (h_law_digit T) (hr.mono (by omega)) (pa_cons (pv 0) (pa_cons (pe_op op_add (pe_op op_mulW pe_int (pe_op op_pow pe_int pe_int)) pe_int) pa_nil))) (pe_op op_pow pe_int pe_int)))) pss_nil)
      (pss_cons (ps_if (pt_cmpR op_eq (pv 1) pe_int (nomark _)) (pss_one (ps_ret (pe_ix ix_list (pe_lst (pa_cons (pe_op op_pow pe_int pe_int) (pa_cons (pe_un un_neg (pe_op op_pow pe_int pe_int)) (pa_cons (pe_op op_pow pe_int pe_int) (pa_cons (pe_op op_sub pe_int (pe_op op_pow pe_int pe_int)) pa_nil))))) (cl (h_law_digit T) (hr.mono (by omega)) (pa_cons (pv 0) (pa_cons pe_int pa_nil))) (fun _ _ => rfl)))) pss_nil)
      (pss_one (ps_ret (pe_op op_sub (cl (h_law_digit T) (hr.mono (by omega)) (pa_cons (pv 0) (pa_cons pe_int pa_nil))) pe_int))))))))), ?_⟩
  have cb : (10 : Int) ^ (60 : Int).toNat = big := rfl
  refine ⟨_, rfl, r, _, rfl, R, rfl, by decide, by decide, fun d1 H1 g1 g2 f1 R1 => ?_⟩
  refine ⟨_, rfl, rfl, _, rfl, ?_⟩
  by_cases c0 : d1 = 0
  · exact ifd (by rw [c0]) (q _ .non H1 f1 R1 ⟨.non, trivial⟩)
  refine ifn (fun z => c0 (V.int.inj z)) ⟨_, rfl, rfl, _, rfl, ?_⟩
  by_cases c1 : d1 = 1
  · refine ifd (by rw [c1]) ⟨by show 5 ≤ sizeLine; decide, fun l hl => ?_⟩
    have R2 := R1.new (o := .lst [.str "kind", .str "great", .str "nought", .str "none", .str "lost"]) hl
    obtain ⟨n1, hn1⟩ := id R1
    refine ⟨_, rfl, r, _, rfl, R2, rfl, by decide, by decide, fun d2 H2 g3 g4 f2 R3 => ?_⟩
    have hl2 := lst_at upd_same R2 (ne_of_none hn1 hl) f2
    obtain ⟨v, hv, e⟩ := atI_mem (xs := [.str "kind", .str "great", .str "nought", .str "none", .str "lost"]) g3 g4
    have hs : ∃ s : Str, v = .str s := by
      simp only [List.mem_cons, List.not_mem_nil, or_false] at hv
      rcases hv with rfl | rfl | rfl | rfl | rfl <;> exact ⟨_, rfl⟩
    obtain ⟨s, rfl⟩ := hs
    refine ⟨_, _, _, _, rfl, rfl, SqL.of hl2, e, by show 2 ≤ sizeLine; decide, fun t ht => ?_⟩
    exact q _ (.flt s) _ (((f1.new hl).trans f2).new ht) (R3.new ht) ⟨.tup upd_same (.cons (.str _) (.cons (.str _) .nil)), trivial⟩
  refine ifn (fun z => c1 (V.int.inj z)) ⟨_, rfl, rfl, _, rfl, ?_⟩
  by_cases c2 : d1 = 2
  · refine ifd (by rw [c2]) ⟨rfl, rfl, by show 6 ≤ sizeLine; decide, fun l hl => ?_⟩
    have R2 := R1.new (o := .lst [.str "", .str "a", .str "b7", .str "no", .str aaa, .str "-1"]) hl
    obtain ⟨n1, hn1⟩ := id R1
    refine ⟨_, rfl, r, _, rfl, R2, rfl, by decide, by decide, fun d2 H2 g3 g4 f2 R3 => ?_⟩
    have hl2 := lst_at upd_same R2 (ne_of_none hn1 hl) f2
    obtain ⟨v, hv, e⟩ := atI_mem (xs := [.str "", .str "a", .str "b7", .str "no", .str aaa, .str "-1"]) g3 g4
    have hs : ∃ s : Str, v = .str s ∧ s.length ≤ 200 := by
      simp only [List.mem_cons, List.not_mem_nil, or_false] at hv
      rcases hv with rfl | rfl | rfl | rfl | rfl | rfl
      · exact ⟨_, rfl, by decide +kernel⟩
      · exact ⟨_, rfl, by decide +kernel⟩
      · exact ⟨_, rfl, by decide +kernel⟩
      · exact ⟨_, rfl, by decide +kernel⟩
      · exact ⟨_, rfl, by decide +kernel⟩
      · exact ⟨_, rfl, by decide +kernel⟩
    obtain ⟨s, rfl, hs⟩ := hs
    exact ⟨_, _, _, _, rfl, rfl, SqL.of hl2, e, q _ (.str s) _ ((f1.new hl).trans f2) R3 ⟨.str _, hs⟩⟩
  refine ifn (fun z => c2 (V.int.inj z)) ⟨_, rfl, rfl, _, rfl, ?_⟩
  by_cases c3 : d1 = 3
  · refine ifd (by rw [c3]) ⟨_, rfl, _, _, rfl, rfl, ⟨by decide, by decide, by decide⟩, _, _, rfl, rfl, wide_mul (a := 10) (b := 200) (by decide) (bits_of (by rw [cb]; exact ⟨by decide, Int.le_refl _⟩)) (by decide) (by decide) (by decide), _, _, rfl, rfl, ?_⟩
    rw [cb]
    refine ⟨r, _, rfl, R1, rfl, by decide, by decide +kernel, fun d2 H2 g3 g4 f2 R2 => ⟨_, _, rfl, rfl, ⟨by decide, by decide, by decide⟩, _, _, rfl, rfl, ?_⟩⟩
    rw [cb]
    exact q _ (.int (d2 - big)) H2 (f1.trans f2) R2 ⟨.int _, by omega, by omega⟩
  refine ifn (fun z => c3 (V.int.inj z)) ⟨_, rfl, rfl, _, rfl, ?_⟩
  by_cases c4 : d1 = 4
  · refine ifd (by rw [c4]) ⟨_, _, rfl, rfl, ⟨by decide, by decide, by decide⟩, _, _, rfl, rfl, ⟨by decide, by decide, by decide⟩, _, rfl, _, _, rfl, rfl, ⟨by decide, by decide, by decide⟩, _, _, rfl, rfl, ⟨by decide, by decide, by decide⟩, _, _, rfl, rfl, by show 4 ≤ sizeLine; decide, fun l hl => ?_⟩
    have R2 := R1.new (o := .lst [.int (10 ^ (60 : Int).toNat), .int (-10 ^ (60 : Int).toNat), .int (10 ^ (30 : Int).toNat), .int (1 - 10 ^ (60 : Int).toNat)]) hl
    obtain ⟨n1, hn1⟩ := id R1
    refine ⟨_, rfl, r, _, rfl, R2, rfl, by decide, by decide, fun d2 H2 g3 g4 f2 R3 => ?_⟩
    have hl2 := lst_at upd_same R2 (ne_of_none hn1 hl) f2
    obtain ⟨v, hv, e⟩ := atI_mem (xs := [.int (10 ^ (60 : Int).toNat), .int (-10 ^ (60 : Int).toNat), .int (10 ^ (30 : Int).toNat), .int (1 - 10 ^ (60 : Int).toNat)]) g3 g4
    have hs : ∃ i : Int, v = .int i ∧ -big ≤ i ∧ i ≤ big := by
      simp only [List.mem_cons, List.not_mem_nil, or_false] at hv
      rcases hv with rfl | rfl | rfl | rfl
      · exact ⟨_, rfl, by decide +kernel, by decide +kernel⟩
      · exact ⟨_, rfl, by decide +kernel, by decide +kernel⟩
      · exact ⟨_, rfl, by decide +kernel, by decide +kernel⟩
      · exact ⟨_, rfl, by decide +kernel, by decide +kernel⟩
    obtain ⟨i, rfl, hi⟩ := hs
    exact ⟨_, _, _, _, rfl, rfl, SqL.of hl2, e, q _ (.int i) _ ((f1.new hl).trans f2) R3 ⟨.int _, hi⟩⟩
  refine ifn (fun z => c4 (V.int.inj z)) ⟨_, rfl, r, _, rfl, R1, rfl, by decide, by decide, fun d2 H2 g3 g4 f2 R2 => ⟨_, _, rfl, rfl, ?_⟩⟩
  have hb : (7 : Int) ≤ big := by decide
  exact q _ (.int (d2 - 3)) H2 (f1.trans f2) R2 ⟨.int _, by omega, by omega⟩
end
end OL
namespace OL
open PySem PySem.Spec PyProof.Rows L2

theorem grow {x : Int} {n : Nat} (h : x.natAbs < 2 ^ (200 * n + 1)) {y : Int} (h0 : 0 ≤ y) (h1 : y < big) : (x * big + y).natAbs < 2 ^ (200 * (n + 1) + 1) := by
  have hb : big.natAbs < 2 ^ 200 := by decide
  have e : (2 : Nat) ^ (200 * (n + 1) + 1) = 2 ^ (200 * n + 1) * 2 ^ 200 := by
    rw [show 200 * (n + 1) + 1 = (200 * n + 1) + 200 by omega, Nat.pow_add]
  rw [e]
  have a1 : (x * big + y).natAbs ≤ x.natAbs * big.natAbs + y.natAbs := by
    have := Int.natAbs_add_le (x * big) y
    rw [Int.natAbs_mul] at this
    exact this
  have a2 : y.natAbs < big.natAbs := by omega
  have a3 : x.natAbs * big.natAbs + y.natAbs < (x.natAbs + 1) * big.natAbs := by
    rw [Nat.add_mul]
    omega
  have a4 : (x.natAbs + 1) * big.natAbs ≤ 2 ^ (200 * n + 1) * 2 ^ 200 := Nat.mul_le_mul (by omega) (Nat.le_of_lt hb)
  omega
theorem grow2 {x : Int} {n : Nat} (h : x.natAbs < 2 ^ (40 * n + 1)) {y : Int} (h0 : 0 ≤ y) (h1 : y < 2147483647) : (x * 2147483647 + y).natAbs < 2 ^ (40 * (n + 1) + 1) := by
  have e : (2 : Nat) ^ (40 * (n + 1) + 1) = 2 ^ (40 * n + 1) * 1099511627776 := by
    rw [show 40 * (n + 1) + 1 = (40 * n + 1) + 40 by omega, Nat.pow_add]
  rw [e]
  have a1 : (x * 2147483647 + y).natAbs ≤ x.natAbs * 2147483647 + y.natAbs := by
    have := Int.natAbs_add_le (x * 2147483647) y
    rw [Int.natAbs_mul] at this
    exact this
  have a4 : (x.natAbs + 1) * 2147483647 ≤ 2 ^ (40 * n + 1) * 1099511627776 := Nat.mul_le_mul (by omega) (by decide)
  omega
section
variable {P : Program} {w : World} {K : PySem.W.Frag} {mg : Str → Option Value} {base : Heap}
theorem sc_law_stream : FnScope ["script", "k", "cell", "j", "found", "drawn"] ["script", "k"] (defScope s_law_stream) := ⟨rfl, rfl, rfl, by decide +kernel, rfl, by decide +kernel, by decide +kernel⟩
theorem h_law_stream (T : Txt K mg) : Has P w K mg base "_law_stream" ["script", "k"] 2 (S_stream K) := by
  obtain ⟨fd, F⟩ := T.f_law_stream
  refine ⟨_, fd, T.g_law_stream, F.kp, F.binds (ps := ["script", "k"]) (fun _ _ _ _ _ _ us hl => match us, hl with | [_, _], _ => rfl), F.ok sc_law_stream (fun vs H Q E h => sp2_len h) (fun cdv A outer s H vs Q E hr h => ?_)⟩
  obtain ⟨v0, v1, rfl, h⟩ := sp2_inv h
  obtain ⟨a, ns, kk, rfl, hS, hlen, rfl, h0, h1, q⟩ := h
  refine ⟨_, (pss_cons (ps_set (i := 2) sc_law_stream.nd rfl (Or.inl rfl) pe_int)
      (pss_cons (ps_for PassesOwn.never rfl (pi_range3 (by rfl) T.n_range (pa_cons (pe_op op_add (pv 1) pe_int) (pa_cons (pe_callB call_len_seq (by rfl) T.n_len (by decide +kernel) (pa_cons (pv 0) pa_nil)) (pa_cons pe_int pa_nil)))) (pg_name (i := 3) sc_law_stream.nd rfl (Or.inl rfl)) (pss_one (ps_set (i := 2) sc_law_stream.nd rfl (Or.inl rfl) (pe_op op_add (pe_op op_mulW (pv 2) (pe_op op_pow pe_int pe_int)) (pe_op op_modN (pe_ix ix_list (pv 0) (pv 3) (fun _ _ => rfl)) (pe_op op_pow pe_int pe_int))))))
      (pss_cons (ps_if (pt_cmpR op_eq (pe_op op_modN (cl (h_law_cell_at T) (hr.mono (by omega)) (pa_cons (pv 0) (pa_cons pe_int pa_nil))) pe_int) pe_int (nomark _)) (pss_one (ps_ret (pe_lst (pa_cons (pv 2) pa_nil)))) pss_nil)
      (pss_cons (ps_set (i := 4) sc_law_stream.nd rfl (Or.inl rfl) pe_int)
      (pss_cons (ps_for PassesOwn.never rfl (pi_range1 (by rfl) T.n_range (pa_cons pe_int pa_nil)) (pg_name (i := 3) sc_law_stream.nd rfl (Or.inl rfl)) (pss_cons (ps_set (i := 5) sc_law_stream.nd rfl (Or.inl rfl) (cl (h_law_mixed T) (hr.mono (by omega)) (pa_cons (pe_op op_add (pv 2) (pe_callB (cr_sum rfl) (by rfl) T.n_sum (by decide +kernel) (pa_cons (pv 0) pa_nil))) (pa_cons (pe_op op_add (pe_op op_mulW pe_int (pv 1)) (pv 3)) pa_nil))))
      (pss_one (ps_set (i := 4) sc_law_stream.nd rfl (Or.inl rfl) (pe_op op_add (pe_op op_mulW (pv 4) pe_int) (pv 5))))))
      (pss_one (ps_ret (pe_lst (pa_cons (pe_op op_fdivX (pv 4) pe_int) pa_nil))))))))), ?_⟩
  have hl : (ns.map V.int).length = ns.length := List.length_map _
  obtain ⟨n, rg, hn, hi⟩ := rg_thirteen (a := kk + 1) (b := (((ns.map V.int).length : Nat) : Int)) (by omega) (by omega) (by omega) (by rw [hl]; omega)
  have cb : (10 : Int) ^ (60 : Int).toNat = big := rfl
  have cp : CPow 10 60 := ⟨by decide, by decide, by decide⟩
  have bigp : (0 : Int) < big := by decide
  refine ⟨_, rfl, _, _, rfl, rfl, _, rfl, a, _, rfl, .inl hS, _, _, _, n, rfl, rg, ?_⟩
  refine for_rangeC (lo := kk + 1) (c := 13) (n := n) (fun i σ H' => ∃ (c : Int) (jv : Option V), σ = [some (.ref a), some (.int kk), some (.int c), jv, none, none] ∧ H' = H ∧ c.natAbs < 2 ^ (200 * i + 1)) ?_ ?_ ?_
  · exact ⟨0, none, rfl, rfl, by decide⟩
  · rintro i σ H' hin ⟨c, jv, rfl, rfl, hc⟩
    have hx := hi i hin
    obtain ⟨v, hv, e⟩ := atI_mem (xs := ns.map V.int) (d := kk + 1 + (i : Int) * 13) (by omega) hx
    obtain ⟨x, _, rfl⟩ := List.mem_map.mp hv
    refine ⟨_, rfl, _, _, rfl, rfl, cp, _, _, rfl, rfl, wide_mul hc (bits_of (by rw [cb]; exact ⟨by decide, Int.le_refl _⟩)) (by omega) (by decide) (by omega), ?_⟩
    refine ⟨_, rfl, _, rfl, _, _, _, _, rfl, rfl, hS, e, _, _, rfl, rfl, cp, _, _, rfl, rfl, (show big ≠ 0 by decide), _, _, rfl, rfl, ?_⟩
    exact ⟨_, _, rfl, rfl, grow hc (Int.fmod_nonneg_of_pos x bigp) (Int.fmod_lt_of_pos x bigp)⟩
  · rintro σ H' ⟨c, jv, rfl, rfl, hc⟩
    refine ⟨_, rfl, a, ns, 0, rfl, hS, rfl, by decide, fun s0 => ⟨_, _, rfl, rfl, (show (2 : Int) ≠ 0 by decide), rfl, _, rfl, ?_⟩⟩
    by_cases od : s0.fmod 2 = 1
    · refine ifd (congrArg V.int od) ⟨_, rfl, by show 1 ≤ sizeLine; decide, fun p hp => ?_⟩
      exact q p _ c (Fr.refl.new hp) hp upd_same
    · refine ifn (fun z => od (V.int.inj z)) ?_
      refine ⟨_, rfl, by decide, by decide, ?_⟩
      refine for_range (lo := 0) (n := 8) (fun i σ H2 => ∃ (fo : Int) (jv dv : Option V), σ = [some (.ref a), some (.int kk), some (.int c), jv, some (.int fo), dv] ∧ H2 = H' ∧ fo.natAbs < 2 ^ (40 * i + 1)) ?_ ?_ ?_
      · exact ⟨0, jv, none, rfl, rfl, by decide⟩
      · rintro i σ H2 hin ⟨fo, jv2, dv, rfl, rfl, hf⟩
        refine ⟨_, rfl, _, rfl, a, ns, rfl, hS, _, _, rfl, rfl, _, rfl, _, _, rfl, rfl, wide_mul (a := 10) (b := 10) (by decide) (by show _ < 1024; omega) (by decide) (by decide) (by decide), _, rfl, _, _, rfl, rfl, ?_⟩
        refine ⟨_, _, rfl, rfl, by omega, by omega, fun r r0 r1 => ?_⟩
        refine ⟨_, rfl, _, _, rfl, rfl, wide_mul hf (b := 32) (by decide) (by omega) (by decide) (by omega), _, rfl, _, _, rfl, rfl, ?_⟩
        exact ⟨_, _, _, rfl, rfl, grow2 hf r0 r1⟩
      · rintro σ H2 ⟨fo, jv2, dv, rfl, rfl, hf⟩
        refine ⟨_, rfl, _, _, rfl, rfl, ⟨by decide, by decide⟩, by show 1 ≤ sizeLine; decide, fun p hp => ?_⟩
        exact q p _ _ (Fr.refl.new hp) hp upd_same
theorem kyP_inj {p q : Pl} (h : kyP p = kyP q) : p = q := by
  obtain ⟨x, y⟩ := p
  obtain ⟨x', y'⟩ := q
  unfold kyP at h
  injection h with h1 h2
  injection h2 with h3 _
  have e1 : x = x' := Sum.inl.inj h1
  have e2 : y = y' := Sum.inl.inj h3
  rw [e1, e2]
theorem putK_len {kvs : List (List Key × V)} {k : List Key} {v : V} : (putK kvs k v).length ≤ kvs.length + 1 := by
  unfold putK
  split
  · rw [List.length_map]; omega
  · rw [List.length_append]; exact Nat.le_refl _
def S_known (K : PySem.W.Frag) : Sp := sp2 fun s spot H Q => ∃ (a : Addr) (ns : List Int) (dn ac : Int), s = .ref a ∧ SqL K H a (ns.map V.int) ∧ ns.length ≤ 63 ∧ Spot H spot dn ac ∧ ∀ t wd wl k H', Fr [] H H' → H' t = some (.tup [.ref wd, .ref wl]) → Known k H' wd wl → Q (.ref t) H'
theorem sc_law_known : FnScope ["script", "spot", "row", "worths", "waiting", "k", "place", "worth"] ["script", "spot"] (defScope s_law_known) := ⟨rfl, rfl, rfl, by decide +kernel, rfl, by decide +kernel, by decide +kernel⟩
theorem h_law_known (T : Txt K mg) : Has P w K mg base "_law_known" ["script", "spot"] 3 (S_known K) := by
  obtain ⟨fd, F⟩ := T.f_law_known
  refine ⟨_, fd, T.g_law_known, F.kp, F.binds (ps := ["script", "spot"]) (fun _ _ _ _ _ _ us hl => match us, hl with | [_, _], _ => rfl), F.ok sc_law_known (fun vs H Q E h => sp2_len h) (fun cdv A outer s H vs Q E hr h => ?_)⟩
  obtain ⟨v0, v1, rfl, h⟩ := sp2_inv h
  obtain ⟨a, ns, dn, ac, rfl, hS, hlen, S, q⟩ := h
  refine ⟨_, (pss_cons (ps_set (i := 2) sc_law_known.nd rfl (Or.inl rfl) (pe_lst (pa_cons (pe_op op_add (pe_ix ix_list (cl (h_law_stream T) (hr.mono (by omega)) (pa_cons (pv 0) (pa_cons pe_int pa_nil))) pe_int (fun _ _ => rfl)) (pe_op op_modN (cl (h_law_cell_at T) (hr.mono (by omega)) (pa_cons (pv 0) (pa_cons pe_int pa_nil))) (pe_op op_pow pe_int pe_int))) pa_nil)))
      (pss_cons (ps_set (i := 3) sc_law_known.nd rfl (Or.inl rfl) pe_dnewT)
      (pss_cons (ps_set (i := 4) sc_law_known.nd rfl (Or.inl rfl) (pe_lst pa_nil))
      (pss_cons (ps_for PassesOwn.never rfl (pi_range1 (by rfl) T.n_range (pa_cons pe_int pa_nil)) (pg_name (i := 5) sc_law_known.nd rfl (Or.inl rfl)) (pss_cons (ps_set (i := 6) sc_law_known.nd rfl (Or.inl rfl) (pe_tup (pa_cons (pe_op op_add (pe_ix ix_tup (pv 1) pe_int (fun _ _ => rfl)) (pe_op op_fdivX (pv 5) pe_int)) (pa_cons (pe_op op_add (pe_ix ix_tup (pv 1) pe_int (fun _ _ => rfl)) (pe_op op_modN (pv 5) pe_int)) pa_nil))))
      (pss_cons (ps_set (i := 7) sc_law_known.nd rfl (Or.inl rfl) (cl (h_law_worth T) (hr.mono (by omega)) (pa_cons (pv 2) pa_nil)))
      (pss_one (ps_if (pt_cmpR op_eq (cl (h_law_digit T) (hr.mono (by omega)) (pa_cons (pv 2) (pa_cons pe_int pa_nil))) pe_int (nomark _)) (pss_one (ps_expr (pe_bm PySem.F.plainAttrs_list PySem.F.slot_list_append PySem.F.type_list_append mt_append (pv 4) (pa_cons (pv 6) pa_nil)))) (pss_one (ps_if (PW.pt (pw_or (pt_cmpR op_notN (pv 7) pe_non (nomark _)) (pw_or1 (pt_cmpR op_eq (cl (h_law_digit T) (hr.mono (by omega)) (pa_cons (pv 2) (pa_cons pe_int pa_nil))) pe_int (nomark _))))) (pss_one (ps_dput (hu_of hr) (pv 3) (pv 6) (pv 7) rfl)) pss_nil)))))))
      (pss_one (ps_ret (pe_tup (pa_cons (pv 3) (pa_cons (pv 4) pa_nil))))))))), ?_⟩
  have cp : CPow 10 60 := ⟨by decide, by decide, by decide⟩
  refine ⟨_, rfl, a, ns, 40, rfl, hS, hlen, rfl, by decide, by decide, fun r0 H1 n1 f1 hr0 hr1 => ?_⟩
  refine ⟨_, _, _, _, rfl, rfl, SqL.of hr1, rfl, ?_⟩
  refine ⟨_, rfl, a, ns, 2, rfl, f1.seq hS (by simp), rfl, by decide, fun s2 => ⟨_, _, rfl, rfl, cp, _, _, rfl, rfl, (show big ≠ 0 by decide), _, _, rfl, rfl, by show 1 ≤ sizeLine; decide, fun r hr => ?_⟩⟩
  have f2 := f1.new (o := .lst [.int (n1 + s2.fmod big)]) hr
  intro wd hwd
  have f3 := f2.new (o := .dT []) hwd
  refine ⟨by show 0 ≤ sizeLine; decide, fun wl hwl => ?_⟩
  have f4 := f3.new (o := .lst []) hwl
  -- the three are apart, and new
  have r0' : H r = none := f1.l r hr
  have d0' : H wd = none := f2.l wd hwd
  have l0' : H wl = none := f3.l wl hwl
  have nrd : r ≠ wd := fun z => by rw [← z, upd_same] at hwd; cases hwd
  have ndl : wd ≠ wl := fun z => by rw [← z, upd_same] at hwl; cases hwl
  have nrl : r ≠ wl := fun z => by
    rw [← z, upd_ne nrd, upd_same] at hwl
    cases hwl
  refine ⟨_, rfl, by decide, by decide, ?_⟩
  refine for_range (lo := 0) (n := 12) (fun i σ H' => ∃ (kv pv2 wv2 : Option V) (kvs : List (List Key × V)) (xs : List V) (ps : List Pl) (wv : Pl → Wo),
    σ = [some (.ref a), some v1, some (.ref r), some (.ref wd), some (.ref wl), kv, pv2, wv2] ∧ Fr [] H H' ∧ Row H' r ∧ H' wd = some (.dT kvs) ∧ kvs.length ≤ i ∧ H' wl = some (.lst xs) ∧ DaL H' xs (ps.map plD) ∧ xs.length ≤ i ∧
    (∀ p, Da H' ((valV kvs (kyP p)).getD .non) (wv p).d) ∧ ∀ p, (wv p).ok) ?_ ?_ ?_
  · refine ⟨none, none, none, [], [], [], fun _ => .non, rfl, f4, ⟨n1 + s2.fmod big, ?_⟩, ?_, Nat.le_refl _, upd_same, .nil, Nat.le_refl _, fun p => .non, fun p => trivial⟩
    · rw [upd_ne nrl, upd_ne nrd, upd_same]
      all_goals rfl
    · rw [upd_ne ndl, upd_same]
  · rintro i σ H2 hi ⟨kv, pv2, wv2, kvs, xs, ps, wv, rfl, g1, R, hd, hdl, hl, hx, hxl, hw, hok⟩
    obtain ⟨sa, rfl, hs⟩ := (S.fr g1).at_
    obtain ⟨rn, hrn⟩ := id R
    refine ⟨_, rfl, _, _, _, _, rfl, rfl, SqT.of hs, rfl, _, rfl, _, _, rfl, rfl, ⟨by decide, by decide⟩, _, _, rfl, rfl, ?_⟩
    refine ⟨_, rfl, _, _, _, _, rfl, rfl, SqT.of hs, rfl, _, rfl, _, _, rfl, rfl, (show (4 : Int) ≠ 0 by decide), _, _, rfl, rfl, by show 2 ≤ sizeLine; decide, fun t ht => ?_⟩
    have g2 := g1.new (o := plV (dn + (0 + (i : Int)).fdiv 4, ac + (0 + (i : Int)).fmod 4)) ht
    have ft : Fr [] H2 (upd H2 t (plV (dn + (0 + (i : Int)).fdiv 4, ac + (0 + (i : Int)).fmod 4))) := Fr.refl.new ht
    have R2 := R.new (o := plV (dn + (0 + (i : Int)).fdiv 4, ac + (0 + (i : Int)).fmod 4)) ht
    refine ⟨_, rfl, r, rfl, R2, fun v y H3 f3 R3 hy => ?_⟩
    have wdr : wd ∉ [r] := by simpa using nrd.symm
    have wlr : wl ∉ [r] := by simpa using nrl.symm
    have hd3 : H3 wd = some (.dT kvs) := f3.k _ _ (by rw [upd_ne (ne_of_none hd ht)]; exact hd) wdr
    have hl3 : H3 wl = some (.lst xs) := f3.k _ _ (by rw [upd_ne (ne_of_none hl ht)]; exact hl) wlr
    have ht3 : H3 t = some (plV (dn + (0 + (i : Int)).fdiv 4, ac + (0 + (i : Int)).fmod 4)) := f3.tup upd_same
    have k23 : Kp H2 H3 := ft.t.trans f3.t
    -- what is new since H may be changed
    have fm : ∀ {A B : Hp}, Fr [] H A → Fr [r] A B → Fr [] H B := fun {A B} x y =>
      ⟨fun b o e n => y.k b o (x.k b o e n) (by intro z; rw [List.mem_singleton.mp z, r0'] at e; cases e), x.t.trans y.t, fun b e => x.l b (y.l b e)⟩
    have g3 : Fr [] H H3 := fm g2 f3
    refine ⟨_, rfl, r, _, rfl, R3, rfl, by decide, by decide, fun d1 H4 z1 z2 f4 R4 => ⟨rfl, _, rfl, ?_⟩⟩
    have hd4 : H4 wd = some (.dT kvs) := f4.k _ _ hd3 wdr
    have hl4 : H4 wl = some (.lst xs) := f4.k _ _ hl3 wlr
    have ht4 : H4 t = some (plV (dn + (0 + (i : Int)).fdiv 4, ac + (0 + (i : Int)).fmod 4)) := f4.tup ht3
    have g4 : Fr [] H H4 := fm g3 f4
    have k24 : Kp H2 H4 := k23.trans f4.t
    have hy4 : Da H4 v y.d := f4.da hy.1
    have put : ∀ H5, Fr [] H H5 → Row H5 r → H5 wd = some (.dT kvs) → H5 wl = some (.lst xs) → H5 t = some (plV (dn + (0 + (i : Int)).fdiv 4, ac + (0 + (i : Int)).fmod 4)) → Kp H2 H5 → Da H5 v y.d →
        ∃ (kv pv2 wv2 : Option V) (kvs' : List (List Key × V)) (xs' : List V) (ps' : List Pl) (wv' : Pl → Wo),
          [some (V.ref a), some (V.ref sa), some (V.ref r), some (V.ref wd), some (V.ref wl), some (V.int (0 + (i : Int))), some (V.ref t), some v] = [some (.ref a), some (V.ref sa), some (.ref r), some (.ref wd), some (.ref wl), kv, pv2, wv2] ∧
          Fr [] H (upd H5 wd (.dT (putK kvs (kyP (dn + (0 + (i : Int)).fdiv 4, ac + (0 + (i : Int)).fmod 4)) v))) ∧ Row (upd H5 wd (.dT (putK kvs (kyP (dn + (0 + (i : Int)).fdiv 4, ac + (0 + (i : Int)).fmod 4)) v))) r ∧ (upd H5 wd (.dT (putK kvs (kyP (dn + (0 + (i : Int)).fdiv 4, ac + (0 + (i : Int)).fmod 4)) v))) wd = some (.dT kvs') ∧ kvs'.length ≤ i + 1 ∧
          (upd H5 wd (.dT (putK kvs (kyP (dn + (0 + (i : Int)).fdiv 4, ac + (0 + (i : Int)).fmod 4)) v))) wl = some (.lst xs') ∧ DaL (upd H5 wd (.dT (putK kvs (kyP (dn + (0 + (i : Int)).fdiv 4, ac + (0 + (i : Int)).fmod 4)) v))) xs' (ps'.map plD) ∧ xs'.length ≤ i + 1 ∧
          (∀ p, Da (upd H5 wd (.dT (putK kvs (kyP (dn + (0 + (i : Int)).fdiv 4, ac + (0 + (i : Int)).fmod 4)) v))) ((valV kvs' (kyP p)).getD .non) (wv' p).d) ∧ ∀ p, (wv' p).ok := by
      intro H5 g5 R5 hd5 hl5 ht5 k25 hy5
      have f5 : Fr [wd] H5 (upd H5 wd (.dT (putK kvs (kyP (dn + (0 + (i : Int)).fdiv 4, ac + (0 + (i : Int)).fmod 4)) v))) := Fr.refl.set (by simp) hd5 (by intro _ z; cases z)
      obtain ⟨rn5, hrn5⟩ := R5
      refine ⟨_, _, _, putK kvs (kyP (dn + (0 + (i : Int)).fdiv 4, ac + (0 + (i : Int)).fmod 4)) v, xs, ps, fun p => if p = (dn + (0 + (i : Int)).fdiv 4, ac + (0 + (i : Int)).fmod 4) then y else wv p, rfl, g5.mut d0', ⟨rn5, by rw [upd_ne nrd]; exact hrn5⟩, upd_same, Nat.le_trans putK_len (by omega), by rw [upd_ne ndl.symm]; exact hl5,
        f5.dal (DaL.mono k25 _ _ hx), by omega, fun p => ?_, fun p => ?_⟩
      · rw [valV_put]
        by_cases e : p = (dn + (0 + (i : Int)).fdiv 4, ac + (0 + (i : Int)).fmod 4)
        · have e2 : (if p = (dn + (0 + (i : Int)).fdiv 4, ac + (0 + (i : Int)).fmod 4) then y else wv p) = y := if_pos e
          show Da _ _ (if p = (dn + (0 + (i : Int)).fdiv 4, ac + (0 + (i : Int)).fmod 4) then y else wv p).d
          rw [if_pos (by rw [e]), e2]
          exact f5.da hy5
        · have e2 : (if p = (dn + (0 + (i : Int)).fdiv 4, ac + (0 + (i : Int)).fmod 4) then y else wv p) = wv p := if_neg e
          show Da _ _ (if p = (dn + (0 + (i : Int)).fdiv 4, ac + (0 + (i : Int)).fmod 4) then y else wv p).d
          rw [if_neg (fun z => e (kyP_inj z)), e2]
          exact Da.mono (k25.trans f5.t) _ _ (hw p)
      · show (if p = (dn + (0 + (i : Int)).fdiv 4, ac + (0 + (i : Int)).fmod 4) then y else wv p).ok
        split
        · exact hy.2
        · exact hok p
    by_cases c0 : d1 = 0
    · refine ifd (by rw [c0]) ⟨_, rfl, .inl ⟨rfl, _, SqL.of hl4⟩, _, rfl, wl, xs, _, rfl, rfl, hl4, small1000 (by omega), ?_⟩
      have f5 : Fr [wl] H4 (upd H4 wl (.lst (xs ++ [.ref t]))) := Fr.refl.set (by simp) hl4 (by intro _ z; cases z)
      obtain ⟨rn4, hrn4⟩ := R4
      refine ⟨_, _, _, kvs, xs ++ [.ref t], ps ++ [(dn + (0 + (i : Int)).fdiv 4, ac + (0 + (i : Int)).fmod 4)], wv, rfl, g4.mut l0', ⟨rn4, by rw [upd_ne nrl]; exact hrn4⟩, by rw [upd_ne ndl]; exact hd4, by omega, upd_same, ?_, by rw [List.length_append, List.length_singleton]; omega, fun p => Da.mono (k24.trans f5.t) _ _ (hw p), hok⟩
      rw [List.map_append]
      exact (f5.dal (DaL.mono k24 _ _ hx)).append (.cons (.tup (f5.tup ht4) (.cons (.int _) (.cons (.int _) .nil))) .nil)
    · refine ifn (fun z => c0 (V.int.inj z)) ⟨_, rfl, rfl, _, rfl, ?_⟩
      by_cases hn : v = .non
      · rw [decide_eq_true hn]
        refine ⟨_, rfl, r, _, rfl, R4, rfl, by decide, by decide, fun d2 H5 z3 z4 f5 R5 => ⟨rfl, _, rfl, ?_⟩⟩
        have hd5 : H5 wd = some (.dT kvs) := f5.k _ _ hd4 wdr
        have hl5 : H5 wl = some (.lst xs) := f5.k _ _ hl4 wlr
        by_cases c2 : d2 = 0
        · refine ifd (by rw [c2]) ⟨_, rfl, _, rfl, _, rfl, wd, _, rfl, DPut.t (k := kyP (dn + (0 + (i : Int)).fdiv 4, ac + (0 + (i : Int)).fmod 4)) hd5 (f5.tup ht4) (small1000 (by omega)), ?_⟩
          exact put H5 (fm g4 f5) R5 hd5 hl5 (f5.tup ht4) (k24.trans f5.t) (f5.da hy4)
        · refine ifn (fun z => c2 (V.int.inj z)) ?_
          exact ⟨_, _, _, kvs, xs, ps, wv, rfl, fm g4 f5, R5, hd5, by omega, hl5, DaL.mono (k24.trans f5.t) _ _ hx, by omega, fun p => Da.mono (k24.trans f5.t) _ _ (hw p), hok⟩
      · rw [decide_eq_false hn]
        refine ⟨_, rfl, _, rfl, _, rfl, wd, _, rfl, DPut.t (k := kyP (dn + (0 + (i : Int)).fdiv 4, ac + (0 + (i : Int)).fmod 4)) hd4 ht4 (small1000 (by omega)), ?_⟩
        exact put H4 g4 R4 hd4 hl4 ht4 k24 hy4
  · rintro σ H2 ⟨kv, pv2, wv2, kvs, xs, ps, wv, rfl, g1, R, hd, hdl, hl, hx, hxl, hw, hok⟩
    refine ⟨_, rfl, _, rfl, by show 2 ≤ sizeLine; decide, fun t ht => ?_⟩
    have ft : Fr [] H2 (upd H2 t (.tup [.ref wd, .ref wl])) := Fr.refl.new ht
    exact q t wd wl ⟨fun p => decide (p ∈ ps), wv, hok⟩ _ (g1.new ht) upd_same ⟨⟨kvs, ft.k _ _ hd (by simp), fun p => ft.da (hw p)⟩, ⟨xs, ps, ft.k _ _ hl (by simp), ft.dal hx, fun p => rfl⟩⟩
end
end OL
namespace OL
open PySem PySem.Spec PyProof.Rows L2

/-! ### pieces -/
def Fm.word : Fm → Str
  | .num _ => "num"
  | .text _ => "text"
  | .lost => "lost"
  | .at _ _ => "at"
  | .gat w _ _ => w
  | .one w _ => w
  | .find _ _ _ => "find"
  | .ite _ _ _ => "if"
  | .els _ _ => "else"
  | .two w _ _ => w
def Fm.args : Fm → List PyData
  | .num i => [.int i]
  | .text s => [.str s]
  | .lost => []
  | .at p ps => [plD p, psD ps]
  | .gat _ a ps => [a.d, psD ps]
  | .one _ f => [f.d]
  | .find f a ps => [f.d, a.d, psD ps]
  | .ite f g h => [f.d, g.d, h.d]
  | .els f g => [f.d, g.d]
  | .two _ f g => [f.d, g.d]
def Fm.parts : Fm → List Fm
  | .one _ f => [f]
  | .find f _ _ => [f]
  | .ite f g h => [f, g, h]
  | .els f g => [f, g]
  | .two _ f g => [f, g]
  | _ => []
theorem fm_d (f : Fm) : f.d = .tuple (.str f.word :: f.args) := by cases f <;> rfl
def isFd : PyData → Bool
  | .tuple (.str _ :: _) => true
  | _ => false
theorem isFd_d (f : Fm) : isFd f.d = true := by
  rw [fm_d]
  rfl
theorem isFd_ps (ps : List Int) : isFd (psD ps) = false := by cases ps <;> rfl
theorem args_filter (f : Fm) : f.args.filter isFd = f.parts.map Fm.d := by
  cases f with
  | num i => rfl
  | text s => rfl
  | lost => rfl
  | «at» p ps => simp [Fm.args, Fm.parts, isFd_ps, List.filter, show isFd (plD p) = false from rfl]
  | gat w a ps => simp [Fm.args, Fm.parts, isFd_ps, List.filter, show isFd (Ar.d a) = false from rfl]
  | one w f => simp [Fm.args, Fm.parts, List.filter, isFd_d]
  | find f a ps => simp [Fm.args, Fm.parts, isFd_ps, List.filter, isFd_d, show isFd (Ar.d a) = false from rfl]
  | ite f g h => simp [Fm.args, Fm.parts, List.filter, isFd_d]
  | els f g => simp [Fm.args, Fm.parts, List.filter, isFd_d]
  | two w f g => simp [Fm.args, Fm.parts, List.filter, isFd_d]
def ArgOk (d : PyData) : Prop := (∃ i, d = .int i) ∨ (∃ s, d = .str s) ∨ (∃ s t, d = .tuple (.str s :: t)) ∨ ∃ i t, d = .tuple (.int i :: t)
theorem argOk_f (f : Fm) : ArgOk f.d := .inr (.inr (.inl ⟨_, _, fm_d f⟩))
theorem argOk_ps {ps : List Int} (h : ps ≠ []) : ArgOk (psD ps) := by
  cases ps with
  | nil => exact absurd rfl h
  | cons x r => exact .inr (.inr (.inr ⟨x, r.map .int, rfl⟩))
theorem argOk_pl (p : Pl) : ArgOk (plD p) := .inr (.inr (.inr ⟨_, _, rfl⟩))
theorem argOk_ar (a : Ar) : ArgOk a.d := .inr (.inr (.inr ⟨_, _, rfl⟩))
theorem args_ok {f : Fm} {n : Nat} (h : f.ok n) : ∀ d ∈ f.args, ArgOk d := by
  intro d hd
  cases f with
  | num i => simp only [Fm.args, List.mem_cons, List.not_mem_nil, or_false] at hd; exact .inl ⟨i, hd⟩
  | text s => simp only [Fm.args, List.mem_cons, List.not_mem_nil, or_false] at hd; exact .inr (.inl ⟨s, hd⟩)
  | lost => simp only [Fm.args, List.not_mem_nil] at hd
  | «at» p ps =>
    have hp : ps ≠ [] := by cases n <;> exact h
    simp only [Fm.args, List.mem_cons, List.not_mem_nil, or_false] at hd
    rcases hd with rfl | rfl
    · exact argOk_pl p
    · exact argOk_ps hp
  | gat w a ps =>
    have hp := (ok_gat h).2.2
    simp only [Fm.args, List.mem_cons, List.not_mem_nil, or_false] at hd
    rcases hd with rfl | rfl
    · exact argOk_ar a
    · exact argOk_ps hp
  | one w f => simp only [Fm.args, List.mem_cons, List.not_mem_nil, or_false] at hd; rw [hd]; exact argOk_f f
  | find f a ps =>
    have hp : ps ≠ [] := by
      cases n with
      | zero => exact h.elim
      | succ n => exact h.2.2
    simp only [Fm.args, List.mem_cons, List.not_mem_nil, or_false] at hd
    rcases hd with rfl | rfl | rfl
    · exact argOk_f f
    · exact argOk_ar a
    · exact argOk_ps hp
  | ite f g j =>
    simp only [Fm.args, List.mem_cons, List.not_mem_nil, or_false] at hd
    rcases hd with rfl | rfl | rfl <;> exact argOk_f _
  | els f g =>
    simp only [Fm.args, List.mem_cons, List.not_mem_nil, or_false] at hd
    rcases hd with rfl | rfl <;> exact argOk_f _
  | two w f g =>
    simp only [Fm.args, List.mem_cons, List.not_mem_nil, or_false] at hd
    rcases hd with rfl | rfl <;> exact argOk_f _
theorem args_len (f : Fm) : f.args.length ≤ 3 := by cases f <;> simp [Fm.args]
theorem parts_len (f : Fm) : f.parts.length ≤ 3 := by cases f <;> simp [Fm.parts]
theorem parts_ok {f : Fm} {n : Nat} (h : f.ok n) : ∀ g ∈ f.parts, ∃ m, n = m + 1 ∧ g.ok m := by
  intro g hg
  cases f with
  | num i => cases hg
  | text s => cases hg
  | lost => cases hg
  | «at» p ps => cases hg
  | gat w a ps => cases hg
  | one w f =>
    cases n with
    | zero => exact h.elim
    | succ n =>
      simp only [Fm.parts, List.mem_cons, List.not_mem_nil, or_false] at hg
      rw [hg]
      exact ⟨n, rfl, h.2⟩
  | find f a ps =>
    cases n with
    | zero => exact h.elim
    | succ n =>
      simp only [Fm.parts, List.mem_cons, List.not_mem_nil, or_false] at hg
      rw [hg]
      exact ⟨n, rfl, h.1⟩
  | ite f a b =>
    cases n with
    | zero => exact h.elim
    | succ n =>
      simp only [Fm.parts, List.mem_cons, List.not_mem_nil, or_false] at hg
      rcases hg with rfl | rfl | rfl
      · exact ⟨n, rfl, h.1⟩
      · exact ⟨n, rfl, h.2.1⟩
      · exact ⟨n, rfl, h.2.2⟩
  | els f a =>
    cases n with
    | zero => exact h.elim
    | succ n =>
      simp only [Fm.parts, List.mem_cons, List.not_mem_nil, or_false] at hg
      rcases hg with rfl | rfl
      · exact ⟨n, rfl, h.1⟩
      · exact ⟨n, rfl, h.2⟩
  | two w f a =>
    cases n with
    | zero => exact h.elim
    | succ n =>
      simp only [Fm.parts, List.mem_cons, List.not_mem_nil, or_false] at hg
      rcases hg with rfl | rfl
      · exact ⟨n, rfl, h.2.1⟩
      · exact ⟨n, rfl, h.2.2⟩
theorem fm_tup {H : Hp} {v : V} {f : Fm} (h : Da H v f.d) : ∃ a xs, v = .ref a ∧ H a = some (.tup (.str f.word :: xs)) ∧ DaL H xs f.args := by
  rw [fm_d] at h
  obtain ⟨a, xs, rfl, e, l⟩ := h.tupI
  cases l with
  | cons h1 l =>
    rw [h1.strI] at e
    exact ⟨a, _, rfl, e, l⟩
theorem atI_0 {x : V} {xs : List V} : atI (x :: xs) 0 = some x := atI_nat (j := 0) rfl
theorem cut_tail (x : V) (xs : List V) : cutV (x :: xs) (some 1) none = xs := by
  unfold cutV
  rw [show (some (1 : Int)) = some (((1 : Nat) : Int)) from rfl, HT.sIx_nat, HT.sIx_none]
  have h1 : min 1 (x :: xs).length = 1 := by simp
  rw [h1]
  simp
def pc : Nat → Nat
  | 0 => 1
  | n + 1 => 1 + 3 * pc n
def pm : Nat → Nat
  | 0 => 0
  | n + 1 => pc n
theorem pc_eq : ∀ n, pc n = 1 + 3 * pm n
  | 0 => rfl
  | _ + 1 => rfl
def S_parts : Sp := sp1 fun v H Q => ∃ f n, Da H v (Fm.d f) ∧ f.ok n ∧ ∀ p xs H', Fr [] H H' → H p = none → H' p = some (.lst xs) → DaL H' xs (f.parts.map Fm.d) → Q (.ref p) H'
def S_pieces (n : Nat) : Sp := sp1 fun v H Q => ∃ f, Da H v (Fm.d f) ∧ f.ok n ∧ ∀ p xs (fs : List Fm) H', Fr [] H H' → H p = none → H' p = some (.lst xs) → DaL H' xs (fs.map Fm.d) → (∀ g ∈ fs, g.ok n) → fs.length ≤ pc n → Q (.ref p) H'
def S_psub (n : Nat) : Sp := sp1 fun v H Q => ∃ f m, n = m + 1 ∧ Da H v (Fm.d f) ∧ f.ok m ∧ ∀ p xs (fs : List Fm) H', Fr [] H H' → H p = none → H' p = some (.lst xs) → DaL H' xs (fs.map Fm.d) → (∀ g ∈ fs, g.ok m) → fs.length ≤ pc m → Q (.ref p) H'
section
variable {P : Program} {w : World} {K : PySem.W.Frag} {mg : Str → Option Value} {base : Heap}
theorem sc_law_parts : FnScope ["formula", "part"] ["formula"] (defScope s_law_parts) := ⟨rfl, rfl, rfl, by decide +kernel, rfl, by decide +kernel, by decide +kernel⟩
theorem h_law_parts (T : Txt K mg) : Has P w K mg base "_law_parts" ["formula"] 1 S_parts := by
  obtain ⟨fd, F⟩ := T.f_law_parts
  refine ⟨_, fd, T.g_law_parts, F.kp, F.binds (ps := ["formula"]) (fun _ _ _ _ _ _ us hl => match us, hl with | [_], _ => rfl), F.ok sc_law_parts (fun vs H Q E h => sp1_len h) (fun cdv A outer s H vs Q E hr h => ?_)⟩
  obtain ⟨v0, rfl, h⟩ := sp1_inv h
  obtain ⟨f, n, hf, ho, q⟩ := h
  obtain ⟨fa, xs, rfl, ef, l⟩ := fm_tup hf
  have hxl : xs.length = f.args.length := l.length
  have h3 := args_len f
  refine ⟨_, (pss_one (ps_ret (pe_lc (tt := tAnd (tB (tIsi K "tuple" (tVar 1))) (tB (tIsi K "str" (tOp (rIxT K) (tVar 1) (tC (.int 0)))))) (own := [("part", 1)]) (g := gName 1) rfl sc_law_parts.nd (pi_tup (pe_slice sl_tupA (pv 0) (po_some pe_int) po_none)) (blkOk_by (N := ["formula", "part"]) (sc := defScope s_law_parts) (by decide +kernel)) (fun _ _ _ _ _ => pg_name (i := 1) sc_law_parts.nd rfl (Or.inl rfl)) (fun _ _ _ _ _ => (pts_one (PW.pt (pw_and (pt_val (isi (T := "tuple") T.n_isinstance T.n_tuple (pv 1))) (pw_and1 (pt_val (isi (T := "str") T.n_isinstance T.n_str (pe_ix ix_tup (pv 1) pe_int (fun _ _ => rfl))))))))) (fun _ _ _ _ _ => (pv 1))))), ?_⟩
  refine ⟨_, rfl, _, rfl, fa, _, rfl, SqT.of ef, fun z => ?_, fun _ t ht => ?_⟩
  · have h1 := z.1
    rw [show (some (1 : Int)) = some (((1 : Nat) : Int)) from rfl, HT.sIx_nat] at h1
    simp at h1
  rw [cut_tail] at *
  have f1 : Fr [] H (upd H t (.tup xs)) := Fr.refl.new ht
  refine ⟨t, rfl, ⟨_, SqT.of upd_same⟩, fun D hD => ?_⟩
  have hD0 : H D = none := f1.l D hD
  refine lc_tup (xs := xs) (fun i H' => ∃ acc, H' D = some (.lst acc) ∧ Fr [] H H' ∧ H' t = some (.tup xs) ∧ DaL H' acc ((f.args.take i).filter isFd) ∧ acc.length ≤ i) ?_ ?_ ?_ ?_
  · exact ⟨[], upd_same, f1.new hD, by rw [upd_ne (ne_of_none upd_same hD), upd_same], .nil, Nat.le_refl _⟩
  · rintro i H' _ ⟨_, _, _, h, _⟩
    exact SqT.of h
  · rintro i x H2 hi ⟨acc, a1, a2, a3, a4, a5⟩
    obtain ⟨d, ed, dx⟩ := (a2.dal l).get hi
    have hil : i < xs.length := (List.getElem?_eq_some_iff.mp hi).1
    have tk := take_snoc ed
    have hok := args_ok ho d (List.mem_of_getElem? ed)
    have no : isFd d = false → (∃ acc, H2 D = some (.lst acc) ∧ Fr [] H H2 ∧ H2 t = some (.tup xs) ∧ DaL H2 acc ((f.args.take (i + 1)).filter isFd) ∧ acc.length ≤ i + 1) := fun e => by
      refine ⟨acc, a1, a2, a3, ?_, by omega⟩
      rw [tk, List.filter_append, List.filter_cons, e]
      show DaL H2 acc (_ ++ [])
      rw [List.append_nil]
      exact a4
    refine ⟨rfl, ?_⟩
    rcases hok with ⟨z, rfl⟩ | ⟨z, rfl⟩ | ⟨z, tl, rfl⟩ | ⟨z, tl, rfl⟩
    · rw [dx.intI]
      exact ⟨_, rfl, _, isi_int (b := false), _, rfl, no rfl⟩
    · rw [dx.strI]
      exact ⟨_, rfl, _, isi_str (b := false), _, rfl, no rfl⟩
    · obtain ⟨ta, ts, rfl, et, lt⟩ := id dx.tupI
      cases lt with
      | cons d0 lt =>
        have e0 := d0.strI
        subst e0
        refine ⟨_, rfl, _, isi_tup (b := true) et, _, rfl, _, rfl, _, _, _, _, rfl, rfl, SqT.of et, atI_0, _, isi_str (b := true), _, rfl, ?_⟩
        have fD : Fr [D] H2 (upd H2 D (.lst (acc ++ [.ref ta]))) := Fr.refl.set (by simp) a1 (by intro _ z; cases z)
        refine ⟨_, rfl, acc, a1, small1000 (by omega), acc ++ [.ref ta], upd_same, a2.mut hD0, fD.tup a3, ?_, by rw [List.length_append, List.length_singleton]; omega⟩
        rw [tk, List.filter_append]
        exact (fD.dal a4).append (.cons (fD.da dx) .nil)
    · obtain ⟨ta, ts, rfl, et, lt⟩ := id dx.tupI
      cases lt with
      | cons d0 lt =>
        have e0 := d0.intI
        subst e0
        exact ⟨_, rfl, _, isi_tup (b := true) et, _, rfl, _, rfl, _, _, _, _, rfl, rfl, SqT.of et, atI_0, _, isi_int (b := false), _, rfl, no rfl⟩
  · rintro H2 ⟨acc, a1, a2, a3, a4, a5⟩
    rw [hxl, List.take_length, args_filter] at a4
    exact q D acc H2 a2 hD0 a1 a4
theorem sc_law_pieces : FnScope ["formula", "found", "part"] ["formula"] (defScope s_law_pieces) := ⟨rfl, rfl, rfl, by decide +kernel, rfl, by decide +kernel, by decide +kernel⟩
theorem h_law_pieces_of (T : Txt K mg) {n lp : Nat} (hlp : 1 ≤ lp) (hn : pc n ≤ 1000) (hX : Has P w K mg base "_law_pieces" ["formula"] lp (S_psub n)) : Has P w K mg base "_law_pieces" ["formula"] (lp + 1) (S_pieces n) := by
  obtain ⟨fd, F⟩ := T.f_law_pieces
  refine ⟨_, fd, T.g_law_pieces, F.kp, F.binds (ps := ["formula"]) (fun _ _ _ _ _ _ us hl => match us, hl with | [_], _ => rfl), F.ok sc_law_pieces (fun vs H Q E h => sp1_len h) (fun cdv A outer s H vs Q E hr h => ?_)⟩
  obtain ⟨v0, rfl, h⟩ := sp1_inv h
  obtain ⟨f, hf, ho, q⟩ := h
  refine ⟨_, (pss_cons (ps_set (i := 1) sc_law_pieces.nd rfl (Or.inl rfl) (pe_lst (pa_cons (pv 0) pa_nil)))
      (pss_cons (ps_for PassesOwn.never rfl (pi_list (cl (h_law_parts T) (hr.mono (by omega)) (pa_cons (pv 0) pa_nil))) (pg_name (i := 2) sc_law_pieces.nd rfl (Or.inl rfl)) (pss_one (ps_set (i := 1) sc_law_pieces.nd rfl (Or.inl rfl) (pe_op op_cat (pv 1) (cl hX (hr.mono (by omega)) (pa_cons (pv 2) pa_nil))))))
      (pss_one (ps_ret (pv 1))))), ?_⟩
  have epc := pc_eq n
  refine ⟨_, rfl, by show 1 ≤ sizeLine; decide, fun l hl => ?_⟩
  have f1 : Fr [] H (upd H l (.lst [v0])) := Fr.refl.new hl
  refine ⟨_, rfl, f, n, f1.da hf, ho, fun g qs H1 f2 hg0 hg hqs => ?_⟩
  have f12 := f1.trans f2
  have hgH : H g = none := f1.l g hg0
  have hqn : qs.length = f.parts.length := by rw [hqs.length, List.length_map]
  have hp3 := parts_len f
  refine ⟨g, rfl, ⟨_, SqL.of hg⟩, ?_⟩
  refine for_list (K := K) (a := g) (xs := qs) (fun i σ H2 => ∃ (fo : Addr) (pz : Option V) (xs : List V) (fs : List Fm), σ = [some v0, some (.ref fo), pz] ∧ Fr [] H H2 ∧ Kp H1 H2 ∧ H2 g = some (.lst qs) ∧ H fo = none ∧ H2 fo = some (.lst xs) ∧ DaL H2 xs (fs.map Fm.d) ∧ (∀ g ∈ fs, g.ok n) ∧ fs.length ≤ 1 + i * pm n) ?_ ?_ ?_ ?_
  · exact ⟨l, none, [v0], [f], rfl, f12, Kp.refl _, hg, hl, f2.k _ _ upd_same (by simp), .cons (f12.da hf) .nil, fun x hx => by rw [List.mem_singleton.mp hx]; exact ho, by simp⟩
  · rintro i σ H2 _ ⟨_, _, _, _, _, _, _, h, _⟩
    exact SqL.of h
  · rintro i x σ H2 hi ⟨fo, pz, xs, fs, rfl, g1, kp, hg2, hfo, hx, dx, hok, hfl⟩
    obtain ⟨y, ey, dy⟩ := at_map (DaL.mono kp _ _ hqs) hi
    have hil : i < qs.length := (List.getElem?_eq_some_iff.mp hi).1
    obtain ⟨m, en, hm⟩ := parts_ok ho y (List.mem_of_getElem? ey)
    subst en
    refine ⟨_, rfl, _, rfl, y, m, rfl, dy, hm, fun p zs gs H3 f3 hp0 hp dz hgs hgl => ?_⟩
    have hx3 : H3 fo = some (.lst xs) := f3.k _ _ hx (by simp)
    have hg3 : H3 g = some (.lst qs) := f3.k _ _ hg2 (by simp)
    have hxl := dx.length
    have hzl := dz.length
    rw [List.length_map] at hxl hzl
    have hpm : pm (m + 1) = pc m := rfl
    have hmul : (i + 1) * pm (m + 1) = i * pm (m + 1) + pm (m + 1) := Nat.succ_mul _ _
    have hmul2 : i * pm (m + 1) ≤ 3 * pm (m + 1) := Nat.mul_le_mul_right _ (by omega)
    refine ⟨fo, p, xs, zs, rfl, rfl, hx3, hp, Nat.le_trans (show xs.length + zs.length ≤ 3000 by omega) (by decide), fun u hu => ?_⟩
    have f4 : Fr [] H3 (upd H3 u (.lst (xs ++ zs))) := Fr.refl.new hu
    have g3 := (g1.trans f3).trans f4
    refine ⟨u, _, xs ++ zs, fs ++ gs, rfl, g3, (kp.trans f3.t).trans f4.t, f4.k _ _ hg3 (by simp), (g1.trans f3).l u hu, upd_same, ?_, fun z hz => ?_, ?_⟩
    · rw [List.map_append]
      exact (f4.dal (f3.dal dx)).append (f4.dal dz)
    · rcases List.mem_append.mp hz with h | h
      · exact hok z h
      · exact Fm.ok_up (hgs z h)
    · rw [List.length_append]
      omega
  · rintro σ H2 ⟨fo, pz, xs, fs, rfl, g1, kp, hg2, hfo, hx, dx, hok, hfl⟩
    have hmul2 : qs.length * pm n ≤ 3 * pm n := Nat.mul_le_mul_right _ (by omega)
    exact ⟨_, rfl, q fo xs fs H2 g1 hfo hx dx hok (by omega)⟩
theorem pc_le : ∀ {n m : Nat}, n ≤ m → pc n ≤ pc m
  | 0, 0, _ => Nat.le_refl _
  | 0, m + 1, _ => by
    show 1 ≤ 1 + 3 * pc m
    omega
  | n + 1, m + 1, h => by
    have := pc_le (n := n) (m := m) (by omega)
    show 1 + 3 * pc n ≤ 1 + 3 * pc m
    omega
theorem h_law_pieces (T : Txt K mg) : ∀ n, pc n ≤ 1000 → Has P w K mg base "_law_pieces" ["formula"] (n + 2) (S_pieces n)
  | 0, hn => by
    refine h_law_pieces_of T (lp := 1) (Nat.le_refl _) hn (has_f T.g_law_pieces T.f_law_pieces (fun fd F => F.binds (ps := ["formula"]) (fun _ _ _ _ _ _ us hl => match us, hl with | [_], _ => rfl)) ?_)
    intro vs H Q E z
    obtain ⟨_, _, f, m, e, _⟩ := sp1_inv z
    omega
  | n + 1, hn => by
    have ih := h_law_pieces T n (Nat.le_trans (pc_le (Nat.le_succ n)) hn)
    refine h_law_pieces_of T (lp := n + 2) (by omega) hn ?_
    obtain ⟨f, fd, a, b, c, d⟩ := ih
    refine ⟨f, fd, a, b, c, d.imp fun vs H Q E z => ?_⟩
    obtain ⟨v0, rfl, f, m, e, h1, h2, h3⟩ := sp1_inv z
    have e2 : n = m := by omega
    subst e2
    exact ⟨f, h1, h2, h3⟩
end
end OL
namespace OL
open PySem PySem.Spec PyProof.Rows L2

/-! ### what the law puts together -/
def tagM : Res → Str
  | .waits _ => "waits"
  | .worth _ => "worth"
def payM : Res → PyData
  | .waits p => plD p
  | .worth w => w.d
theorem lk_d (L : LK) : LK.d L = .tuple [.str (tagM L.1), payM L.1, .tuple (L.2.map Itm.d)] := by
  obtain ⟨r, R⟩ := L
  cases r <;> rfl
theorem lk_tup {H : Hp} {v : V} {L : LK} (h : Da H v (LK.d L)) : ∃ a p t xs, v = .ref a ∧ H a = some (.tup [.str (tagM L.1), p, .ref t]) ∧ Da H p (payM L.1) ∧ H t = some (.tup xs) ∧ DaL H xs (L.2.map Itm.d) := by
  rw [lk_d] at h
  obtain ⟨a, xs, rfl, e, l⟩ := h.tupI
  obtain ⟨x, y, z, rfl, d1, d2, d3⟩ := DaL.inv3 l
  obtain ⟨t, ts, rfl, e2, l2⟩ := d3.tupI
  rw [d1.strI] at e
  exact ⟨a, y, t, ts, rfl, e, d2, e2, l2⟩
def dInt : PyData → Bool
  | .int _ => true
  | _ => false
def dStr : PyData → Bool
  | .str _ => true
  | _ => false
def dTup : PyData → Bool
  | .tuple _ => true
  | _ => false
section
variable {K : PySem.W.Frag} {H : Hp}
theorem isiD_bool : ∀ {v : V} {d : PyData}, Da H v d → Isi K H v "bool" false
  | _, .none, h => by rw [h.nonI]; exact isi_non
  | _, .int _, h => by rw [h.intI]; exact isi_int (b := false)
  | _, .str _, h => by rw [h.strI]; exact isi_str (b := false)
  | _, .tuple _, h => by
    obtain ⟨a, xs, rfl, e, _⟩ := h.tupI
    exact isi_tup (b := false) e
  | _, .bool _, h => by cases h
  | _, .list _, h => by cases h
  | _, .dict _, h => by cases h
theorem isiD_int : ∀ {v : V} {d : PyData}, Da H v d → Isi K H v "int" (dInt d)
  | _, .none, h => by rw [h.nonI]; exact isi_non
  | _, .int _, h => by rw [h.intI]; exact isi_int (b := true)
  | _, .str _, h => by rw [h.strI]; exact isi_str (b := false)
  | _, .tuple _, h => by
    obtain ⟨a, xs, rfl, e, _⟩ := h.tupI
    exact isi_tup (b := false) e
  | _, .bool _, h => by cases h
  | _, .list _, h => by cases h
  | _, .dict _, h => by cases h
theorem isiD_str : ∀ {v : V} {d : PyData}, Da H v d → Isi K H v "str" (dStr d)
  | _, .none, h => by rw [h.nonI]; exact isi_non
  | _, .int _, h => by rw [h.intI]; exact isi_int (b := false)
  | _, .str _, h => by rw [h.strI]; exact isi_str (b := true)
  | _, .tuple _, h => by
    obtain ⟨a, xs, rfl, e, _⟩ := h.tupI
    exact isi_tup (b := false) e
  | _, .bool _, h => by cases h
  | _, .list _, h => by cases h
  | _, .dict _, h => by cases h
theorem isiD_tup : ∀ {v : V} {d : PyData}, Da H v d → Isi K H v "tuple" (dTup d)
  | _, .none, h => by rw [h.nonI]; exact isi_non
  | _, .int _, h => by rw [h.intI]; exact isi_int (b := false)
  | _, .str _, h => by rw [h.strI]; exact isi_str (b := false)
  | _, .tuple _, h => by
    obtain ⟨a, xs, rfl, e, _⟩ := h.tupI
    exact isi_tup (b := true) e
  | _, .bool _, h => by cases h
  | _, .list _, h => by cases h
  | _, .dict _, h => by cases h
end
theorem dTup_pay (r : Res) : dTup (payM r) = r.stops := by
  cases r with
  | waits p => rfl
  | worth w => cases w <;> rfl
theorem nedd (b : Bool) : (!decide (V.bl b = V.bl b)) = false := by
  rw [decide_eq_true rfl]
  rfl
theorem eqdd (b : Bool) : decide (V.bl b = V.bl b) = true := decide_eq_true rfl
def S_same (K : PySem.W.Frag) : Sp := sp2 fun a b H Q => ∃ d, Da H a d ∧ Da H b d ∧ d.depth ≤ 64 ∧ Q (.bl true) H
def S_after : Sp := sp2 fun a b H Q => ∃ rs L, Da H a (.tuple (rs.map Itm.d)) ∧ Da H b (LK.d L) ∧ rs.length ≤ 100000 ∧ L.2.length ≤ 100000 ∧ ∀ v H', Fr [] H H' → Da H' v (LK.d (afterM rs L)) → Q v H'
def S_two : Sp := sp2 fun fm lk H Q => ∃ o g h A B p xs, Da H fm (Fm.two o g h).d ∧ lk = .ref p ∧ H p = some (.lst xs) ∧ DaL H xs [LK.d A, LK.d B] ∧ A.1.ok ∧ B.1.ok ∧ A.2.length ≤ 100000 ∧ B.2.length ≤ 100000 ∧ ∀ v H', Fr [] H H' → Da H' v (LK.d (twoM o A B)) → Q v H'
def S_ifl : Sp := sp1 fun lk H Q => ∃ A B C p xs, lk = .ref p ∧ H p = some (.lst xs) ∧ DaL H xs [LK.d A, LK.d B, LK.d C] ∧ A.2.length ≤ 100000 ∧ B.2.length ≤ 100000 ∧ C.2.length ≤ 100000 ∧ ∀ v H', Fr [] H H' → Da H' v (LK.d (ifM A B C)) → Q v H'
def S_elsel : Sp := sp1 fun lk H Q => ∃ A B p xs, lk = .ref p ∧ H p = some (.lst xs) ∧ DaL H xs [LK.d A, LK.d B] ∧ A.2.length ≤ 100000 ∧ B.2.length ≤ 100000 ∧ ∀ v H', Fr [] H H' → Da H' v (LK.d (elseM A B)) → Q v H'
section
variable {P : Program} {w : World} {K : PySem.W.Frag} {mg : Str → Option Value} {base : Heap}
theorem sc_law_same : FnScope ["one", "other"] ["one", "other"] (defScope s_law_same) := ⟨rfl, rfl, rfl, by decide +kernel, rfl, by decide +kernel, by decide +kernel⟩
theorem h_law_same (T : Txt K mg) : Has P w K mg base "_law_same" ["one", "other"] 1 (S_same K) := by
  obtain ⟨fd, F⟩ := T.f_law_same
  refine ⟨_, fd, T.g_law_same, F.kp, F.binds (ps := ["one", "other"]) (fun _ _ _ _ _ _ us hl => match us, hl with | [_, _], _ => rfl), F.ok sc_law_same (fun vs H Q E h => sp2_len h) (fun cdv A outer s H vs Q E hr h => ?_)⟩
  obtain ⟨v0, v1, rfl, h⟩ := sp2_inv h
  obtain ⟨d, ha, hb, hd, q⟩ := h
  refine ⟨_, (pss_cons (ps_if (PW.pt (pw_or (pt_val (isi (T := "bool") T.n_isinstance T.n_bool (pv 0))) (pw_or1 (pt_val (isi (T := "bool") T.n_isinstance T.n_bool (pv 1)))))) (pss_one (ps_ret pe_bl)) pss_nil)
      (pss_cons (ps_if (PW.pt (pw_or (pt_cmpR op_ne (isi (T := "int") T.n_isinstance T.n_int (pv 0)) (isi (T := "int") T.n_isinstance T.n_int (pv 1)) (nomark _)) (pw_or1 (pt_cmpR op_ne (isi (T := "str") T.n_isinstance T.n_str (pv 0)) (isi (T := "str") T.n_isinstance T.n_str (pv 1)) (nomark _))))) (pss_one (ps_ret pe_bl)) pss_nil)
      (pss_one (ps_ret (pe_and (pe_cmpR op_eq (isi (T := "tuple") T.n_isinstance T.n_tuple (pv 0)) (isi (T := "tuple") T.n_isinstance T.n_tuple (pv 1)) (nomark _)) (pe_one (pe_cmpR (op_eqP (hr.units)) (pv 0) (pv 1) (nomark _)))))))), ?_⟩
  refine ⟨_, rfl, _, isiD_bool ha, _, rfl, ⟨_, rfl, _, isiD_bool hb, _, rfl, ?_⟩⟩
  refine ⟨_, rfl, _, isiD_int ha, _, rfl, _, isiD_int hb, rfl, _, rfl, ?_⟩
  rw [nedd]
  refine ⟨_, rfl, _, isiD_str ha, _, rfl, _, isiD_str hb, rfl, _, rfl, ?_⟩
  rw [nedd]
  refine ⟨_, rfl, _, isiD_tup ha, _, rfl, _, isiD_tup hb, rfl, _, rfl, ?_⟩
  rw [eqdd]
  have pl := Da.plain _ _ ha
  refine ⟨_, rfl, _, rfl, d, d, Da.dp _ _ ha, Da.dp _ _ hb, pl, pl, by omega, ?_⟩
  rw [SeqAt.eqv_refl_plain d pl]
  exact q
theorem sc_law_after : FnScope ["first", "second", "reads", "item"] ["first", "second"] (defScope s_law_after) := ⟨rfl, rfl, rfl, by decide +kernel, rfl, by decide +kernel, by decide +kernel⟩
theorem h_law_after (T : Txt K mg) : Has P w K mg base "_law_after" ["first", "second"] 1 S_after := by
  obtain ⟨fd, F⟩ := T.f_law_after
  refine ⟨_, fd, T.g_law_after, F.kp, F.binds (ps := ["first", "second"]) (fun _ _ _ _ _ _ us hl => match us, hl with | [_, _], _ => rfl), F.ok sc_law_after (fun vs H Q E h => sp2_len h) (fun cdv A outer s H vs Q E hr h => ?_)⟩
  obtain ⟨v0, v1, rfl, h⟩ := sp2_inv h
  obtain ⟨rs, L, ha, hb, l1, l2, q⟩ := h
  obtain ⟨fa, fs, rfl, ef, df⟩ := ha.tupI
  obtain ⟨sa, pa, ta, ts, rfl, es, dp, et, dt⟩ := lk_tup hb
  refine ⟨_, (pss_cons (ps_set (i := 2) sc_law_after.nd rfl (Or.inl rfl) (pe_op op_cat (pe_callTy call_list_of (by rfl) T.n_list (by decide +kernel) (pa_cons (pv 0) pa_nil)) (pe_lc (tt := tTest (tOp (rNotInTP K) (tVar 3) (tVar 0))) (own := [("item", 3)]) (g := gName 3) rfl sc_law_after.nd (pi_tup (pe_ix ix_tup (pv 1) pe_int (fun _ _ => rfl))) (blkOk_by (N := ["first", "second", "reads", "item"]) (sc := defScope s_law_after) (by decide +kernel)) (fun _ _ _ _ _ => pg_name (i := 3) sc_law_after.nd rfl (Or.inl rfl)) (fun _ _ _ _ _ => (pts_one (pt_cmpR (op_notInTP (hr.units)) (pv 3) (pv 0) (by rfl)))) (fun _ _ _ _ _ => (pv 3)))))
      (pss_one (ps_ret (pe_tup (pa_cons (pe_ix ix_tup (pv 1) pe_int (fun _ _ => rfl)) (pa_cons (pe_ix ix_tup (pv 1) pe_int (fun _ _ => rfl)) (pa_cons (pe_callTy call_tuple_of (by rfl) T.n_tuple (by decide +kernel) (pa_cons (pv 2) pa_nil)) pa_nil))))))), ?_⟩
  have lfs := df.length
  have lts := dt.length
  rw [List.length_map] at lfs lts
  refine ⟨_, rfl, fa, fs, rfl, .inr (SqT.of ef), fun l hl => ?_⟩
  have f1 : Fr [] H (upd H l (.lst fs)) := Fr.refl.new hl
  refine ⟨_, rfl, _, _, _, _, rfl, rfl, SqT.of (f1.tup es), rfl, ta, rfl, ⟨_, SqT.of (f1.tup et)⟩, fun D hD => ?_⟩
  have hD0 : H D = none := f1.l D hD
  have nlD : l ≠ D := ne_of_none upd_same hD
  refine lc_tup (xs := ts) (fun i H' => ∃ acc, H' D = some (.lst acc) ∧ H' l = some (.lst fs) ∧ Fr [] H H' ∧ DaL H' acc (((L.2.take i).filter fun x => decide (x ∉ rs)).map Itm.d) ∧ acc.length ≤ i) ?_ ?_ ?_ ?_
  · exact ⟨[], upd_same, by rw [upd_ne nlD, upd_same], f1.new hD, .nil, Nat.le_refl _⟩
  · rintro i H' _ ⟨_, _, _, f, _⟩
    exact SqT.of (f.tup et)
  · rintro i x H2 hi ⟨acc, a1, a2, a3, a4, a5⟩
    obtain ⟨y, ey, dy⟩ := at_map (a3.dal dt) hi
    have hil : i < ts.length := (List.getElem?_eq_some_iff.mp hi).1
    have tk := take_snoc ey
    have df2 := a3.dal df
    refine ⟨rfl, _, rfl, _, rfl, y.d, rs.map Itm.d, Da.dp _ _ dy, .tup (SqT.of (a3.tup ef)) (DaL.dp _ _ df2), itm_plain y, DaL.plain _ _ df2, itm_depth y, _, rfl, ?_⟩
    rw [itm_any]
    by_cases c : y ∈ rs
    · rw [decide_eq_true c]
      refine ⟨acc, a1, a2, a3, ?_, by omega⟩
      rw [tk, List.filter_append, List.filter_cons, if_neg (by simpa using c)]
      show DaL H2 acc ((_ ++ []).map Itm.d)
      rw [List.append_nil]
      exact a4
    · rw [decide_eq_false c]
      have fD : Fr [D] H2 (upd H2 D (.lst (acc ++ [x]))) := Fr.refl.set (by simp) a1 (by intro _ z; cases z)
      refine ⟨_, rfl, acc, a1, Nat.lt_of_lt_of_le (show acc.length < 100001 by omega) (by decide), acc ++ [x], upd_same, by rw [upd_ne nlD]; exact a2, a3.mut hD0, ?_, by rw [List.length_append, List.length_singleton]; omega⟩
      rw [tk, List.filter_append, List.filter_cons, if_pos (by simpa using c), List.map_append]
      exact (fD.dal a4).append (.cons (fD.da dy) .nil)
  · rintro H2 ⟨acc, a1, a2, a3, a4, a5⟩
    rw [lts, List.take_length] at a4
    refine ⟨l, D, fs, acc, rfl, rfl, a2, a1, Nat.le_trans (show fs.length + acc.length ≤ 200000 by omega) (by decide), fun u hu => ?_⟩
    have f3 := a3.new (o := .lst (fs ++ acc)) hu
    have f23 : Fr [] H2 (upd H2 u (.lst (fs ++ acc))) := Fr.refl.new hu
    refine ⟨_, rfl, _, _, _, _, rfl, rfl, SqT.of (f3.tup es), rfl, _, rfl, _, _, _, _, rfl, rfl, SqT.of (f3.tup es), rfl, _, rfl, u, _, rfl, .inl ⟨SqL.of upd_same, fun t ht => ?_⟩⟩
    have f4 := f3.new (o := .tup (fs ++ acc)) ht
    have f24 := f23.new (o := .tup (fs ++ acc)) ht
    refine ⟨by show 3 ≤ sizeLine; decide, fun t2 ht2 => ?_⟩
    have f5 := f4.new (o := .tup [.str (tagM L.1), pa, .ref t]) ht2
    have f25 := f24.new (o := .tup [.str (tagM L.1), pa, .ref t]) ht2
    refine q _ _ f5 ?_
    rw [lk_d]
    show Da _ _ (.tuple [.str (tagM L.1), payM L.1, .tuple ((rs ++ L.2.filter fun x => decide (x ∉ rs)).map Itm.d)])
    rw [List.map_append]
    refine .tup upd_same (.cons (.str _) (.cons (f5.da dp) (.cons (.tup (xs := fs ++ acc) ?_ ((f5.dal df).append (f25.dal a4))) .nil)))
    rw [upd_ne (ne_of_none upd_same ht2), upd_same]
theorem tag_w (r : Res) : decide (V.str (tagM r) = V.str "waits") = r.isW := by
  cases r with
  | waits p => exact decide_eq_true rfl
  | worth w =>
    have h : ¬ ("worth" : Str) = "waits" := by decide +kernel
    exact decide_eq_false (ns h)
theorem items_da {H : Hp} {t : Addr} {xs : List V} {ds : List PyData} (e : H t = some (.tup xs)) (l : DaL H xs ds) : Da H (.ref t) (.tuple ds) := .tup e l
theorem sc_law_two : FnScope ["formula", "looks", "found"] ["formula", "looks"] (defScope s_law_two) := ⟨rfl, rfl, rfl, by decide +kernel, rfl, by decide +kernel, by decide +kernel⟩
theorem h_law_two (T : Txt K mg) : Has P w K mg base "_law_two" ["formula", "looks"] 5 S_two := by
  obtain ⟨fd, F⟩ := T.f_law_two
  refine ⟨_, fd, T.g_law_two, F.kp, F.binds (ps := ["formula", "looks"]) (fun _ _ _ _ _ _ us hl => match us, hl with | [_, _], _ => rfl), F.ok sc_law_two (fun vs H Q E h => sp2_len h) (fun cdv A outer s H vs Q E hr h => ?_)⟩
  obtain ⟨v0, v1, rfl, h⟩ := sp2_inv h
  obtain ⟨o, g, j, A, B, p, xs, hf, rfl, hp, hx, ok1, ok2, l1, l2, q⟩ := h
  obtain ⟨fa, fs, rfl, ef, lf⟩ := fm_tup hf
  obtain ⟨xa, xb, rfl, da, db⟩ := DaL.inv2 hx
  obtain ⟨a1, a2, a3, a4, rfl, ea, dpa, eta, dta⟩ := lk_tup da
  obtain ⟨b1, b2, b3, b4, rfl, eb, dpb, etb, dtb⟩ := lk_tup db
  refine ⟨_, (pss_cons (ps_if (PW.pt (pw_or (pt_cmpR op_eq (pe_ix ix_tup (pe_ix ix_list (pv 1) pe_int (fun _ _ => rfl)) pe_int (fun _ _ => rfl)) pe_str (nomark _)) (pw_or1 (pt_val (isi (T := "tuple") T.n_isinstance T.n_tuple (pe_ix ix_tup (pe_ix ix_list (pv 1) pe_int (fun _ _ => rfl)) pe_int (fun _ _ => rfl))))))) (pss_one (ps_ret (pe_ix ix_list (pv 1) pe_int (fun _ _ => rfl)))) pss_nil)
      (pss_cons (ps_set (i := 2) sc_law_two.nd rfl (Or.inl rfl) (cl (h_law_after T) (hr.mono (by omega)) (pa_cons (pe_ix ix_tup (pe_ix ix_list (pv 1) pe_int (fun _ _ => rfl)) pe_int (fun _ _ => rfl)) (pa_cons (pe_ix ix_list (pv 1) pe_int (fun _ _ => rfl)) pa_nil))))
      (pss_cons (ps_if (pt_cmpR op_eq (pe_ix ix_tup (pv 2) pe_int (fun _ _ => rfl)) pe_str (nomark _)) (pss_one (ps_ret (pv 2))) pss_nil)
      (pss_one (ps_ret (pe_tup (pa_cons pe_str (pa_cons (cl (h_paired T) (hr.mono (by omega)) (pa_cons (pe_ix ix_tup (pv 0) pe_int (fun _ _ => rfl)) (pa_cons (pe_ix ix_tup (pe_ix ix_list (pv 1) pe_int (fun _ _ => rfl)) pe_int (fun _ _ => rfl)) (pa_cons (pe_ix ix_tup (pe_ix ix_list (pv 1) pe_int (fun _ _ => rfl)) pe_int (fun _ _ => rfl)) pa_nil)))) (pa_cons (pe_ix ix_tup (pv 2) pe_int (fun _ _ => rfl)) pa_nil))))))))), ?_⟩
  refine ⟨_, rfl, _, _, _, _, rfl, rfl, SqL.of hp, rfl, _, _, _, _, rfl, rfl, SqT.of ea, rfl, rfl, _, rfl, ?_⟩
  rw [tag_w]
  have back : ∀ C : LK, twoM o A B = A → tRet (tOp (rIxL K) (tVar 1) (tC (.int 0))) { nx := fun _ H' => Q .non H', rt := Q } [some (.ref fa), some (.ref p), none] H := fun _ e => by
    refine ⟨_, rfl, _, _, _, _, rfl, rfl, SqL.of hp, rfl, q _ H Fr.refl ?_⟩
    rw [e]
    exact da
  by_cases st : A.1.stops = true
  · have e : twoM o A B = A := if_pos st
    cases c : A.1.isW with
    | true => exact back A e
    | false =>
      refine ⟨_, rfl, _, _, _, _, rfl, rfl, SqL.of hp, rfl, _, _, _, _, rfl, rfl, SqT.of ea, rfl, _, isiD_tup dpa, _, rfl, ?_⟩
      rw [dTup_pay, st]
      exact back A e
  have st' := Bool.eq_false_iff.mpr st
  obtain ⟨y, ey, yf⟩ := go_of st
  have cW : A.1.isW = false := by rw [ey]; rfl
  rw [cW]
  refine ⟨_, rfl, _, _, _, _, rfl, rfl, SqL.of hp, rfl, _, _, _, _, rfl, rfl, SqT.of ea, rfl, _, isiD_tup dpa, _, rfl, ?_⟩
  rw [dTup_pay, st']
  have dy : Da H a2 y.d := by
    rw [ey] at dpa
    exact dpa
  have yo : y.ok := by
    rw [ey] at ok1
    exact ok1
  have e0 : twoM o A B = match (afterM A.2 B).1 with
      | .waits _ => afterM A.2 B
      | .worth u => (.worth (pairedM o y u), (afterM A.2 B).2) := by
    unfold twoM
    rw [st', ey]
    rfl
  rw [e0] at q
  refine ⟨_, rfl, _, _, _, _, rfl, rfl, SqL.of hp, rfl, _, _, _, _, rfl, rfl, SqT.of ea, rfl, _, rfl, _, _, _, _, rfl, rfl, SqL.of hp, rfl, A.2, B, items_da eta dta, db, l1, l2, fun v H1 f1 dv => ?_⟩
  obtain ⟨v1, v2, v3, v4, rfl, ev, dpv, etv, dtv⟩ := lk_tup dv
  refine ⟨_, rfl, _, _, _, _, rfl, rfl, SqT.of ev, rfl, rfl, _, rfl, ?_⟩
  rw [tag_w]
  have hp1 : H1 p = some (.lst [.ref a1, .ref b1]) := f1.k _ _ hp (by simp)
  cases c : (afterM A.2 B).1 with
  | waits z =>
    rw [c] at q
    exact ⟨_, rfl, q _ H1 f1 dv⟩
  | worth u =>
    rw [c] at q
    have cb : B.1 = .worth u := c
    rw [cb] at dpb ok2
    have db2 : Da H1 b2 u.d := f1.da dpb
    refine ⟨_, rfl, _, _, _, _, rfl, rfl, SqT.of (f1.tup ef), atI_0, _, rfl, _, _, _, _, rfl, rfl, SqL.of hp1, rfl, _, _, _, _, rfl, rfl, SqT.of (f1.tup ea), rfl, _, rfl, _, _, _, _, rfl, rfl, SqL.of hp1, rfl, _, _, _, _, rfl, rfl, SqT.of (f1.tup eb), rfl, o, y, u, rfl, ⟨f1.da dy, yo⟩, ⟨db2, ok2⟩, fun r H2 f2 dr => ?_⟩
    have etv2 := f2.tup etv
    refine ⟨_, rfl, _, _, _, _, rfl, rfl, SqT.of (f2.tup ev), rfl, by show 3 ≤ sizeLine; decide, fun t ht => ?_⟩
    have f3 : Fr [] H2 (upd H2 t (.tup [.str "worth", r, .ref v3])) := Fr.refl.new ht
    refine q _ _ ((f1.trans f2).trans f3) ?_
    exact .tup upd_same (.cons (.str _) (.cons (f3.da dr) (.cons (f3.da (f2.da (items_da etv dtv))) .nil)))
theorem sc_law_if : FnScope ["looks", "worth"] ["looks"] (defScope s_law_if) := ⟨rfl, rfl, rfl, by decide +kernel, rfl, by decide +kernel, by decide +kernel⟩
theorem h_law_if (T : Txt K mg) : Has P w K mg base "_law_if" ["looks"] 2 S_ifl := by
  obtain ⟨fd, F⟩ := T.f_law_if
  refine ⟨_, fd, T.g_law_if, F.kp, F.binds (ps := ["looks"]) (fun _ _ _ _ _ _ us hl => match us, hl with | [_], _ => rfl), F.ok sc_law_if (fun vs H Q E h => sp1_len h) (fun cdv A outer s H vs Q E hr h => ?_)⟩
  obtain ⟨v0, rfl, h⟩ := sp1_inv h
  obtain ⟨A, B, C, p, xs, rfl, hp, hx, l1, l2, l3, q⟩ := h
  obtain ⟨xa, xb, xc, rfl, da, db, dc⟩ := DaL.inv3 hx
  obtain ⟨a1, a2, a3, a4, rfl, ea, dpa, eta, dta⟩ := lk_tup da
  refine ⟨_, (pss_cons (ps_set (i := 1) sc_law_if.nd rfl (Or.inl rfl) (pe_ix ix_tup (pe_ix ix_list (pv 0) pe_int (fun _ _ => rfl)) pe_int (fun _ _ => rfl)))
      (pss_cons (ps_if (PW.pt (pw_or (pt_cmpR op_eq (pe_ix ix_tup (pe_ix ix_list (pv 0) pe_int (fun _ _ => rfl)) pe_int (fun _ _ => rfl)) pe_str (nomark _)) (pw_or1 (pt_val (isi (T := "tuple") T.n_isinstance T.n_tuple (pv 1)))))) (pss_one (ps_ret (pe_ix ix_list (pv 0) pe_int (fun _ _ => rfl)))) pss_nil)
      (pss_cons (ps_if (pt_val (isi (T := "str") T.n_isinstance T.n_str (pv 1))) (pss_one (ps_ret (pe_tup (pa_cons pe_str (pa_cons (pe_tup (pa_cons pe_str (pa_cons pe_str pa_nil))) (pa_cons (pe_ix ix_tup (pe_ix ix_list (pv 0) pe_int (fun _ _ => rfl)) pe_int (fun _ _ => rfl)) pa_nil)))))) pss_nil)
      (pss_cons (ps_if (PW.pt (pw_or (pt_cmpR op_isN (pv 1) pe_non (nomark _)) (pw_or1 (pt_cmpR op_eq (pv 1) pe_int (nomark _))))) (pss_one (ps_ret (cl (h_law_after T) (hr.mono (by omega)) (pa_cons (pe_ix ix_tup (pe_ix ix_list (pv 0) pe_int (fun _ _ => rfl)) pe_int (fun _ _ => rfl)) (pa_cons (pe_ix ix_list (pv 0) pe_int (fun _ _ => rfl)) pa_nil))))) pss_nil)
      (pss_one (ps_ret (cl (h_law_after T) (hr.mono (by omega)) (pa_cons (pe_ix ix_tup (pe_ix ix_list (pv 0) pe_int (fun _ _ => rfl)) pe_int (fun _ _ => rfl)) (pa_cons (pe_ix ix_list (pv 0) pe_int (fun _ _ => rfl)) pa_nil))))))))), ?_⟩
  refine ⟨_, rfl, _, _, _, _, rfl, rfl, SqL.of hp, rfl, _, _, _, _, rfl, rfl, SqT.of ea, rfl, ?_⟩
  refine ⟨_, rfl, _, _, _, _, rfl, rfl, SqL.of hp, rfl, _, _, _, _, rfl, rfl, SqT.of ea, rfl, rfl, _, rfl, ?_⟩
  rw [tag_w]
  have back : ifM A B C = A → tRet (tOp (rIxL K) (tVar 0) (tC (.int 0))) { nx := fun _ H' => Q .non H', rt := Q } [some (.ref p), some a2] H := fun e => by
    refine ⟨_, rfl, _, _, _, _, rfl, rfl, SqL.of hp, rfl, q _ H Fr.refl ?_⟩
    rw [e]
    exact da
  by_cases st : A.1.stops = true
  · have e : ifM A B C = A := if_pos st
    cases c : A.1.isW with
    | true => exact back e
    | false =>
      refine ⟨_, rfl, _, isiD_tup dpa, _, rfl, ?_⟩
      rw [dTup_pay, st]
      exact back e
  have st' := Bool.eq_false_iff.mpr st
  obtain ⟨y, ey, yf⟩ := go_of st
  have cW : A.1.isW = false := by rw [ey]; rfl
  rw [cW]
  refine ⟨_, rfl, _, isiD_tup dpa, _, rfl, ?_⟩
  rw [dTup_pay, st']
  have dy : Da H a2 y.d := by
    rw [ey] at dpa
    exact dpa
  have e0 : ifM A B C = if y.isT then (.worth (.flt "kind"), A.2) else if y.num = 0 then afterM A.2 C else afterM A.2 B := by
    unfold ifM
    rw [st', ey]
    rfl
  rw [e0] at q
  refine ⟨_, rfl, _, isiS dy, _, rfl, ?_⟩
  by_cases t : y.isT = true
  · rw [if_pos t] at q
    refine ifb t ⟨by show 2 ≤ sizeLine; decide, fun u hu => ?_⟩
    have f1 : Fr [] H (upd H u (.tup [.str "fault", .str "kind"])) := Fr.refl.new hu
    have hp1 : (upd H u (.tup [.str "fault", .str "kind"])) p = some (.lst [.ref a1, xb, xc]) := f1.k _ _ hp (by simp)
    refine ⟨_, rfl, _, _, _, _, rfl, rfl, SqL.of hp1, rfl, _, _, _, _, rfl, rfl, SqT.of (f1.tup ea), rfl, by show 3 ≤ sizeLine; decide, fun v hv => ?_⟩
    have f2 := f1.new (o := .tup [.str "worth", .ref u, .ref a3]) hv
    refine q _ _ f2 (.tup upd_same (.cons (.str _) (.cons (.tup ?_ (.cons (.str _) (.cons (.str _) .nil))) (.cons (f2.da (items_da eta dta)) .nil))))
    rw [upd_ne (ne_of_none upd_same hv), upd_same]
  have t' := Bool.eq_false_iff.mpr t
  rw [if_neg t] at q
  refine ifbn t' ?_
  rcases wo_num dy yf t' with ⟨rfl, rfl⟩ | ⟨e, e2⟩
  · rw [if_pos (show Wo.non.num = 0 from rfl)] at q
    exact ⟨_, rfl, rfl, _, rfl, _, rfl, _, _, _, _, rfl, rfl, SqL.of hp, rfl, _, _, _, _, rfl, rfl, SqT.of ea, rfl, _, rfl, _, _, _, _, rfl, rfl, SqL.of hp, rfl, A.2, C, items_da eta dta, dc, l1, l3, q⟩
  · subst e
    refine ⟨_, rfl, rfl, _, rfl, ⟨_, rfl, rfl, _, rfl, ?_⟩⟩
    by_cases z : y.num = 0
    · rw [if_pos z] at q
      refine ifd (by rw [z]) ?_
      exact ⟨_, rfl, _, _, _, _, rfl, rfl, SqL.of hp, rfl, _, _, _, _, rfl, rfl, SqT.of ea, rfl, _, rfl, _, _, _, _, rfl, rfl, SqL.of hp, rfl, A.2, C, items_da eta dta, dc, l1, l3, q⟩
    · rw [if_neg z] at q
      refine ifn (fun h => z (V.int.inj h)) ?_
      exact ⟨_, rfl, _, _, _, _, rfl, rfl, SqL.of hp, rfl, _, _, _, _, rfl, rfl, SqT.of ea, rfl, _, rfl, _, _, _, _, rfl, rfl, SqL.of hp, rfl, A.2, B, items_da eta dta, db, l1, l2, q⟩
theorem sc_law_else : FnScope ["looks"] ["looks"] (defScope s_law_else) := ⟨rfl, rfl, rfl, by decide +kernel, rfl, by decide +kernel, by decide +kernel⟩
theorem h_law_else (T : Txt K mg) : Has P w K mg base "_law_else" ["looks"] 2 S_elsel := by
  obtain ⟨fd, F⟩ := T.f_law_else
  refine ⟨_, fd, T.g_law_else, F.kp, F.binds (ps := ["looks"]) (fun _ _ _ _ _ _ us hl => match us, hl with | [_], _ => rfl), F.ok sc_law_else (fun vs H Q E h => sp1_len h) (fun cdv A outer s H vs Q E hr h => ?_)⟩
  obtain ⟨v0, rfl, h⟩ := sp1_inv h
  obtain ⟨A, B, p, xs, rfl, hp, hx, l1, l2, q⟩ := h
  obtain ⟨xa, xb, rfl, da, db⟩ := DaL.inv2 hx
  obtain ⟨a1, a2, a3, a4, rfl, ea, dpa, eta, dta⟩ := lk_tup da
  refine ⟨_, (pss_cons (ps_if (PW.pt (pw_or (pt_cmpR op_eq (pe_ix ix_tup (pe_ix ix_list (pv 0) pe_int (fun _ _ => rfl)) pe_int (fun _ _ => rfl)) pe_str (nomark _)) (pw_or1 (pt_not (pt_val (isi (T := "tuple") T.n_isinstance T.n_tuple (pe_ix ix_tup (pe_ix ix_list (pv 0) pe_int (fun _ _ => rfl)) pe_int (fun _ _ => rfl)))))))) (pss_one (ps_ret (pe_ix ix_list (pv 0) pe_int (fun _ _ => rfl)))) pss_nil)
      (pss_one (ps_ret (cl (h_law_after T) (hr.mono (by omega)) (pa_cons (pe_ix ix_tup (pe_ix ix_list (pv 0) pe_int (fun _ _ => rfl)) pe_int (fun _ _ => rfl)) (pa_cons (pe_ix ix_list (pv 0) pe_int (fun _ _ => rfl)) pa_nil)))))), ?_⟩
  refine ⟨_, rfl, _, _, _, _, rfl, rfl, SqL.of hp, rfl, _, _, _, _, rfl, rfl, SqT.of ea, rfl, rfl, _, rfl, ?_⟩
  rw [tag_w]
  have back : elseM A B = A → tRet (tOp (rIxL K) (tVar 0) (tC (.int 0))) { nx := fun _ H' => Q .non H', rt := Q } [some (.ref p)] H := fun e => by
    refine ⟨_, rfl, _, _, _, _, rfl, rfl, SqL.of hp, rfl, q _ H Fr.refl ?_⟩
    rw [e]
    exact da
  cases c : A.1 with
  | waits z =>
    refine back ?_
    unfold elseM
    rw [c]
  | worth y =>
    have dy : Da H a2 y.d := by
      rw [c] at dpa
      exact dpa
    refine ⟨_, rfl, _, _, _, _, rfl, rfl, SqL.of hp, rfl, _, _, _, _, rfl, rfl, SqT.of ea, rfl, _, isiT dy, _, rfl, ?_⟩
    have e0 : elseM A B = if y.isF then afterM A.2 B else A := by
      unfold elseM
      rw [c]
    by_cases f : y.isF = true
    · rw [e0, if_pos f] at q
      rw [f]
      exact ⟨_, rfl, _, _, _, _, rfl, rfl, SqL.of hp, rfl, _, _, _, _, rfl, rfl, SqT.of ea, rfl, _, rfl, _, _, _, _, rfl, rfl, SqL.of hp, rfl, A.2, B, items_da eta dta, db, l1, l2, q⟩
    · rw [Bool.eq_false_iff.mpr f]
      exact back (by rw [e0, if_neg f])
end
end OL
namespace OL
open PySem PySem.Spec PyProof.Rows L2

theorem nst (a b : Str) (h : ¬ a = b) : (!decide (V.str a = V.str b)) = true := by
  rw [decide_eq_false (ns h)]
  rfl
theorem inLst {K : PySem.W.Frag} {H : Hp} {a : Addr} {w : Str} (l : List Str) {Q : VK} (h : SqL K H a (l.map V.str)) (q : Q (.bl (decide (w ∈ l))) H) : rIn K false (.str w) (.ref a) H Q := by
  refine ⟨a, _, rfl, .inl h, rfl, flatStr l, ?_⟩
  show Q (.bl (inV (.str w) (l.map V.str))) H
  rw [inStr]
  exact q
def lws : List Str := ["num", "text", "lost", "at"]
def Fm.leafL : Fm → Prop
  | .num _ => True
  | .text _ => True
  | .lost => True
  | .at _ _ => True
  | _ => False
def S_leafl : Sp := sp3 fun fm a b H Q => ∃ k wd wl f, Da H fm (Fm.d f) ∧ f.leafL ∧ a = .ref wd ∧ b = .ref wl ∧ Known k H wd wl ∧ ∀ v H', Fr [] H H' → Da H' v (LK.d (lookM k f [])) → Q v H'
def S_due (n : Nat) : Sp := sp3 fun fm a b H Q => ∃ k wd wl f, Da H fm (Fm.d f) ∧ f.ok n ∧ f.cost < 100000 ∧ (∀ w a ps, f ≠ .gat w a ps) ∧ (∀ g a ps, f ≠ .find g a ps) ∧ a = .ref wd ∧ b = .ref wl ∧ Known k H wd wl ∧ ∀ v H', Fr [] H H' → Da H' v (LK.d (lookM k f [])) → Q v H'
section
variable {P : Program} {w : World} {K : PySem.W.Frag} {mg : Str → Option Value} {base : Heap}
theorem sc_law_leaf_look : FnScope ["formula", "worths", "waiting", "item"] ["formula", "worths", "waiting"] (defScope s_law_leaf_look) := ⟨rfl, rfl, rfl, by decide +kernel, rfl, by decide +kernel, by decide +kernel⟩
theorem h_law_leaf_look (T : Txt K mg) : Has P w K mg base "_law_leaf_look" ["formula", "worths", "waiting"] 1 S_leafl := by
  obtain ⟨fd, F⟩ := T.f_law_leaf_look
  refine ⟨_, fd, T.g_law_leaf_look, F.kp, F.binds (ps := ["formula", "worths", "waiting"]) (fun _ _ _ _ _ _ us hl => match us, hl with | [_, _, _], _ => rfl), F.ok sc_law_leaf_look (fun vs H Q E h => sp3_len h) (fun cdv A outer s H vs Q E hr h => ?_)⟩
  obtain ⟨v0, v1, v2, rfl, h⟩ := sp3_inv h
  obtain ⟨k, wd, wl, f, hf, hleaf, rfl, rfl, kn, q⟩ := h
  obtain ⟨fa, xs, rfl, ef, l⟩ := fm_tup hf
  refine ⟨_, (pss_cons (ps_if (pt_cmpR op_eq (pe_ix ix_tup (pv 0) pe_int (fun _ _ => rfl)) pe_str (nomark _)) (pss_one (ps_ret (pe_tup (pa_cons pe_str (pa_cons (pe_tup (pa_cons pe_str (pa_cons pe_str pa_nil))) (pa_cons (pe_tup pa_nil) pa_nil)))))) pss_nil)
      (pss_cons (ps_if (pt_cmpR op_ne (pe_ix ix_tup (pv 0) pe_int (fun _ _ => rfl)) pe_str (nomark _)) (pss_one (ps_ret (pe_tup (pa_cons pe_str (pa_cons (pe_ix ix_tup (pv 0) pe_int (fun _ _ => rfl)) (pa_cons (pe_tup pa_nil) pa_nil)))))) pss_nil)
      (pss_cons (ps_set (i := 3) sc_law_leaf_look.nd rfl (Or.inl rfl) (pe_tup (pa_cons pe_str (pa_cons (pe_ix ix_tup (pv 0) pe_int (fun _ _ => rfl)) pa_nil))))
      (pss_cons (ps_if (pt_cmpR (op_inLP (hr.units)) (pe_ix ix_tup (pv 0) pe_int (fun _ _ => rfl)) (pv 2) (by rfl)) (pss_one (ps_ret (pe_tup (pa_cons pe_str (pa_cons (pe_ix ix_tup (pv 0) pe_int (fun _ _ => rfl)) (pa_cons (pe_tup (pa_cons (pv 3) pa_nil)) pa_nil)))))) pss_nil)
      (pss_one (ps_ret (pe_tup (pa_cons pe_str (pa_cons (pe_dget2 (hu_of hr) (pv 1) (pe_ix ix_tup (pv 0) pe_int (fun _ _ => rfl)) pe_non ⟨rfl, rfl, rfl, rfl⟩) (pa_cons (pe_tup (pa_cons (pv 3) pa_nil)) pa_nil)))))))))), ?_⟩
  refine ⟨_, rfl, _, _, _, _, rfl, rfl, SqT.of ef, atI_0, rfl, _, rfl, ?_⟩
  cases f with
  | num i =>
    obtain ⟨x1, rfl, d1⟩ := DaL.inv1 l
    refine ifn (ns (by show ¬ ("num" : Str) = "lost"; decide +kernel)) ⟨_, rfl, _, _, _, _, rfl, rfl, SqT.of ef, atI_0, rfl, _, rfl, ?_⟩
    refine ifb (nst _ _ (by show ¬ ("num" : Str) = "at"; decide +kernel)) ⟨_, rfl, _, _, _, _, rfl, rfl, SqT.of ef, rfl, by show 0 ≤ sizeLine; decide, fun e he => ⟨by show 3 ≤ sizeLine; decide, fun t ht => ?_⟩⟩
    have f2 := (Fr.refl (M := []) (H := H)).new (o := .tup []) he
    have f3 := f2.new (o := .tup [.str "worth", x1, .ref e]) ht
    refine q _ _ f3 (.tup upd_same (.cons (.str _) (.cons (f3.da d1) (.cons (.tup ?_ .nil) .nil))))
    rw [upd_ne (ne_of_none upd_same ht), upd_same]
  | text i =>
    obtain ⟨x1, rfl, d1⟩ := DaL.inv1 l
    refine ifn (ns (by show ¬ ("text" : Str) = "lost"; decide +kernel)) ⟨_, rfl, _, _, _, _, rfl, rfl, SqT.of ef, atI_0, rfl, _, rfl, ?_⟩
    refine ifb (nst _ _ (by show ¬ ("text" : Str) = "at"; decide +kernel)) ⟨_, rfl, _, _, _, _, rfl, rfl, SqT.of ef, rfl, by show 0 ≤ sizeLine; decide, fun e he => ⟨by show 3 ≤ sizeLine; decide, fun t ht => ?_⟩⟩
    have f2 := (Fr.refl (M := []) (H := H)).new (o := .tup []) he
    have f3 := f2.new (o := .tup [.str "worth", x1, .ref e]) ht
    refine q _ _ f3 (.tup upd_same (.cons (.str _) (.cons (f3.da d1) (.cons (.tup ?_ .nil) .nil))))
    rw [upd_ne (ne_of_none upd_same ht), upd_same]
  | lost =>
    refine ifd rfl ⟨by show 2 ≤ sizeLine; decide, fun u hu => ⟨by show 0 ≤ sizeLine; decide, fun e he => ⟨by show 3 ≤ sizeLine; decide, fun t ht => ?_⟩⟩⟩
    have f1 := (Fr.refl (M := []) (H := H)).new (o := .tup [.str "fault", .str "lost"]) hu
    have f2 := f1.new (o := .tup []) he
    have f3 := f2.new (o := .tup [.str "worth", .ref u, .ref e]) ht
    refine q _ _ f3 (.tup upd_same (.cons (.str _) (.cons (.tup ?_ (.cons (.str _) (.cons (.str _) .nil))) (.cons (.tup ?_ .nil) .nil))))
    · rw [upd_ne (ne_of_none (by rw [upd_ne (ne_of_none upd_same he), upd_same]) ht), upd_ne (ne_of_none upd_same he), upd_same]
    · rw [upd_ne (ne_of_none upd_same ht), upd_same]
  | «at» p ps =>
    obtain ⟨x1, x2, rfl, d1, d2⟩ := DaL.inv2 l
    refine ifn (ns (by show ¬ ("at" : Str) = "lost"; decide +kernel)) ⟨_, rfl, _, _, _, _, rfl, rfl, SqT.of ef, atI_0, rfl, _, rfl, ?_⟩
    have e0 : (!decide (V.str (Fm.at p ps).word = V.str "at")) = false := by
      show (!decide (V.str "at" = V.str "at")) = false
      rw [decide_eq_true rfl]
      rfl
    refine ifbn e0 ⟨_, rfl, _, _, _, _, rfl, rfl, SqT.of ef, rfl, by show 2 ≤ sizeLine; decide, fun it hit => ?_⟩
    have f1 := (Fr.refl (M := []) (H := H)).new (o := .tup [.str "at", x1]) hit
    have d1' := f1.da d1
    have dit : Da (upd H it (.tup [.str "at", x1])) (.ref it) (Itm.cell p).d := .tup upd_same (.cons (.str _) (.cons d1' .nil))
    have kn1 := kn.fr f1 (by simp) (by simp)
    obtain ⟨⟨kvs, k1, k2⟩, ⟨ys, qs, k3, k4, k5⟩⟩ := id kn1
    refine ⟨_, rfl, _, _, _, _, rfl, rfl, SqT.of (f1.tup ef), rfl, _, rfl, plD p, qs.map plD, Da.dp _ _ d1', .lst (SqL.of k3) (DaL.dp _ _ k4), pl_plain p, DaL.plain _ _ k4, pl_depth p, _, rfl, ?_⟩
    rw [pl_any]
    have en : OL.note (Itm.cell p) [] = [Itm.cell p] := by simp [OL.note]
    by_cases h : p ∈ qs
    · rw [decide_eq_true h]
      have e : lookM k (.at p ps) [] = (.waits p, [Itm.cell p]) := by
        show (k.seen p, OL.note (Itm.cell p) []) = _
        rw [en, Kn.seen, k5, decide_eq_true h]
        rfl
      rw [e] at q
      refine ⟨_, rfl, _, _, _, _, rfl, rfl, SqT.of (f1.tup ef), rfl, _, rfl, by show 1 ≤ sizeLine; decide, fun u hu => ⟨by show 3 ≤ sizeLine; decide, fun t ht => ?_⟩⟩
      have g1 := (Fr.refl (M := []) (H := upd H it (.tup [.str "at", x1]))).new (o := .tup [.ref it]) hu
      have g2 := g1.new (o := .tup [.str "waits", x1, .ref u]) ht
      refine q _ _ (f1.trans g2) (.tup upd_same (.cons (.str _) (.cons (g2.da d1') (.cons (.tup ?_ (.cons (g2.da dit) .nil)) .nil))))
      rw [upd_ne (ne_of_none upd_same ht), upd_same]
    · rw [decide_eq_false h]
      have e : lookM k (.at p ps) [] = (.worth (k.wv p), [Itm.cell p]) := by
        show (k.seen p, OL.note (Itm.cell p) []) = _
        rw [en, Kn.seen, k5, decide_eq_false h]
        rfl
      rw [e] at q
      obtain ⟨a, rfl, ea⟩ := pl_tup d1'
      refine ⟨_, rfl, wd, rfl, .inr ⟨kvs, .inl k1⟩, _, rfl, _, _, _, _, rfl, rfl, SqT.of (f1.tup ef), rfl, _, DGet.t (k := kyP p) k1 ea, ?_⟩
      have dv := k2 p
      refine ⟨_, rfl, by show 1 ≤ sizeLine; decide, fun u hu => ⟨by show 3 ≤ sizeLine; decide, fun t ht => ?_⟩⟩
      have g1 := (Fr.refl (M := []) (H := upd H it (.tup [.str "at", .ref a]))).new (o := .tup [.ref it]) hu
      have g2 := g1.new (o := .tup [.str "worth", (valV kvs (kyP p)).getD .non, .ref u]) ht
      refine q _ _ (f1.trans g2) (.tup upd_same (.cons (.str _) (.cons (g2.da dv) (.cons (.tup ?_ (.cons (g2.da dit) .nil)) .nil))))
      rw [upd_ne (ne_of_none upd_same ht), upd_same]
  | gat o a ps => exact hleaf.elim
  | one o g => exact hleaf.elim
  | find g a ps => exact hleaf.elim
  | ite a b c => exact hleaf.elim
  | els a b => exact hleaf.elim
  | two o a b => exact hleaf.elim
theorem cost_part {f : Fm} : ∀ g ∈ f.parts, g.cost ≤ f.cost := by
  intro g hg
  cases f with
  | num i => cases hg
  | text s => cases hg
  | lost => cases hg
  | «at» p ps => cases hg
  | gat w a ps => cases hg
  | one w f =>
    simp only [Fm.parts, List.mem_cons, List.not_mem_nil, or_false] at hg
    rw [hg]
    exact Nat.le_refl _
  | find f a ps =>
    simp only [Fm.parts, List.mem_cons, List.not_mem_nil, or_false] at hg
    rw [hg]
    simp only [Fm.cost]
    omega
  | ite f a b =>
    simp only [Fm.parts, List.mem_cons, List.not_mem_nil, or_false] at hg
    simp only [Fm.cost]
    rcases hg with rfl | rfl | rfl <;> omega
  | els f a =>
    simp only [Fm.parts, List.mem_cons, List.not_mem_nil, or_false] at hg
    simp only [Fm.cost]
    rcases hg with rfl | rfl <;> omega
  | two w f a =>
    simp only [Fm.parts, List.mem_cons, List.not_mem_nil, or_false] at hg
    simp only [Fm.cost]
    rcases hg with rfl | rfl <;> omega
theorem look_len (k : Kn) {f : Fm} (h : f.cost < 100000) : (lookM k f []).2.length ≤ 100000 := by
  have := lookM_len k f []
  simp at this
  omega
theorem sc_law_due : FnScope ["formula", "worths", "waiting", "looks", "part"] ["formula", "worths", "waiting"] (defScope s_law_due) := ⟨rfl, rfl, rfl, by decide +kernel, rfl, by decide +kernel, by decide +kernel⟩
theorem h_law_due (T : Txt K mg) {n : Nat} : Has P w K mg base "_law_due" ["formula", "worths", "waiting"] (lv n + 2) (S_due n) := by
  obtain ⟨fd, F⟩ := T.f_law_due
  refine ⟨_, fd, T.g_law_due, F.kp, F.binds (ps := ["formula", "worths", "waiting"]) (fun _ _ _ _ _ _ us hl => match us, hl with | [_, _, _], _ => rfl), F.ok sc_law_due (fun vs H Q E h => sp3_len h) (fun cdv A outer s H vs Q E hr h => ?_)⟩
  obtain ⟨v0, v1, v2, rfl, h⟩ := sp3_inv h
  obtain ⟨k, wd, wl, f, hf, ho, hcst, ng, nf, rfl, rfl, kn, q⟩ := h
  have hLook : Has P w K mg base "look_at" ["formula", "worths", "waiting"] (lv n + 1) (S_look_at n) := h_look_at T
  have h8 := lv_ge n
  refine ⟨_, (pss_cons (ps_setLc (i := 3) rfl sc_law_due.nd rfl rfl (sw_true rfl rfl rfl (by decide +kernel)) (own := [("part", 4)]) (g := gName 4) (pi_list (cl (h_law_parts T) (hr.mono (by omega)) (pa_cons (pv 0) pa_nil))) (blkOk_by (N := ["formula", "worths", "waiting", "looks", "part"]) (sc := defScope s_law_due) (by decide +kernel)) (fun _ _ _ _ _ => pg_name (i := 4) sc_law_due.nd rfl (Or.inl rfl)) (fun _ _ _ _ _ => pts_nil) (fun _ _ _ _ _ => (cl hLook (hr.mono (by omega)) (pa_cons (pv 4) (pa_cons (pv 1) (pa_cons (pv 2) pa_nil))))))
      (pss_cons (ps_if (pt_cmpR op_in_seq (pe_ix ix_tup (pv 0) pe_int (fun _ _ => rfl)) (pe_lst (pa_cons pe_str (pa_cons pe_str (pa_cons pe_str (pa_cons pe_str pa_nil))))) (by rfl)) (pss_one (ps_ret (cl (h_law_leaf_look T) (hr.mono (by omega)) (pa_cons (pv 0) (pa_cons (pv 1) (pa_cons (pv 2) pa_nil)))))) pss_nil)
      (pss_cons (ps_if (pt_cmpR op_eq (pe_ix ix_tup (pv 0) pe_int (fun _ _ => rfl)) pe_str (nomark _)) (pss_one (ps_ret (cl (h_law_if T) (hr.mono (by omega)) (pa_cons (pv 3) pa_nil)))) pss_nil)
      (pss_cons (ps_if (pt_cmpR op_eq (pe_ix ix_tup (pv 0) pe_int (fun _ _ => rfl)) pe_str (nomark _)) (pss_one (ps_ret (cl (h_law_else T) (hr.mono (by omega)) (pa_cons (pv 3) pa_nil)))) pss_nil)
      (pss_cons (ps_if (pt_cmpR op_in_seq (pe_ix ix_tup (pv 0) pe_int (fun _ _ => rfl)) (pe_lst (pa_cons pe_str (pa_cons pe_str pa_nil))) (by rfl)) (pss_cons (ps_if (pt_cmpR op_eq (pe_ix ix_tup (pe_ix ix_list (pv 3) pe_int (fun _ _ => rfl)) pe_int (fun _ _ => rfl)) pe_str (nomark _)) (pss_one (ps_ret (pe_ix ix_list (pv 3) pe_int (fun _ _ => rfl)))) pss_nil)
      (pss_one (ps_ret (pe_tup (pa_cons pe_str (pa_cons (cl (h_single T) (hr.mono (by omega)) (pa_cons (pe_ix ix_tup (pv 0) pe_int (fun _ _ => rfl)) (pa_cons (pe_ix ix_tup (pe_ix ix_list (pv 3) pe_int (fun _ _ => rfl)) pe_int (fun _ _ => rfl)) pa_nil))) (pa_cons (pe_ix ix_tup (pe_ix ix_list (pv 3) pe_int (fun _ _ => rfl)) pe_int (fun _ _ => rfl)) pa_nil))))))) pss_nil)
      (pss_one (ps_ret (cl (h_law_two T) (hr.mono (by omega)) (pa_cons (pv 0) (pa_cons (pv 3) pa_nil)))))))))), ?_⟩
  have hp3 := parts_len f
  refine ⟨_, rfl, f, n, hf, ho, fun g qs H1 f1 hg0 hg hqs => ⟨g, rfl, ⟨_, SqL.of hg⟩, fun D hD => ?_⟩⟩
  have hD0 : H D = none := f1.l D hD
  have hgD : g ≠ D := ne_of_none hg hD
  have hqn : qs.length = f.parts.length := by rw [hqs.length, List.length_map]
  refine lc_list (xs := qs) (fun i H' => ∃ acc, H' D = some (.lst acc) ∧ Fr [] H H' ∧ Kp H1 H' ∧ H' g = some (.lst qs) ∧ DaL H' acc ((f.parts.take i).map fun y => LK.d (lookM k y [])) ∧ acc.length ≤ i) ?_ ?_ ?_ ?_
  · exact ⟨[], upd_same, f1.new hD, (Fr.refl (M := []).new hD).t, by rw [upd_ne hgD]; exact hg, .nil, Nat.le_refl _⟩
  · rintro i H' _ ⟨_, _, _, _, h, _⟩
    exact SqL.of h
  · rintro i x H2 hi ⟨acc, a1, a2, a3, a4, a5, a6⟩
    obtain ⟨y, ey, dy⟩ := at_map (DaL.mono a3 _ _ hqs) hi
    have hil : i < qs.length := (List.getElem?_eq_some_iff.mp hi).1
    have tk := take_snoc ey
    have hm := List.mem_of_getElem? ey
    obtain ⟨m, en, hym⟩ := parts_ok ho y hm
    have hyo : y.ok n := by
      rw [en]
      exact Fm.ok_up hym
    have hyc := cost_part y hm
    refine ⟨rfl, _, rfl, _, rfl, _, rfl, k, wd, wl, y, dy, hyo, by omega, rfl, rfl, kn.fr a2 (by simp) (by simp), fun v H3 f3 dv => ?_⟩
    have a13 := f3.k _ _ a1 (by simp)
    have fD : Fr [D] H3 (upd H3 D (.lst (acc ++ [v]))) := Fr.refl.set (by simp) a13 (by intro _ z; cases z)
    refine ⟨acc, a13, small1000 (by omega), acc ++ [v], upd_same, (a2.trans f3).mut hD0, (a3.trans f3.t).trans fD.t, by rw [upd_ne hgD]; exact f3.k _ _ a4 (by simp), ?_, by rw [List.length_append, List.length_singleton]; omega⟩
    rw [tk, List.map_append]
    exact (fD.dal (f3.dal a5)).append (.cons (fD.da dv) .nil)
  · rintro H2 ⟨acc, a1, a2, a3, a4, a5, a6⟩
    rw [hqn, List.take_length] at a5
    have hf2 := a2.da hf
    obtain ⟨fa, xs, rfl, ef, l⟩ := fm_tup hf2
    have kn2 := kn.fr a2 (by simp) (by simp)
    refine ⟨_, rfl, _, _, _, _, rfl, rfl, SqT.of ef, atI_0, by show 4 ≤ sizeLine; decide, fun u hu => ?_⟩
    have f3 := (Fr.refl (M := []) (H := H2)).new (o := .lst [.str "num", .str "text", .str "lost", .str "at"]) hu
    refine ⟨u, _, rfl, .inl (SqL.of upd_same), rfl, flatStr lws, _, rfl, ?_⟩
    have leaf : f.leafL → tRet (tCl S_leafl (tCons (tVar 0) (tCons (tVar 1) (tCons (tVar 2) tNil)))) { nx := fun _ H' => Q .non H', rt := Q } [some (.ref fa), some (.ref wd), some (.ref wl), some (.ref D), none] (upd H2 u (.lst [.str "num", .str "text", .str "lost", .str "at"])) := fun hleaf =>
      ⟨_, rfl, _, rfl, _, rfl, k, wd, wl, f, f3.da hf2, hleaf, rfl, rfl, kn2.fr f3 (by simp) (by simp), fun v H3 g3 dv => q v H3 ((a2.trans f3).trans g3) dv⟩
    have a13 := f3.k _ _ a1 (by simp)
    have a53 := f3.dal a5
    have ef3 := f3.tup ef
    have f03 := a2.trans f3
    cases f with
    | num i => exact ifb ((inStr "num" lws).trans (by decide +kernel)) (leaf trivial)
    | text i => exact ifb ((inStr "text" lws).trans (by decide +kernel)) (leaf trivial)
    | lost => exact ifb ((inStr "lost" lws).trans (by decide +kernel)) (leaf trivial)
    | «at» p ps => exact ifb ((inStr "at" lws).trans (by decide +kernel)) (leaf trivial)
    | gat o a ps => exact absurd rfl (ng o a ps)
    | find b a ps => exact absurd rfl (nf b a ps)
    | ite a b c =>
      refine ifbn ((inStr "if" lws).trans (by decide +kernel)) ⟨_, rfl, _, _, _, _, rfl, rfl, SqT.of ef3, atI_0, rfl, _, rfl, ifd rfl ?_⟩
      have hc : (Fm.ite a b c).cost = a.cost + b.cost + c.cost := rfl
      rw [if_eq] at q
      exact ⟨_, rfl, _, _, _, D, acc, rfl, a13, a53, look_len k (by omega), look_len k (by omega), look_len k (by omega), fun v H3 g3 dv => q v H3 (f03.trans g3) dv⟩
    | els a b =>
      refine ifbn ((inStr "else" lws).trans (by decide +kernel)) ⟨_, rfl, _, _, _, _, rfl, rfl, SqT.of ef3, atI_0, rfl, _, rfl, ifn (ns (by show ¬ ("else" : Str) = "if"; decide +kernel)) ?_⟩
      refine ⟨_, rfl, _, _, _, _, rfl, rfl, SqT.of ef3, atI_0, rfl, _, rfl, ifd rfl ?_⟩
      have hc : (Fm.els a b).cost = a.cost + b.cost := rfl
      rw [else_eq] at q
      exact ⟨_, rfl, _, _, D, acc, rfl, a13, a53, look_len k (by omega), look_len k (by omega), fun v H3 g3 dv => q v H3 (f03.trans g3) dv⟩
    | one o b =>
      cases n with
      | zero => exact ho.elim
      | succ m =>
      have hw : o ∈ sws := ho.1
      have hn : ∀ x ∈ sws, ¬ x ∈ lws ∧ ¬ x = "if" ∧ ¬ x = "else" := by decide +kernel
      obtain ⟨m1, m2, m3⟩ := hn o hw
      refine ifbn ((inStr o lws).trans (decide_eq_false m1)) ⟨_, rfl, _, _, _, _, rfl, rfl, SqT.of ef3, atI_0, rfl, _, rfl, ifn (ns m2) ?_⟩
      refine ⟨_, rfl, _, _, _, _, rfl, rfl, SqT.of ef3, atI_0, rfl, _, rfl, ifn (ns m3) ?_⟩
      refine ⟨_, rfl, _, _, _, _, rfl, rfl, SqT.of ef3, atI_0, by show 2 ≤ sizeLine; decide, fun u2 hu2 => ?_⟩
      have f4 := (Fr.refl (M := []) (H := upd H2 u (.lst [.str "num", .str "text", .str "lost", .str "at"]))).new (o := .lst [.str "minus", .str "not"]) hu2
      refine ⟨u2, _, rfl, .inl (SqL.of upd_same), rfl, flatStr sws, _, rfl, ifb ((inStr o sws).trans (decide_eq_true hw)) ?_⟩
      obtain ⟨xa, rfl, da⟩ := DaL.inv1 a53
      have a14 := f4.k _ _ a13 (by simp)
      have da4 : Da _ _ (LK.d (lookM k b [])) := f4.da da
      obtain ⟨a1', a2', a3', a4', rfl, ea, dpa, eta, dta⟩ := lk_tup da4
      refine ⟨_, rfl, _, _, _, _, rfl, rfl, SqL.of a14, rfl, _, _, _, _, rfl, rfl, SqT.of ea, rfl, rfl, _, rfl, ?_⟩
      rw [tag_w]
      have f04 := f03.trans f4
      rw [one_eq] at q
      generalize lookM k b [] = M at *
      obtain ⟨r, R⟩ := M
      cases r with
      | waits p => exact ⟨_, rfl, _, _, _, _, rfl, rfl, SqL.of a14, rfl, q _ _ f04 da4⟩
      | worth y =>
        refine ⟨_, rfl, _, _, _, _, rfl, rfl, SqT.of (f4.tup ef3), atI_0, _, rfl, _, _, _, _, rfl, rfl, SqL.of a14, rfl, _, _, _, _, rfl, rfl, SqT.of ea, rfl, o, y, rfl, dpa, fun v H5 f5 dv => ?_⟩
        have a15 := f5.k _ _ a14 (by simp)
        refine ⟨_, rfl, _, _, _, _, rfl, rfl, SqL.of a15, rfl, _, _, _, _, rfl, rfl, SqT.of (f5.tup ea), rfl, by show 3 ≤ sizeLine; decide, fun t ht => ?_⟩
        have f6 : Fr [] H5 (upd H5 t (.tup [.str "worth", v, .ref a3'])) := Fr.refl.new ht
        exact q _ _ ((f04.trans f5).trans f6) (.tup upd_same (.cons (.str _) (.cons (f6.da dv) (.cons (f6.da (f5.da (items_da eta dta))) .nil))))
    | two o a b =>
      cases n with
      | zero => exact ho.elim
      | succ m =>
      have hw : o ∈ ows := ho.1
      have hn : ∀ x ∈ ows, ¬ x ∈ lws ∧ ¬ x = "if" ∧ ¬ x = "else" ∧ ¬ x ∈ sws := by decide +kernel
      obtain ⟨m1, m2, m3, m4⟩ := hn o hw
      refine ifbn ((inStr o lws).trans (decide_eq_false m1)) ⟨_, rfl, _, _, _, _, rfl, rfl, SqT.of ef3, atI_0, rfl, _, rfl, ifn (ns m2) ?_⟩
      refine ⟨_, rfl, _, _, _, _, rfl, rfl, SqT.of ef3, atI_0, rfl, _, rfl, ifn (ns m3) ?_⟩
      refine ⟨_, rfl, _, _, _, _, rfl, rfl, SqT.of ef3, atI_0, by show 2 ≤ sizeLine; decide, fun u2 hu2 => ?_⟩
      have f4 := (Fr.refl (M := []) (H := upd H2 u (.lst [.str "num", .str "text", .str "lost", .str "at"]))).new (o := .lst [.str "minus", .str "not"]) hu2
      refine ⟨u2, _, rfl, .inl (SqL.of upd_same), rfl, flatStr sws, _, rfl, ifbn ((inStr o sws).trans (decide_eq_false m4)) ?_⟩
      have hc : (Fm.two o a b).cost = a.cost + b.cost := rfl
      rw [two_eq] at q
      exact ⟨_, rfl, _, rfl, o, a, b, _, _, D, acc, f4.da (f3.da hf2), rfl, f4.k _ _ a13 (by simp), f4.dal a53, lookM_ok k [] ho.2.1, lookM_ok k [] ho.2.2, look_len k (by omega), look_len k (by omega), fun v H3 g3 dv => q v H3 ((f03.trans f4).trans g3) dv⟩
end
end OL
namespace OL
open PySem PySem.Spec PyProof.Rows L2

def cn : Nat → Nat
  | 0 => 1
  | n + 1 => 3 * cn n + 2
theorem cn_pos : ∀ n, 1 ≤ cn n
  | 0 => Nat.le_refl _
  | n + 1 => by
    show 1 ≤ 3 * cn n + 2
    omega
theorem cost_le : ∀ {n : Nat} {f : Fm}, f.ok n → f.cost ≤ cn n := by
  intro n f
  induction f generalizing n with
  | num i => intro h; exact Nat.zero_le _
  | text s => intro h; exact Nat.zero_le _
  | lost => intro h; exact Nat.zero_le _
  | «at» p ps => intro h; exact cn_pos n
  | gat w a ps => intro h; exact cn_pos n
  | one w f ih =>
    intro h
    cases n with
    | zero => exact h.elim
    | succ n =>
      have := ih h.2
      show f.cost ≤ 3 * cn n + 2
      omega
  | find f a ps ih =>
    intro h
    cases n with
    | zero => exact h.elim
    | succ n =>
      have := ih h.1
      show f.cost + 2 ≤ 3 * cn n + 2
      omega
  | ite f g j ihf ihg ihj =>
    intro h
    cases n with
    | zero => exact h.elim
    | succ n =>
      have h1 := ihf h.1
      have h2 := ihg h.2.1
      have h3 := ihj h.2.2
      show f.cost + g.cost + j.cost ≤ 3 * cn n + 2
      omega
  | els f g ihf ihg =>
    intro h
    cases n with
    | zero => exact h.elim
    | succ n =>
      have h1 := ihf h.1
      have h2 := ihg h.2
      show f.cost + g.cost ≤ 3 * cn n + 2
      omega
  | two w f g ihf ihg =>
    intro h
    cases n with
    | zero => exact h.elim
    | succ n =>
      have h1 := ihf h.2.1
      have h2 := ihg h.2.2
      show f.cost + g.cost ≤ 3 * cn n + 2
      omega
theorem items_depth : ∀ l : List Itm, PyData.depthAll (l.map Itm.d) ≤ 60
  | [] => Nat.zero_le _
  | x :: l => by
    have h1 := itm_depth x
    have h2 := items_depth l
    simp only [List.map_cons, PyData.depthAll]
    omega
theorem pay_depth (r : Res) : (payM r).depth ≤ 60 := by
  cases r with
  | waits p => exact pl_depth p
  | worth w => cases w <;> simp [payM, Wo.d, PyData.depth, PyData.depthAll]
theorem lk_depth (L : LK) : (LK.d L).depth ≤ 64 := by
  have h1 := items_depth L.2
  have h2 := pay_depth L.1
  rw [lk_d]
  simp only [PyData.depth, PyData.depthAll]
  omega
def tws : List Str := ["sum", "count", "least", "greatest", "find"]
def pws : List Str := ["+", "-", "*", "/", "rest", "&", "<", "=", "&"]
def spLaw (K : PySem.W.Frag) : Sp := fun vs H Q _ => ∃ (a : Addr) (ns : List Int), vs = [.ref a] ∧ SqL K H a (ns.map V.int) ∧ ns.length ≤ 63 ∧ ∀ H', Q (.bl true) H'
theorem fr_new {M : Addr} {H A B : Hp} (h : H M = none) (x : Fr [] H A) (y : Fr [M] A B) : Fr [] H B :=
  ⟨fun b o e n => y.k b o (x.k b o e n) (by intro z; rw [List.mem_singleton.mp z, h] at e; cases e), x.t.trans y.t, fun b e => x.l b (y.l b e)⟩
section
variable {P : Program} {w : World} {K : PySem.W.Frag} {mg : Str → Option Value} {base : Heap}
theorem sc_law : FnScope ["script", "spot", "worths", "waiting", "formula", "row", "pairs", "op", "turn", "piece", "found", "due"] ["script"] (defScope s_law) := ⟨rfl, rfl, rfl, by decide +kernel, rfl, by decide +kernel, by decide +kernel⟩
theorem ok_law (T : Txt K mg) {f0 : Addr} {fd : FuncData} (F : Fun K "law" "law" s_law f0 fd) : FnOk P w K mg base CX0 50 f0 fd ["script"] (spLaw K) := by
  refine F.ok sc_law (fun vs H Q E h => ?_) (fun cdv A outer s H vs Q E hr h => ?_)
  · obtain ⟨a, ns, rfl, _⟩ := h
    rfl
  obtain ⟨a, ns, rfl, hS, hlen, q⟩ := h
  have hForm : Has P w K mg base "_law_formula" ["row", "spot", "deep"] 7 (S_formula 3) := h_law_formula T 3
  have hPie : Has P w K mg base "_law_pieces" ["formula"] 5 (S_pieces 3) := h_law_pieces T 3 (by decide)
  have hLook : Has P w K mg base "look_at" ["formula", "worths", "waiting"] 15 (S_look_at 3) := (h_look_at (n := 3) T).mono (by decide)
  have hDue : Has P w K mg base "_law_due" ["formula", "worths", "waiting"] 16 (S_due 3) := (h_law_due (n := 3) T).mono (by decide)
  refine ⟨_, (pss_cons (ps_set (i := 1) sc_law.nd rfl (Or.inl rfl) (cl (h_law_spot T) (hr.mono (by omega)) (pa_cons (pv 0) pa_nil)))
      (pss_cons (ps_asg (cl (h_law_known T) (hr.mono (by omega)) (pa_cons (pv 0) (pa_cons (pv 1) pa_nil))) (pg_tup (by rfl) (pgs_cons (pg_name (i := 2) sc_law.nd rfl (Or.inl rfl)) (pgs_cons (pg_name (i := 3) sc_law.nd rfl (Or.inl rfl)) pgs_nil))))
      (pss_cons (ps_set (i := 4) sc_law.nd rfl (Or.inl rfl) (cl hForm (hr.mono (by omega)) (pa_cons (cl (h_law_stream T) (hr.mono (by omega)) (pa_cons (pv 0) (pa_cons pe_int pa_nil))) (pa_cons (pv 1) (pa_cons pe_int pa_nil)))))
      (pss_cons (ps_set (i := 5) sc_law.nd rfl (Or.inl rfl) (cl (h_law_stream T) (hr.mono (by omega)) (pa_cons (pv 0) (pa_cons pe_int pa_nil))))
      (pss_cons (ps_set (i := 6) sc_law.nd rfl (Or.inl rfl) (pe_lst pa_nil))
      (pss_cons (ps_for PassesOwn.never rfl (pi_list (pe_lst (pa_cons pe_str (pa_cons pe_str (pa_cons pe_str (pa_cons pe_str (pa_cons pe_str (pa_cons pe_str (pa_cons pe_str (pa_cons pe_str (pa_cons pe_str pa_nil))))))))))) (pg_name (i := 7) sc_law.nd rfl (Or.inl rfl)) (pss_one (ps_for PassesOwn.never rfl (pi_range1 (by rfl) T.n_range (pa_cons pe_int pa_nil)) (pg_name (i := 8) sc_law.nd rfl (Or.inl rfl)) (pss_cons (ps_expr (pe_bm PySem.F.plainAttrs_list PySem.F.slot_list_append PySem.F.type_list_append mt_append (pv 6) (pa_cons (pe_tup (pa_cons (pv 7) (pa_cons (cl (h_law_leaf T) (hr.mono (by omega)) (pa_cons (pv 5) (pa_cons (pv 1) pa_nil))) (pa_cons (pe_tup (pa_cons pe_str (pa_cons (cl (h_law_place T) (hr.mono (by omega)) (pa_cons (pv 5) (pa_cons (pv 1) pa_nil))) (pa_cons (pe_tup (pa_cons pe_int (pa_cons pe_int pa_nil))) pa_nil)))) pa_nil)))) pa_nil)))
      (pss_one (ps_expr (pe_bm PySem.F.plainAttrs_list PySem.F.slot_list_append PySem.F.type_list_append mt_append (pv 6) (pa_cons (pe_tup (pa_cons (pv 7) (pa_cons (pe_ix ix_tup (pe_ix ix_list (pv 6) (pe_un un_neg pe_int) (fun _ _ => rfl)) pe_int (fun _ _ => rfl)) (pa_cons (pe_ix ix_tup (pe_ix ix_list (pv 6) (pe_un un_neg pe_int) (fun _ _ => rfl)) pe_int (fun _ _ => rfl)) pa_nil)))) pa_nil))))))))
      (pss_cons (ps_for PassesOwn.never rfl (pi_list (pe_op op_cat (cl hPie (hr.mono (by omega)) (pa_cons (pv 4) pa_nil)) (pv 6))) (pg_name (i := 9) sc_law.nd rfl (Or.inl rfl)) (pss_one (ps_if (pt_cmpR op_notIn_seq (pe_ix ix_tup (pv 9) pe_int (fun _ _ => rfl)) (pe_lst (pa_cons pe_str (pa_cons pe_str (pa_cons pe_str (pa_cons pe_str (pa_cons pe_str pa_nil)))))) (by rfl)) (pss_cons (ps_set (i := 10) sc_law.nd rfl (Or.inl rfl) (cl hLook (hr.mono (by omega)) (pa_cons (pv 9) (pa_cons (pv 2) (pa_cons (pv 3) pa_nil)))))
      (pss_cons (ps_set (i := 11) sc_law.nd rfl (Or.inl rfl) (cl hDue (hr.mono (by omega)) (pa_cons (pv 9) (pa_cons (pv 2) (pa_cons (pv 3) pa_nil)))))
      (pss_cons (ps_if (PW.pt (pw_or (pt_not (pt_val (isi (T := "tuple") T.n_isinstance T.n_tuple (pv 10)))) (pw_or (pt_cmpR op_ne (pe_callB call_len_seq (by rfl) T.n_len (by decide +kernel) (pa_cons (pv 10) pa_nil)) pe_int (nomark _)) (pw_or1 (pt_not (pt_val (isi (T := "tuple") T.n_isinstance T.n_tuple (pe_ix ix_tup (pv 10) pe_int (fun _ _ => rfl))))))))) (pss_one (ps_ret pe_bl)) pss_nil)
      (pss_one (ps_if (PW.pt (pw_or (pt_cmpR (op_neP (hr.units)) (pv 10) (pv 11) (nomark _)) (pw_or1 (pt_not (pt_val (cl (h_law_same T) (hr.mono (by omega)) (pa_cons (pe_ix ix_tup (pv 10) pe_int (fun _ _ => rfl)) (pa_cons (pe_ix ix_tup (pv 11) pe_int (fun _ _ => rfl)) pa_nil)))))))) (pss_one (ps_ret pe_bl)) pss_nil))))) pss_nil)))
      (pss_one (ps_ret pe_bl))))))))), ?_⟩
  -- spot; worths, waiting
  refine ⟨_, rfl, a, ns, rfl, hS, fun vs H1 dn ac f1 SP => ?_⟩
  refine ⟨_, rfl, _, rfl, a, ns, dn, ac, rfl, f1.seq hS (by simp), hlen, SP, fun t wd wl k H2 f2 ht kn => ?_⟩
  refine ⟨t, _, rfl, SqT.of ht, rfl, _, _, rfl, _, _, rfl, rfl, ?_⟩
  have f02 := f1.trans f2
  have SP2 := SP.fr f2
  -- formula
  refine ⟨_, rfl, a, ns, 0, rfl, f02.seq hS (by simp), hlen, rfl, by decide, by decide, fun r0 H3 n3 f3 hr3 hv3 => ?_⟩
  have f03 := f02.trans f3
  refine ⟨_, rfl, r0, dn, ac, rfl, ⟨_, hv3⟩, SP2.fr f3, rfl, fun vf ff H4 f4 R4 df hff => ?_⟩
  have hr0' : H2 r0 = none := hr3
  have f24 : Fr [] H2 H4 := fr_new hr0' f3 f4
  have f04 : Fr [] H H4 := f02.trans f24
  have kn4 : Known k H4 wd wl := kn.fr f24 (by simp) (by simp)
  -- row
  refine ⟨_, rfl, a, ns, 1, rfl, f04.seq hS (by simp), hlen, rfl, by decide, by decide, fun r H5 n5 f5 hr5 hv5 => ?_⟩
  have f45 : Fr [] H4 H5 := f5
  have hrH4 : H4 r = none := hr5
  -- pairs
  refine ⟨by show 0 ≤ sizeLine; decide, fun pl hpl => ?_⟩
  have f56 : Fr [] H5 (upd H5 pl (.lst [])) := Fr.refl.new hpl
  have f46 := f45.trans f56
  have hplH4 : H4 pl = none := f45.l pl hpl
  have nrp : r ≠ pl := fun z => by rw [z, hpl] at hv5; cases hv5
  refine ⟨by show 9 ≤ sizeLine; decide, fun ol hol => ?_⟩
  have f47 := f46.new (o := .lst [.str "+", .str "-", .str "*", .str "/", .str "rest", .str "&", .str "<", .str "=", .str "&"]) hol
  have holH4 : H4 ol = none := f46.l ol hol
  have nop : ol ≠ pl := fun z => by rw [z, upd_same] at hol; cases hol
  have nor : ol ≠ r := fun z => by
    rw [z, upd_ne nrp, hv5] at hol
    cases hol
  refine ⟨ol, rfl, ⟨_, SqL.of upd_same⟩, ?_⟩
  refine for_list (K := K) (a := ol) (xs := pws.map V.str) (fun i σ H' => ∃ (ov tv : Option V) (xs : List V) (fs : List Fm),
    σ = [some (.ref a), some vs, some (.ref wd), some (.ref wl), some vf, some (.ref r), some (.ref pl), ov, tv, none, none, none] ∧ Fr [] H4 H' ∧ Row H' r ∧ H' pl = some (.lst xs) ∧ H' ol = some (.lst (pws.map V.str)) ∧
    DaL H' xs (fs.map Fm.d) ∧ (∀ g ∈ fs, g.ok 3) ∧ fs.length ≤ 4 * i) ?_ ?_ ?_ ?_
  · refine ⟨none, none, [], [], rfl, f47, ⟨n5, ?_⟩, ?_, upd_same, .nil, (by intro g hg; cases hg), Nat.le_refl _⟩
    · rw [upd_ne nor.symm, upd_ne nrp]
      exact hv5
    · rw [upd_ne nop.symm, upd_same]
  · rintro i σ H' _ ⟨_, _, _, _, _, _, _, _, h, _⟩
    exact SqL.of h
  · rintro i x σ H6 hi ⟨ov, tv, xs, fs, rfl, g1, R6, hp6, ho6, dx, hok, hfl⟩
    obtain ⟨o, ho, rfl⟩ : ∃ o, o ∈ pws ∧ x = V.str o := by
      obtain ⟨o, ho, e⟩ := List.mem_map.mp (List.mem_of_getElem? hi)
      exact ⟨o, ho, e.symm⟩
    have hi9 : i < 9 := (List.getElem?_eq_some_iff.mp hi).1
    have how : o ∈ ows := by
      have hall : ∀ y ∈ pws, y ∈ ows := by decide +kernel
      exact hall o ho
    refine ⟨_, rfl, by decide, by decide, ?_⟩
    refine for_range (lo := 0) (n := 2) (fun j σ H' => ∃ (tv : Option V) (xs : List V) (fs : List Fm),
      σ = [some (.ref a), some vs, some (.ref wd), some (.ref wl), some vf, some (.ref r), some (.ref pl), some (.str o), tv, none, none, none] ∧ Fr [] H4 H' ∧ Row H' r ∧ H' pl = some (.lst xs) ∧ H' ol = some (.lst (pws.map V.str)) ∧
      DaL H' xs (fs.map Fm.d) ∧ (∀ g ∈ fs, g.ok 3) ∧ fs.length ≤ 4 * i + 2 * j) ?_ ?_ ?_
    · exact ⟨tv, xs, fs, rfl, g1, R6, hp6, ho6, dx, hok, hfl⟩
    · rintro j σ H7 hj ⟨tv, xs, fs, rfl, g1, R7, hp7, ho7, dx, hok, hfl⟩
      have hxl := dx.length
      rw [List.length_map] at hxl
      have SP7 := (SP2.fr f24).fr g1
      refine ⟨_, rfl, .inl ⟨rfl, _, SqL.of hp7⟩, _, rfl, _, rfl, _, rfl, r, dn, ac, rfl, R7, SP7, fun v1 g H8 f8 R8 dg hg => ?_⟩
      refine ⟨_, rfl, _, rfl, r, dn, ac, rfl, R8, SP7.fr f8, fun v2 p H9 f9 R9 dp => ?_⟩
      refine ⟨by show 2 ≤ sizeLine; decide, fun t1 ht1 => ⟨by show 3 ≤ sizeLine; decide, fun t2 ht2 => ⟨by show 3 ≤ sizeLine; decide, fun t3 ht3 => ?_⟩⟩⟩
      have e1 := (Fr.refl (M := []) (H := H9)).new (o := .tup [.int 0, .int 0]) ht1
      have e2 := e1.new (o := .tup [.str "at", v2, .ref t1]) ht2
      have e3 := e2.new (o := .tup [.str o, v1, .ref t2]) ht3
      have f79 : Fr [r] H7 H9 := f8.trans f9
      have plr : pl ∉ [r] := by simpa using nrp.symm
      have olr : ol ∉ [r] := by simpa using nor
      have hp9 := f79.k _ _ hp7 plr
      have ho9 := f79.k _ _ ho7 olr
      have hpA := e3.k _ _ hp9 (by simp)
      have hoA := e3.k _ _ ho9 (by simp)
      have RA := R9.nil e3
      have d2 := e2.tup (H := H9) (a := t1) (xs := [.int 0, .int 0])
      -- the cell, the pair
      have dcell : Da (upd (upd (upd H9 t1 (.tup [.int 0, .int 0])) t2 (.tup [.str "at", v2, .ref t1])) t3 (.tup [.str o, v1, .ref t2])) (.ref t2) (Fm.at p [0, 0]).d := by
        refine .tup (xs := [.str "at", v2, .ref t1]) ?_ (.cons (.str _) (.cons (e3.da dp) (.cons (.tup (xs := [.int 0, .int 0]) ?_ (.cons (.int _) (.cons (.int _) .nil))) .nil)))
        · rw [upd_ne (ne_of_none upd_same ht3), upd_same]
        · have h1 : (upd (upd H9 t1 (.tup [.int 0, .int 0])) t2 (.tup [.str "at", v2, .ref t1])) t1 = some (.tup [.int 0, .int 0]) := by
            rw [upd_ne (ne_of_none upd_same ht2), upd_same]
          rw [upd_ne (ne_of_none h1 ht3), h1]
      have dleaf := e3.da (f9.da dg)
      have dpair : Da (upd (upd (upd H9 t1 (.tup [.int 0, .int 0])) t2 (.tup [.str "at", v2, .ref t1])) t3 (.tup [.str o, v1, .ref t2])) (.ref t3) (Fm.two o g (.at p [0, 0])).d :=
        .tup upd_same (.cons (.str _) (.cons dleaf (.cons dcell .nil)))
      refine ⟨pl, xs, _, rfl, rfl, hpA, small1000 (by omega), ?_⟩
      generalize hHA : upd (upd (upd H9 t1 (.tup [.int 0, .int 0])) t2 (.tup [.str "at", v2, .ref t1])) t3 (.tup [.str o, v1, .ref t2]) = HA at *
      have ht3A : HA t3 = some (.tup [.str o, v1, .ref t2]) := by
        rw [← hHA, upd_same]
      have b1 : Fr [pl] HA (upd HA pl (.lst (xs ++ [.ref t3]))) := Fr.refl.set (by simp) hpA (by intro _ z; cases z)
      have ht3B := b1.tup ht3A
      refine ⟨_, rfl, .inl ⟨rfl, _, SqL.of upd_same⟩, _, rfl, ?_⟩
      refine ⟨_, rfl, _, rfl, _, _, _, _, rfl, rfl, SqL.of upd_same, atI_last _ _, _, _, _, _, rfl, rfl, SqT.of ht3B, rfl, ?_⟩
      refine ⟨_, rfl, _, rfl, _, _, _, _, rfl, rfl, SqL.of upd_same, atI_last _ _, _, _, _, _, rfl, rfl, SqT.of ht3B, rfl, by show 3 ≤ sizeLine; decide, fun t4 ht4 => ?_⟩
      have b2 : Fr [] (upd HA pl (.lst (xs ++ [.ref t3]))) (upd (upd HA pl (.lst (xs ++ [.ref t3]))) t4 (.tup [.str o, .ref t2, v1])) := Fr.refl.new ht4
      have hpC := b2.k _ _ upd_same (by simp)
      refine ⟨pl, xs ++ [.ref t3], _, rfl, rfl, hpC, small1000 (by rw [List.length_append, List.length_singleton]; omega), ?_⟩
      have b12 : Fr [pl] HA (upd (upd HA pl (.lst (xs ++ [.ref t3]))) t4 (.tup [.str o, .ref t2, v1])) := b1.trans b2.nil
      have b13 := b12.set (o := .lst (xs ++ [.ref t3] ++ [.ref t4])) (List.mem_cons_self ..) hpC (by intro _ z; cases z)
      have k79 : Kp H7 HA := f79.t.trans e3.t
      obtain ⟨rn, hrn⟩ := RA
      have rpl : r ∉ [pl] := by simpa using nrp
      have olp : ol ∉ [pl] := by simpa using nop
      have fA : Fr [] H4 HA := (fr_new hrH4 g1 f79).trans e3
      refine ⟨_, _, fs ++ [Fm.two o g (.at p [0, 0])] ++ [Fm.two o (.at p [0, 0]) g], rfl, fr_new hplH4 fA b13, ⟨rn, b13.k _ _ hrn rpl⟩, upd_same, b13.k _ _ hoA olp, ?_, ?_, ?_⟩
      · rw [List.map_append, List.map_append]
        refine ((DaL.mono (k79.trans b13.t) _ _ dx).append (.cons (b13.da dpair) .nil)).append (.cons (.tup (xs := [.str o, .ref t2, v1]) ?_ (.cons (.str _) (.cons (b13.da dcell) (.cons (b13.da dleaf) .nil)))) .nil)
        have n4 : t4 ≠ pl := fun z => by
          rw [z, upd_same] at ht4
          cases ht4
        rw [upd_ne n4, upd_same]
      · intro y hy
        rcases List.mem_append.mp hy with hy | hy
        · rcases List.mem_append.mp hy with hy | hy
          · exact hok y hy
          · rw [List.mem_singleton.mp hy]
            exact ⟨how, Fm.ok_lift hg 2, Fm.ok_lift (f := .at p [0, 0]) (by intro z; cases z) 2⟩
        · rw [List.mem_singleton.mp hy]
          exact ⟨how, Fm.ok_lift (f := .at p [0, 0]) (by intro z; cases z) 2, Fm.ok_lift hg 2⟩
      · rw [List.length_append, List.length_append, List.length_singleton, List.length_singleton]
        omega
    · rintro σ H7 ⟨tv, xs, fs, rfl, g1, R7, hp7, ho7, dx, hok, hfl⟩
      exact ⟨_, tv, xs, fs, rfl, g1, R7, hp7, ho7, dx, hok, by omega⟩
  · rintro σ H6 ⟨ov, tv, xs, fs, rfl, g1, R6, hp6, ho6, dx, hok, hfl⟩
    have hfl2 : fs.length ≤ 36 := hfl
    have hxl := dx.length
    rw [List.length_map] at hxl
    refine ⟨_, rfl, ff, g1.da df, hff, fun p zs gs H7 f7 hp7 hz dz hgs hgl => ?_⟩
    have hzl := dz.length
    rw [List.length_map] at hzl
    have hpc : pc 3 = 40 := by decide
    have hxs7 := f7.k _ _ hp6 (by simp)
    refine ⟨_, rfl, p, pl, zs, xs, rfl, rfl, hz, hxs7, Nat.le_trans (show zs.length + xs.length ≤ 100 by omega) (by decide), fun u hu => ?_⟩
    have f8 : Fr [] H7 (upd H7 u (.lst (zs ++ xs))) := Fr.refl.new hu
    have f48 := (g1.trans f7).trans f8
    have dall : DaL (upd H7 u (.lst (zs ++ xs))) (zs ++ xs) ((gs ++ fs).map Fm.d) := by
      rw [List.map_append]
      exact (f8.dal dz).append (f8.dal (f7.dal dx))
    have oall : ∀ y ∈ gs ++ fs, y.ok 3 := fun y hy => (List.mem_append.mp hy).elim (hgs y) (hok y)
    refine ⟨u, rfl, ⟨_, SqL.of upd_same⟩, ?_⟩
    refine for_list (K := K) (a := u) (xs := zs ++ xs) (fun i σ H' => ∃ (ov tv pv1 fv dv : Option V), σ = [some (.ref a), some vs, some (.ref wd), some (.ref wl), some vf, some (.ref r), some (.ref pl), ov, tv, pv1, fv, dv] ∧ Fr [] (upd H7 u (.lst (zs ++ xs))) H') ?_ ?_ ?_ ?_
    · exact ⟨ov, tv, none, none, none, rfl, Fr.refl⟩
    · rintro i σ H' _ ⟨_, _, _, _, _, _, f⟩
      exact SqL.of (f.k _ _ upd_same (by simp))
    · rintro i x σ H9 hi ⟨ov, tv, pv1, fv, dv, rfl, f9⟩
      obtain ⟨y, ey, dy⟩ := at_map (f9.dal dall) hi
      have yo := oall y (List.mem_of_getElem? ey)
      have yc : y.cost < 100000 := Nat.lt_of_le_of_lt (cost_le yo) (by decide)
      obtain ⟨fa, ys, rfl, ef, ly⟩ := fm_tup dy
      refine ⟨_, rfl, _, _, _, _, rfl, rfl, SqT.of ef, atI_0, by show 5 ≤ sizeLine; decide, fun e he => ?_⟩
      have f10 : Fr [] H9 (upd H9 e (.lst [.str "sum", .str "count", .str "least", .str "greatest", .str "find"])) := Fr.refl.new he
      refine ⟨e, _, rfl, .inl (SqL.of upd_same), rfl, flatStr tws, _, rfl, ?_⟩
      have ev : inV (.str y.word) (tws.map V.str) = decide (y.word ∈ tws) := inStr _ _
      by_cases hw : y.word ∈ tws
      · refine ifbn (b := !inV (.str y.word) (tws.map V.str)) (by rw [ev, decide_eq_true hw]; rfl) ?_
        exact ⟨_, _, _, _, _, rfl, f9.trans f10⟩
      · refine ifb (b := !inV (.str y.word) (tws.map V.str)) (by rw [ev, decide_eq_false hw]; rfl) ?_
        have f4A := (f48.trans f9).trans f10
        have knA : Known k _ wd wl := kn4.fr f4A (by simp) (by simp)
        have dyA := f10.da dy
        refine ⟨_, rfl, _, rfl, _, rfl, k, wd, wl, y, dyA, yo, yc, rfl, rfl, knA, fun v1 HB fB dB => ?_⟩
        have ng : ∀ w' a' ps', y ≠ .gat w' a' ps' := fun w' a' ps' z => by
          subst z
          have h1 : w' ∈ gws := (ok_gat yo).1
          have hall : ∀ s ∈ gws, s ∈ tws := by decide +kernel
          exact hw (hall w' h1)
        have nf : ∀ g' a' ps', y ≠ .find g' a' ps' := fun g' a' ps' z => by
          subst z
          exact hw (by show ("find" : Str) ∈ tws; decide +kernel)
        refine ⟨_, rfl, _, rfl, _, rfl, k, wd, wl, y, fB.da dyA, yo, yc, ng, nf, rfl, rfl, knA.fr fB (by simp) (by simp), fun v2 HC fC dC => ?_⟩
        have dB2 := fC.da dB
        obtain ⟨a1, a2, a3, a4, rfl, ea, dpa, eta, dta⟩ := lk_tup dB2
        obtain ⟨b1, b2, b3, b4, rfl, eb, dpb, etb, dtb⟩ := lk_tup dC
        refine ⟨_, rfl, _, isi_tup (b := true) ea, _, rfl, _, rfl, a1, _, rfl, .inr (SqT.of ea), rfl, _, rfl, _, rfl, _, _, _, _, rfl, rfl, SqT.of ea, rfl, _, isi_tup (b := true) eta, _, rfl, ?_⟩
        have plB := Da.plain _ _ dB2
        have dep := lk_depth (lookM k y [])
        refine ⟨_, rfl, _, rfl, _, _, Da.dp _ _ dB2, Da.dp _ _ dC, plB, plB, by omega, _, rfl, ?_⟩
        rw [SeqAt.eqv_refl_plain _ plB]
        refine ⟨_, rfl, _, _, _, _, rfl, rfl, SqT.of ea, rfl, _, rfl, _, _, _, _, rfl, rfl, SqT.of eb, rfl, payM (lookM k y []).1, dpa, dpb, Nat.le_trans (pay_depth _) (by decide), _, rfl, ?_⟩
        exact ⟨_, _, _, _, _, rfl, ((f9.trans f10).trans fB).trans fC⟩
    · rintro σ H9 ⟨ov, tv, pv1, fv, dv, rfl, f9⟩
      exact q H9
end
end OL
set_option maxHeartbeats 0
open PySem PySem.W PySem.Calls PyProof.Rows in
theorem PySem.Challenge.cw_onelook_k18_whole_looks_by_parts_holds : PySem.Challenge.rw_onelook_k18_whole_looks_by_parts.Holds := by
  w_on; o_law
  refine HandSHeadRun.head_any (r := OpenLaw.row PySem.Challenge.rw_onelook_k18_whole_looks_by_parts) (q := view (OpenLaw.row PySem.Challenge.rw_onelook_k18_whole_looks_by_parts).prog [69]) (H := OL.hk) (ob := OL.ob) (M := 8000) (loose := OL.loose) (d := HandSHeadRun.topDef (OpenLaw.row PySem.Challenge.rw_onelook_k18_whole_looks_by_parts).prog 69) (kwd := []) OL.ob_eq
    (by kernel_rfl) (fun s => by kernel_rfl) OL.run (by kernel_rfl) (by kernel_rfl) (by kernel_rfl) (by rfl) (by first | assumption | decide +kernel) (by decide +kernel) ⟨rfl, rfl, rfl, rfl, rfl, by decide +kernel⟩ ?hw ?hc
  case hw => w_witness2
  case hc =>
    refine L2.walk_ofE (l := PySem.Challenge.rw_onelook_k18_whole_looks_by_parts) (n := 63) (k := 50) (x := "script") (CX := L2.CX0) rfl (by decide) (by kernel_rfl) ⟨rfl, by decide, by decide⟩ ?F (fun _ _ _ _ z => z)
    intro w mg fa h Y G hmg0
    obtain ⟨K, KX, c⟩ := Y
    have hmg : mg ("law" : PySem.Str) = some (.ref fa) := by
      have e : (HandSHeadRun.topDef (OpenLaw.row PySem.Challenge.rw_onelook_k18_whole_looks_by_parts).prog 69).name = ("law" : PySem.Str) := by kernel_rfl
      rw [← e]
      exact hmg0
    have T : OL.Txt K mg := OL.txt_of KX G c
    obtain ⟨fd, F⟩ := T.f_law
    have e := hmg.symm.trans T.g_law
    cases e
    exact ⟨K, fd, OL.spLaw K, KX, fun s v => by
        obtain ⟨fd2, F2⟩ := (c.t.d).def_ (OL.fn.length - 1) (d := OL.dlaw) (by rfl)
        obtain ⟨oc, od, kV, doc, pm, an, cdv, ct, osl, rfl, lk, hcd⟩ := F.ex
        exact .of_eq rfl, fun H a ns hl _ hS => ⟨a, ns, rfl, hS, hl, fun _ => rfl⟩, fun base _ _ => OL.ok_law T F⟩
